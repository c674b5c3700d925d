/- Laws that the claimed theorem leans on: no condition of their own beyond their hypotheses. -/
import Derived.Lib.Walk
import Derived.Lib.Strings
import Derived.Laws.RangeString
import Derived.Laws.RangeAny
import Derived.Laws.AppendOwnNone
import Derived.Laws.EntriesVeiled
import Derived.Test.YtcmndpjemdjalaaGreatDoorMaan
import Derived.Test.YtcmndpjemdjalaaGreatDoorMaao
set_option maxRecDepth 100000
set_option maxHeartbeats 16000000
namespace Go.Proofs.YtcmndpjemdjalaaGreatDoor
open Go.RowKit
open Pb
theorem digit_at {s:ByteArray} (hd:DigitsL s.data.toList) {n:Nat} (h:n<s.size):48≤(s[n].toNat:Int)∧(s[n].toNat:Int)≤57:=by
 have:=hd s[n] (by rw [ByteArray.getElem_eq_getElem_data];simp)
 omega
theorem not_empty {s:ByteArray} (h:0<s.size):s.toList.isEmpty=false:=by
 rw [ByteArray.toList_eq,List.isEmpty_eq_false_iff]
 intro h2
 rw [Go.Lib.size_eq,h2] at h
 simp at h
theorem round_val {V vL F q D rs rs' k dr dr' dc:Nat} (hv:V=vL * F+q) (hF:F=10 ^ k) (hq:q=dc) (hsp:dr=dc * 10 ^ rs'+dr') (hrs:rs'=rs - k) (hk:k≤rs) (hD:vL * 10 ^ rs+dr=D):V * 10 ^ rs'+dr'=D:=by
 have h1:10 ^ rs=10 ^ k * 10 ^ rs':=by rw [← Nat.pow_add];congr 1;omega
 rw [h1] at hD
 subst hv hF hq hsp
 rw [← hD]
 generalize 10 ^ rs'=A
 generalize 10 ^ k=B
 rw [Nat.add_mul,Nat.mul_assoc]
 omega
theorem und_str:Tryz.prog.underlying 9=some .string:=by kernel_rfl
theorem natParse_any (w:World) (s:ByteArray) (hd:DigitsL s.data.toList) (h0:0<s.size) (hl:s.size≤65536) :
  Calls Tryz.prog 79 #[.string s] w fun e w'=>∃ v l,e=.returned (.tuple #[.agg #[v],.int .i64 0,.int .i64 0])∧U32 w' w.heap.size v l∧Is l (decL s.data.toList)∧Fr [] w w':=by
 have hrow:=row_new w (.cells #[.slice none 0 0] 79)
 have fA:=(Fr.refl [] w).alloc (.cells #[.slice none 0 0] 79)
 have hbig:¬ (65536:Int)<(s.size:Int):=by omega
 go_enter Tryz.func79,Tryz.ntmps79
 go_wp2
 generalize hW:w.alloc (.cells #[.slice none 0 0] 79)=W at hrow fA ⊢
 have hWs:W.heap.size=w.heap.size+1:=by rw [← hW];simp
 clear hW
 go_loop [19] (fun i=>∃ n:Nat,i=.int .i64 n∧n≤s.size) (fun i=>s.size - (intOf i).toNat)
 case atStart=>exact⟨0,rfl,Nat.zero_le _⟩
 case round =>
  obtain⟨n,rfl,hn⟩:=hrel
  by_cases hlt:n<s.size
  ·obtain⟨hb1,hb2⟩:=digit_at hd hlt
   go_wp2
   go_round
   case rel=>exact⟨n+1,rfl,hlt⟩
   case measure=>simp [intOf];omega
  ·have hE:s.toList.isEmpty=false:=not_empty h0
   go_wp2
   go_loopw [0,6] (fun sv v wr=>∃ (r:ByteArray) (L:List Nat),sv=.string r∧r.size≤65536∧DigitsL r.data.toList∧OwnS wr (w.heap.size+1) v L∧L.length+r.size≤65536∧Hid (val L * 10 ^ r.size+decL r.data.toList=decL s.data.toList)∧Fr [] W wr) (fun sv _ _=>match sv with | .string r=>r.size | _=>0)
   case atStart=>exact⟨s,[],rfl,hl,hd,OwnS.nil _ _,by simpa using hl,Go.Lib.hid (by simp [val]),Fr.refl _ _⟩
   case round =>
    obtain⟨r,L,rfl,hrs,hdr,hown,hLr,hv,hfr⟩:=hrel
    by_cases hz:r.size=0
    ·have hsz0:¬ (0:Int)<(r.size:Int):=by omega
     have hval:val L=decL s.data.toList:=by
      have h2:=hv.out
      have h3:r.data.toList=[]:=by rw [← List.length_eq_zero_iff,← Go.Lib.size_eq];exact hz
      rw [hz,h3] at h2
      simpa [decL] using h2
     have Hval:=Go.Lib.hid hval;clear hval hv hd hdr
     have hrow2:=hfr.row hrow (by simp)
     go_wp2_with fail
     refine (trimmed_any _ _ _ L hown.u32 (by omega)).mono ?_
     rintro e w2 ⟨v2,l2,rfl,hu2,hi2,hl2,f2⟩
     obtain⟨ao2,cap2,rfl,hcap2,-⟩:=hu2.shape
     have hrow3:=f2.row hrow2 (by simp)
     have y0:w2.cell? ⟨w.heap.size,0,none⟩=some (.slice none 0 0):=by rw [cell_of_row _ _ _ _ _ _ hrow3];rfl
     have z0:=frozen_of_row w2 w.heap.size 0 _ _ hrow3
     have r1:=heap_setCell_same w2 w.heap.size 0 _ _ (.slice ao2 l2.length cap2) hrow3
     have y1:(w2.setCell ⟨w.heap.size,0,none⟩ (.slice ao2 l2.length cap2)).cell? ⟨w.heap.size,0,none⟩=some (.slice ao2 l2.length cap2):=by rw [cell_of_row _ _ _ _ _ _ r1];rfl
     have fs:Fr [w.heap.size] w2 (w2.setCell ⟨w.heap.size,0,none⟩ (.slice ao2 l2.length cap2)):=(Fr.refl [w.heap.size] w2).setCell (.inl (by simp)) _
     have hu3:=hu2.fr fs (NoWord.of_type hrow3 (by decide))
     have hend:=((fA.then hfr).then f2).after fs (by simp)
     go_wp2
     (try simp only [Exit.inBlock,Exit.then])
     refine bodyPost_ret (v:=.tuple #[.agg #[.slice ao2 l2.length cap2],.int .i64 0,.int .i64 0]) (by simp [results,Tryz.results79,go_sem,y1]) rfl ?_
     exact⟨_,l2,rfl,hu3.mono (by omega),by rw [← Hval.out];exact hi2,hend⟩
    ·obtain⟨k,hk⟩:∃ k:Nat,min (9:Int) (r.size:Int)=k:=⟨min 9 r.size,by omega⟩
     have hk9:k≤9:=by omega
     have hk0:0<k:=by omega
     have hkr:k≤r.size:=by omega
     have hpos:(0:Int)<(r.size:Int):=by omega
     obtain⟨c,hc⟩:∃ c,c=r.extract 0 k:=⟨_,rfl⟩
     obtain⟨r',hr'⟩:∃ r',r'=r.extract k r.size:=⟨_,rfl⟩
     have hcL:c.data.toList=r.data.toList.take k:=by rw [hc,Go.Lib.extract_data,List.drop_zero,Nat.sub_zero]
     have hrL:r'.data.toList=r.data.toList.drop k:=by rw [hr',Go.Lib.extract_data,List.take_of_length_le (by simp [])]
     have hcs:c.size=k:=by rw [Go.Lib.size_eq,hcL,List.length_take,← Go.Lib.size_eq];omega
     have hrs':r'.size=r.size - k:=by rw [Go.Lib.size_eq,hrL,List.length_drop,← Go.Lib.size_eq]
     have hdc:DigitsL c.data.toList:=fun b hb=>hdr b (by rw [hcL] at hb;exact List.mem_of_mem_take hb)
     have hdr':DigitsL r'.data.toList:=fun b hb=>hdr b (by rw [hrL] at hb;exact List.mem_of_mem_drop hb)
     have hspl:decL r.data.toList=decL c.data.toList * 10 ^ r'.size+decL r'.data.toList:=by
      rw [Go.Lib.size_eq r',← decL_append,hcL,hrL,List.take_append_drop]
     have hsl1:∀ W,(Instr.slice 9 (.string r) none (some (.int .i64 k)) none).run Tryz.prog W=.ok (.string c) W:=fun W=>by
      rw [run_slice_string_h W 9 r und_str .i64 k (by omega) (by omega),hc];rfl
     have hsl2:∀ W,(Instr.slice 9 (.string r) (some (.int .i64 k)) none none).run Tryz.prog W=.ok (.string r') W:=fun W=>by
      rw [run_slice_string_l W 9 r und_str .i64 k (by omega) (by omega),hr'];rfl
     have hcv:=Go.Lib.run_convert_string_bytes (P:=Tryz.prog) wr 9 40 5 c (u:=.string) und_str (by kernel_rfl) (by kernel_rfl)
     have hB:∀ j,j<c.size→(Go.Lib.bytesWorld wr 5 c).cell? ⟨wr.heap.size,j,none⟩=some (.int .u8 (c.data.toList.getD j 0).toNat):=fun j hj=>Go.Lib.bytesWorld_cell wr 5 c j hj
     have fB:=fr_bytes wr 5 c
     obtain⟨W1,hW1⟩:∃ W1,W1=Go.Lib.bytesWorld wr 5 c:=⟨_,rfl⟩
     rw [← hW1] at hcv hB fB
     have hown1:=hown.kept0 fB
     have HB:=Go.Lib.hid hB
     have Hspl:=Go.Lib.hid hspl
     clear hW1 hB hc hr' hcL hrL hspl hd hdr hz hown
     go_wp2
     go_loop [8,9,53] (fun a f i=>∃ (i' q F:Nat),i=.int .i64 i'∧a=.int .u64 q∧f=.int .u64 F∧i'≤k∧Hid (q=decL (c.data.toList.take i'))∧Hid (F=10 ^ i')) (fun _ _ i=>k - (intOf i).toNat)
     case atStart=>exact⟨0,0,1,rfl,rfl,rfl,Nat.zero_le _,Go.Lib.hid rfl,Go.Lib.hid rfl⟩
     case round =>
      obtain⟨i',q,F,rfl,rfl,rfl,hik,hq,hF⟩:=hrel
      by_cases hlti:i'<k
      ·have hx:=HB.out i' (by omega)
       have hil:i'<c.data.toList.length:=by rw [← Go.Lib.size_eq];omega
       have hxd:=hdc (c.data.toList.getD i' 0) (by rw [List.getD,List.getElem?_eq_getElem hil];simp)
       have hstep:decL (c.data.toList.take (i'+1))=10 * decL (c.data.toList.take i')+((c.data.toList.getD i' 0).toNat - 48):=by
        rw [List.take_add_one,← decL_snoc,List.getD,List.getElem?_eq_getElem hil];rfl
       have hq1:q≤99999999:=by
        have h1:=decL_lt (c.data.toList.take i') (fun b hb=>hdc b (List.mem_of_mem_take hb))
        rw [← hq.out] at h1
        have h2:(10:Nat) ^ (c.data.toList.take i').length≤10 ^ 8:=Nat.pow_le_pow_right (by omega) (by rw [List.length_take];omega)
        omega
       have hF1:F≤100000000:=by
        rw [hF.out]
        have h2:(10:Nat) ^ i'≤10 ^ 8:=Nat.pow_le_pow_right (by omega) (by omega)
        omega
       generalize (c.data.toList.getD i' 0).toNat=x at hx hxd hstep
       obtain⟨hx1,hx2⟩:=hxd
       have Hstep:=Go.Lib.hid hstep
       clear hstep hil
       go_wp2
       go_round
       case rel=>exact⟨i'+1,10 * q+(x - 48),F * 10,rfl,by go_num,by go_num,hlti,Go.Lib.hid (by rw [Hstep.out,← hq.out]),Go.Lib.hid (by rw [hF.out,Nat.pow_succ])⟩
       case measure=>simp [intOf];omega
      ·obtain rfl:i'=k:=by omega
       have hqc:q=decL c.data.toList:=by
        have h1:=hq.out
        rwa [List.take_of_length_le (by rw [← Go.Lib.size_eq];omega)] at h1
       have hqF:q<F:=by
        rw [hF.out,hqc]
        have h1:=decL_lt c.data.toList hdc
        rwa [← Go.Lib.size_eq,hcs] at h1
       have hF9:F≤1000000000:=by
        rw [hF.out]
        have h2:(10:Nat) ^ i'≤10 ^ 9:=Nat.pow_le_pow_right (by omega) (by omega)
        omega
       have Hqc:=Go.Lib.hid hqc
       clear hq hqc
       obtain⟨ao,cap,rfl,hcapL,-⟩:=hown1.u32.shape
       have hdL:=hown1.1
       have hfr1:=hfr.then fB
       have hLb:L.length≤65536:=by omega
       have HF:=Go.Lib.hid hF.out
       have Hcs:=Go.Lib.hid hcs
       have Hrs:=Go.Lib.hid hrs'
       clear hF hlti hcs hrs' hsl1 hsl2 hcv
       go_wp2
       go_loopw [8,68] (fun a i wr2=>∃ (j q':Nat) (M:List Nat),i=.int .i64 j∧a=.int .u64 q'∧j≤L.length∧Hid (M.length=L.length)∧OwnS wr2 (w.heap.size+1) (.slice ao L.length cap) M∧q'<F∧Hid (val (M.take j)+q' * 4294967296 ^ j=val (L.take j) * F+q)∧Hid (∀ p,j≤p→dg M p=dg L p)∧Fr [] W wr2) (fun _ i _=>L.length - (intOf i).toNat)
       case atStart=>exact⟨0,q,L,rfl,rfl,Nat.zero_le _,Go.Lib.hid rfl,hown1,hqF,Go.Lib.hid (by simp [val]),Go.Lib.hid (fun _ _=>rfl),hfr1⟩
       case round =>
        obtain⟨j,q',M,rfl,rfl,hj,hML,hownM,hq'F,hvM,hzM,hfrM⟩:=hrel
        clear hown1 hfr hfr1 fB
        by_cases hjl:j<L.length
        ·rcases hownM.shape with ⟨-,h2⟩ | ⟨g,cap',cur,hv2,hgb,hgh,hcapM,-,-,hcur⟩
         ·have:=hML.out;rw [h2] at this;simp at this;omega
         ·simp at hv2
          obtain⟨rfl,-,rfl⟩:=hv2
          have hcell:wr.cell? ⟨g,j,none⟩=some (.int .u32 (dg M j:Nat)):=by rw [cell_of_row _ _ _ _ _ _ hgh];exact hcur j (by rw [hML.out];exact hjl)
          have hfz:=frozen_of_row wr g j _ _ hgh
          have hdM:=dg_lt hownM.1 j
          have hset:=hownM.set j ((q'+dg M j * F) % 4294967296) (by rw [hML.out];exact hjl) (by omega)
          have hmul:(dg M j:Int) * (F:Int)≤4294967295000000000:=by
           have h1:dg M j * F≤4294967295 * 1000000000:=Nat.mul_le_mul (by omega) hF9
           have h2:((dg M j * F:Nat):Int)≤4294967295000000000:=by omega
           rwa [Int.natCast_mul] at h2
          have hmul0:(0:Int)≤(dg M j:Int) * (F:Int):=Int.mul_nonneg (by omega) (by omega)
          have hw1:IntKind.u64.wrap ((dg M j:Int) * (F:Int))=(dg M j:Int) * (F:Int):=IntWalk.u64_in _ (by omega)
          have hdz:=hzM.out j (Nat.le_refl _)
          have hstep:=muladd_step M L j q' F q hjl (by rw [hML.out];exact hjl) hvM.out (q'+dg M j * F) (by rw [hdz])
          have hcar:=carry_lt hq'F hdM
          have Hst:=Go.Lib.hid hstep
          have Hcar:=Go.Lib.hid hcar
          have HzM:=hzM
          clear hstep hcar hdz hcur hgh hownM hzM hvM
          have hcast:(((q'+dg M j * F) % 4294967296:Nat):Int)=((q':Int)+(dg M j:Int) * (F:Int)) % 4294967296:=by
           rw [← Int.natCast_mul,← Int.natCast_add];rfl
          have hcast2:(((q'+dg M j * F) / 4294967296:Nat):Int)=((q':Int)+(dg M j:Int) * (F:Int)) / 4294967296:=by
           rw [← Int.natCast_mul,← Int.natCast_add];rfl
          rw [hcast] at hset
          have Hcast2:=Go.Lib.hid hcast2
          clear hcast hcast2
          have hfs:Fr [] W (wr.setCell ⟨g,j,none⟩ (.int .u32 (((q':Int)+(dg M j:Int) * (F:Int)) % 4294967296))):=hfrM.after (T:=[g]) ((Fr.refl [g] wr).setCell (.inl (by simp)) _) (by simp;omega)
          have Hset:=Go.Lib.hid hset
          have Hfs:=Go.Lib.hid hfs
          clear hset hfs
          go_wp2
          go_roundw
          case rel=>exact⟨j+1,(q'+dg M j * F) / 4294967296,M.set j ((q'+dg M j * F) % 4294967296),rfl,by rw [Hcast2.out],hjl,Go.Lib.hid (by rw [List.length_set];exact hML.out),Hset.out,Hcar.out,Hst,Go.Lib.hid (fun p hp=>by rw [dg_set_ne _ _ _ _ (by omega)];exact HzM.out p (by omega)),Hfs.out⟩
          case measure=>simp [intOf];omega
        ·obtain rfl:j=L.length:=by omega
         have hML':=hML.out
         have hvM':=hvM.out
         rw [← hML',List.take_of_length_le (Nat.le_refl _),hML',List.take_of_length_le (Nat.le_refl _)] at hvM'
         by_cases hq0:q'=0
         ·have hval:val M=val L * F+q:=by rw [hq0] at hvM';simpa using hvM'
          have hrv:=round_val hval HF.out Hqc.out Hspl.out Hrs.out hkr hv.out
          have Hrv:=Go.Lib.hid hrv
          have HM':=Go.Lib.hid hML'
          subst hq0
          clear hrv hval hvM' hML' hML hvM hzM
          go_wp2
          go_roundw
          case rel=>exact⟨r',M,rfl,by have:=Hrs.out;omega,hdr',hownM,by have:=Hrs.out;have:=HM'.out;omega,Hrv,hfrM⟩
          case measure=>have:=Hrs.out;simp;omega
         ·have hq9:q'<4294967296:=by omega
          have hq1:(0:Int)<(q':Int):=by omega
          have hval:val (M++[q'])=val L * F+q:=by
           rw [val_append]
           rw [hML']
           have h1:val [q']=q':=by simp [val]
           rw [h1,Nat.mul_comm (4294967296 ^ L.length)]
           exact hvM'
          have hrv:=round_val hval HF.out Hqc.out Hspl.out Hrs.out hkr hv.out
          have Hrv:=Go.Lib.hid hrv
          have HM':=Go.Lib.hid hML'
          have fnew:=(Fr.refl [] wr).alloc (.cells #[.int .u32 (q':Int)] 208)
          have hownA:=hownM.kept0 fnew
          have hcA:=cell_new wr #[.int .u32 (q':Int)] 208 (0,0) 0 _ rfl
          have hszA:w.heap.size+1≤wr.heap.size:=by have:=hfrM.size;omega
          clear hrv hval hvM' hML' hML hvM hzM
          go_wp2_with (at_builtin;refine append_u32 _ rfl _ _ rfl (w.heap.size+1) _ M rfl hownA wr.heap.size 1 q' rfl hq9 hcA (by have:=HM'.out;omega) (by simp;omega) ?_;intro v' w' hown' hfr')
          have hfin:Fr [] W w':=by
           rcases ao with _ | a
           ·exact (hfrM.then fnew).then (hfr' [] (fun g hg=>by have h:(none:Option Nat)=some g:=hg;cases h))
           ·have hab:w.heap.size+1≤a.block:=by
             rcases hownM.shape with ⟨h2,_⟩ | ⟨g,cap',cur,h2,hgb,_⟩
             ·simp at h2
             ·simp at h2;rw [h2.1];exact hgb
            exact (hfrM.then fnew).after (hfr' [a.block] (fun g hg=>by have h:some a.block=some g:=hg;cases h;simp)) (by simp;omega)
          refine⟨⟨r',M++[q'],rfl,by have:=Hrs.out;omega,hdr',hown',by have:=Hrs.out;have:=HM'.out;simp;omega,Hrv,hfin⟩,?_⟩
          have:=Hrs.out
          simp;omega
end Go.Proofs.YtcmndpjemdjalaaGreatDoor
namespace Go.Proofs.YtcmndpjemdjalaaGreatDoor
open Go.RowKit
open Pb
theorem u32_row (w:World) (b:Nat) (l:List Nat) (hd:Digs l) (h:w.heap[b]?=some (.cells (u32s l) 208 (0,0))):U32 w b (.slice (some ⟨b,0,none⟩) l.length l.length) l :=
 ⟨hd,.inr ⟨b,0,l.length,_,_,rfl,Nat.le_refl _,Nat.le_refl _,h,fun i hi=>by rw [Nat.zero_add];simp [u32s,hi,dg,List.getD]⟩⟩
theorem natOf_one (w:World):Calls Tryz.prog 78 #[.int .u64 1] w fun e w'=>∃ v,e=.returned (.agg #[v])∧U32 w' w.heap.size v [1]∧Fr [] w w':=by
 have hrow:=row_new w (.cells #[.slice none 0 0] 79)
 have fA:=(Fr.refl [] w).alloc (.cells #[.slice none 0 0] 79)
 go_enter Tryz.func78,Tryz.ntmps78
 go_wp2_with fail
 generalize hW:w.alloc (.cells #[.slice none 0 0] 79)=W at *
 have hWs:W.heap.size=w.heap.size+1:=by rw [← hW];simp
 clear hW
 have hrow1:=row_new W (.cells #[.int .u32 1,.int .u32 0] 208)
 have fB:=(Fr.refl [] W).alloc (.cells #[.int .u32 1,.int .u32 0] 208)
 have hrow2:=fB.row hrow (by simp)
 rw [hWs] at hrow1
 have hu:=u32_row _ (w.heap.size+1) [1,0] (by intro d hd;simp at hd;omega) hrow1
 refine (trimmed_any _ _ _ [1,0] hu (by simp)).mono ?_
 rintro e w2 ⟨v2,l2,rfl,hu2,hi2,hl2,f2⟩
 obtain rfl:l2=[1]:=hi2.eq ⟨by intro d hd;simp at hd;omega,Norm.of_last (.inr (by simp)),by simp [val]⟩
 obtain⟨ao2,cap2,rfl,hcap2,-⟩:=hu2.shape
 have hrow3:=f2.row hrow2 (by simp)
 have y0:w2.cell? ⟨w.heap.size,0,none⟩=some (.slice none 0 0):=by rw [cell_of_row _ _ _ _ _ _ hrow3];rfl
 have z0:=frozen_of_row w2 w.heap.size 0 _ _ hrow3
 have r1:=heap_setCell_same w2 w.heap.size 0 _ _ (.slice ao2 1 cap2) hrow3
 have y1:(w2.setCell ⟨w.heap.size,0,none⟩ (.slice ao2 1 cap2)).cell? ⟨w.heap.size,0,none⟩=some (.slice ao2 1 cap2):=by rw [cell_of_row _ _ _ _ _ _ r1];rfl
 have fs:Fr [w.heap.size] w2 (w2.setCell ⟨w.heap.size,0,none⟩ (.slice ao2 1 cap2)):=(Fr.refl [w.heap.size] w2).setCell (.inl (by simp)) _
 have hu3:=hu2.fr fs (NoWord.of_type hrow3 (by decide))
 have hend:=((fA.then fB).then f2).after fs (by simp)
 go_wp2
 (try simp only [Exit.inBlock,Exit.then])
 refine bodyPost_ret (v:=.agg #[.slice ao2 1 cap2]) (by simp [results,Tryz.results78,go_sem,y1]) rfl ?_
 exact⟨_,rfl,hu3.mono (by omega),hend⟩
end Go.Proofs.YtcmndpjemdjalaaGreatDoor
namespace Go.Proofs.YtcmndpjemdjalaaGreatDoor
open Go.RowKit
open Pb
theorem decFar_any (w:World) (e:Int) (h1:-1073741824≤e) (h2:e≤1073741824) :
  Calls Tryz.prog 118 #[.int .i64 e] w fun x w'=>x=.returned (.bool false)∧Fr [] w w':=by
 have h3:¬ e < -1073741824:=by omega
 have h4:¬ 1073741824<e:=by omega
 go_enter Tryz.func118,Tryz.ntmps118
 go_wp2
 go_ret
 exact⟨rfl,Fr.refl [] w⟩
theorem decDigits_ok (w:World) (s:ByteArray) (hd:DigitsL s.data.toList) (hl:s.size≤65536) :
  Calls Tryz.prog 117 #[.string s] w fun x w'=>x=.returned (.bool true)∧Fr [] w w':=by
 go_enter Tryz.func117,Tryz.ntmps117
 go_wp2
 go_loop [6] (fun i=>∃ n:Nat,i=.int .i64 n∧n≤s.size) (fun i=>s.size - (intOf i).toNat)
 case atStart=>exact⟨0,rfl,Nat.zero_le _⟩
 case round =>
  obtain⟨n,rfl,hn⟩:=hrel
  by_cases hlt:n<s.size
  ·obtain⟨hb1,hb2⟩:=digit_at hd hlt
   go_wp2
   go_round
   case rel=>exact⟨n+1,rfl,hlt⟩
   case measure=>simp [intOf];omega
  ·go_wp2
   go_ret
   exact⟨rfl,Fr.refl [] w⟩
end Go.Proofs.YtcmndpjemdjalaaGreatDoor
namespace Go.Proofs.YtcmndpjemdjalaaGreatDoor
open Go.RowKit
open Pb
def decV (neg:Bool) (s:ByteArray) (e:Int):Value:=.agg #[.bool neg,.string s,.int .i64 e]
theorem decCheck_zero (w:World) (neg:Bool) (s:ByteArray) (h0:s.size=0):Calls Tryz.prog 76 #[decV neg s 0] w fun x w'=>x=.returned (.int .i64 0)∧Fr [] w w':=by
 have fA:=(Fr.refl [] w).alloc (.cells #[.bool neg,.string s,.int .i64 0] 76)
 unfold decV
 have hz:(s.size:Int)=0:=by omega
 go_enter Tryz.func76,Tryz.ntmps76
 go_wp2
 go_ret
 exact⟨rfl,fA⟩
theorem decCheck_some (w:World) (neg:Bool) (s:ByteArray) (e:Int) (h0:0<s.size) (hl:s.size≤65536) (hd:DigitsL s.data.toList) (hf:s[0].toNat ≠ 48) (hla:(s[s.size - 1]'(by omega)).toNat ≠ 48) (h1:-1073741824≤e) (h2:e≤1073741824) :
  Calls Tryz.prog 76 #[decV neg s e] w fun x w'=>x=.returned (.int .i64 0)∧Fr [] w w':=by
 have fA:=(Fr.refl [] w).alloc (.cells #[.bool neg,.string s,.int .i64 e] 76)
 have c0:=cell_new w #[.bool neg,.string s,.int .i64 e] 76 (0,0) 0 (.bool neg) rfl
 have c1:=cell_new w #[.bool neg,.string s,.int .i64 e] 76 (0,0) 1 (.string s) rfl
 have c2:=cell_new w #[.bool neg,.string s,.int .i64 e] 76 (0,0) 2 (.int .i64 e) rfl
 unfold decV
 have hz:¬ (s.size:Int)=0:=by omega
 have hne:¬ s=ByteArray.empty:=by rintro rfl;simp at h0
 have hz2:((s.size:Int)==0)=false:=by rw [beq_eq_false_iff_ne];omega
 have hb:¬ (65536:Int)<(s.size:Int):=by omega
 have hf1:((s[0].toNat:Int)==48)=false:=by rw [beq_eq_false_iff_ne];omega
 have hf2:(((s[s.size - 1]'(by omega)).toNat:Int)==48)=false:=by rw [beq_eq_false_iff_ne];omega
 go_enter Tryz.func76,Tryz.ntmps76
 generalize hW:w.alloc (.cells #[.bool neg,.string s,.int .i64 e] 76)=W at fA c0 c1 c2
 go_wp2_with fail
 refine (decDigits_ok _ s hd hl).mono ?_
 rintro e1 w1 ⟨rfl,f1⟩
 have c0:=f1.stay c0 (by simp)
 have c1:=f1.stay c1 (by simp)
 have c2:=f1.stay c2 (by simp)
 go_wp2_with fail
 refine (decFar_any _ e h1 h2).mono ?_
 rintro e2 w2 ⟨rfl,f2⟩
 go_wp2
 go_ret
 exact⟨rfl,(fA.then f1).then f2⟩
end Go.Proofs.YtcmndpjemdjalaaGreatDoor
namespace Go.Proofs.YtcmndpjemdjalaaGreatDoor
open Go.RowKit
open Pb
theorem readDecimal_zero (w:World) (E F e:Int) (neg:Bool) (mode:Nat) (hF:FormOk E F) (he:-1073741824≤e∧e≤1073741824) (hm:mode<5) (hT:TabAt 7 Lib.deBruijn32tab w) :
  Calls Tryz.prog 47 #[formV E F,decV neg ByteArray.empty e,.int .u8 mode] w fun x w' =>
   x=.returned (.tuple #[.int .u64 (scaledV 0 e E F false neg mode).1,.int .u8 (scaledV 0 e E F false neg mode).2,.int .i64 0])∧Fr [] w w':=by
 unfold formV decV
 go_enter Tryz.func47,Tryz.ntmps47
 generalize hW:(w.alloc (.cells #[.int .i64 E,.int .i64 F] 39)).alloc (.cells #[.bool neg,.string ByteArray.empty,.int .i64 e] 76)=W
 have fW:Fr [] w W:=by rw [← hW];exact ((Fr.refl [] w).alloc _).alloc _
 go_wp2_with fail
 have c0:W.cell? ⟨w.heap.size,0,none⟩=some (.int .i64 E):=by rw [← hW];exact ((Fr.refl [] _).alloc _).stay (cell_new w _ _ _ 0 _ rfl) (by simp)
 have c1:W.cell? ⟨w.heap.size,1,none⟩=some (.int .i64 F):=by rw [← hW];exact ((Fr.refl [] _).alloc _).stay (cell_new w _ _ _ 1 _ rfl) (by simp)
 have d0:W.cell? ⟨w.heap.size+1,0,none⟩=some (.bool neg):=by rw [← hW];have:=cell_new (w.alloc (.cells #[.int .i64 E,.int .i64 F] 39)) #[.bool neg,.string ByteArray.empty,.int .i64 e] 76 (0,0) 0 _ rfl;rwa [World.size_alloc] at this
 have d1:W.cell? ⟨w.heap.size+1,1,none⟩=some (.string ByteArray.empty):=by rw [← hW];have:=cell_new (w.alloc (.cells #[.int .i64 E,.int .i64 F] 39)) #[.bool neg,.string ByteArray.empty,.int .i64 e] 76 (0,0) 1 _ rfl;rwa [World.size_alloc] at this
 have d2:W.cell? ⟨w.heap.size+1,2,none⟩=some (.int .i64 e):=by rw [← hW];have:=cell_new (w.alloc (.cells #[.int .i64 E,.int .i64 F] 39)) #[.bool neg,.string ByteArray.empty,.int .i64 e] 76 (0,0) 2 _ rfl;rwa [World.size_alloc] at this
 clear hW
 refine (natOf_one W).mono ?_
 rintro x w1 ⟨u,rfl,hu,f1⟩
 have c0:=f1.stay c0 (by simp)
 have c1:=f1.stay c1 (by simp)
 have d0:=f1.stay d0 (by simp)
 have d1:=f1.stay d1 (by simp)
 have d2:=f1.stay d2 (by simp)
 have hsz:=World.block_lt_of_cell? _ _ d0
 obtain⟨b1,o1,cap1,rfl,hcap1,-⟩:=hu.one_shape
 have fB:=(Fr.refl [] w1).alloc (.cells #[.bool false,.slice none 0 0,.slice (some ⟨b1,o1,none⟩) 1 cap1] 176)
 have c0:=fB.stay c0 (by simp)
 have c1:=fB.stay c1 (by simp)
 have d0:=fB.stay d0 (by simp)
 have d1:=fB.stay d1 (by simp)
 have d2:=fB.stay d2 (by simp)
 have hu2:=(hu.fr0 fB).mono (Nat.zero_le _)
 have g2:=(fW.then f1).then fB
 go_wp2_with fail
 refine (scaled_any _ E F false (.slice none 0 0) _ [] 0 1 e neg mode hF (U32.nil _ _) Is.nil hu2 (by simp) (by omega) (by omega) (by simp) (by omega) (by omega) hm (fun j hj=>g2.stay (hT j hj) (by simp))).mono ?_
 rintro x w3 ⟨rfl,f3⟩
 go_wp2
 go_ret3
 exact⟨rfl,g2.then f3⟩
end Go.Proofs.YtcmndpjemdjalaaGreatDoor
namespace Go.Proofs.YtcmndpjemdjalaaGreatDoor
open Go.RowKit
open Pb
theorem readDecimal_some (w:World) (E F e:Int) (neg:Bool) (mode:Nat) (s:ByteArray) (h0:0<s.size) (hl:s.size≤65536) (hd:DigitsL s.data.toList) (hpos:neg=true→0<decL s.data.toList) (hF:FormOk E F) (he:-1073741824≤e∧e≤1073741824) (hm:mode<5) (hT:TabAt 7 Lib.deBruijn32tab w) :
  Calls Tryz.prog 47 #[formV E F,decV neg s e,.int .u8 mode] w fun x w' =>
   x=.returned (.tuple #[.int .u64 (scaledV (decL s.data.toList) e E F neg neg mode).1,.int .u8 (scaledV (decL s.data.toList) e E F neg neg mode).2,.int .i64 0])∧Fr [] w w':=by
 have hne:¬ s=ByteArray.empty:=by rintro rfl;simp at h0
 have hE:s.toList.isEmpty=false:=not_empty h0
 unfold formV decV
 go_enter Tryz.func47,Tryz.ntmps47
 generalize hW:(w.alloc (.cells #[.int .i64 E,.int .i64 F] 39)).alloc (.cells #[.bool neg,.string s,.int .i64 e] 76)=W
 have fW:Fr [] w W:=by rw [← hW];exact ((Fr.refl [] w).alloc _).alloc _
 go_wp2_with fail
 have c0:W.cell? ⟨w.heap.size,0,none⟩=some (.int .i64 E):=by rw [← hW];exact ((Fr.refl [] _).alloc _).stay (cell_new w _ _ _ 0 _ rfl) (by simp)
 have c1:W.cell? ⟨w.heap.size,1,none⟩=some (.int .i64 F):=by rw [← hW];exact ((Fr.refl [] _).alloc _).stay (cell_new w _ _ _ 1 _ rfl) (by simp)
 have d0:W.cell? ⟨w.heap.size+1,0,none⟩=some (.bool neg):=by rw [← hW];have:=cell_new (w.alloc (.cells #[.int .i64 E,.int .i64 F] 39)) #[.bool neg,.string s,.int .i64 e] 76 (0,0) 0 _ rfl;rwa [World.size_alloc] at this
 have d1:W.cell? ⟨w.heap.size+1,1,none⟩=some (.string s):=by rw [← hW];have:=cell_new (w.alloc (.cells #[.int .i64 E,.int .i64 F] 39)) #[.bool neg,.string s,.int .i64 e] 76 (0,0) 1 _ rfl;rwa [World.size_alloc] at this
 have d2:W.cell? ⟨w.heap.size+1,2,none⟩=some (.int .i64 e):=by rw [← hW];have:=cell_new (w.alloc (.cells #[.int .i64 E,.int .i64 F] 39)) #[.bool neg,.string s,.int .i64 e] 76 (0,0) 2 _ rfl;rwa [World.size_alloc] at this
 clear hW
 refine (natOf_one W).mono ?_
 rintro x w1 ⟨u,rfl,hu,f1⟩
 have c0:=f1.stay c0 (by simp)
 have c1:=f1.stay c1 (by simp)
 have d0:=f1.stay d0 (by simp)
 have d1:=f1.stay d1 (by simp)
 have d2:=f1.stay d2 (by simp)
 have hsz:=World.block_lt_of_cell? _ _ d0
 obtain⟨b1,o1,cap1,rfl,hcap1,-⟩:=hu.one_shape
 have fB:=(Fr.refl [] w1).alloc (.cells #[.bool false,.slice none 0 0,.slice (some ⟨b1,o1,none⟩) 1 cap1] 176)
 have c0:=fB.stay c0 (by simp)
 have c1:=fB.stay c1 (by simp)
 have d0:=fB.stay d0 (by simp)
 have d1:=fB.stay d1 (by simp)
 have d2:=fB.stay d2 (by simp)
 have hu2:=(hu.fr0 fB).mono (Nat.zero_le _)
 have g2:=(fW.then f1).then fB
 go_wp2_with fail
 refine (natParse_any _ s hd h0 hl).mono ?_
 rintro x w2 ⟨v,l,rfl,hv,hi,f2⟩
 obtain⟨ao,cap,rfl,hcap,-⟩:=hv.shape
 have hrB:=f2.row (row_new w1 (.cells #[.bool false,.slice none 0 0,.slice (some ⟨b1,o1,none⟩) 1 cap1] 176)) (by simp)
 have fC:=(Fr.refl [] w2).alloc (.cells #[.slice ao l.length cap] 79)
 have c0:=fC.stay (f2.stay c0 (by simp)) (by simp)
 have c1:=fC.stay (f2.stay c1 (by simp)) (by simp)
 have d0:=fC.stay (f2.stay d0 (by simp)) (by simp)
 have d1:=fC.stay (f2.stay d1 (by simp)) (by simp)
 have d2:=fC.stay (f2.stay d2 (by simp)) (by simp)
 have hrC:=fC.row hrB (by simp)
 have n0:=cell_new w2 #[.slice ao l.length cap] 79 (0,0) 0 _ rfl
 have hv2:=hv.fr0 fC
 have hu3:=(hu2.fr0 f2).fr0 fC
 have g3:=(g2.then f2).then fC
 have hszB:w1.heap.size<w2.heap.size:=by have:=f2.size;simp at this;omega
 go_wp2_with fail
 generalize hWC:w2.alloc (.cells #[.slice ao l.length cap] 79)=WC at *
 have q0:WC.cell? ⟨w1.heap.size,0,none⟩=some (.bool false):=by rw [cell_of_row _ _ _ _ _ _ hrC];rfl
 have q1:WC.cell? ⟨w1.heap.size,1,none⟩=some (.slice none 0 0):=by rw [cell_of_row _ _ _ _ _ _ hrC];rfl
 have z0:=frozen_of_row WC w1.heap.size 0 _ _ hrC
 have z1:=frozen_of_row WC w1.heap.size 1 _ _ hrC
 have q2:WC.cell? ⟨w1.heap.size,2,none⟩=some (.slice (some ⟨b1,o1,none⟩) 1 cap1):=by rw [cell_of_row _ _ _ _ _ _ hrC];rfl
 have r1:=heap_setCell_same WC w1.heap.size 0 _ _ (.bool neg) hrC
 have r2:=heap_setCell_same _ w1.heap.size 1 _ _ (.slice ao l.length cap) r1
 have fs:Fr [w1.heap.size] WC ((WC.setCell ⟨w1.heap.size,0,none⟩ (.bool neg)).setCell ⟨w1.heap.size,1,none⟩ (.slice ao l.length cap)):=((Fr.refl [w1.heap.size] WC).setCell (.inl (by simp)) _).setCell (.inl (by simp)) _
 have hnw:NoWord [w1.heap.size] WC:=NoWord.of_type hrC (by decide)
 have hv4:=hv2.fr fs hnw
 have hu4:=hu3.fr fs hnw
 have k0:=fs.stay c0 (by simp;omega)
 have k1:=fs.stay c1 (by simp;omega)
 have e0:=fs.stay d0 (by simp;omega)
 have e2:=fs.stay d2 (by simp;omega)
 have g4:=g3.after fs (by simp;have:=f1.size;have:=fW.size;omega)
 go_region
 generalize hWD:(WC.setCell ⟨w1.heap.size,0,none⟩ (.bool neg)).setCell ⟨w1.heap.size,1,none⟩ (.slice ao l.length cap)=WD at *
 have m0:WD.cell? ⟨w1.heap.size,0,none⟩=some (.bool neg):=by rw [cell_of_row _ _ _ _ _ _ r2];rfl
 have m1:WD.cell? ⟨w1.heap.size,1,none⟩=some (.slice ao l.length cap):=by rw [cell_of_row _ _ _ _ _ _ r2];rfl
 have m2:WD.cell? ⟨w1.heap.size,2,none⟩=some (.slice (some ⟨b1,o1,none⟩) 1 cap1):=by rw [cell_of_row _ _ _ _ _ _ r2];rfl
 have hbits:decL s.data.toList<2 ^ (4 * s.size):=by
  have h1:=decL_lt s.data.toList hd
  rw [← Go.Lib.size_eq] at h1
  have h2:(10:Nat) ^ s.size≤16 ^ s.size:=Nat.pow_le_pow_left (by omega) _
  rw [Nat.pow_mul,show (2:Nat) ^ 4=16 from rfl]
  exact Nat.lt_of_lt_of_le h1 h2
 have Hbits:=Go.Lib.hid hbits
 clear hbits hWD q0 q1 q2 z0 z1
 go_wp2_with fail
 have g5:=g4.drew
 refine (scaled_any WD.drew E F neg _ _ l (decL s.data.toList) (4 * s.size) e neg mode hF ((hv4.mono (Nat.zero_le _)).fr0 (Fr.refl [] _).drew) hi ((hu4.mono (Nat.zero_le _)).fr0 (Fr.refl [] _).drew) hpos (by omega) (by omega) Hbits.out (by omega) (by omega) hm (fun j hj=>g5.stay (hT j hj) (by simp))).mono ?_
 rintro x w5 ⟨rfl,f5⟩
 go_wp2
 go_ret3
 exact⟨rfl,g5.then f5⟩
end Go.Proofs.YtcmndpjemdjalaaGreatDoor
namespace Go.Proofs.YtcmndpjemdjalaaGreatDoor
open Go.RowKit
theorem Fr.iter {S:List Nat} {a w:World} (h:Fr S a w) (s:ByteArray) (p:Nat):Fr S a (w.iter s p):=h.alloc _
def zerosB:ByteArray:=⟨#[0x30,0xd9,0xa0,0xdb,0xb0,0xdf,0x80,0xe0,0xa5,0xa6,0xe0,0xa7,0xa6,0xe0,0xa9,0xa6,0xe0,0xb9,0x90,0xe1,0x9f,0xa0,0xef,0xbc,0x90,0xf0,0x90,0x92,0xa0,0xf0,0x9d,0x9f,0x8e]⟩
def zeroAt (k:Nat):Nat:=[0,1,3,5,7,10,13,16,19,22,25,29,33].getD k 33
theorem zero_next:∀ k,k<12→zeroAt k<zerosB.size∧zeroAt (k+1)=zeroAt k+(Utf8.decode zerosB (zeroAt k)).2∧(if k=0 then (Utf8.decode zerosB (zeroAt k)).1=48 else 1000<(Utf8.decode zerosB (zeroAt k)).1∧(Utf8.decode zerosB (zeroAt k)).1<1000000):=by decide
theorem lexDigit_yes (w:World) (c:Nat) (h1:48≤c) (h2:c≤57) :
  Calls Tryz.prog 151 #[.int .i32 c] w fun x w'=>x=.returned (.tuple #[.int .i64 (c - 48:Nat),.bool true])∧Fr [] w w':=by
 obtain⟨z1,-,z2⟩:=zero_next 0 (by omega)
 have hnx:∀ ty,(Instr.next (.pointer (some ⟨w.heap.size,0,none⟩)) true ty).run Tryz.prog (w.iter zerosB 0)=_:=fun ty=>run_next_any w zerosB 0 ty z1
 rw [show zeroAt 0=0 from rfl] at z2
 simp at z2
 rw [z2] at hnx
 go_enter Tryz.func151,Tryz.ntmps151
 go_wp2
 go_loopw [3] (fun z wr=>wr=w.iter zerosB 0) (fun _ _=>0)
 case atStart=>rfl
 case round =>
  subst hrel
  go_wp2
  go_ret2
  exact⟨by rw [Int.ofNat_sub h1];rfl,(Fr.refl [] w).iter _ _⟩
theorem lexDigit_no (w:World) (c:Nat) (h1:c<128) (h2:c<48∨57<c) :
  Calls Tryz.prog 151 #[.int .i32 c] w fun x w'=>x=.returned (.tuple #[.int .i64 0,.bool false])∧Fr [] w w':=by
 go_enter Tryz.func151,Tryz.ntmps151
 go_wp2
 go_loopw [3] (fun z wr=>∃ k,k≤12∧wr=w.iter zerosB (zeroAt k)) (fun _ wr=>zerosB.size - wr.iterPos w.heap.size)
 case atStart=>exact⟨0,by omega,rfl⟩
 case round =>
  obtain⟨k,hk,rfl⟩:=hrel
  by_cases hk2:k<12
  ·obtain⟨z1,z3,z2⟩:=zero_next k hk2
   have hnx:∀ ty,(Instr.next (.pointer (some ⟨w.heap.size,0,none⟩)) true ty).run Tryz.prog (w.iter zerosB (zeroAt k))=_:=fun ty=>run_next_any w zerosB (zeroAt k) ty z1
   rw [← z3] at hnx
   have hp:zeroAt k<zeroAt (k+1):=by clear hnx z1 z2 z3;revert k;decide
   generalize (Utf8.decode zerosB (zeroAt k)).1=z at *
   have hz:z=48∨1000<z∧z<1000000:=by by_cases h0:k=0 <;> simp [h0] at z2 <;> simp [z2]
   clear z2 z3
   have hn:¬ ((z:Int)≤c∧(c:Int)≤z+9):=by omega
   by_cases h0:(z:Int)≤c
   ·have h3:¬ (c:Int)≤z+9:=fun h=>hn ⟨h0,h⟩
    go_wp2
    go_roundw
    case rel=>exact⟨k+1,by omega,rfl⟩
    case measure=>simp;omega
   ·go_wp2
    go_roundw
    case rel=>exact⟨k+1,by omega,rfl⟩
    case measure=>simp;omega
  ·obtain rfl:k=12:=by omega
   have hnx:∀ ty,(Instr.next (.pointer (some ⟨w.heap.size,0,none⟩)) true ty).run Tryz.prog (w.iter zerosB (zeroAt 12))=_:=fun ty=>run_next_end w zerosB (zeroAt 12) ty (by decide)
   go_wp2
   go_ret2
   exact⟨rfl,(Fr.refl [] w).iter _ _⟩
def tenW (c:Nat):Nat × Nat:=if 48≤c∧c≤57 then (c - 48,1) else (0,0)
theorem lexTen_at (w:World) (s:ByteArray) (h0:0<s.size) (ha:s[0].toNat<128) :
  Calls Tryz.prog 111 #[.string s] w fun x w'=>x=.returned (.tuple #[.int .i64 (tenW s[0].toNat).1,.int .i64 (tenW s[0].toNat).2])∧Fr [] w w':=by
 have hnx:=fun ty=>run_next_ascii (P:=Tryz.prog) w s 0 ty h0 ha
 go_enter Tryz.func111,Tryz.ntmps111
 go_wp2_with fail
 go_loopw [3] (fun z wr=>wr=w.iter s 0) (fun _ _=>0)
 case atStart=>rfl
 case round =>
  subst hrel
  have hrl:Lib.runeLen (s[0].toNat:Int)=1:=by unfold Lib.runeLen;rw [if_neg (by omega),if_pos (by omega)]
  by_cases hc:48≤s[0].toNat∧s[0].toNat≤57
  ·have ht:tenW s[0].toNat=(s[0].toNat - 48,1):=by unfold tenW;rw [if_pos hc]
   go_wp2_with (first | (go_at_call 151;refine (lexDigit_yes _ _ hc.1 hc.2).mono ?_;rintro e w1 ⟨rfl,f1⟩) | (go_at_call 152;refine (Tryz.utf8_RuneLen _ _).mono ?_;rw [hrl];rintro e w1' ⟨rfl,rfl⟩))
   go_ret2
   exact⟨by rw [ht];rfl,((Fr.refl [] w).iter _ _).then f1⟩
  ·have ht:tenW s[0].toNat=(0,0):=by unfold tenW;rw [if_neg hc]
   go_wp2_with (go_at_call 151;refine (lexDigit_no _ _ ha (by omega)).mono ?_;rintro e w1 ⟨rfl,f1⟩)
   go_ret2
   exact⟨by rw [ht];rfl,((Fr.refl [] w).iter _ _).then f1⟩
theorem lexTen_end (w:World) (s:ByteArray) (h0:s.size=0) :
  Calls Tryz.prog 111 #[.string s] w fun x w'=>x=.returned (.tuple #[.int .i64 0,.int .i64 0])∧Fr [] w w':=by
 have hnx:∀ ty,(Instr.next (.pointer (some ⟨w.heap.size,0,none⟩)) true ty).run Tryz.prog (w.iter s 0)=_:=fun ty=>run_next_end w s 0 ty (by omega)
 go_enter Tryz.func111,Tryz.ntmps111
 go_wp2_with fail
 go_loopw [3] (fun z wr=>wr=w.iter s 0) (fun _ _=>0)
 case atStart=>rfl
 case round =>
  subst hrel
  go_wp2
  go_ret2
  exact⟨rfl,((Fr.refl [] w).iter _ _)⟩
def sixW (c:Nat):Nat × Nat:=if 48≤c∧c≤57 then (c - 48,1) else if 97≤c∧c≤102 then (c - 87,1) else if 65≤c∧c≤70 then (c - 55,1) else (0,0)
def sixB:ByteArray:=⟨#[48,49,50,51,52,53,54,55,56,57,97,98,99,100,101,102,65,66,67,68,69,70]⟩
theorem six_index:∀ c,c<256→Lib.indexByte sixB.data.toList c.toUInt8=if 65≤c∧c≤70 then ((c - 49:Nat):Int) else if (sixW c).2=1 then ((sixW c).1:Int) else -1:=by decide +kernel
theorem notEmpty {s:ByteArray} (h:0<s.size):s.toList.isEmpty=false:=by
 rw [ByteArray.toList_eq,List.isEmpty_eq_false_iff]
 intro h2
 rw [Go.Lib.size_eq,h2] at h
 simp at h
theorem lexSixteen_at (w:World) (s:ByteArray) (h0:0<s.size) :
  Calls Tryz.prog 155 #[.string s] w fun x w'=>x=.returned (.tuple #[.int .i64 (sixW s[0].toNat).1,.int .i64 (sixW s[0].toNat).2])∧Fr [] w w':=by
 have hE:s.toList.isEmpty=false:=notEmpty h0
 have hne:¬ s=ByteArray.empty:=by rintro rfl;simp at h0
 have hc:s[0].toNat<256:=s[0].toNat_lt
 have hI:=six_index s[0].toNat hc
 have hS:=fun W=>Tryz.strings_IndexByte sixB s[0].toNat W
 simp only [Int.toNat_natCast] at hS
 rw [hI] at hS
 clear hI
 generalize hz:sixW s[0].toNat=z at hS ⊢
 have hz2:(65≤s[0].toNat∧s[0].toNat≤70∧z=(s[0].toNat - 55,1))∨(¬ (65≤s[0].toNat∧s[0].toNat≤70))∧((z.2=1∧z.1<16)∨z=(0,0)):=by
  rw [← hz];unfold sixW
  by_cases g1:48≤s[0].toNat∧s[0].toNat≤57
  ·rw [if_pos g1];exact .inr ⟨by omega,.inl ⟨rfl,by show s[0].toNat - 48<16;omega⟩⟩
  ·rw [if_neg g1]
   by_cases g2:97≤s[0].toNat∧s[0].toNat≤102
   ·rw [if_pos g2];exact .inr ⟨by omega,.inl ⟨rfl,by show s[0].toNat - 87<16;omega⟩⟩
   ·rw [if_neg g2]
    by_cases g3:65≤s[0].toNat∧s[0].toNat≤70
    ·rw [if_pos g3];exact .inl ⟨g3.1,g3.2,rfl⟩
    ·rw [if_neg g3];exact .inr ⟨g3,.inr rfl⟩
 obtain⟨z1,z2⟩:=z
 clear hz
 rcases hz2 with ⟨h1,h2,h3⟩ | ⟨h1,⟨rfl,h3⟩ | h3⟩
 ·cases h3
  rw [if_pos ⟨h1,h2⟩] at hS
  unfold sixB at hS
  have h4:(16:Int)≤((s[0].toNat - 49:Nat):Int):=by omega
  go_enter Tryz.func155,Tryz.ntmps155
  go_wp2_with (go_at_call 103;refine (hS _).mono ?_;rintro e w1 ⟨rfl,rfl⟩)
  go_ret2
  exact⟨by congr 1;simp;omega,Fr.refl [] _⟩
 ·have h4:¬ (16:Int)≤(z1:Int):=by omega
  have h5:(0:Int)≤(z1:Int):=by omega
  rw [if_neg h1,if_pos rfl] at hS
  unfold sixB at hS
  go_enter Tryz.func155,Tryz.ntmps155
  go_wp2_with (go_at_call 103;refine (hS _).mono ?_;rintro e w1 ⟨rfl,rfl⟩)
  go_ret2
  exact⟨rfl,Fr.refl [] _⟩
 ·cases h3
  rw [if_neg h1,if_neg (by simp)] at hS
  unfold sixB at hS
  go_enter Tryz.func155,Tryz.ntmps155
  go_wp2_with (go_at_call 103;refine (hS _).mono ?_;rintro e w1 ⟨rfl,rfl⟩)
  go_ret2
  exact⟨rfl,Fr.refl [] _⟩
theorem lexSixteen_end (w:World) (s:ByteArray) (h0:s.size=0) :
  Calls Tryz.prog 155 #[.string s] w fun x w'=>x=.returned (.tuple #[.int .i64 0,.int .i64 0])∧Fr [] w w':=by
 have hE:s.toList.isEmpty=true:=by rw [ByteArray.toList_eq,List.isEmpty_iff,← List.length_eq_zero_iff,← Go.Lib.size_eq];exact h0
 go_enter Tryz.func155,Tryz.ntmps155
 go_wp2
 go_ret2
 exact⟨rfl,Fr.refl [] w⟩
end Go.Proofs.YtcmndpjemdjalaaGreatDoor
namespace Go.Proofs.YtcmndpjemdjalaaGreatDoor
open Go.RowKit
def ScanAt (w:World) (b:Nat) (r:ByteArray):Prop:=∃ a:Int,w.heap[b]?=some (.cells #[.string r,.int .i64 a,.int .i64 0] 169 (0,0))
theorem ScanAt.fr {w w':World} {b:Nat} {r:ByteArray} {S:List Nat} (h:ScanAt w b r) (hf:Fr S w w') (hS:b ∉ S):ScanAt w' b r:=by
 obtain⟨a,h⟩:=h
 exact⟨a,hf.row h hS⟩
theorem ScanAt.lt {w:World} {b:Nat} {r:ByteArray} (h:ScanAt w b r):b<w.heap.size:=by
 obtain⟨a,h⟩:=h
 exact (Array.getElem?_eq_some_iff.1 h).1
theorem und_strS:Tryz.prog.underlying 9=some .string:=by kernel_rfl
def tailB (r:ByteArray) (n:Nat):ByteArray:=r.extract n r.size
theorem tailB_size (r:ByteArray) (n:Nat):(tailB r n).size=r.size - n:=by simp [tailB]
theorem tailB_data (r:ByteArray) (n:Nat):(tailB r n).data.toList=r.data.toList.drop n:=by
 rw [tailB,Go.Lib.extract_data,List.take_of_length_le (by simp [])]
theorem scanSkip (w:World) (b:Nat) (r:ByteArray) (n:Nat) (h:ScanAt w b r) (hn:n≤r.size) :
  Calls Tryz.prog 153 #[.pointer (some ⟨b,0,none⟩),.int .i64 n] w fun x w'=>x=.returned (.tuple #[])∧ScanAt w' b (tailB r n)∧Fr [b] w w':=by
 obtain⟨a,h⟩:=h
 have c0:w.cell? ⟨b,0,none⟩=some (.string r):=by rw [cell_of_row _ _ _ _ _ _ h];rfl
 have c1:w.cell? ⟨b,1,none⟩=some (.int .i64 a):=by rw [cell_of_row _ _ _ _ _ _ h];rfl
 have z0:=frozen_of_row w b 0 _ _ h
 have z1:=frozen_of_row w b 1 _ _ h
 have hsl:∀ W,(Instr.slice 9 (.string r) (some (.int .i64 n)) none none).run Tryz.prog W=.ok (.string (tailB r n)) W:=fun W=>by
  rw [run_slice_string_l W 9 r und_strS .i64 n (by omega) (by omega)];rfl
 go_enter Tryz.func153,Tryz.ntmps153
 go_wp2
 go_region
 go_end0
 have r1:=heap_setCell_same w b 0 _ _ (.string (tailB r n)) h
 have r2:=heap_setCell_same _ b 1 _ _ (.int .i64 (wrap64 (a+n))) r1
 exact⟨rfl,⟨wrap64 (a+n),r2⟩,(((Fr.refl [b] w).setCell (.inl (by simp)) _).setCell (.inl (by simp)) _).drew⟩
end Go.Proofs.YtcmndpjemdjalaaGreatDoor
namespace Go.Proofs.YtcmndpjemdjalaaGreatDoor
open Go.RowKit
theorem scanHas_no (w:World) (b:Nat) (r t:ByteArray) (h:ScanAt w b r) (hp:Lib.hasPrefix r.data.toList t.data.toList=false) :
  Calls Tryz.prog 150 #[.pointer (some ⟨b,0,none⟩),.string t] w fun x w'=>x=.returned (.bool false)∧Fr [] w w':=by
 obtain⟨a,h⟩:=h
 have c0:w.cell? ⟨b,0,none⟩=some (.string r):=by rw [cell_of_row _ _ _ _ _ _ h];rfl
 have c2:w.cell? ⟨b,2,none⟩=some (.int .i64 0):=by rw [cell_of_row _ _ _ _ _ _ h];rfl
 have hS:=fun W=>Tryz.strings_HasPrefix r t W
 rw [hp] at hS
 go_enter Tryz.func150,Tryz.ntmps150
 go_wp2_with (go_at_call 39;refine (hS _).mono ?_;rintro e w1 ⟨rfl,rfl⟩)
 go_ret
 exact⟨rfl,Fr.refl [] _⟩
theorem prefix_le {r t:ByteArray} (hp:Lib.hasPrefix r.data.toList t.data.toList=true):t.size≤r.size:=by
 rw [Go.Lib.size_eq,Go.Lib.size_eq]
 exact (List.isPrefixOf_iff_prefix.1 hp).length_le
theorem scanHas_yes (w:World) (b:Nat) (r t:ByteArray) (h:ScanAt w b r) (hp:Lib.hasPrefix r.data.toList t.data.toList=true) :
  Calls Tryz.prog 150 #[.pointer (some ⟨b,0,none⟩),.string t] w fun x w'=>x=.returned (.bool true)∧ScanAt w' b (tailB r t.size)∧Fr [b] w w':=by
 have hh:=h
 obtain⟨a,h⟩:=h
 have c0:w.cell? ⟨b,0,none⟩=some (.string r):=by rw [cell_of_row _ _ _ _ _ _ h];rfl
 have c2:w.cell? ⟨b,2,none⟩=some (.int .i64 0):=by rw [cell_of_row _ _ _ _ _ _ h];rfl
 have hS:=fun W=>Tryz.strings_HasPrefix r t W
 have hle:=prefix_le hp
 rw [hp] at hS
 go_enter Tryz.func150,Tryz.ntmps150
 go_wp2_with (first | (go_at_call 39;refine (hS _).mono ?_;rintro e w1 ⟨rfl,rfl⟩) | (go_at_call 153;refine (scanSkip _ b r t.size hh hle).mono ?_;rintro e w2 ⟨rfl,h2,f2⟩))
 go_ret
 exact⟨rfl,h2,f2⟩
end Go.Proofs.YtcmndpjemdjalaaGreatDoor
namespace Go.Proofs.YtcmndpjemdjalaaGreatDoor
open Go.RowKit
def lowB (c:Nat):Nat:=if 65≤c∧c≤90 then c+32 else c
theorem getD_at (s:ByteArray) (n:Nat) (h:n<s.size):s.data.toList.getD n 0=s[n]:=by
 rw [ByteArray.getElem_eq_getElem_data,List.getD,List.getElem?_eq_getElem (by rwa [Go.Lib.size_eq] at h)]
 simp
theorem scanFold_yes (w:World) (b:Nat) (r t:ByteArray) (h:ScanAt w b r) (hl:t.size≤r.size) (hs:r.size≤65536) (he:∀ i,i<t.size→lowB (r.data.toList.getD i 0).toNat=(t.data.toList.getD i 0).toNat) :
  Calls Tryz.prog 112 #[.pointer (some ⟨b,0,none⟩),.string t] w fun x w'=>x=.returned (.bool true)∧ScanAt w' b (tailB r t.size)∧Fr [b] w w':=by
 have hh:=h
 obtain⟨a,h⟩:=h
 have c0:w.cell? ⟨b,0,none⟩=some (.string r):=by rw [cell_of_row _ _ _ _ _ _ h];rfl
 have c2:w.cell? ⟨b,2,none⟩=some (.int .i64 0):=by rw [cell_of_row _ _ _ _ _ _ h];rfl
 have hl1:¬ (r.size:Int)<(t.size:Int):=by omega
 clear h
 go_enter Tryz.func112,Tryz.ntmps112
 go_wp2_with fail
 go_loop [24] (fun i=>∃ n:Nat,i=.int .i64 n∧n≤t.size) (fun i=>t.size - (intOf i).toNat)
 case atStart=>exact⟨0,rfl,Nat.zero_le _⟩
 case round =>
  obtain⟨n,rfl,hn⟩:=hrel
  by_cases hlt:n<t.size
  ·have hlr:n<r.size:=by omega
   have hx:=he n hlt
   rw [getD_at r n hlr,getD_at t n hlt] at hx
   unfold lowB at hx
   have hb1:=r[n].toNat_lt
   by_cases hc:65≤r[n].toNat∧r[n].toNat≤90
   ·rw [if_pos hc] at hx
    have k1:(65:Int)≤(r[n].toNat:Int):=by omega
    have k2:(r[n].toNat:Int)≤90:=by omega
    have k3:((t[n].toNat:Nat):Int)=(r[n].toNat:Int)+32:=by omega
    go_wp2_with fail
    go_round
    case rel=>exact⟨n+1,rfl,hlt⟩
    case measure=>simp [intOf];omega
   ·rw [if_neg hc] at hx
    have k3:((t[n].toNat:Nat):Int)=(r[n].toNat:Int):=by omega
    by_cases k1:(65:Int)≤(r[n].toNat:Int)
    ·have k2:¬ (r[n].toNat:Int)≤90:=by omega
     go_wp2_with fail
     go_round
     case rel=>exact⟨n+1,rfl,hlt⟩
     case measure=>simp [intOf];omega
    ·go_wp2_with fail
     go_round
     case rel=>exact⟨n+1,rfl,hlt⟩
     case measure=>simp [intOf];omega
  ·go_wp2_with (go_at_call 153;refine (scanSkip _ b r t.size hh hl).mono ?_;rintro e w2 ⟨rfl,h2,f2⟩)
   go_ret
   exact⟨rfl,h2,f2⟩
theorem scanFold_short (w:World) (b:Nat) (r t:ByteArray) (h:ScanAt w b r) (hl:r.size<t.size) :
  Calls Tryz.prog 112 #[.pointer (some ⟨b,0,none⟩),.string t] w fun x w'=>x=.returned (.bool false)∧Fr [] w w':=by
 obtain⟨a,h⟩:=h
 have c0:w.cell? ⟨b,0,none⟩=some (.string r):=by rw [cell_of_row _ _ _ _ _ _ h];rfl
 have c2:w.cell? ⟨b,2,none⟩=some (.int .i64 0):=by rw [cell_of_row _ _ _ _ _ _ h];rfl
 have hl1:(r.size:Int)<(t.size:Int):=by omega
 go_enter Tryz.func112,Tryz.ntmps112
 go_wp2
 go_ret
 exact⟨rfl,Fr.refl [] _⟩
theorem scanFold_no (w:World) (b:Nat) (r t:ByteArray) (k:Nat) (h:ScanAt w b r) (hl:t.size≤r.size) (hs:r.size≤65536) (hk:k<t.size) (he:∀ i,i<k→lowB (r.data.toList.getD i 0).toNat=(t.data.toList.getD i 0).toNat) (hne:lowB (r.data.toList.getD k 0).toNat ≠ (t.data.toList.getD k 0).toNat) :
  Calls Tryz.prog 112 #[.pointer (some ⟨b,0,none⟩),.string t] w fun x w'=>x=.returned (.bool false)∧Fr [] w w':=by
 have hh:=h
 obtain⟨a,h⟩:=h
 have c0:w.cell? ⟨b,0,none⟩=some (.string r):=by rw [cell_of_row _ _ _ _ _ _ h];rfl
 have c2:w.cell? ⟨b,2,none⟩=some (.int .i64 0):=by rw [cell_of_row _ _ _ _ _ _ h];rfl
 have hl1:¬ (r.size:Int)<(t.size:Int):=by omega
 clear h
 go_enter Tryz.func112,Tryz.ntmps112
 go_wp2_with fail
 go_loop [24] (fun i=>∃ n:Nat,i=.int .i64 n∧n≤k) (fun i=>t.size - (intOf i).toNat)
 case atStart=>exact⟨0,rfl,Nat.zero_le _⟩
 case round =>
  obtain⟨n,rfl,hn⟩:=hrel
  have hlr:n<r.size:=by omega
  have hlt:n<t.size:=by omega
  have hb1:=r[n].toNat_lt
  have hx:(n<k→lowB r[n].toNat=t[n].toNat)∧(n=k→lowB r[n].toNat ≠ t[n].toNat):=by
   rw [← getD_at r n hlr,← getD_at t n hlt]
   exact⟨he n,fun h=>by subst h;exact hne⟩
  unfold lowB at hx
  by_cases hc:65≤r[n].toNat∧r[n].toNat≤90
  ·simp only [if_pos hc] at hx
   have k1:(65:Int)≤(r[n].toNat:Int):=by omega
   have k2:(r[n].toNat:Int)≤90:=by omega
   by_cases hnk:n=k
   ·subst hnk
    have k3:((r[n].toNat:Int)+32 != ((t[n].toNat:Nat):Int))=true:=by rw [bne_iff_ne];omega
    go_wp2_with fail
    go_ret
    exact⟨rfl,Fr.refl [] _⟩
   ·have k3:((t[n].toNat:Nat):Int)=(r[n].toNat:Int)+32:=by omega
    go_wp2_with fail
    go_round
    case rel=>exact⟨n+1,rfl,by omega⟩
    case measure=>simp [intOf];omega
  ·simp only [if_neg hc] at hx
   by_cases hnk:n=k
   ·subst hnk
    have k3:((r[n].toNat:Int) != ((t[n].toNat:Nat):Int))=true:=by rw [bne_iff_ne];omega
    by_cases k1:(65:Int)≤(r[n].toNat:Int)
    ·have k2:¬ (r[n].toNat:Int)≤90:=by omega
     go_wp2_with fail
     go_ret
     exact⟨rfl,Fr.refl [] _⟩
    ·go_wp2_with fail
     go_ret
     exact⟨rfl,Fr.refl [] _⟩
   ·have k3:((t[n].toNat:Nat):Int)=(r[n].toNat:Int):=by omega
    by_cases k1:(65:Int)≤(r[n].toNat:Int)
    ·have k2:¬ (r[n].toNat:Int)≤90:=by omega
     go_wp2_with fail
     go_round
     case rel=>exact⟨n+1,rfl,by omega⟩
     case measure=>simp [intOf];omega
    ·go_wp2_with fail
     go_round
     case rel=>exact⟨n+1,rfl,by omega⟩
     case measure=>simp [intOf];omega
end Go.Proofs.YtcmndpjemdjalaaGreatDoor
namespace Go.Proofs.YtcmndpjemdjalaaGreatDoor
open Go.RowKit
open Pb
def OwnC (w:World) (base:Nat) (v:Value) (L:List Nat):Prop:=Byts L∧w.ownsRow base 5 1 v L.length (L.map fun x:Nat=>Value.int .u8 (x:Int))
theorem OwnC.nil (w:World) (base:Nat):OwnC w base (.slice none 0 0) []:=⟨Byts.nil,World.ownsRow_nil _ _ _ _⟩
theorem OwnC.shape {w:World} {base:Nat} {v:Value} {L:List Nat} (h:OwnC w base v L) :
  (v=.slice none 0 0∧L=[])∨∃ g cap cur,v=.slice (some ⟨g,0,none⟩) L.length cap∧base≤g∧w.heap[g]?=some (.cells cur 5 (0,0))∧L.length≤cap∧cap≤maxLen∧cur.size=cap∧∀ i,i<L.length→cur[i]?=some (.int .u8 (dg L i:Nat)):=by
 obtain⟨hd,hl,h⟩:=h
 rcases h with ⟨hv,h0⟩ | ⟨g,cap,cur,hv,hb,hh,hn,hc,hs,ht⟩
 ·exact .inl ⟨hv,List.length_eq_zero_iff.1 h0⟩
 ·refine .inr ⟨g,cap,cur,hv,hb,hh,hn,hc,by omega,fun i hi=>?_⟩
  have h1:(cur.toList.take (L.length * 1))[i]?=(L.map fun x:Nat=>Value.int .u8 (x:Int))[i]?:=by rw [ht]
  rw [List.getElem?_take_of_lt (by omega),List.getElem?_map,Array.getElem?_toList,List.getElem?_eq_getElem hi] at h1
  rw [h1,dg_get L i hi];rfl
theorem OwnC.u8 {w:World} {base:Nat} {v:Value} {L:List Nat} (h:OwnC w base v L):U8 w base v L:=by
 refine⟨h.1,?_⟩
 rcases h.shape with h | ⟨g,cap,cur,hv,hb,hh,hn,_,_,hc⟩
 ·exact .inl h
 ·exact .inr ⟨g,0,cap,cur,_,hv,hn,hb,hh,fun i hi=>by rw [Nat.zero_add];exact hc i hi⟩
theorem OwnC.kept {w w':World} {base:Nat} {v:Value} {L:List Nat} {S:List Nat} (h:OwnC w base v L) (hf:Fr S w w') (hS:∀ b∈S,some b ≠ v.ownBlock):OwnC w' base v L:=by
 obtain⟨hd,hl,h⟩:=h
 refine⟨hd,hl,?_⟩
 rcases h with h | ⟨g,cap,cur,rfl,hb,hh,h2⟩
 ·exact .inl h
 ·refine .inr ⟨g,cap,cur,rfl,hb,?_,h2⟩
  rw [hf.block g (Array.getElem?_eq_some_iff.1 hh).1 (fun hg=>hS g hg rfl)];exact hh
theorem OwnC.kept0 {w w':World} {base:Nat} {v:Value} {L:List Nat} (h:OwnC w base v L) (hf:Fr [] w w'):OwnC w' base v L:=h.kept hf (by simp)
theorem OwnC.set {w:World} {base g n cap:Nat} {L:List Nat} (h:OwnC w base (.slice (some ⟨g,0,none⟩) n cap) L) (k x:Nat) (_hk:k<L.length) (hx:x<256) :
  OwnC (w.setCell ⟨g,k,none⟩ (.int .u8 (x:Int))) base (.slice (some ⟨g,0,none⟩) n cap) (L.set k x):=by
 obtain⟨hd,hl,h⟩:=h
 refine⟨hd.set k x hx,by simp,?_⟩
 rcases h with ⟨h,_⟩ | ⟨g',cap',cur,hv,hb,hh,hn,hc,hs,ht⟩
 ·simp at h
 ·simp at hv
  obtain⟨rfl,hn',rfl⟩:=hv
  refine .inr ⟨g,cap,cur.setIfInBounds k (.int .u8 x),by simp [hn'],hb,heap_setCell_same w g k _ _ _ hh,by simpa using hn,hc,by simpa using hs,?_⟩
  rw [Array.toList_setIfInBounds,List.length_set,List.take_set,ht,List.map_set]
theorem append_u8 (w:World) {ops:Array Oper} {rest:List Oper} {o:Oper} {a:Act} {Q:Exit→Act→World→Prop} (hgd:o.guard=none) (s x:Operand)
  (ho:o.op=.call { callee:=.builtin .append,args:=#[s,x],argTypes:=#[40,40] }) (base:Nat) (v:Value) (L:List Nat) (hs:a.eval s=v) (hown:OwnC w base v L)
  (b c y:Nat) (hx:a.eval x=.slice (some ⟨b,0,none⟩) 1 c) (hy:y<256) (hcell:w.cell? ⟨b,0,none⟩=some (.int .u8 (y:Int))) (hl:L.length≤1099511627776) (hbase:base≤w.heap.size)
  (h:∀ v' w',OwnC w' base v' (L++[y])→(∀ S,(∀ g,v.ownBlock=some g→g∈S)→Fr S w w')→wpList Tryz.prog ops Q rest (a.put o.dst v') w'):wpList Tryz.prog ops Q (o :: rest) a w:=by
 obtain⟨i0,hi,hz0,hz1,hz2⟩:=info_parts info_u8
 refine wpList_append_own w hgd s x 40 ho base 5 i0 (.int .u8 0) 1 1 und_u8s hi hz0 hz1 hz2 rfl (by decide) v L.length _ hs hown.2 ⟨b,0,none⟩ 1 c [.int .u8 (y:Int)] hx rfl ?_ ?_ (by unfold maxLen;omega) (by omega) hbase ?_
 ·intro j u hj
  match j,hj with
  | 0,hj=>simp at hj;subst hj;simpa [Addr.add] using hcell
 ·intro u hu;simp at hu;subst hu;rfl
 ·intro v' w' h1 h2 _
  refine h v' w' ⟨?_,by simpa using h1⟩ (fun S hS=>⟨h2.os,h2.tape,h2.output,h2.size,fun k hk hkS=>h2.block k hk (fun he=>hkS (hS k he.symm))⟩)
  intro d hd
  rcases List.mem_append.1 hd with hd | hd
  ·exact hown.1 d hd
  ·simp at hd;omega
theorem append_u8s (w:World) {ops:Array Oper} {rest:List Oper} {o:Oper} {a:Act} {Q:Exit→Act→World→Prop} (hgd:o.guard=none) (s x:Operand)
  (ho:o.op=.call { callee:=.builtin .append,args:=#[s,x],argTypes:=#[40,40] }) (base:Nat) (v:Value) (L:List Nat) (hs:a.eval s=v) (hown:OwnC w base v L)
  (M:List Nat) (base2:Nat) (v2:Value) (hx:a.eval x=v2) (h2:OwnC w base2 v2 M) (hl:L.length+M.length≤1099511627776) (hbase:base≤w.heap.size)
  (h:∀ v' w',OwnC w' base v' (L++M)→(∀ S,(∀ g,v.ownBlock=some g→g∈S)→Fr S w w')→wpList Tryz.prog ops Q rest (a.put o.dst v') w'):wpList Tryz.prog ops Q (o :: rest) a w:=by
 obtain⟨i0,hi,hz0,hz1,hz2⟩:=info_parts info_u8
 rcases h2.shape with ⟨rfl,rfl⟩ | ⟨g,cap,cur,rfl,hb,hh,hn,hc,hs2,ht⟩
 ·refine wpList_append_own_none hgd s x 40 ho base 5 i0 1 und_u8s hi v L.length _ hs hown.2 hx ?_
  exact h v w (by rw [List.append_nil];exact hown) (fun S hS=>Fr.refl S w)
 ·refine wpList_append_own w hgd s x 40 ho base 5 i0 (.int .u8 0) 1 1 und_u8s hi hz0 hz1 hz2 rfl (by decide) v L.length _ hs hown.2 ⟨g,0,none⟩ M.length cap (M.map fun x:Nat=>Value.int .u8 (x:Int)) hx (by simp) ?_ ?_ (by unfold maxLen;omega) (by omega) hbase ?_
  ·intro j u hj
   rw [List.getElem?_map] at hj
   have hjl:j<M.length:=by
    rcases Nat.lt_or_ge j M.length with h | h
    ·exact h
    ·rw [List.getElem?_eq_none h] at hj;simp at hj
   rw [List.getElem?_eq_getElem hjl] at hj
   have h3:=ht j hjl
   rw [dg_get M j hjl] at h3
   have h4:(Addr.add ⟨g,0,none⟩ j)=⟨g,j,none⟩:=by
    rcases j with _ | j <;> simp [Addr.add]
   rw [h4,cell_of_row _ _ _ _ _ _ hh,h3,← hj];rfl
  ·intro u hu
   obtain⟨y,-,rfl⟩:=List.mem_map.1 hu
   rfl
  ·intro v' w' h1 h2' _
   refine h v' w' ⟨hown.1.append h2.1,by rw [List.length_append,List.map_append];exact h1⟩ (fun S hS=>⟨h2'.os,h2'.tape,h2'.output,h2'.size,fun k hk hkS=>h2'.block k hk (fun he=>hkS (hS k he.symm))⟩)
end Go.Proofs.YtcmndpjemdjalaaGreatDoor
namespace Go.Proofs.YtcmndpjemdjalaaGreatDoor
open Go.RowKit
def sliceLen:Value→Nat | .slice _ n _=>n | _=>0
theorem tenW_le (c:Nat):(tenW c).1<256∧((tenW c).2=1∨tenW c=(0,0)):=by
 unfold tenW
 by_cases h:48≤c∧c≤57
 ·rw [if_pos h];exact⟨by show c - 48<256;omega,.inl rfl⟩
 ·rw [if_neg h];exact⟨by decide,.inr rfl⟩
theorem tenW_not95 (c:Nat) (h:(tenW c).2=1):c ≠ 95∧c<128:=by
 unfold tenW at h
 by_cases h2:48≤c∧c≤57
 ·omega
 ·rw [if_neg h2] at h;simp at h
def Behind (W:Nat→Nat × Nat) (T:List UInt8):Prop:=∀ y∈T.head?,y.toNat<128∧(W y.toNat).2=0∧y.toNat ≠ 95
def worths (W:Nat→Nat × Nat) (D:List UInt8):List Nat:=D.map fun x=>(W x.toNat).1
def under:ByteArray:=⟨#[95]⟩
theorem no_under (l:List UInt8) (h:∀ y∈l.head?,y.toNat ≠ 95):Lib.hasPrefix l under.data.toList=false:=by
 cases l with
 | nil=>rfl
 | cons y l =>
  have:=h y (by simp)
  have h2:¬ (95:UInt8)=y:=by rintro rfl;exact this rfl
  show List.isPrefixOf [95] (y :: l)=false
  simp [List.isPrefixOf,h2]
theorem OwnC.grew {w w':World} {base:Nat} {v:Value} {L:List Nat} (h:OwnC w base v L) (hg:∀ S,(∀ g,v.ownBlock=some g→g∈S)→Fr S w w'):∃ S,(∀ s∈S,base≤s)∧Fr S w w':=by
 rcases h.shape with ⟨rfl,-⟩ | ⟨g,cap,cur,rfl,hb,-⟩
 ·exact⟨[],by simp,hg [] (fun g hg=>by have h:(none:Option Nat)=some g:=hg;cases h)⟩
 ·exact⟨[g],by simpa using hb,hg [g] (fun g' hg=>by have h:some g=some g':=hg;cases h;simp)⟩
theorem OwnC.grow {w0 w w':World} {base:Nat} {v:Value} {L:List Nat} {S:List Nat} (h:OwnC w base v L) (hf:Fr S w0 w) (hb:w0.heap.size≤base) (hg:∀ S,(∀ g,v.ownBlock=some g→g∈S)→Fr S w w'):Fr S w0 w':=by
 obtain⟨T,hT,hf2⟩:=h.grew hg
 exact hf.after hf2 (fun t ht=>Nat.le_trans hb (hT t ht))
theorem OwnC.growScan {w w':World} {base b:Nat} {r:ByteArray} {v:Value} {L:List Nat} (h:OwnC w base v L) (hs:ScanAt w b r) (hb:b<base) (hg:∀ S,(∀ g,v.ownBlock=some g→g∈S)→Fr S w w'):ScanAt w' b r:=by
 obtain⟨T,hT,hf2⟩:=h.grew hg
 exact hs.fr hf2 (fun hm=>by have:=hT b hm;omega)
theorem OwnC.len {w:World} {base:Nat} {v:Value} {L:List Nat} (h:OwnC w base v L):sliceLen v=L.length:=by
 rcases h.shape with ⟨rfl,rfl⟩ | ⟨g,cap,cur,rfl,-⟩ <;> rfl
theorem OwnC.keptLow {w w':World} {base b:Nat} {v:Value} {L:List Nat} (h:OwnC w base v L) (hf:Fr [b] w w') (hb:b<base):OwnC w' base v L:=by
 refine h.kept hf ?_
 intro s hs he
 simp at hs
 subst hs
 rcases h.shape with ⟨rfl,-⟩ | ⟨g,cap,cur,rfl,hb',-⟩
 ·have h:some s=none:=he;cases h
 ·have h:some s=some g:=he;cases h;omega
theorem ScanAt.cells {w:World} {b:Nat} {r:ByteArray} (h:ScanAt w b r):w.cell? ⟨b,0,none⟩=some (.string r)∧w.cell? ⟨b,2,none⟩=some (.int .i64 0):=by
 obtain⟨a,h⟩:=h
 exact⟨by rw [cell_of_row _ _ _ _ _ _ h];rfl,by rw [cell_of_row _ _ _ _ _ _ h];rfl⟩
theorem rowTen (w:World) (b:Nat) (r:ByteArray) (D T:List UInt8) (h:ScanAt w b r) (hr:r.data.toList=D++T) (hs:r.size≤65536) (hD:∀ x∈D,(tenW x.toNat).2=1) (hT:Behind tenW T) :
  Calls Tryz.prog 200 #[.pointer (some ⟨b,0,none⟩),.func (.func 111) #[] #[]] w fun x w'=>∃ v r',x=.returned v∧OwnC w' w.heap.size v (worths tenW D)∧r'.data.toList=T∧ScanAt w' b r'∧Fr [b] w w':=by
 have hh:=h
 obtain⟨a,h⟩:=h
 have c0:w.cell? ⟨b,0,none⟩=some (.string r):=by rw [cell_of_row _ _ _ _ _ _ h];rfl
 have c2:w.cell? ⟨b,2,none⟩=some (.int .i64 0):=by rw [cell_of_row _ _ _ _ _ _ h];rfl
 have hhead:∀ k,∀ y∈(D.drop k++T).head?,y.toNat ≠ 95:=by
  intro k y hy
  rcases hd:D.drop k with _ | ⟨z,l⟩
  ·rw [hd] at hy;exact (hT y (by simpa using hy)).2.2
  ·rw [hd] at hy
   simp at hy
   subst hy
   exact (tenW_not95 _ (hD z (List.mem_of_mem_drop (by rw [hd];simp)))).1
 have hS:=fun W=>Tryz.strings_HasPrefix r under W
 rw [hr,no_under _ (by simpa using hhead 0)] at hS
 unfold under at hS
 clear h
 go_enter Tryz.func200,Tryz.ntmps200
 go_wp2_with (go_at_call 39;refine (hS _).mono ?_;rintro e w1 ⟨rfl,rfl⟩)
 have hlen:r.size=D.length+T.length:=by rw [Go.Lib.size_eq,hr,List.length_append]
 have hDl:D.length≤65536:=by omega
 go_loopw [5] (fun v wr=>∃ k r',k≤D.length∧r'.data.toList=D.drop k++T∧ScanAt wr b r'∧OwnC wr w1.heap.size v (worths tenW (D.take k))∧Fr [b] w1 wr) (fun v _=>D.length - sliceLen v)
 case atStart=>exact⟨0,r,Nat.zero_le _,by simpa using hr,hh,OwnC.nil _ _,Fr.refl _ _⟩
 case round =>
  obtain⟨k,r',hk,hr',hsc,hown,hfr⟩:=hrel
  have hsc':=hsc
  obtain⟨a',hrow⟩:=hsc'
  have d0:wr.cell? ⟨b,0,none⟩=some (.string r'):=by rw [cell_of_row _ _ _ _ _ _ hrow];rfl
  have d2:wr.cell? ⟨b,2,none⟩=some (.int .i64 0):=by rw [cell_of_row _ _ _ _ _ _ hrow];rfl
  have hlen':r'.size=D.length - k+T.length:=by rw [Go.Lib.size_eq,hr',List.length_append,List.length_drop]
  clear hS c0 c2 hrow
  by_cases hkl:k<D.length
  ·have h0:0<r'.size:=by omega
   have hx:r'[0]=D[k]:=by
    rw [← getD_at r' 0 h0,hr',List.drop_eq_getElem_cons hkl];rfl
   have hxd:=hD D[k] (List.getElem_mem hkl)
   have hx2:=tenW_not95 _ hxd
   have hx3:=tenW_le D[k].toNat
   obtain⟨y,hy⟩:∃ y,(tenW D[k].toNat).1=y:=⟨_,rfl⟩
   rw [hy] at hx3
   have hyl:y<256:=hx3.1
   have hbl:=hsc.lt
   have hbb:b<w1.heap.size:=hh.lt
   have hU:=fun W=>Tryz.strings_HasPrefix (tailB r' 1) under W
   have ht1:(tailB r' 1).data.toList=D.drop (k+1)++T:=by rw [tailB_data,hr',List.drop_eq_getElem_cons hkl];rfl
   rw [ht1,no_under _ (hhead (k+1))] at hU
   unfold under at hU
   have hlk:(worths tenW (D.take k)).length=k:=by simp [worths];omega
   have hnew:worths tenW (D.take (k+1))=worths tenW (D.take k)++[y]:=by rw [worths,worths,List.take_succ_eq_append_getElem hkl,List.map_append,List.map_singleton,hy]
   obtain⟨ao,cap,rfl,hcapL,-⟩:=hown.u8.shape
   have Hnew:=Go.Lib.hid hnew
   have Hlk:=Go.Lib.hid hlk
   have Ht1:=Go.Lib.hid ht1
   clear hnew hlk ht1 hr' hr hlen
   go_wp2_with (first
    | (go_at_call 111;refine (lexTen_at _ r' h0 (by rw [hx];exact hx2.2)).mono ?_;rw [hx,hxd,hy];rintro e w2 ⟨rfl,f2⟩;have fA:=(Fr.refl [] w2).alloc (.cells #[.int .u8 (y:Int)] 5);have hoA:=(hown.kept0 f2).kept0 fA;have scA:=(hsc.fr f2 (by simp)).fr fA (by simp);have cA:=cell_new w2 #[.int .u8 (y:Int)] 5 (0,0) 0 _ rfl;have fsz:=f2.size;have fsz2:=hfr.size)
    | (at_builtin;refine append_u8 _ rfl _ _ rfl w1.heap.size _ _ rfl hoA w2.heap.size 1 y rfl hyl cA (by have:=Hlk.out;omega) (by simp;omega) ?_;intro v' w3 hown3 hfr3;have sc3:=hoA.growScan scA hbb hfr3;have F3:=hoA.grow ((hfr.then f2).then fA) (Nat.le_refl _) hfr3;have z3:=sc3.cells)
    | (go_at_call 153;refine (scanSkip _ b r' 1 sc3 (by omega)).mono ?_;rintro e w4 ⟨rfl,sc4,f4⟩;have z4:=sc4.cells;obtain⟨z40,z42⟩:=z4;have o4:=hown3.keptLow f4 hbb;have F4:=F3.trans f4 (fun t ht=>.inl ht))
    | (go_at_call 39;refine (hU _).mono ?_;rintro e w5 ⟨rfl,h5⟩;subst h5))
   refine⟨⟨k+1,tailB r' 1,hkl,Ht1.out,sc4,by rw [Hnew.out];exact o4,F4⟩,?_⟩
   rw [o4.len,List.length_append]
   have:=Hlk.out
   simp only [sliceLen,List.length_singleton]
   omega
  ·obtain rfl:k=D.length:=by omega
   rw [List.take_length] at hown
   rw [List.drop_length,List.nil_append] at hr'
   by_cases h0:0<r'.size
   ·have hy:=hT r'[0] (by rw [← getD_at r' 0 h0,hr'];cases T with | nil=>rw [Go.Lib.size_eq,hr'] at h0;simp at h0 | cons y T=>simp)
    have hz:=(tenW_le r'[0].toNat).2.resolve_left (by omega)
    have hd:=hy.1
    clear hy
    go_wp2_with (go_at_call 111;refine (lexTen_at _ r' h0 hd).mono ?_;rw [hz];rintro e w2 ⟨rfl,f2⟩)
    go_ret
    exact⟨_,r',rfl,hown.kept0 f2,hr',hsc.fr f2 (by simp),hfr.then f2⟩
   ·go_wp2_with (go_at_call 111;refine (lexTen_end _ r' (by omega)).mono ?_;rintro e w2 ⟨rfl,f2⟩)
    go_ret
    exact⟨_,r',rfl,hown.kept0 f2,hr',hsc.fr f2 (by simp),hfr.then f2⟩
end Go.Proofs.YtcmndpjemdjalaaGreatDoor
