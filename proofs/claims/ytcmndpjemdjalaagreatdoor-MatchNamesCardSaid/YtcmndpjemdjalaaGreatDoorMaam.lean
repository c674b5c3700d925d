/- Laws that the claimed theorem leans on: no condition of their own beyond their hypotheses. -/
import Derived.StillTailTactics
import Derived.Test.YtcmndpjemdjalaaGreatDoorMaab
import Derived.Test.YtcmndpjemdjalaaGreatDoorMaaj
import Derived.Test.YtcmndpjemdjalaaGreatDoorMaal
set_option maxRecDepth 100000
set_option maxHeartbeats 16000000
namespace Go.Proofs.YtcmndpjemdjalaaGreatDoor
open Go.RowKit
open Pb
theorem ratTold (w:World) (z A:Nat) (n:Int) (h:RatAt w z n) (hA:A≤524288) (hb:n.natAbs<2 ^ A) (hA1:1≤A) :
  Calls Tryz.prog 211 #[.pointer (some ⟨z,0,none⟩)] w fun e w'=>∃ v u l,e=.returned (.tuple #[.agg #[.bool (decide (n<0)),v,u],.int .i64 0])∧U32 w' 0 v l∧Is l n.natAbs∧U32 w' 0 u [1]∧Fr [] w w':=by
 have hf:Fits n.natAbs:=Fits.of_bits hb (by omega)
 have h1b:((1:Nat):Int).natAbs<2 ^ A:=by rw [Int.natAbs_natCast];exact Nat.lt_of_lt_of_le (by omega:1<2 ^ 1) (Nat.pow_le_pow_right (by omega) hA1)
 have hsg:decide (n.sign<0)=decide (n<0):=by rw [decide_eq_decide];exact Int.sign_neg_iff
 have Hb:=Go.Lib.hid hb;clear hb
 have H1b:=Go.Lib.hid h1b;clear h1b
 have Hsg:=Go.Lib.hid hsg;clear hsg
 have fA:=(Fr.refl [] w).alloc (.cells #[.bool false,.slice none 0 0,.slice none 0 0] 176)
 have zr:=row_new w (.cells #[.bool false,.slice none 0 0,.slice none 0 0] 176 (0,0))
 have hz:=h.fr0 fA
 go_enter Tryz.func211,Tryz.ntmps211
 go_wp2_with fail
 refine (ratNum _ z n hz hf).mono ?_
 rintro e w1 ⟨v1,rfl,⟨p1,rfl,hp1⟩,f1⟩
 go_wp2_with fail
 refine (ratLong _ p1 A n hp1 hA Hb.out).mono ?_
 rintro e w2 ⟨rfl,f2⟩
 have hz2:=(hz.fr0 f1).fr0 f2
 go_wp2_with fail
 refine (ratDenom _ z n hz2).mono ?_
 rintro e w3 ⟨v3,rfl,⟨p3,rfl,hp3⟩,f3⟩
 go_wp2_with fail
 refine (ratLong _ p3 A ((1:Nat):Int) hp3 hA H1b.out).mono ?_
 rintro e w4 ⟨rfl,f4⟩
 have hz4:=(hz2.fr0 f3).fr0 f4
 go_wp2_with fail
 refine (ratSign _ z n hz4).mono ?_
 rintro e w5 ⟨rfl,f5⟩
 have hz5:=hz4.fr0 f5
 generalize hS:n.sign=S at Hsg
 have HS:=Go.Lib.hid hS;clear hS
 go_wp2_with fail
 refine (ratNum _ z n hz5 hf).mono ?_
 rintro e w6 ⟨v6,rfl,⟨p6,rfl,hp6⟩,f6⟩
 go_wp2_with fail
 refine (ratioLimbs_any _ p6 n.natAbs A n hp6 rfl Hb.out (by omega)).mono ?_
 rintro e w7 ⟨v7,l7,rfl,u7,i7,f7⟩
 have hz7:=(hz5.fr0 f6).fr0 f7
 go_wp2_with fail
 refine (ratDenom _ z n hz7).mono ?_
 rintro e w8 ⟨v8,rfl,⟨p8,rfl,hp8⟩,f8⟩
 go_wp2_with fail
 refine (ratioLimbs_any _ p8 1 A ((1:Nat):Int) hp8 rfl (by have:=H1b.out;rwa [Int.natAbs_natCast] at this) (by omega)).mono ?_
 rintro e w9 ⟨v9,l9,rfl,u9,i9,f9⟩
 obtain rfl:=is_one i9
 have fz:Fr [] w w9:=((((((((fA.then f1).then f2).then f3).then f4).then f5).then f6).then f7).then f8).then f9
 have f19:Fr [] (w.alloc (.cells #[.bool false,.slice none 0 0,.slice none 0 0] 176)) w9:=((((((((f1).then f2).then f3).then f4).then f5).then f6).then f7).then f8).then f9
 have zr9:=f19.row zr (by simp)
 have c0:w9.cell? ⟨w.heap.size,0,none⟩=some (.bool false):=by rw [cell_of_row _ _ _ _ _ _ zr9];rfl
 have c1:w9.cell? ⟨w.heap.size,1,none⟩=some (.slice none 0 0):=by rw [cell_of_row _ _ _ _ _ _ zr9];rfl
 have c2:w9.cell? ⟨w.heap.size,2,none⟩=some (.slice none 0 0):=by rw [cell_of_row _ _ _ _ _ _ zr9];rfl
 have z0:=frozen_of_row w9 w.heap.size 0 _ _ zr9
 have z1:=frozen_of_row w9 w.heap.size 1 _ _ zr9
 have z2:=frozen_of_row w9 w.heap.size 2 _ _ zr9
 obtain⟨ao,cap,rfl,hcap,-⟩:=u7.shape
 obtain⟨b9,o9,cap9,rfl,hcap9,-⟩:=u9.one_shape
 have u7':=(u7.fr0 f8).fr0 f9
 have fe:Fr [w.heap.size] w9 (((w9.setCell ⟨w.heap.size,0,none⟩ (.bool (decide (S<0)))).setCell ⟨w.heap.size,1,none⟩ (.slice ao l7.length cap)).setCell ⟨w.heap.size,2,none⟩ (.slice (some ⟨b9,o9,none⟩) 1 cap9)):=(((Fr.refl _ w9).setCell (.inl (by simp)) _).setCell (.inl (by simp)) _).setCell (.inl (by simp)) _
 have r1:=heap_setCell_same w9 w.heap.size 0 _ _ (.bool (decide (S<0))) zr9
 have r2:=heap_setCell_same _ w.heap.size 1 _ _ (.slice ao l7.length cap) r1
 have r3:=heap_setCell_same _ w.heap.size 2 _ _ (.slice (some ⟨b9,o9,none⟩) 1 cap9) r2
 have hnw:NoWord [w.heap.size] w9:=NoWord.of_type zr9 (by decide)
 have x7:=(u7'.mono (Nat.zero_le _)).fr fe hnw
 have x9:=(u9.mono (Nat.zero_le _)).fr fe hnw
 have fend:Fr [] w (((w9.setCell ⟨w.heap.size,0,none⟩ (.bool (decide (S<0)))).setCell ⟨w.heap.size,1,none⟩ (.slice ao l7.length cap)).setCell ⟨w.heap.size,2,none⟩ (.slice (some ⟨b9,o9,none⟩) 1 cap9)):=fz.after fe (by simp)
 go_wp2_with fail
 generalize hWe:((w9.setCell ⟨w.heap.size,0,none⟩ (.bool (decide (S<0)))).setCell ⟨w.heap.size,1,none⟩ (.slice ao l7.length cap)).setCell ⟨w.heap.size,2,none⟩ (.slice (some ⟨b9,o9,none⟩) 1 cap9)=We at r3 x7 x9 fend ⊢
 have k0:We.cell? ⟨w.heap.size,0,none⟩=some (.bool (decide (S<0))):=by rw [cell_of_row _ _ _ _ _ _ r3];rfl
 have k1:We.cell? ⟨w.heap.size,1,none⟩=some (.slice ao l7.length cap):=by rw [cell_of_row _ _ _ _ _ _ r3];rfl
 have k2:We.cell? ⟨w.heap.size,2,none⟩=some (.slice (some ⟨b9,o9,none⟩) 1 cap9):=by rw [cell_of_row _ _ _ _ _ _ r3];rfl
 exact bodyPost_ret (v:=.tuple #[.agg #[.bool (decide (S<0)),.slice ao l7.length cap,.slice (some ⟨b9,o9,none⟩) 1 cap9],.int .i64 0]) (by simp [results,Tryz.results211,go_sem,k0,k1,k2]) rfl ⟨_,_,l7,by rw [Hsg.out],x7,i7,x9,fend⟩
end Go.Proofs.YtcmndpjemdjalaaGreatDoor
namespace Go.Proofs.YtcmndpjemdjalaaGreatDoor
open Go.RowKit
open Pb
theorem bval_put {B:List Nat} {p c:Nat} (hp:p<B.length) (h0:dg B p=0):bval (B.set p c)=bval B+c * 256 ^ (B.length - 1 - p):=by
 have:=bval_set B p c hp
 rwa [h0,Nat.zero_add] at this
theorem four_bytes (x:Nat) (h:x<4294967296):x % 256+256 * (x / 256 % 256)+65536 * (x / 65536 % 256)+16777216 * (x / 16777216 % 256)=x:=by omega
theorem word_step {B:List Nat} {n i x V:Nat} (hl:B.length=4 * n) (hi:i<n) (hx:x<4294967296) (hv:bval B=V) (hz:∀ p,p<4 * (n - i)→dg B p=0) :
  bval ((((B.set (4 * n - 4 * i - 1) (x % 256)).set (4 * n - 4 * i - 2) (x / 256 % 256)).set (4 * n - 4 * i - 3) (x / 65536 % 256)).set (4 * n - 4 * i - 4) (x / 16777216 % 256))=V+x * 4294967296 ^ i ∧
  ∀ p,p<4 * (n - (i+1))→dg ((((B.set (4 * n - 4 * i - 1) (x % 256)).set (4 * n - 4 * i - 2) (x / 256 % 256)).set (4 * n - 4 * i - 3) (x / 65536 % 256)).set (4 * n - 4 * i - 4) (x / 16777216 % 256)) p=0:=by
 have e:(4294967296:Nat) ^ i=256 ^ (4 * i):=by rw [show (4294967296:Nat)=256 ^ 4 from rfl,← Nat.pow_mul]
 constructor
 ·rw [bval_put (by simp;omega) (by rw [dg_set_ne _ _ _ _ (by omega),dg_set_ne _ _ _ _ (by omega),dg_set_ne _ _ _ _ (by omega)];exact hz _ (by omega)),
   bval_put (by simp;omega) (by rw [dg_set_ne _ _ _ _ (by omega),dg_set_ne _ _ _ _ (by omega)];exact hz _ (by omega)),
   bval_put (by simp;omega) (by rw [dg_set_ne _ _ _ _ (by omega)];exact hz _ (by omega)),
   bval_put (by omega) (hz _ (by omega))]
  simp only [List.length_set,hl]
  rw [show 4 * n - 1 - (4 * n - 4 * i - 1)=4 * i by omega,show 4 * n - 1 - (4 * n - 4 * i - 2)=4 * i+1 by omega,show 4 * n - 1 - (4 * n - 4 * i - 3)=4 * i+2 by omega,show 4 * n - 1 - (4 * n - 4 * i - 4)=4 * i+3 by omega,hv,e]
  have h4:=four_bytes x hx
  simp only [Nat.pow_add]
  generalize (256:Nat) ^ (4 * i)=P
  generalize x / 256 % 256=c1 at *
  generalize x / 65536 % 256=c2 at *
  generalize x / 16777216 % 256=c3 at *
  generalize x % 256=c0 at *
  rw [← h4];grind
 ·intro p hp
  rw [dg_set_ne _ _ _ _ (by omega),dg_set_ne _ _ _ _ (by omega),dg_set_ne _ _ _ _ (by omega),dg_set_ne _ _ _ _ (by omega)]
  exact hz _ (by omega)
def FreshInt (lo:Nat) (n:Int):Value→World→Prop:=fun v w=>∃ b,v=.pointer (some ⟨b,0,none⟩)∧lo≤b∧IntAt w b 0 n
theorem ratioWhole_any (w:World) (lo:Nat) (v:Value) (l:List Nat) (hu:U32 w lo v l) (hl:l.length≤1048576) :
  Calls Tryz.prog 208 #[.agg #[v]] w fun e w'=>∃ u,e=.returned u∧FreshInt w.heap.size (val l:Nat) u w'∧Fr [] w w':=by
 have hd:=hu.digs
 obtain⟨ao,cap,rfl,hcap,hc⟩:=hu.shape
 have Hc:=Go.Lib.hid hc;clear hc
 obtain⟨n,hn⟩:∃ n,n=l.length:=⟨_,rfl⟩
 rw [← hn] at hl hcap ⊢
 have Hn:=Go.Lib.hid hn;clear hn
 have fA:=(Fr.refl [] w).alloc (.cells #[.slice ao n cap] 79)
 have c0:=cell_new w #[.slice ao n cap] 79 (0,0) 0 _ rfl
 go_enter Tryz.func208,Tryz.ntmps208
 go_wp2_with (at_make;refine make_u8 _ rfl _ _ rfl _ _ (4 * n) rfl rfl (by simp) (by simp) (by omega) ?_;intro w1 hown hf1;have c0:=hf1.stay c0 (by simp))
 have fB:=fA.then hf1
 have hsz:w.heap.size<w1.heap.size:=by have:=hf1.size;simp at this;omega
 go_loopw [15] (fun i wr=>∃ (i':Nat) (B:List Nat),i=.int .i64 i'∧i'≤n∧Hid (B.length=4 * n)∧Byts B∧OwnB wr (w.heap.size+1) B∧Fr [] w wr∧Hid (bval B=val (l.take i'))∧Hid (∀ p,p<4 * (n - i')→dg B p=0)) (fun i _=>n - (intOf i).toNat)
 case atStart =>
  rw [World.size_alloc] at hown
  exact⟨0,_,rfl,Nat.zero_le _,Go.Lib.hid (by simp),Byts.replicate _,hown,fB,Go.Lib.hid (by rw [bval_replicate];simp [val]),Go.Lib.hid (fun p _=>by simp [dg,List.getD,List.getElem?_replicate];split <;> simp)⟩
 case round =>
  obtain⟨i,B,rfl,hin,hB,hdB,hownr,hfr,hv,hz⟩:=hrel
  clear hown
  by_cases hlt:i<n
  ·obtain⟨bb,oo,rfl,hbb,hcell⟩:=Hc.out i (by rw [← Hn.out];exact hlt)
   have hcell:=hfr.stay hcell (by simp)
   have hdi:=dg_lt hd i
   obtain⟨s1,s2⟩:=word_step hB.out hlt hdi hv.out hz.out
   generalize hx:dg l i=x at *
   obtain⟨at_,hat⟩:∃ a,a=4 * n - 4 * i - 4:=⟨_,rfl⟩
   have hat':(4:Int) * n - 4 * i=(at_:Int)+4:=by omega
   have hatn:at_+3<4 * n:=by omega
   have hBl:=hB.out
   rw [show 4 * n - 4 * i - 1=at_+3 by omega,show 4 * n - 4 * i - 2=at_+2 by omega,show 4 * n - 4 * i - 3=at_+1 by omega,show 4 * n - 4 * i - 4=at_ by omega] at s1 s2
   rw [show x / 16777216 % 256=x / 16777216 by omega] at s1 s2
   have q3:=hownr.cell (at_+3) (by omega)
   have q2:=hownr.cell (at_+2) (by omega)
   have q1:=hownr.cell (at_+1) (by omega)
   have q0:=hownr.cell at_ (by omega)
   rw [hz.out (at_+3) (by omega)] at q3
   rw [hz.out (at_+2) (by omega)] at q2
   rw [hz.out (at_+1) (by omega)] at q1
   rw [hz.out at_ (by omega)] at q0
   have z3:=hownr.free (at_+3)
   have z2:=hownr.free (at_+2)
   have z1:=hownr.free (at_+1)
   have z0:=hownr.free at_
   have o1:=hownr.set (at_+3) ((x:Int) % 256) (by omega)
   rw [show ((x:Int) % 256).toNat=x % 256 by omega] at o1
   have o2:=o1.set (at_+2) ((x:Int) / 256 % 256) (by omega)
   rw [show ((x:Int) / 256 % 256).toNat=x / 256 % 256 by omega] at o2
   have o3:=o2.set (at_+1) ((x:Int) / 65536 % 256) (by omega)
   rw [show ((x:Int) / 65536 % 256).toNat=x / 65536 % 256 by omega] at o3
   have o4:=o3.set at_ ((x:Int) / 16777216) (by omega)
   rw [show ((x:Int) / 16777216).toNat=x / 16777216 by omega] at o4
   have d4:=(((hdB.set (at_+3) (x % 256) (by omega)).set (at_+2) (x / 256 % 256) (by omega)).set (at_+1) (x / 65536 % 256) (by omega)).set at_ (x / 16777216) (by omega)
   have f4:=(((hfr.setCell (p:=⟨w.heap.size+1,at_+3,none⟩) (.inr (by simp)) (.int .u8 ((x:Int) % 256))).setCell (p:=⟨w.heap.size+1,at_+2,none⟩) (.inr (by simp)) (.int .u8 ((x:Int) / 256 % 256))).setCell (p:=⟨w.heap.size+1,at_+1,none⟩) (.inr (by simp)) (.int .u8 ((x:Int) / 65536 % 256))).setCell (p:=⟨w.heap.size+1,at_,none⟩) (.inr (by simp)) (.int .u8 ((x:Int) / 16777216))
   have l4:((((B.set (at_+3) (x % 256)).set (at_+2) (x / 256 % 256)).set (at_+1) (x / 65536 % 256)).set at_ (x / 16777216)).length=4 * n:=by simp [hBl]
   have L4:=Go.Lib.hid l4
   have S1:=Go.Lib.hid s1
   have S2:=Go.Lib.hid s2
   have Hat:=Go.Lib.hid hat
   have Hx:=Go.Lib.hid hx
   clear l4 s1 s2 hat hx hBl hB hv hz
   clear o1 o2 o3
   go_wp2_with fail
   go_roundw
   case rel=>exact⟨i+1,_,by go_num,by omega,L4,d4,o4,f4,Go.Lib.hid (by rw [S1.out,val_take_dg l i (by rw [← Hn.out];exact hlt),Hx.out,Nat.mul_comm x]),S2⟩
   case measure=>simp [intOf];omega
  ·obtain rfl:i=n:=by omega
   have hval:bval B=val l:=by have:=hv.out;rwa [List.take_of_length_le (by rw [Hn.out];exact Nat.le_refl _)] at this
   have hu8:=hownr.all (lo:=0) hdB (Nat.zero_le _)
   rw [hB.out] at hu8
   have hBl:B.length≤1073741824:=by have:=hB.out;omega
   have Hval:=Go.Lib.hid hval;clear hval
   have hr:=IntRoom.new wr
   have fr:=(Fr.refl [] wr).alloc (.cells #[.bool false,.slice none 0 0] 236)
   go_wp2_with fail
   refine (intSetBytes_any _ _ 0 0 _ B hr (hu8.fr0 fr) hBl).mono ?_
   rintro e w5 ⟨rfl,h5,f5⟩
   rw [Hval.out] at h5
   go_wp2
   go_ret
   exact⟨_,rfl,⟨_,rfl,hfr.size,h5⟩,(hfr.then fr).after f5 (by simp;exact hfr.size)⟩
end Go.Proofs.YtcmndpjemdjalaaGreatDoor
namespace Go.Proofs.YtcmndpjemdjalaaGreatDoor
open Go.RowKit
open Pb
theorem intNeg_nat (w:World) (b o b2 o2:Nat) (n:Nat) (hr:IntRoom w b o) (h:IntAt w b2 o2 n) (hn:Fits n) :
  Calls Tryz.prog 209 #[.pointer (some ⟨b,o,none⟩),.pointer (some ⟨b2,o2,none⟩)] w fun e w'=>e=.returned (.pointer (some ⟨b,o,none⟩))∧IntAt w' b o (-(n:Int))∧Fr [b] w w':=by
 obtain⟨v,l,c0,c1,-,-,hu,hi⟩:=h.nat
 have hl:=hn.len hi
 go_enter Tryz.func209,Tryz.ntmps209
 go_wp2_with fail
 refine region_mono [] 11 [[],[],[1],[2],[3],[4],[],[6],[7],[8],[9]] [none,none,none,none,none,none,none,none,none,none,some (IsW n)] (by kernel_rfl) (by kernel_rfl) ?_
 simp only [Chain,fill,Act.put,List.nil_append,List.cons_append,List.take_succ_cons,List.take_zero,List.drop_succ_cons,List.drop_zero,List.setIfInBounds_toArray,List.set_cons_zero,List.set_cons_succ,Nat.reduceAdd]
 iterate 10 (apply Exists.intro;apply And.intro;·intro vs w2 hf hh K hK;have c0:=hf.stayd c0;have c1:=hf.stayd c1;simp only [Held,List.getD_cons_zero,List.getD_cons_succ,Just,and_true] at hh;(try simp only [hh] at hK ⊢);go_simp;exact hK _ _ ⟨rfl,Fr.refl _ _⟩)
 refine⟨IsW.lasts _,?_,?_⟩
 ·intro vs w2 hf hh K hK;have c0:=hf.stayd c0;have c1:=hf.stayd c1;simp only [Held,List.getD_cons_zero,List.getD_cons_succ,Just,and_true] at hh;(try simp only [hh] at hK ⊢);go_simp;refine (copied_any _ 0 _ l (hu.fr0 (((Fr.refl [] w).drew).then hf)) (by omega)).mono ?_;rintro e w3 ⟨v3,rfl,u3,f3⟩;exact hK _ _ ⟨⟨l,u3.mono (Nat.zero_le _),hi⟩,f3⟩
 intro vs w2 hf hh
 simp only [HeldAll,Just,and_true,Nat.reduceAdd] at hh
 obtain⟨e0,e1,e2,e3,e4,e5,e6,e7,e8,e9,e10⟩:=hh
 simp only [e0,e1,e2,e3,e4,e5,e6,e7,e8,e9]
 clear e0 e1 e2 e3 e4 e5 e6 e7 e8 e9
 generalize vs 10=v10 at e10 ⊢
 clear vs
 have c0:=hf.stayd c0
 have c1:=hf.stayd c1
 obtain⟨l2,u2,i2⟩:=e10
 have fw:Fr [] w w2:=((Fr.refl [] w).drew).then hf
 have hl2:=hn.len i2
 go_wp2_with fail
 refine (set_any _ b o 0 true _ l2 (-(n:Int)) (hr.fr0 fw) u2 (by omega) (by rw [if_pos rfl,i2.val])).mono ?_
 rintro e w3 ⟨rfl,h3,f3,-⟩
 go_wp2
 go_ret
 exact⟨rfl,h3,(fw.mono (by simp)).trans f3 (by simp)⟩
theorem len_bits {l:List Nat} {n A m:Nat} (hi:Is l n) (h:n<2 ^ A) (hA:A≤32 * m):l.length≤m :=
 hi.len_of (by rw [show (4294967296:Nat)=2 ^ 32 from rfl,← Nat.pow_mul];exact Nat.lt_of_lt_of_le h (Nat.pow_le_pow_right (by omega) hA))
def ratioV (neg:Bool) (v u:Value):Value:=.agg #[.bool neg,v,u]
theorem ratTaken (w:World) (neg:Bool) (v u:Value) (l:List Nat) (N A:Nat) (hv:U32 w 0 v l) (hi:Is l N) (hu:U32 w 0 u [1]) (hn:neg=true→0<N) (hA:A≤524288) (hA1:1≤A) (hb:N<2 ^ A) (hT:TabAt 7 Lib.deBruijn32tab w) :
  Calls Tryz.prog 164 #[ratioV neg v u] w fun e w'=>∃ p,e=.returned (.tuple #[.pointer (some ⟨p,0,none⟩),.int .i64 0])∧Fr [] w w':=by
 have hl:l.length≤16384:=len_bits hi hb (by omega)
 have i1:Is [1] 1:=⟨hu.digs,Norm.of_last (.inr (by simp)),by simp [val]⟩
 have hf:Fits N:=Fits.of_bits hb (by omega)
 have Hn:=Go.Lib.hid hn;clear hn
 have Hb:=Go.Lib.hid hb;clear hb
 have HT:=Go.Lib.hid hT;clear hT
 have hvv:=hv
 have huu:=hu
 obtain⟨ao,cap,hv1,hcap,-⟩:=hv.shape
 obtain⟨b1,o1,cap1,hu1,hcap1,-⟩:=hu.one_shape
 subst hv1 hu1
 unfold ratioV
 generalize hW:w.alloc (.cells #[.bool neg,.slice ao l.length cap,.slice (some ⟨b1,o1,none⟩) 1 cap1] 176)=W
 have fW:Fr [] w W:=by rw [← hW];exact (Fr.refl [] w).alloc _
 have c0:W.cell? ⟨w.heap.size,0,none⟩=some (.bool neg):=by rw [← hW];exact cell_new _ _ _ _ _ _ rfl
 have c1:W.cell? ⟨w.heap.size,1,none⟩=some (.slice ao l.length cap):=by rw [← hW];exact cell_new _ _ _ _ _ _ rfl
 have c2:W.cell? ⟨w.heap.size,2,none⟩=some (.slice (some ⟨b1,o1,none⟩) 1 cap1):=by rw [← hW];exact cell_new _ _ _ _ _ _ rfl
 go_enter Tryz.func164,Tryz.ntmps164
 go_wp2_with fail
 clear hW
 refine (natCheck_ok _ 0 _ l N (hvv.fr0 fW) hi hl).mono ?_
 rintro e w1 ⟨rfl,f1⟩
 have c0:=f1.stay c0 (by simp)
 have c1:=f1.stay c1 (by simp)
 have c2:=f1.stay c2 (by simp)
 have g1:=fW.then f1
 go_wp2_with fail
 refine (natCheck_ok _ 0 _ [1] 1 (huu.fr0 g1) i1 (by simp)).mono ?_
 rintro e w2 ⟨rfl,f2⟩
 have c0:=f2.stay c0 (by simp)
 have c1:=f2.stay c1 (by simp)
 have c2:=f2.stay c2 (by simp)
 have g2:=g1.then f2
 go_wp2_with fail
 have d0:w2.drew.cell? ⟨w.heap.size,0,none⟩=_:=c0
 have d1:w2.drew.cell? ⟨w.heap.size,1,none⟩=_:=c1
 have d2:w2.drew.cell? ⟨w.heap.size,2,none⟩=_:=c2
 have g2d:Fr [] w w2.drew:=g2.drew
 go_region_held3 (fun w'=>w'.cell? ⟨w.heap.size,0,none⟩=some (.bool neg)∧w'.cell? ⟨w.heap.size,1,none⟩=some (.slice ao l.length cap)∧w'.cell? ⟨w.heap.size,2,none⟩=some (.slice (some ⟨b1,o1,none⟩) 1 cap1)) (first | exact⟨d0,d1,d2⟩ | exact⟨j0,j1,j2⟩ | exact⟨k0,k1,k2⟩) (first | (go_at_call_of 208 l.length;refine (ratioWhole_any _ 0 _ l (hvv.fr0 g2d) (by omega)).mono ?_;rintro e w3 ⟨x3,rfl,⟨p3,rfl,hp3,hi3⟩,f3⟩;have j0:=f3.stay d0 (by simp);have j1:=f3.stay d1 (by simp);have j2:=f3.stay d2 (by simp)) | (go_at_call 208;refine (ratioWhole_any _ 0 _ [1] (huu.fr0 (g2d.then f3)) (by simp)).mono ?_;rintro e w4 ⟨x4,rfl,⟨p4,rfl,hp4,hi4⟩,f4⟩;have k0:=f4.stay j0 (by simp);have k1:=f4.stay j1 (by simp);have k2:=f4.stay j2 (by simp)))
 rw [hi.val] at hi3
 rw [i1.val] at hi4
 have g4:Fr [] w w4:=(g2d.then f3).then f4
 have hp34:p3 ≠ p4:=by have:=hi3.lt;omega
 have hi3':=hi3.fr0 f4
 have hwp3:w.heap.size≤p3:=by have:=g2d.size;omega
 have hwp3':w.heap.size<p3:=by
  have h1:w.heap.size<w2.drew.heap.size:=World.block_lt_of_cell? w2.drew ⟨w.heap.size,0,none⟩ d0
  omega
 have fits1:Fits ((N:Int)).natAbs:=by rw [Int.natAbs_natCast];exact hf
 clear d0 d1 d2 j0 j1 j2 c0 c1 c2 hp3 hp4 fW f1 f2 f3 f4 g1 g2 g2d hi3
 cases neg
 ·have hr6:=RatRoom.new w4
  have fr6:=(Fr.refl [] w4).alloc (.cells #[.bool false,.slice none 0 0,.slice none 0 0] 317)
  go_wp2_with fail
  refine (setFrac_one _ _ p3 p4 (((N:Nat):Int)) hr6 (hi3'.fr0 fr6) (hi4.fr0 fr6) (by first | exact fits1 | (rw [Int.natAbs_neg];exact fits1)) (fun j hj=>(g4.then fr6).stay (HT.out j hj) (by simp))).mono ?_
  rintro e w7 ⟨rfl,h7,f7⟩
  have g7:Fr [] w w7:=(g4.then fr6).after f7 (by simp;exact g4.size)
  have hsz7:w.heap.size<w4.heap.size:=World.block_lt_of_cell? w4 ⟨w.heap.size,0,none⟩ k0
  have k0:=f7.stay (fr6.stay k0 (by simp)) (by simp;omega)
  have k1:=f7.stay (fr6.stay k1 (by simp)) (by simp;omega)
  have k2:=f7.stay (fr6.stay k2 (by simp)) (by simp;omega)
  have hd7:=(hi4.fr0 fr6).fr f7 hr6.int.noWord (by have:=hi4.lt;simp;omega)
  go_wp2_with fail
  refine (ratTold _ _ A (((N:Nat):Int)) h7 hA (by first | (rw [Int.natAbs_natCast];exact Hb.out) | (rw [Int.natAbs_neg,Int.natAbs_natCast];exact Hb.out)) hA1).mono ?_
  rintro e w8 ⟨v8,u8,l8,rfl,hv8,hl8,hu8,f8⟩
  have hl8':Is l8 N:=by first | (rw [Int.natAbs_natCast] at hl8;exact hl8) | (rw [Int.natAbs_neg,Int.natAbs_natCast] at hl8;exact hl8)
  obtain rfl:=hl8'.eq hi
  have k0:=f8.stay k0 (by simp)
  have k1:=f8.stay k1 (by simp)
  have k2:=f8.stay k2 (by simp)
  have h8:=h7.fr0 f8
  have hd8:=hd7.fr0 f8
  have g8:=g7.then f8
  have hsgn:decide ((((N:Nat):Int))<0)=false:=by simp
  rw [hsgn]
  clear hsgn
  obtain⟨ao8,cap8,rfl,hcap8,-⟩:=hv8.shape
  obtain⟨b8,o8,cap9,rfl,hcap9,-⟩:=hu8.one_shape
  have fr9:=(Fr.refl [] w8).alloc (.cells #[.bool false,.slice ao8 l8.length cap8,.slice (some ⟨b8,o8,none⟩) 1 cap9] 176)
  go_wp2_with fail
  generalize hWy:w8.alloc (.cells #[.bool false,.slice ao8 l8.length cap8,.slice (some ⟨b8,o8,none⟩) 1 cap9] 176)=Wy at fr9
  have y0:Wy.cell? ⟨w8.heap.size,0,none⟩=some (.bool false):=by rw [← hWy];exact cell_new _ _ _ _ _ _ rfl
  have y1:Wy.cell? ⟨w8.heap.size,1,none⟩=some (.slice ao8 l8.length cap8):=by rw [← hWy];exact cell_new _ _ _ _ _ _ rfl
  have y2:Wy.cell? ⟨w8.heap.size,2,none⟩=some (.slice (some ⟨b8,o8,none⟩) 1 cap9):=by rw [← hWy];exact cell_new _ _ _ _ _ _ rfl
  have k0:=fr9.stay k0 (by simp)
  have k1:=fr9.stay k1 (by simp)
  have k2:=fr9.stay k2 (by simp)
  clear hWy
  have g9:=g8.then fr9
  refine region_mono_g [] 16 [[],[0],[1],[2],[2,3],[2],[2,5],[2,4,6],[2,7],[8],[9],[9,10],[9],[9,11,12],[9,13],[9,14]] [none,none,none,none,none,none,none,none,none,none,none,some (OneInt (1:Nat)),none,none,none,none] (by kernel_rfl) (by kernel_rfl) ?_
  simp only [Chain,fill,Act.put,List.nil_append,List.cons_append,List.take_succ_cons,List.take_zero,List.drop_succ_cons,List.drop_zero,List.setIfInBounds_toArray,List.set_cons_zero,List.set_cons_succ,Nat.reduceAdd]
  iterate 4 (apply Exists.intro;apply And.intro;·intro vs w2 hf hh K hK;have k0:=hf.stayd k0;have k1:=hf.stayd k1;have k2:=hf.stayd k2;have y0:=hf.stayd y0;have y1:=hf.stayd y1;have y2:=hf.stayd y2;simp only [Held,List.getD_cons_zero,List.getD_cons_succ,Just,and_true] at hh;(try simp only [hh] at hK ⊢);go_simp;exact hK _ _ ⟨rfl,Fr.refl _ _⟩)
  apply Exists.intro;apply And.intro
  ·intro vs w2 hf hh K hK;have k0:=hf.stayd k0;have k1:=hf.stayd k1;have k2:=hf.stayd k2;have y0:=hf.stayd y0;have y1:=hf.stayd y1;have y2:=hf.stayd y2;simp only [Held,List.getD_cons_zero,List.getD_cons_succ,Just,and_true] at hh;(try simp only [hh] at hK ⊢);go_simp;refine (ratSeen _ false _ _ l8 [1] ((hv8.fr0 (fr9.drew)).fr0 hf) ((hu8.fr0 (fr9.drew)).fr0 hf)).mono ?_;rintro e w9 ⟨rfl,f9⟩;exact hK _ _ ⟨rfl,f9⟩
  apply Exists.intro;apply And.intro
  ·intro vs w2 hf hh K hK;have k0:=hf.stayd k0;have k1:=hf.stayd k1;have k2:=hf.stayd k2;have y0:=hf.stayd y0;have y1:=hf.stayd y1;have y2:=hf.stayd y2;simp only [Held,List.getD_cons_zero,List.getD_cons_succ,Just,and_true] at hh;(try simp only [hh] at hK ⊢);go_simp;exact hK _ _ ⟨rfl,Fr.refl _ _⟩
  apply Exists.intro;apply And.intro
  ·intro vs w2 hf hh K hK;have k0:=hf.stayd k0;have k1:=hf.stayd k1;have k2:=hf.stayd k2;have y0:=hf.stayd y0;have y1:=hf.stayd y1;have y2:=hf.stayd y2;simp only [Held,List.getD_cons_zero,List.getD_cons_succ,Just,and_true] at hh;(try simp only [hh] at hK ⊢);go_simp;refine (ratSeen _ false _ _ l8 [1] ((hvv.fr0 (g9.drew)).fr0 hf) ((huu.fr0 (g9.drew)).fr0 hf)).mono ?_;rintro e w9 ⟨rfl,f9⟩;exact hK _ _ ⟨rfl,f9⟩
  iterate 4 (apply Exists.intro;apply And.intro;·intro vs w2 hf hh K hK;simp only [Held,List.getD_cons_zero,List.getD_cons_succ,Just,and_true] at hh;(try simp only [hh] at hK ⊢);go_simp;exact hK _ _ ⟨rfl,Fr.refl _ _⟩)
  refine⟨OneInt.lasts _,?_,?_⟩
  ·intro vs w2 hf hh K hK;have k0:=hf.stayd k0;have k1:=hf.stayd k1;have k2:=hf.stayd k2;have y0:=hf.stayd y0;have y1:=hf.stayd y1;have y2:=hf.stayd y2;simp only [Held,List.getD_cons_zero,List.getD_cons_succ,Just,and_true] at hh;(try simp only [hh] at hK ⊢);go_simp;refine (ratDenom _ _ _ ((h8.fr0 fr9.drew).fr0 hf)).mono ?_;rintro e w9 ⟨x,rfl,u9,f9⟩;exact hK _ _ ⟨u9,f9⟩
  apply Exists.intro;apply And.intro
  ·intro vs w2 hf hh K hK;simp only [Held,List.getD_cons_zero,List.getD_cons_succ,Just,and_true] at hh;(try simp only [hh] at hK ⊢);go_simp;exact hK _ _ ⟨rfl,Fr.refl _ _⟩
  apply Exists.intro;apply And.intro
  ·intro vs w2 hf hh K hK;have k0:=hf.stayd k0;have k1:=hf.stayd k1;have k2:=hf.stayd k2;have y0:=hf.stayd y0;have y1:=hf.stayd y1;have y2:=hf.stayd y2;simp only [Held,List.getD_cons_zero,List.getD_cons_succ,Just,and_true] at hh;(try simp only [hh] at hK ⊢);obtain⟨hg,⟨p9,hp9,hi9⟩,h12⟩:=hh;simp only [hp9] at hK ⊢;go_simp;refine (intCmp_nat _ _ 0 _ 0 1 1 hi9 ((hd8.fr0 fr9.drew).fr0 hf) (Fits.of_bits (k:=1) (by omega) (by omega)) (Fits.of_bits (k:=1) (by omega) (by omega))).mono ?_;rintro e w9 ⟨rfl,f9⟩;rw [show cmpI 1 1=0 from rfl];exact hK _ _ ⟨rfl,f9⟩
  iterate 2 (apply Exists.intro;apply And.intro;·intro vs w2 hf hh K hK;simp only [Held,List.getD_cons_zero,List.getD_cons_succ,Just,and_true] at hh;(try simp only [hh] at hK ⊢);go_simp;exact hK _ _ ⟨rfl,Fr.refl _ _⟩)
  intro vs w2 hf hh
  simp only [HeldAll,Just,and_true,Nat.reduceAdd] at hh
  obtain⟨e0,e1,e2,e3,e4,e5,e6,e7,e8,e9,e10,e11,e12,e13,e14,e15⟩:=hh
  simp only [e0,e1,e2,e3,e4,e5,e6,e7,e8,e9,e10,e12,e13,e14,e15]
  clear e0 e1 e2 e3 e4 e5 e6 e7 e8 e9 e10 e12 e13 e14 e15
  generalize vs 11=v11 at e11 ⊢
  clear vs
  have k0:=hf.stayd k0
  have k1:=hf.stayd k1
  have k2:=hf.stayd k2
  have y0:=hf.stayd y0
  have y1:=hf.stayd y1
  have y2:=hf.stayd y2
  clear k0 k1 k2 y0 y1 y2
  go_wp2
  go_ret2
  exact⟨_,rfl,(g9.drew).then hf⟩
 ·go_wp2_with fail
  refine (intNeg_nat _ p3 0 p3 0 N hi3'.room hi3' hf).mono ?_
  rintro e w5 ⟨rfl,hn5,f5⟩
  have k0:=f5.stay k0 (by simp;omega)
  have k1:=f5.stay k1 (by simp;omega)
  have k2:=f5.stay k2 (by simp;omega)
  have hd5:=hi4.fr f5 hi3'.noWord (by simp;exact fun h=>hp34 h.symm)
  have g5:Fr [] w w5:=g4.after f5 (by simpa using hwp3)
  have hr6:=RatRoom.new w5
  have fr6:=(Fr.refl [] w5).alloc (.cells #[.bool false,.slice none 0 0,.slice none 0 0] 317)
  go_wp2_with fail
  refine (setFrac_one _ _ p3 p4 (-((N:Nat):Int)) hr6 (hn5.fr0 fr6) (hd5.fr0 fr6) (by first | exact fits1 | (rw [Int.natAbs_neg];exact fits1)) (fun j hj=>(g5.then fr6).stay (HT.out j hj) (by simp))).mono ?_
  rintro e w7 ⟨rfl,h7,f7⟩
  have g7:Fr [] w w7:=(g5.then fr6).after f7 (by simp;exact g5.size)
  have hsz7:w.heap.size<w5.heap.size:=World.block_lt_of_cell? w5 ⟨w.heap.size,0,none⟩ k0
  have k0:=f7.stay (fr6.stay k0 (by simp)) (by simp;omega)
  have k1:=f7.stay (fr6.stay k1 (by simp)) (by simp;omega)
  have k2:=f7.stay (fr6.stay k2 (by simp)) (by simp;omega)
  have hd7:=(hd5.fr0 fr6).fr f7 hr6.int.noWord (by have:=hd5.lt;simp;omega)
  go_wp2_with fail
  refine (ratTold _ _ A (-((N:Nat):Int)) h7 hA (by first | (rw [Int.natAbs_natCast];exact Hb.out) | (rw [Int.natAbs_neg,Int.natAbs_natCast];exact Hb.out)) hA1).mono ?_
  rintro e w8 ⟨v8,u8,l8,rfl,hv8,hl8,hu8,f8⟩
  have hl8':Is l8 N:=by first | (rw [Int.natAbs_natCast] at hl8;exact hl8) | (rw [Int.natAbs_neg,Int.natAbs_natCast] at hl8;exact hl8)
  obtain rfl:=hl8'.eq hi
  have k0:=f8.stay k0 (by simp)
  have k1:=f8.stay k1 (by simp)
  have k2:=f8.stay k2 (by simp)
  have h8:=h7.fr0 f8
  have hd8:=hd7.fr0 f8
  have g8:=g7.then f8
  have hsgn:decide ((-((N:Nat):Int))<0)=true:=by (have:=Hn.out trivial;simp;omega)
  rw [hsgn]
  clear hsgn
  obtain⟨ao8,cap8,rfl,hcap8,-⟩:=hv8.shape
  obtain⟨b8,o8,cap9,rfl,hcap9,-⟩:=hu8.one_shape
  have fr9:=(Fr.refl [] w8).alloc (.cells #[.bool true,.slice ao8 l8.length cap8,.slice (some ⟨b8,o8,none⟩) 1 cap9] 176)
  go_wp2_with fail
  generalize hWy:w8.alloc (.cells #[.bool true,.slice ao8 l8.length cap8,.slice (some ⟨b8,o8,none⟩) 1 cap9] 176)=Wy at fr9
  have y0:Wy.cell? ⟨w8.heap.size,0,none⟩=some (.bool true):=by rw [← hWy];exact cell_new _ _ _ _ _ _ rfl
  have y1:Wy.cell? ⟨w8.heap.size,1,none⟩=some (.slice ao8 l8.length cap8):=by rw [← hWy];exact cell_new _ _ _ _ _ _ rfl
  have y2:Wy.cell? ⟨w8.heap.size,2,none⟩=some (.slice (some ⟨b8,o8,none⟩) 1 cap9):=by rw [← hWy];exact cell_new _ _ _ _ _ _ rfl
  have k0:=fr9.stay k0 (by simp)
  have k1:=fr9.stay k1 (by simp)
  have k2:=fr9.stay k2 (by simp)
  clear hWy
  have g9:=g8.then fr9
  refine region_mono_g [] 16 [[],[0],[1],[2],[2,3],[2],[2,5],[2,4,6],[2,7],[8],[9],[9,10],[9],[9,11,12],[9,13],[9,14]] [none,none,none,none,none,none,none,none,none,none,none,some (OneInt (1:Nat)),none,none,none,none] (by kernel_rfl) (by kernel_rfl) ?_
  simp only [Chain,fill,Act.put,List.nil_append,List.cons_append,List.take_succ_cons,List.take_zero,List.drop_succ_cons,List.drop_zero,List.setIfInBounds_toArray,List.set_cons_zero,List.set_cons_succ,Nat.reduceAdd]
  iterate 4 (apply Exists.intro;apply And.intro;·intro vs w2 hf hh K hK;have k0:=hf.stayd k0;have k1:=hf.stayd k1;have k2:=hf.stayd k2;have y0:=hf.stayd y0;have y1:=hf.stayd y1;have y2:=hf.stayd y2;simp only [Held,List.getD_cons_zero,List.getD_cons_succ,Just,and_true] at hh;(try simp only [hh] at hK ⊢);go_simp;exact hK _ _ ⟨rfl,Fr.refl _ _⟩)
  apply Exists.intro;apply And.intro
  ·intro vs w2 hf hh K hK;have k0:=hf.stayd k0;have k1:=hf.stayd k1;have k2:=hf.stayd k2;have y0:=hf.stayd y0;have y1:=hf.stayd y1;have y2:=hf.stayd y2;simp only [Held,List.getD_cons_zero,List.getD_cons_succ,Just,and_true] at hh;(try simp only [hh] at hK ⊢);go_simp;refine (ratSeen _ true _ _ l8 [1] ((hv8.fr0 (fr9.drew)).fr0 hf) ((hu8.fr0 (fr9.drew)).fr0 hf)).mono ?_;rintro e w9 ⟨rfl,f9⟩;exact hK _ _ ⟨rfl,f9⟩
  apply Exists.intro;apply And.intro
  ·intro vs w2 hf hh K hK;have k0:=hf.stayd k0;have k1:=hf.stayd k1;have k2:=hf.stayd k2;have y0:=hf.stayd y0;have y1:=hf.stayd y1;have y2:=hf.stayd y2;simp only [Held,List.getD_cons_zero,List.getD_cons_succ,Just,and_true] at hh;(try simp only [hh] at hK ⊢);go_simp;exact hK _ _ ⟨rfl,Fr.refl _ _⟩
  apply Exists.intro;apply And.intro
  ·intro vs w2 hf hh K hK;have k0:=hf.stayd k0;have k1:=hf.stayd k1;have k2:=hf.stayd k2;have y0:=hf.stayd y0;have y1:=hf.stayd y1;have y2:=hf.stayd y2;simp only [Held,List.getD_cons_zero,List.getD_cons_succ,Just,and_true] at hh;(try simp only [hh] at hK ⊢);go_simp;refine (ratSeen _ true _ _ l8 [1] ((hvv.fr0 (g9.drew)).fr0 hf) ((huu.fr0 (g9.drew)).fr0 hf)).mono ?_;rintro e w9 ⟨rfl,f9⟩;exact hK _ _ ⟨rfl,f9⟩
  iterate 4 (apply Exists.intro;apply And.intro;·intro vs w2 hf hh K hK;simp only [Held,List.getD_cons_zero,List.getD_cons_succ,Just,and_true] at hh;(try simp only [hh] at hK ⊢);go_simp;exact hK _ _ ⟨rfl,Fr.refl _ _⟩)
  refine⟨OneInt.lasts _,?_,?_⟩
  ·intro vs w2 hf hh K hK;have k0:=hf.stayd k0;have k1:=hf.stayd k1;have k2:=hf.stayd k2;have y0:=hf.stayd y0;have y1:=hf.stayd y1;have y2:=hf.stayd y2;simp only [Held,List.getD_cons_zero,List.getD_cons_succ,Just,and_true] at hh;(try simp only [hh] at hK ⊢);go_simp;refine (ratDenom _ _ _ ((h8.fr0 fr9.drew).fr0 hf)).mono ?_;rintro e w9 ⟨x,rfl,u9,f9⟩;exact hK _ _ ⟨u9,f9⟩
  apply Exists.intro;apply And.intro
  ·intro vs w2 hf hh K hK;simp only [Held,List.getD_cons_zero,List.getD_cons_succ,Just,and_true] at hh;(try simp only [hh] at hK ⊢);go_simp;exact hK _ _ ⟨rfl,Fr.refl _ _⟩
  apply Exists.intro;apply And.intro
  ·intro vs w2 hf hh K hK;have k0:=hf.stayd k0;have k1:=hf.stayd k1;have k2:=hf.stayd k2;have y0:=hf.stayd y0;have y1:=hf.stayd y1;have y2:=hf.stayd y2;simp only [Held,List.getD_cons_zero,List.getD_cons_succ,Just,and_true] at hh;(try simp only [hh] at hK ⊢);obtain⟨hg,⟨p9,hp9,hi9⟩,h12⟩:=hh;simp only [hp9] at hK ⊢;go_simp;refine (intCmp_nat _ _ 0 _ 0 1 1 hi9 ((hd8.fr0 fr9.drew).fr0 hf) (Fits.of_bits (k:=1) (by omega) (by omega)) (Fits.of_bits (k:=1) (by omega) (by omega))).mono ?_;rintro e w9 ⟨rfl,f9⟩;rw [show cmpI 1 1=0 from rfl];exact hK _ _ ⟨rfl,f9⟩
  iterate 2 (apply Exists.intro;apply And.intro;·intro vs w2 hf hh K hK;simp only [Held,List.getD_cons_zero,List.getD_cons_succ,Just,and_true] at hh;(try simp only [hh] at hK ⊢);go_simp;exact hK _ _ ⟨rfl,Fr.refl _ _⟩)
  intro vs w2 hf hh
  simp only [HeldAll,Just,and_true,Nat.reduceAdd] at hh
  obtain⟨e0,e1,e2,e3,e4,e5,e6,e7,e8,e9,e10,e11,e12,e13,e14,e15⟩:=hh
  simp only [e0,e1,e2,e3,e4,e5,e6,e7,e8,e9,e10,e12,e13,e14,e15]
  clear e0 e1 e2 e3 e4 e5 e6 e7 e8 e9 e10 e12 e13 e14 e15
  generalize vs 11=v11 at e11 ⊢
  clear vs
  have k0:=hf.stayd k0
  have k1:=hf.stayd k1
  have k2:=hf.stayd k2
  have y0:=hf.stayd y0
  have y1:=hf.stayd y1
  have y2:=hf.stayd y2
  clear k0 k1 k2 y0 y1 y2
  go_wp2
  go_ret2
  exact⟨_,rfl,(g9.drew).then hf⟩
theorem ratioCheck_ok (w:World) (neg:Bool) (v u:Value) (l:List Nat) (N A:Nat) (hv:U32 w 0 v l) (hi:Is l N) (hu:U32 w 0 u [1]) (hn:neg=true→0<N) (hA:A≤524288) (hA1:1≤A) (hb:N<2 ^ A) (hT:TabAt 7 Lib.deBruijn32tab w) :
  Calls Tryz.prog 123 #[ratioV neg v u] w fun e w'=>e=.returned (.int .i64 0)∧Fr [] w w':=by
 have fA:∀ o,Fr [] w (w.alloc o):=fun o=>(Fr.refl [] w).alloc o
 have key:∀ o,Calls Tryz.prog 164 #[ratioV neg v u] (w.alloc o) fun e w'=>∃ p,e=.returned (.tuple #[.pointer (some ⟨p,0,none⟩),.int .i64 0])∧Fr [] (w.alloc o) w' :=
  fun o=>ratTaken _ neg v u l N A (hv.fr0 (fA o)) hi (hu.fr0 (fA o)) hn hA hA1 hb (fun j hj=>(fA o).stay (hT j hj) (by simp))
 obtain⟨ao,cap,hv1,hcap,-⟩:=hv.shape
 obtain⟨b1,o1,cap1,hu1,hcap1,-⟩:=hu.one_shape
 subst hv1 hu1
 unfold ratioV at *
 clear hv hu hT hn
 go_enter Tryz.func123,Tryz.ntmps123
 go_wp2_with fail
 refine (key _).mono ?_
 rintro e w1 ⟨p,rfl,f1⟩
 go_wp2
 go_ret
 exact⟨rfl,(fA _).then f1⟩
end Go.Proofs.YtcmndpjemdjalaaGreatDoor
namespace Go.Proofs.YtcmndpjemdjalaaGreatDoor
open Go.RowKit
open Pb
theorem intExp_zero (w:World) (b o b2 o2 b3 o3:Nat) (x:Nat) (hr:IntRoom w b o) (h:IntAt w b2 o2 x) (h':IntAt w b3 o3 (0:Nat)) (hxf:Fits x) :
  Calls Tryz.prog 124 #[.pointer (some ⟨b,o,none⟩),.pointer (some ⟨b2,o2,none⟩),.pointer (some ⟨b3,o3,none⟩),.pointer none] w fun e w' =>
   e=.returned (.pointer (some ⟨b,o,none⟩))∧IntAt w' b o ((1:Nat):Int)∧Fr [b] w w':=by
 have hr0:=IntRoom.new w
 have f0:Fr [] w (w.alloc (.cells #[.bool false,.slice none 0 0] 236)):=(Fr.refl [] w).alloc _
 go_enter Tryz.func124,Tryz.ntmps124
 go_wp2_with fail
 refine (newInt_nat _ 1 (by omega)).mono ?_
 rintro e w1 ⟨rfl,h1,f1⟩
 have hr1:=IntRoom.new w1
 go_wp2_with fail
 refine (intSet_any _ _ 0 b2 o2 x hr1 (((h.fr0 f0).fr0 f1).fr0 ((Fr.refl [] w1).alloc _)) (by simpa using hxf)).mono ?_
 rintro e w2 ⟨rfl,h2,f2⟩
 have fA:Fr [] w (w1.alloc (.cells #[.bool false,.slice none 0 0] 236)):=(f0.then f1).alloc _
 have fB:Fr [] w w2:=fA.after f2 (by simpa using (f0.then f1).size)
 have h3:=h'.fr0 fB
 have hsz1:w.heap.size+1<w1.heap.size:=by simpa using h1.lt
 have cb:w2.cell? ⟨w.heap.size,1,none⟩=some (.slice none 0 0):=f2.stay (((Fr.refl [] w1).alloc _).stay (f1.stay (cell_new w _ _ _ 1 _ rfl) (by simp)) (by simp)) (by simp;omega)
 have k1:IntAt w2 (w.heap.size+1) 0 (1:Nat):=by
  have:=h1
  rw [World.size_alloc] at this
  exact (this.fr0 ((Fr.refl [] w1).alloc _)).fr f2 hr1.noWord (by simp;omega)
 go_wp2_with fail
 refine (sign_any _ b3 o3 _ h3).mono ?_
 rintro e w3 ⟨rfl,f3⟩
 have cb:=f3.stay cb (by simp)
 have k2:=k1.fr0 f3
 go_wp2_with fail
 refine (intSet_any _ b o _ 0 _ (hr.fr0 (fB.then f3)) k2 (Fits.of_bits (k:=1) (by simp) (by omega))).mono ?_
 rintro e w4 ⟨rfl,h4,f4⟩
 go_wp2
 go_ret
 exact⟨rfl,h4,((fB.then f3).mono (by simp)).trans f4 (by simp)⟩
theorem intExp_any (w:World) (b o b2 o2 b3 o3:Nat) (x y:Nat) (hr:IntRoom w b o) (h:IntAt w b2 o2 x) (h':IntAt w b3 o3 y) (hx:1≤x) (hxf:Fits x) (hy:Fits y) (hxy:Fits (x ^ y)) :
  Calls Tryz.prog 124 #[.pointer (some ⟨b,o,none⟩),.pointer (some ⟨b2,o2,none⟩),.pointer (some ⟨b3,o3,none⟩),.pointer none] w fun e w' =>
   e=.returned (.pointer (some ⟨b,o,none⟩))∧IntAt w' b o ((x ^ y:Nat):Int)∧Fr [b] w w':=by
 rcases Nat.eq_zero_or_pos y with rfl | hp
 ·exact intExp_zero w b o b2 o2 b3 o3 x hr h h' hxf
 ·exact intExp_nat w b o b2 o2 b3 o3 x y hr h h' hx hp hy hxy
def nearV (N:Nat) (n:Int):Int:=max (-((bitLen N+1:Nat):Int) - 1200) (min n (((bitLen N+1:Nat):Int)+1200))
def scaledV (N:Nat) (n E F:Int) (below neg:Bool) (mode:Nat):Int × Int :=
 if nearV N n<0 then signedV N (1 * 10 ^ (-(nearV N n)).toNat) E F below neg mode else signedV (N * 10 ^ (nearV N n).toNat) 1 E F below neg mode
theorem ten_pow_lt (n:Nat):10 ^ n<2 ^ (4 * n+1):=by
 have:10 ^ n≤16 ^ n:=Nat.pow_le_pow_left (by omega) n
 rw [Nat.pow_succ,Nat.pow_mul]
 have h2:(2:Nat) ^ 4=16:=rfl
 rw [h2]
 have h3:0<16 ^ n:=Nat.pow_pos (by omega)
 omega
def RowIs (lo:Nat) (o:Obj):Value→World→Prop:=fun v w=>∃ b,v=.pointer (some ⟨b,0,none⟩)∧lo≤b∧w.heap[b]?=some o
theorem RowIs.lasts (lo:Nat) (o:Obj):Lasts [] (RowIs lo o):=fun _ _ _ ⟨b,h,h1,h2⟩ hf=>⟨b,h,h1,hf.row h2 (by simp)⟩
def NumIs (lo N D:Nat):Value→World→Prop:=fun v w=>∃ p q,v=numV p q∧IntAt w p 0 N∧IntAt w q 0 D∧lo≤p∧lo≤q∧p ≠ q
theorem NumIs.lasts (lo N D:Nat):Lasts [] (NumIs lo N D):=fun _ _ _ ⟨p,q,h,h1,h2,h3⟩ hf=>⟨p,q,h,h1.fr0 hf,h2.fr0 hf,h3⟩
def OtherInt (lo:Nat) (n:Int) (j:Nat):PropD:=fun vs v w=>NewInt lo n v w∧v ≠ vs j
theorem OtherInt.lasts (lo:Nat) (n:Int) (j:Nat):LastsD [] (OtherInt lo n j):=fun _ _ _ _ h hf=>⟨NewInt.lasts _ _ _ _ _ h.1 hf,h.2⟩
theorem OtherInt.looks (lo:Nat) (n:Int) (j:Nat) {d:List Nat} (hd:j∈d):LooksD d (OtherInt lo n j):=fun _ _ _ _ hj h=>⟨h.1,by rw [← hj j hd];exact h.2⟩
theorem scaled_any (w:World) (E F:Int) (below:Bool) (v u:Value) (l:List Nat) (N A:Nat) (n:Int) (neg:Bool) (mode:Nat) (hF:FormOk E F) (hv:U32 w 0 v l) (hi:Is l N) (hu:U32 w 0 u [1]) (hn:below=true→0<N) (hA:A≤262144) (hA1:1≤A) (hb:N<2 ^ A)
  (hn1:-4611686018427387904≤n) (hn2:n≤4611686018427387904) (hm:mode<5) (hT:TabAt 7 Lib.deBruijn32tab w) :
  Calls Tryz.prog 80 #[formV E F,ratioV below v u,.int .i64 n,.bool neg,.int .u8 mode] w fun e w' =>
   e=.returned (.tuple #[.int .u64 (scaledV N n E F below neg mode).1,.int .u8 (scaledV N n E F below neg mode).2,.int .i64 0])∧Fr [] w w':=by
 have i1:Is [1] 1:=⟨hu.digs,Norm.of_last (.inr (by simp)),by simp [val]⟩
 have hl:l.length≤16384:=len_bits hi hb (by omega)
 obtain⟨ao,cap,hv1,hcap,-⟩:=hv.shape
 obtain⟨b1,o1,cap1,hu1,hcap1,-⟩:=hu.one_shape
 have hcheck:=fun w' (hf:Fr [] w w')=>formsCheck_ok E F w' hF
 have hratio:=fun w' (hf:Fr [] w w')=>ratioCheck_ok w' below v u l N A (hv.fr0 hf) hi (hu.fr0 hf) hn (by omega) hA1 hb (fun j hj=>hf.stay (hT j hj) (by simp))
 subst hv1 hu1
 have Hb:=Go.Lib.hid hb;clear hb
 have Hn:=Go.Lib.hid hn;clear hn
 unfold formV ratioV at *
 have hmm:¬ ((4:Int)<(mode:Int)):=by omega
 generalize hW:(w.alloc (.cells #[.int .i64 E,.int .i64 F] 39)).alloc (.cells #[.bool below,.slice ao l.length cap,.slice (some ⟨b1,o1,none⟩) 1 cap1] 176)=W
 have fW:Fr [] w W:=by rw [← hW];exact ((Fr.refl [] w).alloc _).alloc _
 have c0:W.cell? ⟨w.heap.size,0,none⟩=some (.int .i64 E):=by rw [← hW];exact ((Fr.refl [] _).alloc _).stay (cell_new w _ _ _ 0 _ rfl) (by simp)
 have c1:W.cell? ⟨w.heap.size,1,none⟩=some (.int .i64 F):=by rw [← hW];exact ((Fr.refl [] _).alloc _).stay (cell_new w _ _ _ 1 _ rfl) (by simp)
 have d0:W.cell? ⟨w.heap.size+1,0,none⟩=some (.bool below):=by rw [← hW];have:=cell_new (w.alloc (.cells #[.int .i64 E,.int .i64 F] 39)) #[.bool below,.slice ao l.length cap,.slice (some ⟨b1,o1,none⟩) 1 cap1] 176 (0,0) 0 _ rfl;rwa [World.size_alloc] at this
 have d1:W.cell? ⟨w.heap.size+1,1,none⟩=some (.slice ao l.length cap):=by rw [← hW];have:=cell_new (w.alloc (.cells #[.int .i64 E,.int .i64 F] 39)) #[.bool below,.slice ao l.length cap,.slice (some ⟨b1,o1,none⟩) 1 cap1] 176 (0,0) 1 _ rfl;rwa [World.size_alloc] at this
 have d2:W.cell? ⟨w.heap.size+1,2,none⟩=some (.slice (some ⟨b1,o1,none⟩) 1 cap1):=by rw [← hW];have:=cell_new (w.alloc (.cells #[.int .i64 E,.int .i64 F] 39)) #[.bool below,.slice ao l.length cap,.slice (some ⟨b1,o1,none⟩) 1 cap1] 176 (0,0) 2 _ rfl;rwa [World.size_alloc] at this
 go_enter Tryz.func80,Tryz.ntmps80
 go_wp2_with fail
 clear hW
 refine (hcheck _ fW).mono ?_
 rintro e w1 ⟨rfl,f1⟩
 have c0:=f1.stay c0 (by simp)
 have c1:=f1.stay c1 (by simp)
 have d0:=f1.stay d0 (by simp)
 have d1:=f1.stay d1 (by simp)
 have d2:=f1.stay d2 (by simp)
 have g1:=fW.then f1
 go_wp2_with fail
 refine (hratio _ g1).mono ?_
 rintro e w2 ⟨rfl,f2⟩
 have c0:=f2.stay c0 (by simp)
 have c1:=f2.stay c1 (by simp)
 have d0:=f2.stay d0 (by simp)
 have d1:=f2.stay d1 (by simp)
 have d2:=f2.stay d2 (by simp)
 have g2:=g1.then f2
 clear hcheck hratio f1 f2 fW g1
 go_wp2_with fail
 have hsz2:w.heap.size+2≤w2.heap.size:=World.block_lt_of_cell? _ _ d0
 obtain⟨wa,hwa⟩:∃ x,x=w2:=⟨_,rfl⟩
 subst hwa
 refine region_mono_d [] 8 [[],[0],[1],[],[3],[2,4],[2,5],[]] [none,none,some (Sole (NewInt (w.heap.size+2) (N:Nat))),none,none,some (OtherInt (w.heap.size+2) (1:Nat) 2),some (Sole (NumIs (w.heap.size+2) N 1)),some (Sole (RowIs w.heap.size (.cells #[.pointer none,.pointer none] 184)))] (by kernel_rfl) (by kernel_rfl) ?_
 simp only [ChainD,fill,Act.put,List.nil_append,List.cons_append,List.take_succ_cons,List.take_zero,List.drop_succ_cons,List.drop_zero,List.setIfInBounds_toArray,List.set_cons_zero,List.set_cons_succ,Nat.reduceAdd]
 iterate 2 (apply Exists.intro;apply And.intro;·intro vs w2 hf hh K hK;have d0:=hf.stayd d0;have d1:=hf.stayd d1;have d2:=hf.stayd d2;simp only [HeldD,Sole,List.getD_cons_zero,Just,and_true] at hh;(try simp only [hh] at hK ⊢);go_simp;exact hK _ _ ⟨rfl,Fr.refl _ _⟩)
 refine⟨⟨Sole.lasts (NewInt.lasts _ _),Sole.looks _ _⟩,?_,?_⟩
 ·intro vs w2 hf hh K hK;have d0:=hf.stayd d0;have d1:=hf.stayd d1;have d2:=hf.stayd d2;simp only [HeldD,Sole,List.getD_cons_zero,List.getD_cons_succ,Just,and_true] at hh;(try simp only [hh] at hK ⊢);go_simp;refine (large_any _ 0 _ l (hv.fr0 ((g2.drew).then hf)) (by omega)).mono ?_;rintro e w3 ⟨x,rfl,u3,f3⟩;rw [hi.val] at u3;obtain⟨p9,rfl,hp9,hi9⟩:=u3;exact hK _ _ ⟨⟨p9,rfl,Nat.le_trans hsz2 (Nat.le_trans hf.size hp9),hi9⟩,f3⟩
 iterate 2 (apply Exists.intro;apply And.intro;·intro vs w2 hf hh K hK;have d0:=hf.stayd d0;have d1:=hf.stayd d1;have d2:=hf.stayd d2;simp only [HeldD,Sole,List.getD_cons_zero,List.getD_cons_succ,Just,and_true] at hh;(try simp only [hh] at hK ⊢);go_simp;exact hK _ _ ⟨rfl,Fr.refl _ _⟩)
 refine⟨⟨OtherInt.lasts _ _ _,OtherInt.looks _ _ _ (by simp)⟩,?_,?_⟩
 ·intro vs w2 hf hh K hK;have d0:=hf.stayd d0;have d1:=hf.stayd d1;have d2:=hf.stayd d2;simp only [HeldD,Sole,List.getD_cons_zero,List.getD_cons_succ,Just,and_true] at hh;(try simp only [hh] at hK ⊢);go_simp;obtain⟨⟨p8,hp8,hl8,hi8⟩,-⟩:=hh;refine (large_any _ 0 _ [1] (hu.fr0 ((g2.drew).then hf)) (by simp)).mono ?_;rintro e w3 ⟨x,rfl,u3,f3⟩;rw [i1.val] at u3;obtain⟨p9,rfl,hp9,hi9⟩:=u3;exact hK _ _ ⟨⟨⟨p9,rfl,Nat.le_trans hsz2 (Nat.le_trans hf.size hp9),hi9⟩,by rw [hp8];have:=hi8.lt;rintro h;cases h;omega⟩,f3⟩
 refine⟨⟨Sole.lasts (NumIs.lasts _ _ _),Sole.looks _ _⟩,?_,?_⟩
 ·intro vs w2 hf hh K hK;have d0:=hf.stayd d0;have d1:=hf.stayd d1;have d2:=hf.stayd d2;simp only [HeldD,Sole,List.getD_cons_zero,List.getD_cons_succ,and_true] at hh;(try simp only [] at hK ⊢);obtain⟨⟨p9,hp9,hl9,hi9⟩,⟨⟨q9,hq9,hm9,hj9⟩,hne⟩⟩:=hh;rw [hp9,hq9] at hne;simp only [hp9,hq9] at hK ⊢;go_simp;exact hK _ _ ⟨⟨p9,q9,rfl,hi9,hj9,hl9,hm9,fun h=>hne (by rw [h])⟩,Fr.refl _ _⟩
 refine⟨⟨Sole.lasts (RowIs.lasts _ _),Sole.looks _ _⟩,?_,?_⟩
 ·intro vs w2 hf hh K hK;have d0:=hf.stayd d0;have d1:=hf.stayd d1;have d2:=hf.stayd d2;simp only [HeldD] at hh;(try simp only [] at hK ⊢);go_simp;exact hK _ _ ⟨⟨_,rfl,(g2.drew.then hf).size,row_new _ _⟩,(Fr.refl _ _).alloc _⟩
 intro vs w2 hf hh
 simp only [HeldAllD,Sole,Just,and_true,Nat.reduceAdd] at hh
 obtain⟨e0,e1,e2,e3,e4,e5,e6,e7⟩:=hh
 simp only [e0,e1,e3,e4]
 clear e0 e1 e3 e4
 unfold OtherInt at e5
 generalize vs 2=v2 at e2 e5 e6 e7 ⊢
 generalize vs 5=v5 at e2 e5 e6 e7 ⊢
 generalize vs 6=v6 at e2 e5 e6 e7 ⊢
 generalize vs 7=v7 at e2 e5 e6 e7 ⊢
 try clear vs
 have d0:=hf.stayd d0
 have d1:=hf.stayd d1
 have d2:=hf.stayd d2
 clear e2 e5
 have c0:=hf.stayd c0
 have c1:=hf.stayd c1
 obtain⟨p,q,rfl,hp,hq,hlp,hlq,hpq⟩:=e6
 obtain⟨bx,rfl,hbx,hrow⟩:=e7
 have g3:Fr [] w w2:=(g2.drew).then hf
 have x0:w2.cell? ⟨bx,0,none⟩=some (.pointer none):=by rw [cell_of_row _ _ _ _ _ _ hrow];rfl
 have x1:w2.cell? ⟨bx,1,none⟩=some (.pointer none):=by rw [cell_of_row _ _ _ _ _ _ hrow];rfl
 have z0:=frozen_of_row w2 bx 0 _ _ hrow
 have z1:=frozen_of_row w2 bx 1 _ _ hrow
 have r1:=heap_setCell_same w2 bx 0 _ _ (.pointer (some ⟨p,0,none⟩)) hrow
 have r2:=heap_setCell_same _ bx 1 _ _ (.pointer (some ⟨q,0,none⟩)) r1
 have fs:Fr [bx] w2 ((w2.setCell ⟨bx,0,none⟩ (.pointer (some ⟨p,0,none⟩))).setCell ⟨bx,1,none⟩ (.pointer (some ⟨q,0,none⟩))):=((Fr.refl [bx] w2).setCell (.inl (by simp)) _).setCell (.inl (by simp)) _
 have hnw:NoWord [bx] w2:=NoWord.of_type hrow (by decide)
 have hbp:bx ≠ p:=by
  rintro rfl
  obtain⟨cur,t,_,_,hh,_,h1,_⟩:=hp
  rw [hrow] at hh;simp at hh;obtain⟨rfl,rfl⟩:=hh;simp at h1
 have hbq:bx ≠ q:=by
  rintro rfl
  obtain⟨cur,t,_,_,hh,_,h1,_⟩:=hq
  rw [hrow] at hh;simp at hh;obtain⟨rfl,rfl⟩:=hh;simp at h1
 have hbw:w.heap.size<bx:=by
  rcases Nat.lt_or_ge w.heap.size bx with h | h
  ·exact h
  ·exfalso
   obtain rfl:bx=w.heap.size:=by omega
   rw [c0] at x0;simp at x0
 have hp3:=hp.fr fs hnw (by simpa using Ne.symm hbp)
 have hq3:=hq.fr fs hnw (by simpa using Ne.symm hbq)
 have c0:=fs.stay c0 (by simp;omega)
 have c1:=fs.stay c1 (by simp;omega)
 have hbw1:bx ≠ w.heap.size+1:=by
  rintro rfl
  rw [d0] at x0;simp at x0
 have d0:=fs.stay d0 (by simp;exact fun h=>hbw1 h.symm)
 have g4:=g3.after fs (by simp;omega)
 unfold numV
 go_upto_region 8 with (fail)
 generalize hW3:(w2.setCell ⟨bx,0,none⟩ (.pointer (some ⟨p,0,none⟩))).setCell ⟨bx,1,none⟩ (.pointer (some ⟨q,0,none⟩))=W3 at r2 hp3 hq3 c0 c1 d0 g4 ⊢
 have y0:W3.cell? ⟨bx,0,none⟩=some (.pointer (some ⟨p,0,none⟩)):=by rw [cell_of_row _ _ _ _ _ _ r2];rfl
 have y1:W3.cell? ⟨bx,1,none⟩=some (.pointer (some ⟨q,0,none⟩)):=by rw [cell_of_row _ _ _ _ _ _ r2];rfl
 clear hW3 r1 r2 x0 x1 z0 z1 hrow hp hq hf g2 g3 fs d1 d2
 have hB:=bitLen_le Hb.out
 obtain⟨m,hm1⟩:∃ m,m=nearV N n:=⟨_,rfl⟩
 have hmb1:-270000≤m:=by rw [hm1];unfold nearV;omega
 have hmb2:m≤270000:=by rw [hm1];unfold nearV;omega
 have hm2:=hm1
 unfold nearV at hm2
 have Hm1:=Go.Lib.hid hm1;clear hm1
 generalize hBB:bitLen N=B at hB hm2
 have hwr:IntKind.i64.wrap ((B:Int)+1)=((B+1:Nat):Int):=by rw [IntWalk.i64_in _ (by omega)];simp
 have hB1:(0:Int)≤((B+1:Nat):Int):=by omega
 have hB2:((B+1:Nat):Int)≤4611686018427387904:=by omega
 generalize hBB1:((B+1:Nat):Int)=B1 at hwr hB1 hB2 hm2
 have HBB:=Go.Lib.hid hBB;clear hBB hBB1
 have Hm2:=Go.Lib.hid hm2;clear hm2
 obtain⟨wb,hwb⟩:∃ x,x=W3:=⟨_,rfl⟩
 subst hwb
 refine region_mono [] 9 [[],[],[1],[2],[],[4],[5],[3,6],[0,7]] [none,none,none,none,none,none,none,none,none] (by kernel_rfl) (by kernel_rfl) ?_
 simp only [Chain,fill,Act.put,List.nil_append,List.cons_append,List.take_succ_cons,List.take_zero,List.drop_succ_cons,List.drop_zero,List.setIfInBounds_toArray,List.set_cons_zero,List.set_cons_succ,Nat.reduceAdd]
 iterate 3 (apply Exists.intro;apply And.intro;·intro vs w2 hf hh K hK;have y0:=hf.stayd y0;have y1:=hf.stayd y1;simp only [Held,List.getD_cons_zero,List.getD_cons_succ,Just,and_true] at hh;(try simp only [hh] at hK ⊢);go_simp;exact hK _ _ ⟨rfl,Fr.refl _ _⟩)
 apply Exists.intro;apply And.intro
 ·intro vs w2 hf hh K hK;have y0:=hf.stayd y0;have y1:=hf.stayd y1;simp only [Held,List.getD_cons_zero,List.getD_cons_succ,Just,and_true] at hh;(try simp only [hh] at hK ⊢);go_simp;refine (intBitLen_any _ p 0 N ((hp3.fr0 (Fr.refl [] _).drew).fr0 hf) (by rw [Int.natAbs_natCast];exact Fits.of_bits Hb.out (by omega))).mono ?_;rintro e w3 ⟨rfl,rfl⟩;rw [Int.natAbs_natCast,HBB.out];exact hK _ _ ⟨rfl,Fr.refl _ _⟩
 iterate 2 (apply Exists.intro;apply And.intro;·intro vs w2 hf hh K hK;have y0:=hf.stayd y0;have y1:=hf.stayd y1;simp only [Held,List.getD_cons_zero,List.getD_cons_succ,Just,and_true] at hh;(try simp only [hh] at hK ⊢);go_simp;exact hK _ _ ⟨rfl,Fr.refl _ _⟩)
 apply Exists.intro;apply And.intro
 ·intro vs w2 hf hh K hK;have y0:=hf.stayd y0;have y1:=hf.stayd y1;simp only [Held,List.getD_cons_zero,List.getD_cons_succ,Just,and_true] at hh;(try simp only [hh] at hK ⊢);go_simp;refine (intBitLen_any _ q 0 _ ((hq3.fr0 (Fr.refl [] _).drew).fr0 hf) (Fits.of_bits (k:=1) (by simp) (by omega))).mono ?_;rintro e w3 ⟨rfl,rfl⟩;rw [show bitLen ((1:Nat):Int).natAbs=1 from bitLen_one];exact hK _ _ ⟨rfl,Fr.refl _ _⟩
 apply Exists.intro;apply And.intro
 ·intro vs w2 hf hh K hK;simp only [Held,List.getD_cons_zero,List.getD_cons_succ,Just,and_true] at hh;(try simp only [hh] at hK ⊢);go_simp;exact hK _ _ ⟨rfl,Fr.refl _ _⟩
 apply Exists.intro;apply And.intro
 ·intro vs w2 hf hh K hK;have y0:=hf.stayd y0;have y1:=hf.stayd y1;simp only [Held,List.getD_cons_zero,List.getD_cons_succ,Just,and_true] at hh;(try simp only [hh] at hK ⊢);go_simp;refine (near_any _ n B1 hn1 hn2 hB1 hB2).mono ?_;rintro e w3 ⟨rfl,rfl⟩;rw [← Hm2.out];exact hK _ _ ⟨rfl,Fr.refl _ _⟩
 intro vs w2 hf hh
 simp only [HeldAll,Just,and_true,Nat.reduceAdd] at hh
 obtain⟨e0,e1,e2,e3,e4,e5,e6,e7,e8⟩:=hh
 simp only [e0,e1,e2,e3,e4,e5,e6,e7,e8]
 clear e0 e1 e2 e3 e4 e5 e6 e7 e8
 clear vs
 have y0:=hf.stayd y0
 have y1:=hf.stayd y1
 have g5:=(g4.drew).then hf
 have c0:=hf.stayd c0
 have c1:=hf.stayd c1
 have d0:=hf.stayd d0
 have hp5:=(hp3.fr0 (Fr.refl [] _).drew).fr0 hf
 have hq5:=(hq3.fr0 (Fr.refl [] _).drew).fr0 hf
 clear hp3 hq3
 obtain⟨m2,hm3⟩:∃ m2:Nat,max m (-m)=m2:=⟨m.natAbs,by omega⟩
 have hm4:m2≤270000:=by omega
 have r9:=IntRoom.new w2
 have f9:=(Fr.refl [] w2).alloc (.cells #[.bool false,.slice none 0 0] 236)
 have hten:Hid (Fits (10 ^ m2)):=Go.Lib.hid (Fits.of_bits (ten_pow_lt m2) (by omega))
 have hm64:Hid (m2<9223372036854775808):=Go.Lib.hid (by omega)
 have hf10:Hid (Fits 10):=Go.Lib.hid (Fits.of_bits (k:=4) (by omega) (by omega))
 have hfm2:Hid (Fits m2):=Go.Lib.hid (Fits.of_bits (k:=20) (by omega) (by omega))
 clear hn1 hn2 hB hwr hB1 hB2
 go_wp2_with fail
 refine (newInt_nat _ 10 (by omega)).mono ?_
 rintro e w3 ⟨rfl,h3,f3⟩
 rw [World.size_alloc] at h3
 go_wp2_with fail
 refine (newInt_nat _ m2 hm64.out).mono ?_
 rintro e w4 ⟨rfl,h4,f4⟩
 go_wp2_with fail
 refine (intExp_any _ _ 0 _ 0 _ 0 10 m2 ((r9.fr0 f3).fr0 f4) (h3.fr0 f4) h4 (by omega) hf10.out hfm2.out hten.out).mono ?_
 rintro e w5 ⟨rfl,h5,f5⟩
 have hm5:Hid (m<0→m2=(-m).toNat):=Go.Lib.hid (fun h=>by omega)
 have hm6:Hid (¬ m<0→m2=m.toNat):=Go.Lib.hid (fun h=>by omega)
 clear hm3
 have f29:=(f9.then f3).then f4
 have g6:=(g5.then f29).after f5 (by simp;exact g5.size)
 have c0:=f5.stay (f29.stay c0 (by simp)) (by simp;exact Nat.ne_of_lt (World.block_lt_of_cell? w2 _ c0))
 have c1:=f5.stay (f29.stay c1 (by simp)) (by simp;exact Nat.ne_of_lt (World.block_lt_of_cell? w2 _ c1))
 have d0:=f5.stay (f29.stay d0 (by simp)) (by simp;exact Nat.ne_of_lt (World.block_lt_of_cell? w2 _ d0))
 have y0:=f5.stay (f29.stay y0 (by simp)) (by simp;exact Nat.ne_of_lt (World.block_lt_of_cell? w2 _ y0))
 have y1:=f5.stay (f29.stay y1 (by simp)) (by simp;exact Nat.ne_of_lt (World.block_lt_of_cell? w2 _ y1))
 have hnw5:=((r9.fr0 f3).fr0 f4).noWord
 have hp6:=(hp5.fr0 f29).fr f5 hnw5 (by simp;exact Nat.ne_of_lt hp5.lt)
 have hq6:=(hq5.fr0 f29).fr f5 hnw5 (by simp;exact Nat.ne_of_lt hq5.lt)
 have fitN:Fits N:=Fits.of_bits Hb.out (by omega)
 have fit1:Fits 1:=Fits.of_bits (k:=1) (by omega) (by omega)
 have hA2:Hid (A+1080002≤4194304):=Go.Lib.hid (by omega)
 have hA3:Hid (A+4 * m2+1≤A+1080002):=Go.Lib.hid (by omega)
 obtain⟨A',hA'⟩:∃ A',A'=A+1080002:=⟨_,rfl⟩
 rw [← hA'] at hA2 hA3
 have hA4:Hid (1<2 ^ A'):=Go.Lib.hid (Nat.one_lt_two_pow (by omega))
 have hA5:Hid (A≤A'):=Go.Lib.hid (by omega)
 have hA6:Hid (4 * m2+1≤A'):=Go.Lib.hid (by omega)
 clear hA'
 have hN1:Hid (N<2 ^ A'):=Go.Lib.hid (Nat.lt_of_lt_of_le Hb.out (Nat.pow_le_pow_right (by omega) hA5.out))
 have hD1:Hid (1 * 10 ^ m2<2 ^ A'):=Go.Lib.hid (by rw [Nat.one_mul];exact Nat.lt_of_lt_of_le (ten_pow_lt m2) (Nat.pow_le_pow_right (by omega) hA6.out))
 have hN2:Hid (N * 10 ^ m2<2 ^ (A+4 * m2+1)):=Go.Lib.hid (by rw [Nat.add_assoc,Nat.pow_add];exact Nat.mul_lt_mul'' Hb.out (ten_pow_lt m2))
 have hN3:Hid (N * 10 ^ m2<2 ^ A'):=Go.Lib.hid (Nat.lt_of_lt_of_le hN2.out (Nat.pow_le_pow_right (by omega) hA3.out))
 have hfN2:Hid (Fits (N * 10 ^ m2)):=Go.Lib.hid (Fits.of_bits hN2.out (by omega))
 have hpz:Hid (0<1 * 10 ^ m2):=Go.Lib.hid (by rw [Nat.one_mul];exact Nat.pow_pos (by omega))
 by_cases hneg:m<0
 ·have hm7:=hm5.out hneg
  have hend:Hid (scaledV N n E F below neg mode=signedV N (1 * 10 ^ m2) E F below neg mode):=Go.Lib.hid (by unfold scaledV;rw [← Hm1.out,if_pos hneg,hm7])
  clear hm7 hm5 hm6
  have hd:decide (m<0)=true:=by simp [hneg]
  clear hneg
  generalize 10 ^ m2=T at *
  go_wp2_with fail
  refine (intMul_any w5 q 0 q 0 _ 0 (1:Nat) (T:Nat) hq6.room hq6 h5 (by simpa using fit1) (by simpa using hten.out) (by simpa using hten.out)).mono ?_
  rintro e w6 ⟨rfl,h6,f6⟩
  rw [← Int.natCast_mul] at h6
  have hoth:=hp6.fr f6 hq6.noWord (by simpa using hpq)
  have g7:=g6.after f6 (by simp;omega)
  have c0:=f6.stay c0 (by simp;omega)
  have c1:=f6.stay c1 (by simp;omega)
  have d0:=f6.stay d0 (by simp;omega)
  have y0:=f6.stay y0 (by simp;exact hbq)
  have y1:=f6.stay y1 (by simp;exact hbq)
  go_wp2_with fail
  refine (signed_any w6 p q N (1 * T) A' E F below neg mode hoth h6 hA2.out hN1.out hD1.out hpz.out hF hm).mono ?_
  rintro e w7 ⟨rfl,f7⟩
  go_wp2
  go_ret3
  exact⟨by rw [hend.out,Nat.one_mul];rfl,g7.then f7⟩
 ·have hm7:=hm6.out hneg
  have hend:Hid (scaledV N n E F below neg mode=signedV (N * 10 ^ m2) 1 E F below neg mode):=Go.Lib.hid (by unfold scaledV;rw [← Hm1.out,if_neg hneg,hm7])
  clear hm7 hm5 hm6
  have hd:decide (m<0)=false:=by simp [hneg]
  clear hneg
  generalize 10 ^ m2=T at *
  go_wp2_with fail
  refine (intMul_any w5 p 0 p 0 _ 0 (N:Nat) (T:Nat) hp6.room hp6 h5 (by simpa using fitN) (by simpa using hten.out) (by simpa using hfN2.out)).mono ?_
  rintro e w6 ⟨rfl,h6,f6⟩
  rw [← Int.natCast_mul] at h6
  have hoth:=hq6.fr f6 hp6.noWord (by simpa using Ne.symm hpq)
  have g7:=g6.after f6 (by simp;omega)
  have c0:=f6.stay c0 (by simp;omega)
  have c1:=f6.stay c1 (by simp;omega)
  have d0:=f6.stay d0 (by simp;omega)
  have y0:=f6.stay y0 (by simp;exact hbp)
  have y1:=f6.stay y1 (by simp;exact hbp)
  go_wp2_with fail
  refine (signed_any w6 p q (N * T) 1 A' E F below neg mode h6 hoth hA2.out hN3.out hA4.out (by omega) hF hm).mono ?_
  rintro e w7 ⟨rfl,f7⟩
  go_wp2
  go_ret3
  exact⟨by rw [hend.out];rfl,g7.then f7⟩
end Go.Proofs.YtcmndpjemdjalaaGreatDoor
