/- Laws that the claimed theorem leans on: no condition of their own beyond their hypotheses. -/
import Derived.Deep.DeepCutAuto
import Derived.Deep.CutRange
import Derived.Test.YtcmndpjemdjalaaGreatDoorMaaj
import Derived.Test.YtcmndpjemdjalaaGreatDoorMaak
set_option maxRecDepth 100000
set_option maxHeartbeats 16000000
namespace Go.Proofs.YtcmndpjemdjalaaGreatDoor
open Go.RowKit
open Pb
theorem fits_double {n A:Nat} (h:n<2 ^ A) (hA:A≤16777216):Fits (2 * n):=Fits.of_bits (k:=A+1) (by rw [Nat.pow_succ];omega) (by omega)
theorem fits_succ {n A:Nat} (h:n<2 ^ A) (hA:A≤16777216):Fits (n+1):=Fits.of_bits (k:=A+1) (by rw [Nat.pow_succ];omega) (by omega)
theorem bb_bounds {E:Int} (h1:2≤E) (h2:E≤11):2≤(2:Int) ^ (E.toNat - 1)∧(2:Int) ^ (E.toNat - 1)≤1024:=by
 obtain⟨n,hn⟩:∃ n:Nat,n=E.toNat - 1:=⟨_,rfl⟩
 rw [← hn]
 have a:1≤n:=by omega
 have b:n≤10:=by omega
 have h3:2 ^ 1≤2 ^ n:=Nat.pow_le_pow_right (by omega) a
 have h4:2 ^ n≤2 ^ 10:=Nat.pow_le_pow_right (by omega) b
 have h5:((2 ^ n:Nat):Int)=2 ^ n:=by simp
 rw [← h5];omega
theorem whole_le (N D:Nat) (neg:Bool) (mode:Nat):(wholeV N D neg mode).1≤N+1:=by
 have:=Nat.div_le_self N D
 unfold wholeV
 split
 ·show N / D≤_;omega
 ·dsimp only;split <;> omega
theorem whole_lt {N D A:Nat} {neg:Bool} {mode:Nat} (h:N<2 ^ A):(wholeV N D neg mode).1<2 ^ (A+1):=by
 have:=whole_le N D neg mode
 have h2:0<2 ^ A:=Nat.pow_pos (by omega)
 rw [Nat.pow_succ]
 by_cases h3:2 ^ A=1
 ·have hN:N=0:=by omega
  subst hN
  have:(wholeV 0 D neg mode).1=0:=by unfold wholeV;simp
  omega
 ·omega
def flagsV (same:Bool) (L bb F:Int) (k:Nat):Int :=
 if same then 0 else if L<1 - (bb - 1) then (if L < -(bb - 1) then 5 else if (bitLen k:Int)≤F+1 then 5 else 1) else 1
def topV (inf:Int) (mode:Nat) (neg:Bool):Int :=
 match mode with
 | 2=>IntKind.u64.wrap (inf - 1)
 | 3=>if neg then IntKind.u64.wrap (inf - 1) else inf
 | 4=>if neg then inf else IntKind.u64.wrap (inf - 1)
 | _=>inf
def infV (E F:Int):Int:=IntKind.u64.wrap (IntKind.u64.wrap (2 ^ (E+F).toNat) - IntKind.u64.wrap (2 ^ F.toNat))
def bitsV (m:Nat) (low bb F:Int):Int:=IntKind.u64.wrap ((m:Int) % 18446744073709551616+IntKind.u64.wrap ((low+(bb - 1) - 1) * 2 ^ F.toNat))
def toV (N D:Nat) (E F:Int) (neg:Bool) (mode:Nat):Int × Int :=
 let bb:Int:=2 ^ (E.toNat - 1)
 let L:=logV N D
 let low:=max L (1 - (bb - 1))
 let m:=wholeV (tnum N (F - low)) (tden D (F - low)) neg mode
 let fl:=flagsV m.2 L bb F (wholeV (tnum N (F - L)) (tden D (F - L)) neg mode).1
 if bb - 1<low then (topV (infV E F) mode neg,3) else if infV E F≤bitsV m.1 low bb F then (topV (infV E F) mode neg,3) else (bitsV m.1 low bb F,fl)
theorem to_any (w:World) (p q:Nat) (N D A:Nat) (E F:Int) (neg:Bool) (mode:Nat) (hN:IntAt w p 0 N) (hD:IntAt w q 0 D) (hA:A≤4194304) (hNA:N<2 ^ A) (hDA:D<2 ^ A) (_hN0:0<N) (hD0:0<D) (hF:FormOk E F) (hm:mode<5) :
  Calls Tryz.prog 131 #[numV p q,formV E F,.bool neg,.int .u8 mode] w fun e w'=>e=.returned (.tuple #[.int .u64 (toV N D E F neg mode).1,.int .u8 (toV N D E F neg mode).2])∧Fr [] w w':=by
 obtain⟨h1,h2,h3,h4⟩:=hF
 have htoV:=toV.eq_1 N D E F neg mode
 have hlog:=fun w' a b=>log_any w' p q N D A a b (by omega) hNA hDA
 have hL:=logV_bounds hNA hDA
 generalize logV N D=L at hL hlog htoV
 obtain⟨hL1,hL2⟩:=hL
 obtain⟨bb1,bb2⟩:=bb_bounds h1 h2
 generalize hbb:(2:Int) ^ (E.toNat - 1)=bb at bb1 bb2 htoV
 obtain⟨low,hlow⟩:∃ low,max L (1 - (bb - 1))=low:=⟨_,rfl⟩
 rw [hlow] at htoV
 have hlow1:-4194305≤low:=by omega
 have hlow2:low≤4194304:=by omega
 have hlow3:1 - (bb - 1)≤low:=by omega
 have HtoV:=Go.Lib.hid htoV;clear htoV
 unfold numV formV at *
 go_enter Tryz.func131,Tryz.ntmps131
 go_wp2_with fail
 have fA:Fr [] w ((w.alloc (.cells #[.pointer (some ⟨p,0,none⟩),.pointer (some ⟨q,0,none⟩)] 184)).alloc (.cells #[.int .i64 E,.int .i64 F] 39)):=((Fr.refl [] w).alloc _).alloc _
 have c0:=((Fr.refl [] (w.alloc (.cells #[.pointer (some ⟨p,0,none⟩),.pointer (some ⟨q,0,none⟩)] 184))).alloc (.cells #[.int .i64 E,.int .i64 F] 39)).stay (cell_new w #[.pointer (some ⟨p,0,none⟩),.pointer (some ⟨q,0,none⟩)] 184 (0,0) 0 _ rfl) (by simp)
 have c1:=((Fr.refl [] (w.alloc (.cells #[.pointer (some ⟨p,0,none⟩),.pointer (some ⟨q,0,none⟩)] 184))).alloc (.cells #[.int .i64 E,.int .i64 F] 39)).stay (cell_new w #[.pointer (some ⟨p,0,none⟩),.pointer (some ⟨q,0,none⟩)] 184 (0,0) 1 _ rfl) (by simp)
 have c2:=cell_new (w.alloc (.cells #[.pointer (some ⟨p,0,none⟩),.pointer (some ⟨q,0,none⟩)] 184)) #[.int .i64 E,.int .i64 F] 39 (0,0) 0 _ rfl
 have c3:=cell_new (w.alloc (.cells #[.pointer (some ⟨p,0,none⟩),.pointer (some ⟨q,0,none⟩)] 184)) #[.int .i64 E,.int .i64 F] 39 (0,0) 1 _ rfl
 rw [World.size_alloc] at c2 c3
 refine (hlog _ (hN.fr0 fA) (hD.fr0 fA)).mono ?_
 rintro e w1 ⟨rfl,f1⟩
 have c0:=f1.stay c0 (by simp)
 have c1:=f1.stay c1 (by simp)
 have c2:=f1.stay c2 (by simp)
 have c3:=f1.stay c3 (by simp)
 have hw1:=fA.then f1
 go_wp2_with fail
 have hN1:=hN.fr0 hw1
 have hD1:=hD.fr0 hw1
 refine (times_any _ p q N D (F - low) hN1 hD1 (by omega) (by omega) (Fits.of_bits hNA (by omega)) (Fits.of_bits hDA (by omega)) (Fits.of_bits (tnum_lt (B:=2048) hNA (by omega)) (by omega)) (Fits.of_bits (tden_lt (B:=4194400) hDA (by omega)) (by omega))).mono ?_
 rintro e w2 ⟨v2,rfl,⟨p2,q2,rfl,hN2,hD2⟩,f2⟩
 have c0:=f2.stay c0 (by simp)
 have c1:=f2.stay c1 (by simp)
 have c2:=f2.stay c2 (by simp)
 have c3:=f2.stay c3 (by simp)
 have hw2:=hw1.then f2
 go_wp2_with fail
 refine (whole_any _ p2 q2 _ _ neg mode hN2 hD2 (tden_pos hD0 _) hm (Fits.of_bits (tnum_lt (B:=2048) hNA (by omega)) (by omega)) (fits_double (tden_lt (B:=4194400) hDA (by omega)) (by omega)) (fits_succ (tnum_lt (B:=2048) hNA (by omega)) (by omega))).mono ?_
 rintro e w3 ⟨v3,rfl,⟨p3,rfl,hm3⟩,f3⟩
 have c0:=f3.stay c0 (by simp)
 have c1:=f3.stay c1 (by simp)
 have c2:=f3.stay c2 (by simp)
 have c3:=f3.stay c3 (by simp)
 have hw3:=hw2.then f3
 generalize hmv:(wholeV (tnum N (F - low)) (tden D (F - low)) neg mode).1=m at hm3 HtoV
 generalize hsame:(wholeV (tnum N (F - low)) (tden D (F - low)) neg mode).2=same at hm3 HtoV
 have Hmv:=Go.Lib.hid hmv;clear hmv
 have Hsame:=Go.Lib.hid hsame;clear hsame
 clear hlog hbb
 go_upto_if 51 with (fail)
 go_cut [13,14,17,18,19] from 52 to 86 (fun s13 s14 s17 s18 s19 wr=>s17=.int .u8 (flagsV same L bb F (wholeV (tnum N (F - L)) (tden D (F - L)) neg mode).1)∧Fr [] w3 wr)
 case first =>
  cases same
  ·by_cases hs:L<1 - (bb - 1)
   ·go_wp2_with fail
    refine (times_any _ p q N D (F - L) (hN.fr0 hw3) (hD.fr0 hw3) (by omega) (by omega) (Fits.of_bits hNA (by omega)) (Fits.of_bits hDA (by omega)) (Fits.of_bits (tnum_lt (B:=4194400) hNA (by omega)) (by omega)) (Fits.of_bits (tden_lt (B:=4194400) hDA (by omega)) (by omega))).mono ?_
    rintro e w4 ⟨v4,rfl,⟨p4,q4,rfl,hN4,hD4⟩,f4⟩
    have c3:=f4.stay c3 (by simp)
    go_wp2_with fail
    refine (whole_any _ p4 q4 _ _ neg mode hN4 hD4 (tden_pos hD0 _) hm (Fits.of_bits (tnum_lt (B:=4194400) hNA (by omega)) (by omega)) (fits_double (tden_lt (B:=4194400) hDA (by omega)) (by omega)) (fits_succ (tnum_lt (B:=4194400) hNA (by omega)) (by omega))).mono ?_
    rintro e w5 ⟨v5,rfl,⟨p5,rfl,hm5⟩,f5⟩
    have c3:=f5.stay c3 (by simp)
    generalize hk:(wholeV (tnum N (F - L)) (tden D (F - L)) neg mode).1=k at hm5
    by_cases hd:L < -(bb - 1)
    ·have hdd:decide (L < -(bb - 1))=true:=decide_eq_true hd
     go_wp2_with fail
     go_quiet (fail)
     go_wp2
     go_meet
     exact⟨by unfold flagsV;rw [if_neg Bool.false_ne_true,if_pos (show L<1 - (bb - 1) by omega),if_pos (show L < -(bb - 1) by omega)];rfl,((f4.then f5).drewN _)⟩
    ·have hdd:decide (L < -(bb - 1))=false:=decide_eq_false hd
     have hkf:Fits ((k:Int)).natAbs:=by
      rw [Int.natAbs_natCast,← hk]
      exact Fits.of_bits (whole_lt (tnum_lt (B:=4194400) hNA (by omega))) (by omega)
     have Hk:=Go.Lib.hid hk
     clear hk
     by_cases hb:(bitLen k:Int)≤F+1
     ·have hbb:decide ((bitLen k:Int)≤F+1)=true:=decide_eq_true hb
      go_wp2_with fail
      go_quiet ((go_at_call 85;exact Calls.quiet_of_same ((intBitLen_any _ p5 0 k (by first | exact hm5 | exact hm5.fr0 ((Fr.refl [] w5).drewN _)) hkf).mono fun e w' h=>⟨h.1,h.2.symm⟩)))
      go_wp2
      go_meet
      exact⟨by unfold flagsV;rw [if_neg Bool.false_ne_true,Hk.out,if_pos (show L<1 - (bb - 1) by omega),if_neg (show ¬ (L < -(bb - 1)) by omega),if_pos (show (bitLen k:Int)≤F+1 by omega)];rfl,((f4.then f5).drewN _)⟩
     ·have hbb:decide ((bitLen k:Int)≤F+1)=false:=decide_eq_false hb
      go_wp2_with fail
      go_quiet ((go_at_call 85;exact Calls.quiet_of_same ((intBitLen_any _ p5 0 k (by first | exact hm5 | exact hm5.fr0 ((Fr.refl [] w5).drewN _)) hkf).mono fun e w' h=>⟨h.1,h.2.symm⟩)))
      go_wp2
      go_meet
      exact⟨by unfold flagsV;rw [if_neg Bool.false_ne_true,Hk.out,if_pos (show L<1 - (bb - 1) by omega),if_neg (show ¬ (L < -(bb - 1)) by omega),if_neg (show ¬ ((bitLen k:Int)≤F+1) by omega)],((f4.then f5).drewN _)⟩
   ·go_wp2
    go_meet
    exact⟨by unfold flagsV;rw [if_neg Bool.false_ne_true,if_neg (show ¬ (L<1 - (bb - 1)) by omega)],Fr.refl _ _⟩
  ·go_wp2
   go_meet
   exact⟨rfl,Fr.refl _ _⟩
 case rest =>
  obtain⟨rfl,f4⟩:=hcut
  generalize flagsV same L bb F (wholeV (tnum N (F - L)) (tden D (F - L)) neg mode).1=fl at HtoV
  have hm4:=hm3.fr0 f4
  have hmf:Fits ((m:Int)).natAbs:=by
   rw [Int.natAbs_natCast,← Hmv.out]
   exact Fits.of_bits (whole_lt (tnum_lt (B:=2048) hNA (by omega))) (by omega)
  have c2:=f4.stay c2 (by simp)
  have c3:=f4.stay c3 (by simp)
  have hw4:=hw3.then f4
  clear f1 f2 f3 f4 c0 c1
  go_upto_region 14 with (fail)
  go_quiet ((go_at_call 177;exact Calls.quiet_of_same ((intUint64_any _ p3 0 m (by first | exact hm4 | exact hm4.fr0 ((Fr.refl [] _).drewN _)) hmf).mono fun e w' h=>⟨h.1,h.2.symm⟩)))
  go_upto_region 15 with (fail)
  go_quiet (fail)
  go_upto_region 16 with (fail)
  clear c2 c3
  unfold bitsV infV at HtoV
  generalize IntKind.u64.wrap ((m:Int) % 18446744073709551616+IntKind.u64.wrap ((low+(bb - 1) - 1) * 2 ^ F.toNat))=bits at HtoV ⊢
  generalize IntKind.u64.wrap (IntKind.u64.wrap (2 ^ (E+F).toNat) - IntKind.u64.wrap (2 ^ F.toNat))=inf at HtoV ⊢
  by_cases h5:bb - 1<low
  ·have hend:Hid (toV N D E F neg mode=(topV inf mode neg,3)):=Go.Lib.hid (by have:=HtoV.out;rw [if_pos h5] at this;exact this)
   obtain rfl | rfl | rfl | rfl | rfl:mode=0∨mode=1∨mode=2∨mode=3∨mode=4:=by omega
   all_goals cases neg
   all_goals (go_wp2;go_ret2;exact⟨by rw [hend.out];rfl,hw4.drewN _⟩)
  ·by_cases h6:inf≤bits
   ·have hend:Hid (toV N D E F neg mode=(topV inf mode neg,3)):=Go.Lib.hid (by have:=HtoV.out;rw [if_neg h5,if_pos h6] at this;exact this)
    obtain rfl | rfl | rfl | rfl | rfl:mode=0∨mode=1∨mode=2∨mode=3∨mode=4:=by omega
    all_goals cases neg
    all_goals (go_wp2;go_ret2;exact⟨by rw [hend.out];rfl,hw4.drewN _⟩)
   ·have hend:Hid (toV N D E F neg mode=(bits,fl)):=Go.Lib.hid (by have:=HtoV.out;rw [if_neg h5,if_neg h6] at this;exact this)
    go_wp2
    go_ret2
    exact⟨by rw [hend.out];rfl,hw4.drewN _⟩
end Go.Proofs.YtcmndpjemdjalaaGreatDoor
namespace Go.Proofs.YtcmndpjemdjalaaGreatDoor
open Go.RowKit
open Pb
def signV (E F:Int):Int:=IntKind.u64.wrap (2 ^ (E+F).toNat)
def signedV (N D:Nat) (E F:Int) (below neg:Bool) (mode:Nat):Int × Int :=
 if N=0 then (if neg then signV E F else 0,0)
 else (if below then bits .or .u64 (toV N D E F below mode).1 (signV E F) else (toV N D E F below mode).1,(toV N D E F below mode).2)
theorem signed_any (w:World) (p q:Nat) (N D A:Nat) (E F:Int) (below neg:Bool) (mode:Nat) (hN:IntAt w p 0 N) (hD:IntAt w q 0 D) (hA:A≤4194304) (hNA:N<2 ^ A) (hDA:D<2 ^ A) (hD0:0<D) (hF:FormOk E F) (hm:mode<5) :
  Calls Tryz.prog 86 #[formV E F,numV p q,.bool below,.bool neg,.int .u8 mode] w fun e w' =>
   e=.returned (.tuple #[.int .u64 (signedV N D E F below neg mode).1,.int .u8 (signedV N D E F below neg mode).2,.int .i64 0])∧Fr [] w w':=by
 have hF':=hF
 obtain⟨h1,h2,h3,h4⟩:=hF
 have hfN:Fits ((N:Int)).natAbs:=by rw [Int.natAbs_natCast];exact Fits.of_bits hNA (by omega)
 have fA:Fr [] w ((w.alloc (.cells #[.int .i64 E,.int .i64 F] 39)).alloc (.cells #[.pointer (some ⟨p,0,none⟩),.pointer (some ⟨q,0,none⟩)] 184)):=((Fr.refl [] w).alloc _).alloc _
 have c0:=((Fr.refl [] (w.alloc (.cells #[.int .i64 E,.int .i64 F] 39))).alloc (.cells #[.pointer (some ⟨p,0,none⟩),.pointer (some ⟨q,0,none⟩)] 184)).stay (cell_new w #[.int .i64 E,.int .i64 F] 39 (0,0) 0 _ rfl) (by simp)
 have c1:=((Fr.refl [] (w.alloc (.cells #[.int .i64 E,.int .i64 F] 39))).alloc (.cells #[.pointer (some ⟨p,0,none⟩),.pointer (some ⟨q,0,none⟩)] 184)).stay (cell_new w #[.int .i64 E,.int .i64 F] 39 (0,0) 1 _ rfl) (by simp)
 have c2:=cell_new (w.alloc (.cells #[.int .i64 E,.int .i64 F] 39)) #[.pointer (some ⟨p,0,none⟩),.pointer (some ⟨q,0,none⟩)] 184 (0,0) 0 _ rfl
 have c3:=cell_new (w.alloc (.cells #[.int .i64 E,.int .i64 F] 39)) #[.pointer (some ⟨p,0,none⟩),.pointer (some ⟨q,0,none⟩)] 184 (0,0) 1 _ rfl
 rw [World.size_alloc] at c2 c3
 unfold numV formV
 by_cases hN0:N=0
 ·have hs:((N:Nat):Int).sign=0:=by rw [hN0];rfl
  have hend:Hid (signedV N D E F below neg mode=(if neg then signV E F else 0,0)):=Go.Lib.hid (by unfold signedV;rw [if_pos hN0])
  clear hN0
  go_enter Tryz.func86,Tryz.ntmps86
  go_wp2_with fail
  refine (sign_any _ p 0 N (hN.fr0 fA)).mono ?_
  rintro e w1 ⟨rfl,f1⟩
  cases neg
  ·go_wp2
   go_ret3
   exact⟨by rw [hend.out];rfl,fA.then f1⟩
  ·go_wp2
   go_ret3
   exact⟨by rw [hend.out];rfl,fA.then f1⟩
 ·have hs:((N:Nat):Int).sign=1:=Int.sign_eq_one_of_pos (by omega)
  have hend:Hid (signedV N D E F below neg mode=(if below then bits .or .u64 (toV N D E F below mode).1 (signV E F) else (toV N D E F below mode).1,(toV N D E F below mode).2)):=Go.Lib.hid (by unfold signedV;rw [if_neg hN0])
  have hpos:0<N:=by omega
  clear hN0
  go_enter Tryz.func86,Tryz.ntmps86
  go_wp2_with fail
  refine (sign_any _ p 0 N (hN.fr0 fA)).mono ?_
  rintro e w1 ⟨rfl,f1⟩
  have c0:=f1.stay c0 (by simp)
  have c1:=f1.stay c1 (by simp)
  have c2:=f1.stay c2 (by simp)
  have c3:=f1.stay c3 (by simp)
  have f1':=fA.then f1
  go_wp2_with fail
  refine (to_any _ p q N D A E F below mode (hN.fr0 f1') (hD.fr0 f1') hA hNA hDA hpos hD0 hF' hm).mono ?_
  rintro e w2 ⟨rfl,f2⟩
  cases below
  ·go_wp2
   go_ret3
   exact⟨by rw [hend.out];rfl,f1'.then f2⟩
  ·go_wp2
   go_ret3
   exact⟨by rw [hend.out];rfl,f1'.then f2⟩
end Go.Proofs.YtcmndpjemdjalaaGreatDoor
namespace Go.Proofs.YtcmndpjemdjalaaGreatDoor
open Go.RowKit
open Pb
theorem val_drop (l:List Nat) (k:Nat) (h:k<l.length):val (l.drop k)=dg l k+4294967296 * val (l.drop (k+1)):=by
 have:l.drop k=dg l k :: l.drop (k+1):=by rw [dg_get l k h];exact (List.getElem_cons_drop h).symm
 rw [this,val_cons]
theorem fits_val {l:List Nat} (hd:Digs l) (h:l.length≤1073741824):Fits (val l):=⟨l.length,h,hd.lt⟩
def NewInt (lo:Nat) (n:Int):Value→World→Prop:=fun v w=>∃ b,v=.pointer (some ⟨b,0,none⟩)∧lo≤b∧IntAt w b 0 n
theorem NewInt.lasts (lo:Nat) (n:Int):Lasts [] (NewInt lo n):=fun _ _ _ ⟨b,h,h1,h2⟩ hf=>⟨b,h,h1,h2.fr0 hf⟩
theorem large_any (w:World) (lo:Nat) (v:Value) (l:List Nat) (hu:U32 w lo v l) (hl:l.length≤1048576) :
  Calls Tryz.prog 81 #[.agg #[v]] w fun e w'=>∃ u,e=.returned u∧NewInt w.heap.size (val l:Nat) u w'∧Fr [] w w':=by
 have hd:=hu.digs
 obtain⟨ao,cap,rfl,hcap,hc⟩:=hu.shape
 have Hc:=Go.Lib.hid hc;clear hc
 go_enter Tryz.func81,Tryz.ntmps81
 go_wp2_with fail
 generalize hW:(w.alloc (.cells #[.slice ao l.length cap] 79)).alloc (.cells #[.bool false,.slice none 0 0] 236)=W
 have fW:Fr [] w W:=by rw [← hW];exact ((Fr.refl [] w).alloc _).alloc _
 have c0:W.cell? ⟨w.heap.size,0,none⟩=some (.slice ao l.length cap):=by rw [← hW];exact ((Fr.refl [] _).alloc _).stay (cell_new w _ _ _ 0 _ rfl) (by simp)
 have hr:IntAt W (w.heap.size+1) 0 (0:Nat):=by
  rw [← hW]
  have:=row_new (w.alloc (.cells #[.slice ao l.length cap] 79)) (.cells #[.bool false,.slice none 0 0] 236)
  rw [World.size_alloc] at this
  exact⟨_,_,_,[],this,by decide,rfl,rfl,U32.nil _ _,Is.nil⟩
 clear hW
 have huW:=hu.fr0 fW
 go_loopw [4] (fun i wr=>∃ k:Nat,i=.int .i64 ((k:Int) - 1)∧k≤l.length∧IntAt wr (w.heap.size+1) 0 ((val (l.drop k):Nat):Int)∧Fr [w.heap.size+1] W wr) (fun i _=>(intOf i+1).toNat)
 case atStart=>exact⟨l.length,rfl,Nat.le_refl _,by rw [List.drop_of_length_le (Nat.le_refl _)];exact hr,Fr.refl _ _⟩
 case round =>
  obtain⟨k,rfl,hk,hn,hfr⟩:=hrel
  rcases k with _ | k
  ·rw [List.drop_zero] at hn
   go_wp2
   go_ret
   exact⟨_,rfl,⟨_,rfl,by omega,hn⟩,fW.after hfr (by simp)⟩
  ·obtain⟨b,o,rfl,hb,hcell⟩:=Hc.out k (by omega)
   have hcW:=fW.stay hcell (by simp)
   have hbn:b ≠ w.heap.size+1:=by omega
   have c0:=hfr.stay c0 (by simp)
   have c1:=hfr.stay hcW (by simpa using hbn)
   have d0:wr.drew.cell? ⟨w.heap.size,0,none⟩=some (.slice (some ⟨b,o,none⟩) l.length cap):=c0
   have d1:wr.drew.cell? ⟨b,o+k,none⟩=some (.int .u32 (dg l k:Nat)):=c1
   have hnd:IntAt wr.drew (w.heap.size+1) 0 ((val (l.drop (k+1)):Nat):Int):=hn
   have hdk:=dg_lt hd k
   have hw:IntKind.i64.wrap (dg l k:Int)=dg l k:=IntWalk.i64_in _ (by omega)
   have hdd:=hd.drop (k+1)
   have hln:(l.drop (k+1)).length≤1048576:=by simp;omega
   have hf1:Fits (val (l.drop (k+1))):=fits_val hdd (by omega)
   have hf2:Fits (val (l.drop (k+1)) * 2 ^ 32):=⟨(l.drop (k+1)).length+1,by omega,by rw [Nat.pow_succ];exact (Nat.mul_lt_mul_right (by omega)).2 hdd.lt⟩
   have hv:=val_drop l k (by omega)
   generalize val (l.drop (k+1))=V at hnd hf1 hf2 hv
   have Hv:=Go.Lib.hid hv;clear hv
   generalize hdgk:dg l k=d at hcell hcW c1 d1 hdk hw Hv
   have hlen:(k:Int)<l.length:=by omega
   clear hcell hcW c0 c1 hn hdd hln
   go_wp2_with fail
   go_region_held3 (fun w'=>w'.cell? ⟨w.heap.size,0,none⟩=some (.slice (some ⟨b,o,none⟩) l.length cap)∧w'.cell? ⟨b,o+k,none⟩=some (.int .u32 (d:Nat))) (first | exact⟨d0,d1⟩ | exact⟨g0,g1⟩ | exact⟨g2,g3⟩ | exact⟨g4,g5⟩) (first | (go_at_call 126;refine (intLsh_any _ _ 0 _ 0 V 32 hnd.room hnd (by simpa using hf1) (by omega) (by simpa using hf2)).mono ?_;rintro e w5 ⟨rfl,h5,f5⟩;have g0:=f5.stay d0 (by simp);have g1:=f5.stay d1 (by simpa using hbn)) | (go_at_call 82;refine (newInt_nat _ d (by omega)).mono ?_;rintro e w6 ⟨rfl,h6,f6⟩;have g2:=f6.stay g0 (by simp);have g3:=f6.stay g1 (by simp)) | (go_at_call 127;refine (intOr_small _ _ 0 _ 0 _ 0 (V * 2 ^ 32) d (h5.room.fr0 f6) (by have:=h5.fr0 f6;rw [Int.natCast_mul];exact this) h6 hf2 (by omega) hdk).mono ?_;rintro e w7 ⟨rfl,h7,f7⟩;have g4:=f7.stay g2 (by simp);have g5:=f7.stay g3 (by simpa using hbn)))
   have hv7:V * 2 ^ 32+d=val (l.drop k):=by rw [Hv.out];omega
   rw [hv7] at h7
   have fr7:Fr [w.heap.size+1] W w7:=((hfr.drew.trans f5 (by simp)).then f6).trans f7 (by simp)
   clear hv7
   go_wp2
   go_roundw
   case rel=>exact⟨k,by go_num,by omega,h7,fr7⟩
   case measure=>simp [intOf]
end Go.Proofs.YtcmndpjemdjalaaGreatDoor
