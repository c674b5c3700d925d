/- Laws that the claimed theorem leans on: no condition of their own beyond their hypotheses. -/
import Derived.Test.YtcmndpjemdjalaaGreatDoorMaah
import Derived.Test.YtcmndpjemdjalaaGreatDoorMaai
set_option maxRecDepth 100000
set_option maxHeartbeats 16000000
namespace Go.Proofs.YtcmndpjemdjalaaGreatDoor
open Go.RowKit
open Pb
def modeF (m:Nat):FuncId:=match m with
 | 0=>258 | 1=>259 | 2=>260 | 3=>261 | _=>262
theorem bet_any (w:World) (m:Nat) (hm:m<5) (neg odd:Bool) (half:Int) :
  Calls Tryz.prog (modeF m) #[betV neg odd half] w fun e w'=>e=.returned (.bool (modeB m neg odd half))∧Fr [] w w':=by
 rcases m with _ | _ | _ | _ | _ | m
 ·exact betEven_any w neg odd half
 ·exact betAway_any w neg odd half
 ·exact betZero_any w neg odd half
 ·exact betUp_any w neg odd half
 ·exact betDown_any w neg odd half
 ·omega
theorem modes_index (m:Nat) (hm:m<5):∀ w,(Instr.index 332 (.agg #[.func (.func 258) #[] #[],.func (.func 259) #[] #[],.func (.func 260) #[] #[],.func (.func 261) #[] #[],.func (.func 262) #[] #[]]) (.int .u8 (m:Int))).run Tryz.prog w=.ok (.func (.func (modeF m)) #[] #[]) w:=by
 intro w
 rcases m with _ | _ | _ | _ | _ | m
 ·kernel_rfl
 ·kernel_rfl
 ·kernel_rfl
 ·kernel_rfl
 ·kernel_rfl
 ·omega
theorem NoWord.two {a b:Nat} {w:World} (h:NoWord [a] w) (k:NoWord [b] w):NoWord [a,b] w:=by
 intro s hs
 rcases List.mem_cons.1 hs with rfl | hs
 ·exact h _ (by simp)
 ·exact k _ hs
theorem modes_call (m:Nat) (hm:m<5):∀ (args:Array Value) (w:World),(callFunc (modeF m) args).run Tryz.prog w=.ok (.enter (modeF m) args) w:=by
 intro args w
 rcases m with _ | _ | _ | _ | _ | m
 ·kernel_rfl
 ·kernel_rfl
 ·kernel_rfl
 ·kernel_rfl
 ·kernel_rfl
 ·omega
def wholeV (N D:Nat) (neg:Bool) (mode:Nat):Nat × Bool :=
 if N % D=0 then (N / D,true) else (if modeB mode neg (((N / D:Nat):Int) % 2==1) (cmpI (N % D * 2) D)=true then N / D+1 else N / D,false)
def IntBool (n:Int) (b:Bool):Value→World→Prop:=fun v w=>∃ a,v=.tuple #[.pointer (some ⟨a,0,none⟩),.bool b]∧IntAt w a 0 n
theorem whole_any (w:World) (p q:Nat) (N D:Nat) (neg:Bool) (mode:Nat) (hN:IntAt w p 0 N) (hD:IntAt w q 0 D) (hD0:0<D) (hm:mode<5) (hfN:Fits N) (hfD:Fits (2 * D)) (hf1:Fits (N+1)) :
  Calls Tryz.prog 176 #[.pointer (some ⟨p,0,none⟩),.pointer (some ⟨q,0,none⟩),.bool neg,.int .u8 mode] w fun e w' =>
   ∃ v,e=.returned v∧IntBool (wholeV N D neg mode).1 (wholeV N D neg mode).2 v w'∧Fr [] w w':=by
 have hfD1:Fits D:=hfD.le (by omega)
 have fA:Fr [] w ((w.alloc (.cells #[.bool false,.slice none 0 0] 236)).alloc (.cells #[.bool false,.slice none 0 0] 236)):=((Fr.refl [] w).alloc _).alloc _
 have r1:IntRoom ((w.alloc (.cells #[.bool false,.slice none 0 0] 236)).alloc (.cells #[.bool false,.slice none 0 0] 236)) w.heap.size 0:=(IntRoom.new w).fr0 ((Fr.refl [] _).alloc _)
 have r2:IntRoom ((w.alloc (.cells #[.bool false,.slice none 0 0] 236)).alloc (.cells #[.bool false,.slice none 0 0] 236)) (w.heap.size+1) 0:=by have:=IntRoom.new (w.alloc (.cells #[.bool false,.slice none 0 0] 236));rwa [World.size_alloc] at this
 go_enter Tryz.func176,Tryz.ntmps176
 go_wp2_with fail
 refine (intQuoRem_nat _ _ 0 _ 0 _ 0 _ 0 N D r1 r2 (by simp) (hN.fr0 fA) (hD.fr0 fA) hfN hfD1 hD0).mono ?_
 rintro e w1 ⟨rfl,hq,hr,f1⟩
 have fB:Fr [] w w1:=fA.after f1 (by simp)
 have hnw:=r1.noWord.two r2.noWord
 have hD1:IntAt w1 q 0 D:=(hD.fr0 fA).fr f1 hnw (by have:=hD.lt;simp;omega)
 have hfr1:Fits (N % D):=hfN.le (Nat.mod_le _ _)
 have hfq:Fits (N / D):=hfN.le (Nat.div_le_self _ _)
 have hfr2:Fits (N % D * 2):=hfD.le (by have:=Nat.mod_lt N hD0;omega)
 have hfq1:Fits (N / D+1):=hf1.le (by have:=Nat.div_le_self N D;omega)
 generalize hQ:N / D=Q at hq hfq hfq1
 generalize hR:N % D=R at hr hfr1 hfr2
 have HQ:=Go.Lib.hid hQ;clear hQ
 have HR:=Go.Lib.hid hR;clear hR
 go_wp2_with fail
 refine (sign_any _ _ 0 _ hr).mono ?_
 rintro e w2 ⟨rfl,f2⟩
 have hq2:=hq.fr0 f2
 have hr2:=hr.fr0 f2
 have hD2:=hD1.fr0 f2
 have fC:Fr [] w w2:=fB.then f2
 by_cases h0:R=0
 ·have hs:((R:Nat):Int).sign=0:=by rw [h0];rfl
  have hv:wholeV N D neg mode=(Q,true):=by unfold wholeV;rw [HR.out,HQ.out,if_pos h0]
  have Hv:=Go.Lib.hid hv
  clear h0 hv
  go_wp2
  go_ret2
  exact⟨_,rfl,by rw [Hv.out];exact⟨_,rfl,hq2⟩,fC⟩
 ·have hs:((R:Nat):Int).sign=1:=Int.sign_eq_one_of_pos (by omega)
  have hv:wholeV N D neg mode=(if modeB mode neg ((Q:Int) % 2==1) (cmpI (R * 2) D)=true then Q+1 else Q,false):=by unfold wholeV;rw [HR.out,HQ.out,if_neg h0]
  have Hv:=Go.Lib.hid hv
  clear h0 hv
  go_wp2_with fail
  refine (intBit0_nat _ _ 0 _ hq2 hfq).mono ?_
  rintro e w3 ⟨rfl,rfl⟩
  go_wp2_with fail
  refine (intLsh_any _ _ 0 _ 0 _ 1 hr2.room hr2 (by simpa using hfr1) (by omega) (by simpa using hfr2)).mono ?_
  rintro e w3 ⟨rfl,hr3,f3⟩
  rw [Int.pow_one] at hr3
  have hr3':IntAt w3 (w.heap.size+1) 0 ((R * 2:Nat):Int):=by rw [Int.natCast_mul];exact hr3
  have hD3:IntAt w3 q 0 D:=hD2.fr f3 hr2.noWord (by have:=hD.lt;simp;omega)
  have hq3:=hq2.fr f3 hr2.noWord (by simp)
  have fD:Fr [] w w3:=fC.after f3 (by simp)
  go_wp2_with fail
  refine (intCmp_nat _ _ 0 _ 0 _ _ hr3' hD3 hfr2 hfD1).mono ?_
  rintro e w4 ⟨rfl,f4⟩
  generalize hB:cmpI (R * 2) D=B
  have HB:=Go.Lib.hid hB;clear hB
  go_wp2
  have fE:Fr [] w w4:=fD.then f4
  generalize hO:((Q:Int) % 2==1)=O
  generalize hW:w4.alloc (.cells #[.bool neg,.bool O,.int .i64 B] 330)=W
  have c0:W.cell? ⟨w4.heap.size,0,none⟩=some (.bool neg):=by rw [← hW];exact cell_new _ _ _ _ _ _ rfl
  have c1:W.cell? ⟨w4.heap.size,1,none⟩=some (.bool O):=by rw [← hW];exact cell_new _ _ _ _ _ _ rfl
  have c2:W.cell? ⟨w4.heap.size,2,none⟩=some (.int .i64 B):=by rw [← hW];exact cell_new _ _ _ _ _ _ rfl
  have fW:Fr [] w4 W:=by rw [← hW];exact (Fr.refl [] w4).alloc _
  have HO:=Go.Lib.hid hO;clear hO hW
  have hidx:=modes_index mode hm
  have hcf:=modes_call mode hm
  refine region_mono [] 5 [[],[],[0,1],[],[2,3]] [none,none,none,none,none] (by kernel_rfl) (by kernel_rfl) ?_
  simp only [Chain,fill,Act.put,List.nil_append,List.cons_append,List.take_succ_cons,List.take_zero,List.drop_succ_cons,List.drop_zero,List.setIfInBounds_toArray,List.set_cons_zero,List.set_cons_succ,Nat.reduceAdd]
  apply Exists.intro;apply And.intro
  ·intro vs w2 hf hh K hK;have c0:=hf.stayd c0;have c1:=hf.stayd c1;have c2:=hf.stayd c2;simp only [Held] at hh;(try simp only [] at hK ⊢);go_simp;refine (modes_any _).mono ?_;rintro e w3 ⟨rfl,f3⟩;exact hK _ _ ⟨rfl,f3⟩
  iterate 3 (apply Exists.intro;apply And.intro;·intro vs w2 hf hh K hK;have c0:=hf.stayd c0;have c1:=hf.stayd c1;have c2:=hf.stayd c2;simp only [Held,List.getD_cons_zero,List.getD_cons_succ,Just,and_true] at hh;(try simp only [hh] at hK ⊢);go_simp;exact hK _ _ ⟨rfl,Fr.refl _ _⟩)
  apply Exists.intro;apply And.intro
  ·intro vs w2 hf hh K hK;have c0:=hf.stayd c0;have c1:=hf.stayd c1;have c2:=hf.stayd c2;simp only [Held,List.getD_cons_zero,List.getD_cons_succ,Just,and_true] at hh;(try simp only [hh] at hK ⊢);go_simp;refine (bet_any _ mode hm neg O B).mono ?_;rintro e w3 ⟨rfl,f3⟩;exact hK _ _ ⟨rfl,f3⟩
  intro vs w2 hf hh
  simp only [HeldAll,Just,and_true,Nat.reduceAdd] at hh
  obtain⟨e0,e1,e2,e3,e4⟩:=hh
  simp only [e0,e1,e2,e3,e4]
  clear e0 e1 e2 e3 e4
  clear vs
  have c0:=hf.stayd c0
  have c1:=hf.stayd c1
  have c2:=hf.stayd c2
  clear hidx hcf c0 c1 c2
  have fF:Fr [] w w2:=(fE.then fW.drew).then hf
  have hq4:=((hq3.fr0 f4).fr0 fW.drew).fr0 hf
  generalize hM:modeB mode neg O B=M
  have HM:=Go.Lib.hid hM;clear hM
  cases M
  ·go_wp2
   go_ret2
   exact⟨_,rfl,by rw [Hv.out,HO.out,HB.out,HM.out];exact⟨_,rfl,hq4⟩,fF⟩
  ·go_wp2_with fail
   refine (newInt_nat _ 1 (by omega)).mono ?_
   rintro e w5 ⟨rfl,h5,f5⟩
   go_wp2_with fail
   refine (intAdd_nat _ _ 0 _ 0 _ 0 Q 1 (hq4.fr0 f5).room (hq4.fr0 f5) h5 hfq (hfq1.le (by omega)) hfq1).mono ?_
   rintro e w6 ⟨rfl,h6,f6⟩
   go_wp2
   go_ret2
   exact⟨_,rfl,by rw [Hv.out,HO.out,HB.out,HM.out];exact⟨_,rfl,h6⟩,(fF.then f5).after f6 (by simp)⟩
end Go.Proofs.YtcmndpjemdjalaaGreatDoor
namespace Go.Proofs.YtcmndpjemdjalaaGreatDoor
open Go.RowKit
open Pb
theorem bitLen_le {n k:Nat} (h:n<2 ^ k):bitLen n≤k:=by
 rcases Nat.lt_or_ge k (bitLen n) with h1 | h1
 ·have h0:n ≠ 0:=by rintro rfl;simp [bitLen] at h1
  have:=bitLen_lo h0
  have h2:2 ^ k≤2 ^ (bitLen n - 1):=Nat.pow_le_pow_right (by omega) (by omega)
  omega
 ·exact h1
theorem tnum_pos {N:Nat} (h:0<N) (e:Int):0<tnum N e:=by
 unfold tnum;split
 ·exact Nat.mul_pos h (Nat.pow_pos (by omega))
 ·exact h
theorem tden_pos {D:Nat} (h:0<D) (e:Int):0<tden D e:=by
 unfold tden;split
 ·exact h
 ·exact Nat.mul_pos h (Nat.pow_pos (by omega))
theorem tnum_lt {N A B:Nat} {e:Int} (h:N<2 ^ A) (he:e≤B):tnum N e<2 ^ (A+B):=by
 unfold tnum;split
 ·rw [Nat.pow_add]
  have:2 ^ e.toNat≤2 ^ B:=Nat.pow_le_pow_right (by omega) (by omega)
  exact Nat.lt_of_lt_of_le ((Nat.mul_lt_mul_right (Nat.pow_pos (by omega))).2 h) (Nat.mul_le_mul_left _ this)
 ·exact Nat.lt_of_lt_of_le h (Nat.pow_le_pow_right (by omega) (by omega))
theorem tden_lt {D A B:Nat} {e:Int} (h:D<2 ^ A) (he:-e≤B):tden D e<2 ^ (A+B):=by
 unfold tden;split
 ·exact Nat.lt_of_lt_of_le h (Nat.pow_le_pow_right (by omega) (by omega))
 ·rw [Nat.pow_add]
  have:2 ^ (-e).toNat≤2 ^ B:=Nat.pow_le_pow_right (by omega) (by omega)
  exact Nat.lt_of_lt_of_le ((Nat.mul_lt_mul_right (Nat.pow_pos (by omega))).2 h) (Nat.mul_le_mul_left _ this)
def logV (N D:Nat):Int :=
 let e:Int:=(bitLen N:Int) - bitLen D
 if cmpI (tnum N (-e)) (tden D (-e))<0 then e - 1 else e
theorem logV_bounds {N D A:Nat} (hN:N<2 ^ A) (hD:D<2 ^ A):-(A:Int) - 1≤logV N D∧logV N D≤A:=by
 have h1:=bitLen_le hN
 have h2:=bitLen_le hD
 unfold logV
 dsimp only
 split <;> omega
theorem log_any (w:World) (p q:Nat) (N D A:Nat) (hN:IntAt w p 0 N) (hD:IntAt w q 0 D) (hA:A≤16777216) (hNA:N<2 ^ A) (hDA:D<2 ^ A) :
  Calls Tryz.prog 175 #[numV p q] w fun e w'=>e=.returned (.int .i64 (logV N D))∧Fr [] w w':=by
 have hfN:Fits N:=Fits.of_bits hNA (by omega)
 have hfD:Fits D:=Fits.of_bits hDA (by omega)
 have b1:=bitLen_le hNA
 have b2:=bitLen_le hDA
 obtain⟨x,hx⟩:∃ x:Int,x=(bitLen N:Int) - bitLen D:=⟨_,rfl⟩
 have hx1:-16777216≤x:=by omega
 have hx2:x≤16777216:=by omega
 have hwr:IntKind.i64.wrap ((bitLen N:Int) - bitLen D)=x:=by rw [← hx];exact IntWalk.i64_in _ (by omega)
 have hfn:Fits (tnum N (-x)):=Fits.of_bits (tnum_lt (B:=16777216) hNA (by omega)) (by omega)
 have hfd:Fits (tden D (-x)):=Fits.of_bits (tden_lt (B:=16777216) hDA (by omega)) (by omega)
 have hv:logV N D=if cmpI (tnum N (-x)) (tden D (-x))<0 then x - 1 else x:=by unfold logV;rw [hx]
 have Hv:=Go.Lib.hid hv
 have Hx:=Go.Lib.hid hx
 clear hv hx
 unfold numV
 go_enter Tryz.func175,Tryz.ntmps175
 go_wp2
 generalize hW:w.alloc (.cells #[.pointer (some ⟨p,0,none⟩),.pointer (some ⟨q,0,none⟩)] 184)=W
 have c0:W.cell? ⟨w.heap.size,0,none⟩=some (.pointer (some ⟨p,0,none⟩)):=by rw [← hW];exact cell_new _ _ _ _ _ _ rfl
 have c1:W.cell? ⟨w.heap.size,1,none⟩=some (.pointer (some ⟨q,0,none⟩)):=by rw [← hW];exact cell_new _ _ _ _ _ _ rfl
 have fW:Fr [] w W:=by rw [← hW];exact (Fr.refl [] w).alloc _
 clear hW
 refine region_mono [] 7 [[],[0],[1],[],[3],[4],[2,5]] [none,none,none,none,none,none,none] (by kernel_rfl) (by kernel_rfl) ?_
 simp only [Chain,fill,Act.put,List.nil_append,List.cons_append,List.take_succ_cons,List.take_zero,List.drop_succ_cons,List.drop_zero,List.setIfInBounds_toArray,List.set_cons_zero,List.set_cons_succ,Nat.reduceAdd]
 iterate 2 (apply Exists.intro;apply And.intro;·intro vs w2 hf hh K hK;have c0:=hf.stayd c0;have c1:=hf.stayd c1;simp only [Held,List.getD_cons_zero,Just,and_true] at hh;(try simp only [hh] at hK ⊢);go_simp;exact hK _ _ ⟨rfl,Fr.refl _ _⟩)
 apply Exists.intro;apply And.intro
 ·intro vs w2 hf hh K hK;have c0:=hf.stayd c0;have c1:=hf.stayd c1;simp only [Held,List.getD_cons_zero,List.getD_cons_succ,Just,and_true] at hh;(try simp only [hh] at hK ⊢);go_simp;refine (intBitLen_any _ p 0 N ((hN.fr0 fW.drew).fr0 hf) (by simpa using hfN)).mono ?_;rintro e w3 ⟨rfl,rfl⟩;exact hK _ _ ⟨rfl,Fr.refl _ _⟩
 iterate 2 (apply Exists.intro;apply And.intro;·intro vs w2 hf hh K hK;have c0:=hf.stayd c0;have c1:=hf.stayd c1;simp only [Held,List.getD_cons_zero,List.getD_cons_succ,Just,and_true] at hh;(try simp only [hh] at hK ⊢);go_simp;exact hK _ _ ⟨rfl,Fr.refl _ _⟩)
 apply Exists.intro;apply And.intro
 ·intro vs w2 hf hh K hK;have c0:=hf.stayd c0;have c1:=hf.stayd c1;simp only [Held,List.getD_cons_zero,List.getD_cons_succ,Just,and_true] at hh;(try simp only [hh] at hK ⊢);go_simp;refine (intBitLen_any _ q 0 D ((hD.fr0 fW.drew).fr0 hf) (by simpa using hfD)).mono ?_;rintro e w3 ⟨rfl,rfl⟩;exact hK _ _ ⟨rfl,Fr.refl _ _⟩
 apply Exists.intro;apply And.intro
 ·intro vs w2 hf hh K hK;simp only [Held,List.getD_cons_zero,List.getD_cons_succ,Just,and_true] at hh;(try simp only [hh] at hK ⊢);go_simp;exact hK _ _ ⟨rfl,Fr.refl _ _⟩
 intro vs w2 hf hh
 simp only [HeldAll,Just,and_true,Nat.reduceAdd] at hh
 obtain⟨e0,e1,e2,e3,e4,e5,e6⟩:=hh
 simp only [e0,e1,e2,e3,e4,e5,e6]
 clear e0 e1 e2 e3 e4 e5 e6
 clear vs
 have c0:=hf.stayd c0
 have c1:=hf.stayd c1
 have fB:Fr [] w w2:=(fW.drew).then hf
 go_wp2_with fail
 refine (times_any _ p q N D (-x) (hN.fr0 fB) (hD.fr0 fB) (by omega) (by omega) hfN hfD hfn hfd).mono ?_
 rintro e w3 ⟨v3,rfl,⟨a,b,rfl,ha,hb⟩,f3⟩
 generalize tnum N (-x)=M at ha hfn Hv
 generalize tden D (-x)=M2 at hb hfd Hv
 go_wp2_with fail
 refine (intCmp_nat _ _ 0 _ 0 _ _ ha hb hfn hfd).mono ?_
 rintro e w4 ⟨rfl,f4⟩
 generalize hB:cmpI M M2=B
 rw [hB] at Hv
 clear hB hwr
 by_cases hlt:B<0
 ·have hv2:Hid (logV N D=x - 1):=Go.Lib.hid (by have:=Hv.out;rwa [if_pos hlt] at this)
  go_wp2
  go_ret
  exact⟨ret_int hv2.out.symm,(fB.then f3).then f4⟩
 ·have hv2:Hid (logV N D=x):=Go.Lib.hid (by have:=Hv.out;rwa [if_neg hlt] at this)
  go_wp2
  go_ret
  exact⟨ret_int hv2.out.symm,(fB.then f3).then f4⟩
end Go.Proofs.YtcmndpjemdjalaaGreatDoor
namespace Go.Proofs.YtcmndpjemdjalaaGreatDoor.Pb
open Go.RowKit
theorem byte_of (l:List Nat) (hd:Digs l) (k:Nat):dg l (k / 4) / 2 ^ (8 * (k % 4)) % 256=val l / 256 ^ k % 256:=by
 rw [dg_of_val l hd]
 have e1:(4294967296:Nat)=2 ^ (8 * (k % 4)) * (2 ^ 8 * 2 ^ (24 - 8 * (k % 4))):=by
  rw [← Nat.mul_assoc,← Nat.pow_add,← Nat.pow_add,show 8 * (k % 4)+8+(24 - 8 * (k % 4))=32 by omega]
 have e2:val l / 4294967296 ^ (k / 4) / 2 ^ (8 * (k % 4))=val l / 256 ^ k:=by
  rw [Nat.div_div_eq_div_mul,Nat.mul_comm,byte_pow]
 generalize val l / 4294967296 ^ (k / 4)=X at e2
 rw [← e2]
 have h0:0<2 ^ (8 * (k % 4)):=Nat.pow_pos (by omega)
 have e3:X % 4294967296 / 2 ^ (8 * (k % 4))=X / 2 ^ (8 * (k % 4)) % (2 ^ 8 * 2 ^ (24 - 8 * (k % 4))):=by
  rw [e1,Nat.mod_mul_right_div_self]
 rw [e3,Nat.mod_mul_right_mod]
theorem intBytes_any (w:World) (b o x A:Nat) (z:Int) (h:IntAt w b o z) (hnx:z.natAbs=x) (hA:x<2 ^ A) (hA2:A≤16777216) :
  Calls Tryz.prog 206 #[.pointer (some ⟨b,o,none⟩)] w fun e w'=>∃ v B,e=.returned v∧U8 w' w.heap.size v B∧B.length=(bitLen x+7) / 8∧bval B=x∧Fr [] w w':=by
 obtain⟨v,l,c0,c1,-,-,hu,hi⟩:=h.cells
 rw [hnx] at hi
 clear c0
 have hf:Fits x:=Fits.of_bits hA (by omega)
 have hl:=hf.len hi
 have hb:=bitLen_le hA
 have Hnx:=Go.Lib.hid hnx;clear hnx
 obtain⟨n,hn⟩:∃ n,n=(bitLen x+7) / 8:=⟨_,rfl⟩
 have hn1:((bitLen x:Nat):Int)+7=((bitLen x+7:Nat):Int):=by simp
 have hn2:(((bitLen x:Nat):Int)+7) / 8=n:=by omega
 have hxn:x<256 ^ n:=by
  rw [show (256:Nat) ^ n=2 ^ (8 * n) by rw [Nat.pow_mul]]
  exact Nat.lt_of_lt_of_le (bitLen_hi x) (Nat.pow_le_pow_right (by omega) (by omega))
 have hbl:bitLen x≤32 * l.length:=bitLen_le (by have:=hi.lt;rwa [show (4294967296:Nat)=2 ^ 32 from rfl,← Nat.pow_mul] at this)
 have hnl:∀ k,k<n→k / 4<l.length:=fun k hk=>by omega
 have hn3:n≤2097153:=by omega
 obtain⟨ao,cap,rfl,hcap,hc⟩:=hu.shape
 have Hc:=Go.Lib.hid hc;clear hc
 have Hn:=Go.Lib.hid hn;clear hn hn1
 have Hnl:=Go.Lib.hid hnl;clear hnl
 go_enter Tryz.func206,Tryz.ntmps206
 go_wp2_with fail
 refine (intBitLen_any _ b o z h (by rw [Hnx.out];exact hf)).mono ?_
 rintro e w0 ⟨rfl,rfl⟩
 rw [Hnx.out]
 go_wp2_with (at_make;refine make_u8 _ rfl _ _ rfl _ _ n rfl rfl (by first | rfl | omega) (by first | rfl | omega) (by omega) ?_;intro w1 hown hf1)
 go_loopw [13] (fun i wr=>∃ (i':Nat) (B:List Nat),i=.int .i64 i'∧i'≤n∧Hid (B.length=n)∧Byts B∧OwnB wr w.heap.size B∧Fr [] w wr∧Hid (bval (B.take i')=x / 256 ^ (n - i'))) (fun i _=>n - (intOf i).toNat)
 case atStart=>exact⟨0,_,rfl,Nat.zero_le _,Go.Lib.hid (by simp),Byts.replicate _,hown,hf1,Go.Lib.hid (by rw [Nat.sub_zero,Nat.div_eq_of_lt hxn];simp [bval])⟩
 case round =>
  obtain⟨i,B,rfl,hin,hB,hdB,hownr,hfr,hv⟩:=hrel
  clear hown hf1
  by_cases hlt:i<n
  ·obtain⟨k,hk⟩:∃ k,k=n - 1 - i:=⟨_,rfl⟩
   have hki:(n:Int) - 1 - (i:Int)=k:=by omega
   have hkl:=Hnl.out k (by omega)
   obtain⟨bb,oo,rfl,hbb,hcell⟩:=Hc.out _ hkl
   have hcell:=hfr.stay hcell (by simp)
   have c1:=hfr.stay c1 (by simp)
   have hiB:i<B.length:=by rw [hB.out];exact hlt
   have cB:=hownr.cell i hiB
   have zB:=hownr.free i
   have hby:=byte_of l hi.digs k
   rw [hi.val] at hby
   have hdl:=dg_lt hi.digs (k / 4)
   have e5:IntKind.u8.wrap (((dg l (k / 4):Nat):Int) / 2 ^ (8 * (k % 4)))=((x / 256 ^ k % 256:Nat):Int):=by
    rw [← hby,show (((dg l (k / 4):Nat):Int) / 2 ^ (8 * (k % 4)))=((dg l (k / 4) / 2 ^ (8 * (k % 4)):Nat):Int) by simp,IntKind.wrap_u8];omega
   have hown2:=hownr.set i ((x / 256 ^ k % 256:Nat):Int) (by omega)
   rw [Int.toNat_natCast] at hown2
   have hd2:=hdB.set i (x / 256 ^ k % 256) (by omega)
   have hL2:(B.set i (x / 256 ^ k % 256)).length=n:=by rw [List.length_set];exact hB.out
   have hv2:bval ((B.set i (x / 256 ^ k % 256)).take (i+1))=x / 256 ^ (n - (i+1)):=by
    rw [bval_take_succ _ _ (by rw [hL2];exact hlt),dg_set_self _ _ _ hiB,take_set_le _ _ _ _ (Nat.le_refl _),hv.out,show n - i=k+1 by omega,show n - (i+1)=k by omega,Nat.pow_succ,← Nat.div_div_eq_div_mul]
    omega
   have fr2:=hfr.setCell (p:=⟨w.heap.size,i,none⟩) (.inr (Nat.le_refl _)) (.int .u8 ((x / 256 ^ k % 256:Nat):Int))
   generalize hy:x / 256 ^ k % 256=y at *
   have HL2:=Go.Lib.hid hL2
   have HV2:=Go.Lib.hid hv2
   have Hk:=Go.Lib.hid hk
   clear hL2 hv2 hy hby hB hv hk
   go_wp2
   go_roundw
   case rel=>exact⟨i+1,B.set i y,by go_num,by omega,HL2,hd2,hown2,fr2,HV2⟩
   case measure=>simp [intOf];omega
  ·obtain rfl:i=n:=by omega
   have hval:bval B=x:=by
    have:=hv.out
    rwa [List.take_of_length_le (by rw [hB.out];exact Nat.le_refl _),Nat.sub_self,Nat.pow_zero,Nat.div_one] at this
   have hu8:=hownr.all (lo:=w.heap.size) hdB (Nat.le_refl _)
   rw [hB.out] at hu8
   have Hval:=Go.Lib.hid hval;clear hval
   go_wp2
   go_ret
   exact⟨_,B,rfl,hu8,hB.out.trans Hn.out,Hval.out,hfr⟩
end Go.Proofs.YtcmndpjemdjalaaGreatDoor.Pb
namespace Go.Proofs.YtcmndpjemdjalaaGreatDoor
open Go.RowKit
open Pb
theorem limbs_norm {W:List Nat} {x:Nat} (hd:Digs W) (hv:val W=x) (hl:W.length=((bitLen x+7) / 8+3) / 4):Is W x:=by
 refine⟨hd,Norm.of_last ?_,hv⟩
 by_cases h0:W.length=0
 ·exact .inl (List.eq_nil_of_length_eq_zero h0)
 ·refine .inr (fun hz=>?_)
  rw [← dg_def] at hz
  have hx0:x ≠ 0:=by rintro rfl;rw [bitLen_zero] at hl;omega
  have h1:=bitLen_lo hx0
  have h2:val W=val (W.take (W.length - 1)):=by
   have:=val_take_dg W (W.length - 1) (by omega)
   rw [show W.length - 1+1=W.length by omega,List.take_of_length_le (Nat.le_refl _),hz] at this
   simpa using this
  have h3:=(hd.take (W.length - 1)).lt
  rw [List.length_take,Nat.min_eq_left (by omega),← h2,hv,show (4294967296:Nat)=2 ^ 32 from rfl,← Nat.pow_mul] at h3
  have h4:2 ^ (32 * (W.length - 1))≤2 ^ (bitLen x - 1):=Nat.pow_le_pow_right (by omega) (by omega)
  omega
theorem ratioLimbs_any (w:World) (p x A:Nat) (n:Int) (h:IntAt w p 0 n) (hnx:n.natAbs=x) (hA:x<2 ^ A) (hA2:A≤16777216) :
  Calls Tryz.prog 253 #[.pointer (some ⟨p,0,none⟩)] w fun e w'=>∃ v l,e=.returned (.agg #[v])∧U32 w' w.heap.size v l∧Is l x∧Fr [] w w':=by
 have hbA:=bitLen_le hA
 have fA:=(Fr.refl [] w).alloc (.cells #[.slice none 0 0] 79)
 have z0:=cell_new w #[.slice none 0 0] 79 (0,0) 0 _ rfl
 have zr:=row_new w (.cells #[.slice none 0 0] 79 (0,0))
 have z1:=frozen_of_row _ w.heap.size 0 _ _ zr
 go_enter Tryz.func253,Tryz.ntmps253
 go_wp2_with fail
 refine (intBytes_any _ p 0 x A n (h.fr0 fA) hnx hA hA2).mono ?_
 clear hnx
 rintro e wb ⟨v,B,rfl,hu8,hBl,hBx,fb⟩
 have fB:=fA.then fb
 have hsz:w.heap.size<wb.heap.size:=by have:=fb.size;simp at this;omega
 have z0:=fb.stay z0 (by simp)
 have zr:=fb.row zr (by simp)
 have z1:=(fb.frozen (p:=⟨w.heap.size,0,none⟩) (by simp) (by simp)).trans z1
 have hdB:=hu8.digs
 have hl:B.length≤1073741824:=by omega
 have HBl:=Go.Lib.hid hBl;clear hBl
 have HBx:=Go.Lib.hid hBx;clear hBx
 obtain⟨ao,cap,rfl,hcap,hc⟩:=hu8.shape
 have Hc:=Go.Lib.hid hc;clear hc
 obtain⟨m,hm⟩:∃ m,m=(B.length+3) / 4:=⟨_,rfl⟩
 have hm1:((B.length:Int)+3) / 4=m:=by omega
 have Hm:=Go.Lib.hid hm;clear hm
 have hml:m≤1073741824:=by have:=Hm.out;omega
 go_wp2_with (at_make;refine make_u32 _ rfl _ _ rfl _ _ m rfl rfl (by first | rfl | omega) (by first | rfl | omega) (by omega) ?_;intro w1 hown hf)
 go_loopw [17] (fun i wr=>∃ (i':Nat) (W:List Nat),i=.int .i64 i'∧i'≤B.length∧Hid (W.length=m)∧Digs W∧Own wr wb.heap.size W∧Fr [] wb wr∧Hid (val W=bval (B.take i') * 256 ^ (B.length - i'))) (fun i _=>B.length - (intOf i).toNat)
 case atStart=>exact⟨0,_,rfl,Nat.zero_le _,Go.Lib.hid (by simp),Digs.replicate _,hown,hf,Go.Lib.hid (by rw [val_replicate];simp [bval])⟩
 case round =>
  obtain⟨i,W,rfl,hi,hW,hdW,hownr,hfr,hv⟩:=hrel
  clear hown hf
  by_cases hlt:i<B.length
  ·obtain⟨bb,oo,rfl,hb,hcell⟩:=Hc.out i hlt
   have hcell:=hfr.stay hcell (by simp)
   obtain⟨k,hk⟩:∃ k,k=B.length - 1 - i:=⟨_,rfl⟩
   have hki:(B.length:Int) - 1 - (i:Int)=k:=by omega
   have hk4:k / 4<W.length:=by have h1:=hW.out;have h2:=Hm.out;omega
   have hst:=byte_step (_n:=0) (V:=bval (B.take i)) (c:=dg B i) hdW hk4 (byt_lt hdB i) (by rw [hv.out,show B.length - i=k+1 by omega])
   obtain⟨s1,s2,s3,s4⟩:=hst
   have cW:=hownr.cell (k / 4) hk4
   have hbc:=byt_lt hdB i
   have hlenx:(W.set (k / 4) (dg W (k / 4)+dg B i * 2 ^ (8 * (k % 4)))).length=m:=by rw [List.length_set];exact hW.out
   have s2':val (W.set (k / 4) (dg W (k / 4)+dg B i * 2 ^ (8 * (k % 4))))=bval (B.take (i+1)) * 256 ^ (B.length - (i+1)):=by
    rw [s2,bval_take_succ B i hlt,show B.length - (i+1)=k by omega]
   have e1:IntKind.i64.wrap ((k:Int) / 4)=((k / 4:Nat):Int):=by rw [IntWalk.i64_in _ (by omega)];simp
   have e2:(k:Int).tmod 4=((k % 4:Nat):Int):=by rw [Int.tmod_eq_emod_of_nonneg (by omega)];simp
   have e3:IntKind.i64.wrap (8 * ((k % 4:Nat):Int))=((8 * (k % 4):Nat):Int):=by rw [IntWalk.i64_in _ (by omega)];simp
   have e4:IntKind.u32.wrap ((dg B i:Nat):Int)=((dg B i:Nat):Int):=IntWalk.u32_in _ (by omega)
   have e5a:((dg B i:Nat):Int) * 2 ^ (8 * (k % 4))=((dg B i * 2 ^ (8 * (k % 4)):Nat):Int):=by rw [Int.natCast_mul,Int.natCast_pow];rfl
   have e5:IntKind.u32.wrap (((dg B i:Nat):Int) * 2 ^ (8 * (k % 4)))=((dg B i * 2 ^ (8 * (k % 4)):Nat):Int):=by rw [e5a];exact IntWalk.u32_in _ ⟨Int.natCast_nonneg _,by omega⟩
   have e6:((dg B i:Nat):Int) * 2 ^ min (8 * (k % 4)) 32 % 4294967296=((dg B i * 2 ^ (8 * (k % 4)):Nat):Int):=by rw [Nat.min_eq_left (by omega),e5a];omega
   clear e5a
   have hqm:k / 4<m:=by have:=hW.out;omega
   clear hk
   generalize hq:k / 4=q at *
   generalize hr4:8 * (k % 4)=s8 at *
   generalize hr5:k % 4=r at *
   generalize hW':W.set q (dg W q+dg B i * 2 ^ s8)=W' at *
   generalize hy:dg B i * 2 ^ s8=y at *
   generalize hx:dg W q+y=x at *
   have hqi:(q:Int)<m:=by omega
   have S2:=Go.Lib.hid s2'
   have HW':=Go.Lib.hid hW'
   have HLX:=Go.Lib.hid hlenx
   clear s2 s2' s4 hq hr4 hr5 hx hy hW' hlenx hW hv hk4
   go_wp2_with fail
   refine region_mono [] 12 [[],[],[1],[0,2],[3],[],[5],[],[7],[8],[6,9],[4,10]] [none,none,none,none,none,none,none,none,none,none,none,none] (by kernel_rfl) (by kernel_rfl) ?_
   simp only [Chain,fill,Act.put,List.nil_append,List.cons_append,List.take_succ_cons,List.take_zero,List.drop_succ_cons,List.drop_zero,List.setIfInBounds_toArray,List.set_cons_zero,List.set_cons_succ,Nat.reduceAdd]
   iterate 12 (apply Exists.intro;apply And.intro;·intro vs w2 hf hh K hK;have cW:=hf.stayd cW;simp only [Held,List.getD_cons_zero,List.getD_cons_succ,Just,and_true] at hh;(try simp only [hh] at hK ⊢);go_simp;exact hK _ _ ⟨rfl,Fr.refl _ _⟩)
   intro vs w2 hf hh
   simp only [HeldAll,Just,and_true,Nat.reduceAdd] at hh
   obtain⟨e0,e1,e2,e3,e4,e5,e6,e7,e8,e9,e10,e11⟩:=hh
   simp only [e0,e1,e2,e3,e4,e5,e6,e7,e8,e9,e10,e11]
   clear e0 e1 e2 e3 e4 e5 e6 e7 e8 e9 e10 e11
   clear vs
   have cW:=hf.stayd cW
   have fz:Fr [] wr w2:=((Fr.refl [] wr).drew).then hf
   have hown2:=hownr.fr fz (by simp)
   have zW:=hown2.free q
   have hownx:=hown2.set q (x:Int) (by omega)
   rw [Int.toNat_natCast,HW'.out] at hownx
   have fr2:=(hfr.then fz).setCell (p:=⟨wb.heap.size,q,none⟩) (.inr (Nat.le_refl _)) (.int .u32 (x:Int))
   go_wp2
   go_roundw
   case rel=>exact⟨i+1,W',by go_num,by omega,HLX,s1,hownx,fr2,S2⟩
   case measure=>simp [intOf];omega
  ·obtain rfl:i=B.length:=by omega
   have hu:=hownr.all (lo:=w.heap.size) hdW (by omega)
   have hval:val W=x:=by have:=hv.out;rw [List.take_of_length_le (Nat.le_refl _),Nat.sub_self,Nat.pow_zero,Nat.mul_one] at this;exact this.trans HBx.out
   have hWl:=hW.out
   have hIs:=limbs_norm hdW hval (by rw [hWl,Hm.out,HBl.out])
   rw [hWl] at hu
   clear hval hWl
   have z0:=hfr.stay z0 (by simp)
   have z1':wr.frozen? ⟨w.heap.size,0,none⟩=false:=(hfr.frozen (p:=⟨w.heap.size,0,none⟩) hsz (by simp)).trans z1
   have fe:Fr [w.heap.size] wr (wr.setCell ⟨w.heap.size,0,none⟩ (.slice (some ⟨wb.heap.size,0,none⟩) m m)):=(Fr.refl _ wr).setCell (.inl (by simp)) _
   have hrow:wr.heap[w.heap.size]?=some (.cells #[.slice none 0 0] 79 (0,0)):=hfr.row zr (by simp)
   have hu2:=hu.fr fe (NoWord.of_type hrow (by decide))
   have z2:(wr.setCell ⟨w.heap.size,0,none⟩ (.slice (some ⟨wb.heap.size,0,none⟩) m m)).cell? ⟨w.heap.size,0,none⟩=some (.slice (some ⟨wb.heap.size,0,none⟩) m m):=by
    rw [cell_of_row _ w.heap.size 0 _ _ _ (heap_setCell_same wr w.heap.size 0 _ _ _ hrow)];rfl
   have hend:Fr [] w (wr.setCell ⟨w.heap.size,0,none⟩ (.slice (some ⟨wb.heap.size,0,none⟩) m m)):=(fB.then hfr).setCell (.inr (Nat.le_refl _)) _
   go_wp2
   exact bodyPost_ret (v:=.agg #[.slice (some ⟨wb.heap.size,0,none⟩) m m]) (by simp [results,Tryz.results253,go_sem,z2]) rfl ⟨_,W,rfl,hu2,hIs,hend⟩
theorem lexLimbs_any (w:World) (p x A:Nat) (n:Int) (h:IntAt w p 0 n) (hnx:n.natAbs=x) (hA:x<2 ^ A) (hA2:A≤16777216) :
  Calls Tryz.prog 160 #[.pointer (some ⟨p,0,none⟩)] w fun e w'=>∃ v l,e=.returned (.agg #[v])∧U32 w' w.heap.size v l∧Is l x∧Fr [] w w':=by
 have hbA:=bitLen_le hA
 have fA:=(Fr.refl [] w).alloc (.cells #[.slice none 0 0] 79)
 have z0:=cell_new w #[.slice none 0 0] 79 (0,0) 0 _ rfl
 have zr:=row_new w (.cells #[.slice none 0 0] 79 (0,0))
 have z1:=frozen_of_row _ w.heap.size 0 _ _ zr
 go_enter Tryz.func160,Tryz.ntmps160
 go_wp2_with fail
 refine (intBytes_any _ p 0 x A n (h.fr0 fA) hnx hA hA2).mono ?_
 clear hnx
 rintro e wb ⟨v,B,rfl,hu8,hBl,hBx,fb⟩
 have fB:=fA.then fb
 have hsz:w.heap.size<wb.heap.size:=by have:=fb.size;simp at this;omega
 have z0:=fb.stay z0 (by simp)
 have zr:=fb.row zr (by simp)
 have z1:=(fb.frozen (p:=⟨w.heap.size,0,none⟩) (by simp) (by simp)).trans z1
 have hdB:=hu8.digs
 have hl:B.length≤1073741824:=by omega
 have HBl:=Go.Lib.hid hBl;clear hBl
 have HBx:=Go.Lib.hid hBx;clear hBx
 obtain⟨ao,cap,rfl,hcap,hc⟩:=hu8.shape
 have Hc:=Go.Lib.hid hc;clear hc
 obtain⟨m,hm⟩:∃ m,m=(B.length+3) / 4:=⟨_,rfl⟩
 have hm1:((B.length:Int)+3) / 4=m:=by omega
 have Hm:=Go.Lib.hid hm;clear hm
 have hml:m≤1073741824:=by have:=Hm.out;omega
 go_wp2_with (at_make;refine make_u32 _ rfl _ _ rfl _ _ m rfl rfl (by first | rfl | omega) (by first | rfl | omega) (by omega) ?_;intro w1 hown hf)
 go_loopw [17] (fun i wr=>∃ (i':Nat) (W:List Nat),i=.int .i64 i'∧i'≤B.length∧Hid (W.length=m)∧Digs W∧Own wr wb.heap.size W∧Fr [] wb wr∧Hid (val W=bval (B.take i') * 256 ^ (B.length - i'))) (fun i _=>B.length - (intOf i).toNat)
 case atStart=>exact⟨0,_,rfl,Nat.zero_le _,Go.Lib.hid (by simp),Digs.replicate _,hown,hf,Go.Lib.hid (by rw [val_replicate];simp [bval])⟩
 case round =>
  obtain⟨i,W,rfl,hi,hW,hdW,hownr,hfr,hv⟩:=hrel
  clear hown hf
  by_cases hlt:i<B.length
  ·obtain⟨bb,oo,rfl,hb,hcell⟩:=Hc.out i hlt
   have hcell:=hfr.stay hcell (by simp)
   obtain⟨k,hk⟩:∃ k,k=B.length - 1 - i:=⟨_,rfl⟩
   have hki:(B.length:Int) - 1 - (i:Int)=k:=by omega
   have hk4:k / 4<W.length:=by have h1:=hW.out;have h2:=Hm.out;omega
   have hst:=byte_step (_n:=0) (V:=bval (B.take i)) (c:=dg B i) hdW hk4 (byt_lt hdB i) (by rw [hv.out,show B.length - i=k+1 by omega])
   obtain⟨s1,s2,s3,s4⟩:=hst
   have cW:=hownr.cell (k / 4) hk4
   have hbc:=byt_lt hdB i
   have hlenx:(W.set (k / 4) (dg W (k / 4)+dg B i * 2 ^ (8 * (k % 4)))).length=m:=by rw [List.length_set];exact hW.out
   have s2':val (W.set (k / 4) (dg W (k / 4)+dg B i * 2 ^ (8 * (k % 4))))=bval (B.take (i+1)) * 256 ^ (B.length - (i+1)):=by
    rw [s2,bval_take_succ B i hlt,show B.length - (i+1)=k by omega]
   have e1:IntKind.i64.wrap ((k:Int) / 4)=((k / 4:Nat):Int):=by rw [IntWalk.i64_in _ (by omega)];simp
   have e2:(k:Int).tmod 4=((k % 4:Nat):Int):=by rw [Int.tmod_eq_emod_of_nonneg (by omega)];simp
   have e3:IntKind.i64.wrap (8 * ((k % 4:Nat):Int))=((8 * (k % 4):Nat):Int):=by rw [IntWalk.i64_in _ (by omega)];simp
   have e4:IntKind.u32.wrap ((dg B i:Nat):Int)=((dg B i:Nat):Int):=IntWalk.u32_in _ (by omega)
   have e5a:((dg B i:Nat):Int) * 2 ^ (8 * (k % 4))=((dg B i * 2 ^ (8 * (k % 4)):Nat):Int):=by rw [Int.natCast_mul,Int.natCast_pow];rfl
   have e5:IntKind.u32.wrap (((dg B i:Nat):Int) * 2 ^ (8 * (k % 4)))=((dg B i * 2 ^ (8 * (k % 4)):Nat):Int):=by rw [e5a];exact IntWalk.u32_in _ ⟨Int.natCast_nonneg _,by omega⟩
   have e6:((dg B i:Nat):Int) * 2 ^ min (8 * (k % 4)) 32 % 4294967296=((dg B i * 2 ^ (8 * (k % 4)):Nat):Int):=by rw [Nat.min_eq_left (by omega),e5a];omega
   clear e5a
   have hqm:k / 4<m:=by have:=hW.out;omega
   clear hk
   generalize hq:k / 4=q at *
   generalize hr4:8 * (k % 4)=s8 at *
   generalize hr5:k % 4=r at *
   generalize hW':W.set q (dg W q+dg B i * 2 ^ s8)=W' at *
   generalize hy:dg B i * 2 ^ s8=y at *
   generalize hx:dg W q+y=x at *
   have hqi:(q:Int)<m:=by omega
   have S2:=Go.Lib.hid s2'
   have HW':=Go.Lib.hid hW'
   have HLX:=Go.Lib.hid hlenx
   clear s2 s2' s4 hq hr4 hr5 hx hy hW' hlenx hW hv hk4
   go_wp2_with fail
   refine region_mono [] 12 [[],[],[1],[0,2],[3],[],[5],[],[7],[8],[6,9],[4,10]] [none,none,none,none,none,none,none,none,none,none,none,none] (by kernel_rfl) (by kernel_rfl) ?_
   simp only [Chain,fill,Act.put,List.nil_append,List.cons_append,List.take_succ_cons,List.take_zero,List.drop_succ_cons,List.drop_zero,List.setIfInBounds_toArray,List.set_cons_zero,List.set_cons_succ,Nat.reduceAdd]
   iterate 12 (apply Exists.intro;apply And.intro;·intro vs w2 hf hh K hK;have cW:=hf.stayd cW;simp only [Held,List.getD_cons_zero,List.getD_cons_succ,Just,and_true] at hh;(try simp only [hh] at hK ⊢);go_simp;exact hK _ _ ⟨rfl,Fr.refl _ _⟩)
   intro vs w2 hf hh
   simp only [HeldAll,Just,and_true,Nat.reduceAdd] at hh
   obtain⟨e0,e1,e2,e3,e4,e5,e6,e7,e8,e9,e10,e11⟩:=hh
   simp only [e0,e1,e2,e3,e4,e5,e6,e7,e8,e9,e10,e11]
   clear e0 e1 e2 e3 e4 e5 e6 e7 e8 e9 e10 e11
   clear vs
   have cW:=hf.stayd cW
   have fz:Fr [] wr w2:=((Fr.refl [] wr).drew).then hf
   have hown2:=hownr.fr fz (by simp)
   have zW:=hown2.free q
   have hownx:=hown2.set q (x:Int) (by omega)
   rw [Int.toNat_natCast,HW'.out] at hownx
   have fr2:=(hfr.then fz).setCell (p:=⟨wb.heap.size,q,none⟩) (.inr (Nat.le_refl _)) (.int .u32 (x:Int))
   go_wp2
   go_roundw
   case rel=>exact⟨i+1,W',by go_num,by omega,HLX,s1,hownx,fr2,S2⟩
   case measure=>simp [intOf];omega
  ·obtain rfl:i=B.length:=by omega
   have hu:=hownr.all (lo:=w.heap.size) hdW (by omega)
   have hval:val W=x:=by have:=hv.out;rw [List.take_of_length_le (Nat.le_refl _),Nat.sub_self,Nat.pow_zero,Nat.mul_one] at this;exact this.trans HBx.out
   have hWl:=hW.out
   have hIs:=limbs_norm hdW hval (by rw [hWl,Hm.out,HBl.out])
   rw [hWl] at hu
   clear hval hWl
   have z0:=hfr.stay z0 (by simp)
   have z1':wr.frozen? ⟨w.heap.size,0,none⟩=false:=(hfr.frozen (p:=⟨w.heap.size,0,none⟩) hsz (by simp)).trans z1
   have fe:Fr [w.heap.size] wr (wr.setCell ⟨w.heap.size,0,none⟩ (.slice (some ⟨wb.heap.size,0,none⟩) m m)):=(Fr.refl _ wr).setCell (.inl (by simp)) _
   have hrow:wr.heap[w.heap.size]?=some (.cells #[.slice none 0 0] 79 (0,0)):=hfr.row zr (by simp)
   have hu2:=hu.fr fe (NoWord.of_type hrow (by decide))
   have z2:(wr.setCell ⟨w.heap.size,0,none⟩ (.slice (some ⟨wb.heap.size,0,none⟩) m m)).cell? ⟨w.heap.size,0,none⟩=some (.slice (some ⟨wb.heap.size,0,none⟩) m m):=by
    rw [cell_of_row _ w.heap.size 0 _ _ _ (heap_setCell_same wr w.heap.size 0 _ _ _ hrow)];rfl
   have hend:Fr [] w (wr.setCell ⟨w.heap.size,0,none⟩ (.slice (some ⟨wb.heap.size,0,none⟩) m m)):=(fB.then hfr).setCell (.inr (Nat.le_refl _)) _
   go_wp2
   exact bodyPost_ret (v:=.agg #[.slice (some ⟨wb.heap.size,0,none⟩) m m]) (by simp [results,Tryz.results160,go_sem,z2]) rfl ⟨_,W,rfl,hu2,hIs,hend⟩
end Go.Proofs.YtcmndpjemdjalaaGreatDoor
namespace Go.Proofs.YtcmndpjemdjalaaGreatDoor
open Go.RowKit
open Pb
theorem is_one {l:List Nat} (h:Is l 1):l=[1]:=by
 have h1:=h.len_of (m:=1) (by omega)
 have h2:l.length ≠ 0:=fun hh=>by have:=(h.len_zero).1 hh;omega
 cases l with
 | nil=>simp at h2
 | cons d t=>cases t with
  | nil=>have:=h.val;rw [val_one] at this;rw [this]
  | cons _ _=>simp at h1
theorem U32.one_shape {w:World} {lo:Nat} {v:Value} (h:U32 w lo v [1]):∃ b o cap,v=.slice (some ⟨b,o,none⟩) 1 cap∧1≤cap∧w.cell? ⟨b,o,none⟩=some (.int .u32 1):=by
 rcases h.cases with ⟨_,h2⟩ | ⟨b,o,cap,rfl,hcap,_,hc⟩
 ·simp at h2
 ·exact⟨b,o,cap,rfl,hcap,by have:=hc 0 (by simp);rw [Nat.add_zero] at this;exact this⟩
theorem one_one (w:World) (lo:Nat) (v:Value) (h:U32 w lo v [1]) :
  Calls Tryz.prog 291 #[v] w fun e w'=>e=.returned (.bool true)∧w=w':=by
 obtain⟨b,o,cap,rfl,hcap,c0⟩:=h.one_shape
 go_enter Tryz.func291,Tryz.ntmps291
 go_wp2
 go_ret
 exact⟨rfl,rfl⟩
theorem by_one (w:World) (lo:Nat) (v u:Value) (h:U32 w lo u [1]) :
  Calls Tryz.prog 277 #[v,u] w fun e w'=>e=.returned v∧w=w':=by
 go_enter Tryz.func277,Tryz.ntmps277
 go_wp2_with fail
 refine (one_one _ lo _ h).mono ?_
 rintro e w' ⟨rfl,rfl⟩
 go_wp2
 go_ret
 exact⟨rfl,rfl⟩
theorem zerosV_one:zerosV 1=0:=rfl
theorem bitLen_one:bitLen 1=1:=by unfold bitLen;decide
theorem common_one (w:World) (lo lo2:Nat) (v u:Value) (l:List Nat) (n:Nat) (h:U32 w lo v l) (hi:Is l n) (hl:l.length≤1073741824) (h':U32 w lo2 u [1]) (hn:0<n) (hT:TabAt 7 Lib.deBruijn32tab w) :
  Calls Tryz.prog 276 #[v,u] w fun e w'=>∃ v',e=.returned v'∧U32 w' w.heap.size v' [1]∧Fr [] w w':=by
 have i1:Is [1] 1:=⟨h'.digs,Norm.of_last (.inr (by simp)),by simp [val]⟩
 have hcmp:(cmpI n 1<0)=False:=by unfold cmpI;simp;split <;> (try split) <;> omega
 generalize hcv:cmpI n 1=cv at hcmp
 have hcv2:¬ cv<0:=by simpa using hcmp
 have Hcv:=Go.Lib.hid hcv
 clear hcv hcmp
 have hT':Hid (TabAt 7 Lib.deBruijn32tab w):=Go.Lib.hid hT
 clear hT
 obtain⟨b,o,cap,hu,hcap,c0⟩:=h'.one_shape
 subst hu
 go_enter Tryz.func276,Tryz.ntmps276
 go_wp2_with fail
 refine (cmpWords_any _ lo lo2 _ _ l [1] n 1 h h' hi i1 (by omega) (by simp)).mono ?_
 rintro e w1 ⟨rfl,f1⟩
 rw [Hcv.out]
 have t1:Hid (TabAt 7 Lib.deBruijn32tab w1):=Go.Lib.hid (fun j hj=>f1.stay (hT'.out j hj) (by simp))
 have h1:=h.fr0 f1
 have h1':=h'.fr0 f1
 go_wp2_with fail
 refine (zeros_any _ lo2 _ [1] 1 h1' i1 (by simp) t1.out).mono ?_
 rintro e w2 ⟨rfl,rfl⟩
 rw [zerosV_one]
 go_wp2_with fail
 refine (bitLen_any _ lo2 _ [1] 1 h1' i1 (by simp)).mono ?_
 rintro e w2 ⟨rfl,rfl⟩
 rw [bitLen_one]
 go_wp2_with fail
 generalize hW:w1.alloc (.cells #[.int .u32 1] 208)=W
 have fW:Fr [] w1 W:=by rw [← hW];exact (Fr.refl [] w1).alloc _
 have hO:Own W w1.heap.size [1]:=by rw [← hW];exact Own.one w1 1
 have t2:Hid (TabAt 7 Lib.deBruijn32tab W):=Go.Lib.hid (fun j hj=>fW.stay (t1.out j hj) (by simp))
 clear hW
 have h2:=h1.fr0 fW
 refine (zeros_any _ lo _ l n h2 hi (by omega) t2.out).mono ?_
 rintro e w2 ⟨rfl,rfl⟩
 generalize hz:zerosV n=z
 have Hz:=Go.Lib.hid hz;clear hz
 have hmin:min (z:Int) 0=0:=by omega
 go_wp2_with fail
 refine (zeros_any _ lo2 _ [1] 1 (h1'.fr0 fW) i1 (by simp) t2.out).mono ?_
 rintro e w2 ⟨rfl,rfl⟩
 rw [zerosV_one]
 go_wp2_with fail
 refine (up_any _ 0 _ [1] 0 (hO.all (lo:=0) i1.digs (Nat.zero_le _)) (by simp) (by omega)).mono ?_
 rintro e w2 ⟨v2,l2,rfl,u2,i2,f2⟩
 have hl2:l2=[1]:=is_one (by simpa [val] using i2)
 subst hl2
 go_wp2
 go_ret
 exact⟨_,rfl,u2.mono (by have h1:=f1.size;have h2:=fW.size;omega),(f1.then fW).then f2⟩
theorem natCheck_ok (w:World) (lo:Nat) (v:Value) (l:List Nat) (n:Nat) (h:U32 w lo v l) (hi:Is l n) (hl:l.length≤16384) :
  Calls Tryz.prog 119 #[.agg #[v]] w fun e w'=>e=.returned (.int .i64 0)∧Fr [] w w':=by
 rcases h.cases with ⟨rfl,rfl⟩ | ⟨b,o,cap,rfl,hcap,hb,hc⟩
 ·go_enter Tryz.func119,Tryz.ntmps119
  go_wp2
  go_ret
  exact⟨rfl,(Fr.refl [] w).alloc _⟩
 ·rcases Nat.eq_zero_or_pos l.length with h0 | hp
  ·rw [h0] at hcap ⊢
   clear hc hl
   go_enter Tryz.func119,Tryz.ntmps119
   go_wp2
   go_ret
   exact⟨rfl,(Fr.refl [] w).alloc _⟩
  ·have c0:=hc (l.length - 1) (by omega)
   have hlast:=hi.norm.last hp
   rw [← dg_def] at hlast
   obtain⟨m,hm⟩:∃ m,l.length=m+1:=⟨l.length - 1,by omega⟩
   rw [hm,Nat.add_sub_cancel] at c0 hlast
   have hb0:(((dg l m:Nat):Int)==0)=false:=by simpa using hlast
   rw [hm] at hcap ⊢
   have hm2:m≤16383:=by omega
   clear hc hl hm hp hlast
   go_enter Tryz.func119,Tryz.ntmps119
   go_wp2
   go_ret
   exact⟨rfl,(Fr.refl [] w).alloc _⟩
end Go.Proofs.YtcmndpjemdjalaaGreatDoor
namespace Go.Proofs.YtcmndpjemdjalaaGreatDoor
open Go.RowKit
open Pb
def RatAt (w:World) (b:Nat) (n:Int):Prop:=IntAt w b 0 n∧∃ v l,w.cell? ⟨b,2,none⟩=some v∧U32 w 0 v l∧(l=[]∨l=[1])
theorem RatAt.fr0 {w w':World} {b:Nat} {n:Int} (h:RatAt w b n) (hf:Fr [] w w'):RatAt w' b n:=by
 obtain⟨h1,v,l,h2,h3,h4⟩:=h
 exact⟨h1.fr0 hf,v,l,hf.stay h2 (by simp),h3.fr0 hf,h4⟩
def RatRoom (w:World) (b:Nat):Prop:=∃ cur t,w.heap[b]?=some (.cells cur t (0,0))∧t ≠ 208∧2<cur.size
theorem RatRoom.int {w:World} {b:Nat} (h:RatRoom w b):IntRoom w b 0:=by
 obtain⟨cur,t,h1,h2,h3⟩:=h
 exact⟨cur,t,h1,h2,by omega⟩
theorem RatRoom.fr0 {w w':World} {b:Nat} (h:RatRoom w b) (hf:Fr [] w w'):RatRoom w' b:=by
 obtain⟨cur,t,h1,h2,h3⟩:=h
 exact⟨cur,t,hf.row h1 (by simp),h2,h3⟩
theorem RatRoom.new (w:World):RatRoom (w.alloc (.cells #[.bool false,.slice none 0 0,.slice none 0 0] 317)) w.heap.size :=
 ⟨_,_,row_new _ _,by decide,by simp⟩
theorem IntAt.set2 {w:World} {b:Nat} {n:Int} (h:IntAt w b 0 n) (v:Value):IntAt (w.setCell ⟨b,2,none⟩ v) b 0 n:=by
 have hnw:=h.noWord
 obtain⟨cur,t,u,l,hh,ht,h1,h2,hu,hi⟩:=h
 exact⟨_,t,u,l,heap_setCell_same w b 2 _ _ v hh,ht,by rw [Array.getElem?_setIfInBounds_ne (by omega)];exact h1,by rw [Array.getElem?_setIfInBounds_ne (by omega)];exact h2,
  hu.fr ((Fr.refl [b] w).setCell (.inl (by simp)) _) hnw,hi⟩
theorem ratSet_pos (w:World) (z lo lo2:Nat) (minus:Bool) (v u:Value) (l:List Nat) (n:Nat) (m:Int) (hm:m=if minus=true then -(n:Int) else n) (hr:RatRoom w z) (h:U32 w lo v l) (hi:Is l n) (hl:l.length≤1073741824) (h':U32 w lo2 u [1]) (hn:0<n) (hT:TabAt 7 Lib.deBruijn32tab w) :
  Calls Tryz.prog 249 #[.pointer (some ⟨z,0,none⟩),.bool minus,v,u] w fun e w'=>e=.returned (.pointer (some ⟨z,0,none⟩))∧RatAt w' z m∧Fr [z] w w':=by
 have Hm:=Go.Lib.hid hm;clear hm
 have i1:Is [1] 1:=⟨h'.digs,Norm.of_last (.inr (by simp)),by simp [val]⟩
 go_enter Tryz.func249,Tryz.ntmps249
 go_wp2_with fail
 refine (trim_any _ lo _ l h (by omega)).mono ?_
 rintro e w1 ⟨v1,l1,rfl,u1,i1',hl1,rfl⟩
 rw [hi.val] at i1'
 have hp:l1.length ≠ 0:=fun hh=>by have:=(i1'.len_zero).1 hh;omega
 go_wp2_with fail
 refine (trim_any _ lo2 _ [1] h' (by simp)).mono ?_
 rintro e w1 ⟨v2,l2,rfl,u2,i2,hl2,rfl⟩
 have hl2':l2=[1]:=is_one (by simpa [val] using i2)
 subst hl2'
 obtain⟨b9,o9,cap9,hv9,hcap9,-⟩:=u2.one_shape
 subst hv9
 obtain⟨ao,cap,rfl,hcap,-⟩:=u1.shape
 have hp0:((l1.length:Int)==0)=false:=by simpa using hp
 go_wp2_with fail
 refine (common_one _ lo lo2 _ _ l1 n u1 i1' (by omega) u2 hn hT).mono ?_
 rintro e w2 ⟨v3,rfl,u3,f2⟩
 have r2:=hr.fr0 f2
 have c2:∃ x,w2.cell? ⟨z,2,none⟩=some x:=by
  obtain⟨cur,t,h1,h2,h3⟩:=r2
  exact⟨cur[2],by rw [cell_of_row w2 z 2 cur t _ h1];simp [h3]⟩
 obtain⟨x2,c2⟩:=c2
 go_wp2_with fail
 obtain⟨wa,hwa⟩:∃ x,x=w2:=⟨_,rfl⟩
 subst hwa
 refine region_mono [] 7 [[],[0],[1],[],[],[],[4,5]] [none,none,none,none,none,none,none] (by kernel_rfl) (by kernel_rfl) ?_
 simp only [Chain,fill,Act.put,List.nil_append,List.cons_append,List.take_succ_cons,List.take_zero,List.drop_succ_cons,List.drop_zero,List.setIfInBounds_toArray,List.set_cons_zero,List.set_cons_succ,Nat.reduceAdd]
 iterate 6 (apply Exists.intro;apply And.intro;·intro vs w2 hf hh K hK;simp only [Held,List.getD_cons_zero,List.getD_cons_succ,Just,and_true] at hh;(try simp only [hh] at hK ⊢);go_simp;exact hK _ _ ⟨rfl,Fr.refl _ _⟩)
 apply Exists.intro;apply And.intro
 ·intro vs w2 hf hh K hK;have c2:=hf.stayd c2;simp only [Held,List.getD_cons_zero,List.getD_cons_succ,Just,and_true] at hh;(try simp only [hh] at hK ⊢);go_simp;refine (by_one _ _ _ _ (u3.fr0 (((Fr.refl [] _).drew).then hf))).mono ?_;rintro e w4 ⟨rfl,rfl⟩;exact hK _ _ ⟨rfl,Fr.refl _ _⟩
 intro vs w2 hf hh
 simp only [HeldAll,Just,and_true,Nat.reduceAdd] at hh
 obtain⟨e0,e1,e2,e3,e4,e5,e6⟩:=hh
 simp only [e0,e1,e2,e3,e4,e5,e6]
 clear e0 e1 e2 e3 e4 e5 e6
 clear vs
 have c2:=hf.stayd c2
 have fz:=f2.drew.then hf
 have u4:=u1.fr0 fz
 have hrz:=hr.fr0 fz
 have irz:=hrz.int
 go_wp2_with fail
 refine (set_exact _ z 0 lo minus _ l1 irz u4 (by omega)).mono ?_
 rintro e w5 ⟨rfl,v5,l5,u5,i5,rfl⟩
 rw [i1'.val] at i5
 have hset:=irz.set (neg:=minus && decide (0<l5.length)) (n:=m) (u5.mono (Nat.zero_le _)) i5 (by rw [Hm.out];split <;> simp) (by
  rw [Hm.out]
  have h5:0<l5.length:=Nat.pos_of_ne_zero (fun hh=>by have:=(i5.len_zero).1 hh;omega)
  cases minus <;> simp [h5] <;> omega)
 have fs:Fr [z] w2 ((w2.setCell ⟨z,1,none⟩ v5).setCell ⟨z,0,none⟩ (.bool (minus && decide (0<l5.length)))):=((Fr.refl [z] w2).setCell (.inl (by simp)) _).setCell (.inl (by simp)) _
 have c22:((w2.setCell ⟨z,1,none⟩ v5).setCell ⟨z,0,none⟩ (.bool (minus && decide (0<l5.length)))).cell? ⟨z,2,none⟩=some x2:=by
  obtain⟨cur,t,h1,h2,h3⟩:=hrz
  rw [cell_of_row w2 z 2 cur t _ h1] at c2
  have e1:=heap_setCell_same w2 z 1 _ _ v5 h1
  have e2:=heap_setCell_same _ z 0 _ _ (.bool (minus && decide (0<l5.length))) e1
  rw [cell_of_row _ z 2 _ t _ e2,Array.getElem?_setIfInBounds_ne (by omega),Array.getElem?_setIfInBounds_ne (by omega)];exact c2
 have z22:((w2.setCell ⟨z,1,none⟩ v5).setCell ⟨z,0,none⟩ (.bool (minus && decide (0<l5.length)))).frozen? ⟨z,2,none⟩=false:=by
  obtain⟨cur,t,h1,h2,h3⟩:=hrz
  have e1:=heap_setCell_same w2 z 1 _ _ v5 h1
  have e2:=heap_setCell_same _ z 0 _ _ (.bool (minus && decide (0<l5.length))) e1
  exact frozen_of_row _ z 2 _ t e2
 have g3:=(u3.fr0 (((Fr.refl [] _).drew).then hf)).fr fs irz.noWord
 have d3:=((u2.fr0 f2).fr0 (((Fr.refl [] _).drew).then hf)).fr fs irz.noWord
 generalize hWs:(w2.setCell ⟨z,1,none⟩ v5).setCell ⟨z,0,none⟩ (.bool (minus && decide (0<l5.length)))=Ws at *
 have HWs:=Go.Lib.hid hWs;clear hWs
 clear c2
 go_wp2_with fail
 refine (by_one _ _ _ _ g3).mono ?_
 rintro e w6 ⟨rfl,rfl⟩
 go_wp2
 go_ret
 refine⟨rfl,⟨hset.set2 _,.slice (some ⟨b9,o9,none⟩) 1 cap9,[1],?_,?_,.inr rfl⟩,?_⟩
 ·have hh:=hset
  obtain⟨cur,t,_,_,hh,_⟩:=hh
  have h3:2<cur.size:=by
   rw [cell_of_row _ z 2 cur t _ hh] at c22
   exact (Array.getElem?_eq_some_iff.1 c22).1
  rw [cell_of_row _ z 2 _ t _ (heap_setCell_same _ z 2 _ _ _ hh),Array.getElem?_setIfInBounds_self_of_lt h3]
 ·exact (d3.mono (Nat.zero_le _)).fr ((Fr.refl [z] _).setCell (.inl (by simp)) _) hset.noWord
 ·exact (((fz.mono (by simp)).trans fs (by simp)).setCell (.inl (by simp)) _)
theorem ratSet_zero (w:World) (z lo lo2:Nat) (minus:Bool) (v u:Value) (l:List Nat) (hr:RatRoom w z) (h:U32 w lo v l) (hi:Is l 0) (h':U32 w lo2 u [1]) :
  Calls Tryz.prog 249 #[.pointer (some ⟨z,0,none⟩),.bool minus,v,u] w fun e w'=>e=.returned (.pointer (some ⟨z,0,none⟩))∧RatAt w' z 0∧Fr [z] w w':=by
 obtain rfl:=hi.zero
 have irz:=hr.int
 go_enter Tryz.func249,Tryz.ntmps249
 go_wp2_with fail
 refine (trim_any _ lo _ [] h (by simp)).mono ?_
 rintro e w1 ⟨v1,l1,rfl,u1,i1',hl1,rfl⟩
 obtain rfl:l1=[]:=List.eq_nil_of_length_eq_zero (by simpa using hl1)
 obtain⟨ao,cap,rfl,hcap,-⟩:=u1.shape
 go_wp2_with fail
 refine (trim_any _ lo2 _ [1] h' (by simp)).mono ?_
 rintro e w1 ⟨v2,l2,rfl,u2,i2,hl2,rfl⟩
 go_wp2_with fail
 refine (set_exact _ z 0 0 false _ [] irz (U32.nil _ _) (by simp)).mono ?_
 rintro e w5 ⟨rfl,v5,l5,u5,i5,rfl⟩
 have i50:Is l5 0:=by simpa [val] using i5
 obtain rfl:=i50.zero
 have hset:=irz.set (neg:=false && decide (0<([]:List Nat).length)) (n:=0) (u5.mono (Nat.zero_le _)) Is.nil (by simp) (by simp)
 have c2:∃ x,w.cell? ⟨z,2,none⟩=some x:=by
  obtain⟨cur,t,h1,h2,h3⟩:=hr
  exact⟨cur[2],by rw [cell_of_row w z 2 cur t _ h1];simp [h3]⟩
 obtain⟨x2,c2⟩:=c2
 have fs:Fr [z] w ((w.setCell ⟨z,1,none⟩ v5).setCell ⟨z,0,none⟩ (.bool (false && decide (0<([]:List Nat).length)))):=((Fr.refl [z] w).setCell (.inl (by simp)) _).setCell (.inl (by simp)) _
 have c22:((w.setCell ⟨z,1,none⟩ v5).setCell ⟨z,0,none⟩ (.bool (false && decide (0<([]:List Nat).length)))).cell? ⟨z,2,none⟩=some x2:=by
  obtain⟨cur,t,h1,h2,h3⟩:=hr
  rw [cell_of_row w z 2 cur t _ h1] at c2
  have e1:=heap_setCell_same w z 1 _ _ v5 h1
  have e2:=heap_setCell_same _ z 0 _ _ (.bool (false && decide (0<([]:List Nat).length))) e1
  rw [cell_of_row _ z 2 _ t _ e2,Array.getElem?_setIfInBounds_ne (by omega),Array.getElem?_setIfInBounds_ne (by omega)];exact c2
 have z22:((w.setCell ⟨z,1,none⟩ v5).setCell ⟨z,0,none⟩ (.bool (false && decide (0<([]:List Nat).length)))).frozen? ⟨z,2,none⟩=false:=by
  obtain⟨cur,t,h1,h2,h3⟩:=hr
  have e1:=heap_setCell_same w z 1 _ _ v5 h1
  have e2:=heap_setCell_same _ z 0 _ _ (.bool (false && decide (0<([]:List Nat).length))) e1
  exact frozen_of_row _ z 2 _ t e2
 generalize hWs:(w.setCell ⟨z,1,none⟩ v5).setCell ⟨z,0,none⟩ (.bool (false && decide (0<([]:List Nat).length)))=Ws at *
 have HWs:=Go.Lib.hid hWs;clear hWs
 clear c2
 go_wp2
 go_ret
 refine⟨rfl,⟨hset.set2 _,.slice none 0 0,[],?_,U32.nil _ _,.inl rfl⟩,fs.setCell (.inl (by simp)) _⟩
 obtain⟨cur,t,_,_,hh,_⟩:=hset
 have h3:2<cur.size:=by
  rw [cell_of_row _ z 2 cur t _ hh] at c22
  exact (Array.getElem?_eq_some_iff.1 c22).1
 rw [cell_of_row _ z 2 _ t _ (heap_setCell_same _ z 2 _ _ _ hh),Array.getElem?_setIfInBounds_self_of_lt h3]
theorem ratSet_any (w:World) (z lo lo2:Nat) (minus:Bool) (v u:Value) (l:List Nat) (n:Nat) (hr:RatRoom w z) (h:U32 w lo v l) (hi:Is l n) (hl:l.length≤1073741824) (h':U32 w lo2 u [1]) (hT:TabAt 7 Lib.deBruijn32tab w) :
  Calls Tryz.prog 249 #[.pointer (some ⟨z,0,none⟩),.bool minus,v,u] w fun e w'=>e=.returned (.pointer (some ⟨z,0,none⟩))∧RatAt w' z (if minus then -(n:Int) else n)∧Fr [z] w w':=by
 rcases Nat.eq_zero_or_pos n with rfl | hn
 ·have:=ratSet_zero w z lo lo2 minus v u l hr h hi h'
  cases minus <;> exact this
 ·exact ratSet_pos w z lo lo2 minus v u l n _ rfl hr h hi hl h' hn hT
theorem setFrac_one (w:World) (z a b:Nat) (n:Int) (hr:RatRoom w z) (ha:IntAt w a 0 n) (hb:IntAt w b 0 (1:Nat)) (hf:Fits n.natAbs) (hT:TabAt 7 Lib.deBruijn32tab w) :
  Calls Tryz.prog 210 #[.pointer (some ⟨z,0,none⟩),.pointer (some ⟨a,0,none⟩),.pointer (some ⟨b,0,none⟩)] w fun e w'=>e=.returned (.pointer (some ⟨z,0,none⟩))∧RatAt w' z n∧Fr [z] w w':=by
 obtain⟨v,l,c0,c1,-,-,hu,hi⟩:=ha.cells
 obtain⟨u,k,c2,c3,-,-,hu',hi'⟩:=hb.nat
 obtain rfl:=is_one hi'
 have hl:=hf.len hi
 rw [Nat.zero_add] at c1 c3
 have hT':Hid (TabAt 7 Lib.deBruijn32tab w):=Go.Lib.hid hT
 clear hT
 go_enter Tryz.func210,Tryz.ntmps210
 go_wp2_with fail
 refine region_mono [] 20 [[],[],[1],[2],[3],[],[5],[6],[7],[4,8],[],[10],[11],[12],[13],[],[15],[16],[17],[18]] [none,none,none,none,none,none,none,none,none,none,none,none,none,none,some (IsW n.natAbs),none,none,none,none,some (IsW 1)] (by kernel_rfl) (by kernel_rfl) ?_
 simp only [Chain,fill,Act.put,List.nil_append,List.cons_append,List.take_succ_cons,List.take_zero,List.drop_succ_cons,List.drop_zero,List.setIfInBounds_toArray,List.set_cons_zero,List.set_cons_succ,Nat.reduceAdd]
 iterate 14 (apply Exists.intro;apply And.intro;·intro vs w2 hf hh K hK;have c0:=hf.stayd c0;have c1:=hf.stayd c1;have c2:=hf.stayd c2;have c3:=hf.stayd c3;simp only [Held,List.getD_cons_zero,List.getD_cons_succ,Just,and_true] at hh;(try simp only [hh] at hK ⊢);go_simp;exact hK _ _ ⟨rfl,Fr.refl _ _⟩)
 refine⟨IsW.lasts _,?_,?_⟩
 ·intro vs w2 hf hh K hK;have c0:=hf.stayd c0;have c1:=hf.stayd c1;have c2:=hf.stayd c2;have c3:=hf.stayd c3;simp only [Held,List.getD_cons_zero,List.getD_cons_succ,Just,and_true] at hh;(try simp only [hh] at hK ⊢);go_simp;refine (copied_any _ 0 _ l (hu.fr0 (((Fr.refl [] w).drew).then hf)) (by omega)).mono ?_;rintro e w3 ⟨v3,rfl,u3,f3⟩;exact hK _ _ ⟨⟨l,u3.mono (Nat.zero_le _),hi⟩,f3⟩
 iterate 4 (apply Exists.intro;apply And.intro;·intro vs w2 hf hh K hK;have c0:=hf.stayd c0;have c1:=hf.stayd c1;have c2:=hf.stayd c2;have c3:=hf.stayd c3;simp only [Held,List.getD_cons_zero,List.getD_cons_succ,Just,and_true] at hh;(try simp only [hh] at hK ⊢);go_simp;exact hK _ _ ⟨rfl,Fr.refl _ _⟩)
 refine⟨IsW.lasts _,?_,?_⟩
 ·intro vs w2 hf hh K hK;have c0:=hf.stayd c0;have c1:=hf.stayd c1;have c2:=hf.stayd c2;have c3:=hf.stayd c3;simp only [Held,List.getD_cons_zero,List.getD_cons_succ,Just,and_true] at hh;(try simp only [hh] at hK ⊢);go_simp;refine (copied_any _ 0 _ [1] (hu'.fr0 (((Fr.refl [] w).drew).then hf)) (by simp)).mono ?_;rintro e w3 ⟨v3,rfl,u3,f3⟩;exact hK _ _ ⟨⟨[1],u3.mono (Nat.zero_le _),hi'⟩,f3⟩
 intro vs w2 hf hh
 simp only [HeldAll,Just,and_true,Nat.reduceAdd] at hh
 obtain⟨e0,e1,e2,e3,e4,e5,e6,e7,e8,e9,e10,e11,e12,e13,e14,e15,e16,e17,e18,e19⟩:=hh
 simp only [e0,e1,e2,e3,e4,e5,e6,e7,e8,e9,e10,e11,e12,e13,e15,e16,e17,e18]
 clear e0 e1 e2 e3 e4 e5 e6 e7 e8 e9 e10 e11 e12 e13 e15 e16 e17 e18
 generalize vs 14=v14 at e14 ⊢
 generalize vs 19=v19 at e19 ⊢
 clear vs
 have c0:=hf.stayd c0
 have c1:=hf.stayd c1
 have c2:=hf.stayd c2
 have c3:=hf.stayd c3
 obtain⟨l2,u2,i2⟩:=e14
 obtain⟨k2,u4,i4⟩:=e19
 obtain rfl:=is_one i4
 have fw:Fr [] w w2:=((Fr.refl [] w).drew).then hf
 go_wp2_with fail
 refine (ratSet_any _ z 0 0 _ _ _ l2 n.natAbs (hr.fr0 fw) u2 i2 (Fits.len (by assumption) i2) u4 (fun j hj=>fw.stay (hT'.out j hj) (by simp))).mono ?_
 rintro e w3 ⟨rfl,h3,f3⟩
 have hn:(if decide (n<0)=true then -((n.natAbs:Nat):Int) else ((n.natAbs:Nat):Int))=n:=by
  by_cases h:n<0
  ·rw [decide_eq_true h,if_pos rfl];omega
  ·rw [decide_eq_false h,if_neg Bool.false_ne_true];omega
 rw [hn] at h3
 go_wp2
 go_ret
 exact⟨rfl,h3,(fw.mono (by simp)).trans f3 (by simp)⟩
end Go.Proofs.YtcmndpjemdjalaaGreatDoor
namespace Go.Proofs.YtcmndpjemdjalaaGreatDoor
open Go.RowKit
open Pb
theorem RatAt.lt {w:World} {b:Nat} {n:Int} (h:RatAt w b n):b<w.heap.size:=h.1.lt
theorem ratBelow (w:World) (z:Nat) (n:Int) (h:RatAt w z n) :
  Calls Tryz.prog 254 #[.pointer (some ⟨z,0,none⟩)] w fun e w'=>∃ v,e=.returned v∧U32 w' 0 v [1]∧Fr [] w w':=by
 obtain⟨_,v,l,c2,hu,hl⟩:=h
 rcases hl with rfl | rfl
 ·obtain⟨ao,cap,rfl,hcap,-⟩:=hu.shape
  have ho:=Own.one w 1
  go_enter Tryz.func254,Tryz.ntmps254
  go_wp2
  go_ret
  exact⟨_,rfl,ho.all (lo:=0) (fun x hx=>by simp at hx;omega) (Nat.zero_le _),(Fr.refl [] w).alloc _⟩
 ·obtain⟨b,o,cap,rfl,hcap,c0⟩:=hu.one_shape
  go_enter Tryz.func254,Tryz.ntmps254
  go_wp2
  go_ret
  exact⟨_,rfl,hu,Fr.refl [] w⟩
theorem ratNum (w:World) (z:Nat) (n:Int) (h:RatAt w z n) (hf:Fits n.natAbs) :
  Calls Tryz.prog 251 #[.pointer (some ⟨z,0,none⟩)] w fun e w'=>∃ v,e=.returned v∧OneInt n v w'∧Fr [] w w':=by
 have hr:=IntRoom.new w
 have h1:=(h.fr0 ((Fr.refl [] w).alloc (.cells #[.bool false,.slice none 0 0] 236))).1
 go_enter Tryz.func251,Tryz.ntmps251
 go_wp2_with fail
 refine (intSet_any _ _ 0 z 0 n hr h1 hf).mono ?_
 rintro e w1 ⟨rfl,h2,f2⟩
 go_wp2
 go_ret
 exact⟨_,rfl,⟨_,rfl,h2⟩,((Fr.refl [] w).alloc _).after f2 (by simp)⟩
theorem ratDenom (w:World) (z:Nat) (n:Int) (h:RatAt w z n) :
  Calls Tryz.prog 213 #[.pointer (some ⟨z,0,none⟩)] w fun e w'=>∃ v,e=.returned v∧OneInt (1:Nat) v w'∧Fr [] w w':=by
 have hr:=IntRoom.new w
 have h1:=h.fr0 ((Fr.refl [] w).alloc (.cells #[.bool false,.slice none 0 0] 236))
 go_enter Tryz.func213,Tryz.ntmps213
 go_wp2_with fail
 refine (ratBelow _ z n h1).mono ?_
 rintro e w1 ⟨v1,rfl,u1,f1⟩
 go_wp2_with fail
 refine (copied_any _ 0 _ [1] u1 (by simp)).mono ?_
 rintro e w2 ⟨v2,rfl,u2,f2⟩
 go_wp2_with fail
 refine (set_any _ _ 0 _ false _ [1] ((1:Nat):Int) ((hr.fr0 f1).fr0 f2) u2 (by simp) (by simp [val])).mono ?_
 rintro e w3 ⟨rfl,h3,f3,-⟩
 go_wp2
 go_ret
 exact⟨_,rfl,⟨_,rfl,h3⟩,((((Fr.refl [] w).alloc _).then f1).then f2).after f3 (by simp)⟩
theorem ratSign (w:World) (z:Nat) (n:Int) (h:RatAt w z n) :
  Calls Tryz.prog 252 #[.pointer (some ⟨z,0,none⟩)] w fun e w'=>e=.returned (.int .i64 n.sign)∧Fr [] w w':=by
 go_enter Tryz.func252,Tryz.ntmps252
 go_wp2_with fail
 refine (sign_any _ z 0 n h.1).mono ?_
 rintro e w1 ⟨rfl,f1⟩
 go_wp2
 go_ret
 exact⟨rfl,f1⟩
theorem ratLong (w:World) (p A:Nat) (n:Int) (h:IntAt w p 0 n) (hA:A≤524288) (hb:n.natAbs<2 ^ A) :
  Calls Tryz.prog 250 #[.pointer (some ⟨p,0,none⟩)] w fun e w'=>e=.returned (.bool false)∧Fr [] w w':=by
 have hl:=Nat.le_trans (bitLen_le hb) hA
 have hf:Fits n.natAbs:=Fits.of_bits hb (by omega)
 generalize hB:bitLen n.natAbs=B at hl
 have hlt:¬ ((524288:Int)<(B:Int)):=by omega
 have HB:=Go.Lib.hid hB;clear hB hb
 go_enter Tryz.func250,Tryz.ntmps250
 go_wp2_with fail
 refine (intBitLen_any _ p 0 n h hf).mono ?_
 rintro e w1 ⟨rfl,rfl⟩
 rw [HB.out]
 go_wp2
 go_ret
 exact⟨by simp;omega,Fr.refl [] w⟩
theorem ratSeen (w:World) (neg:Bool) (v u:Value) (l k:List Nat) (hv:U32 w 0 v l) (hu:U32 w 0 u k) :
  Calls Tryz.prog 212 #[.agg #[.bool neg,v,u]] w fun e w'=>e=.returned (.agg #[.bool neg,.int .i64 l.length,.int .i64 k.length])∧Fr [] w w':=by
 obtain⟨ao,cap,rfl,hcap,-⟩:=hv.shape
 obtain⟨ao2,cap2,rfl,hcap2,-⟩:=hu.shape
 go_enter Tryz.func212,Tryz.ntmps212
 go_wp2
 exact bodyPost_ret (v:=.agg #[.bool neg,.int .i64 l.length,.int .i64 k.length]) (by simp [results,Tryz.results212,go_sem]) rfl ⟨rfl,((Fr.refl [] w).alloc _).alloc _⟩
end Go.Proofs.YtcmndpjemdjalaaGreatDoor
