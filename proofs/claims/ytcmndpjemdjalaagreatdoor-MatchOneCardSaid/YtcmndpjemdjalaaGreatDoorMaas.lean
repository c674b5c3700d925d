/- Laws that the claimed theorem leans on: no condition of their own beyond their hypotheses. -/
import Derived.Defers
import Derived.Test.YtcmndpjemdjalaaGreatDoorMaar
set_option maxRecDepth 100000
set_option maxHeartbeats 16000000
namespace Go.Proofs.YtcmndpjemdjalaaGreatDoor
open Go.RowKit
def planV (a b:ByteArray) (d:Nat) (N:Int) (txt:ByteArray) (width places:Int):Value:=.agg #[.string a,.string b,.int .u8 d,.int .i64 N,.string txt,.int .i64 width,.int .i64 places]
theorem named_l (w:World) (l:List UInt8) :
  Calls Tryz.prog 55 #[.string (strL l)] w fun x w'=>x=.returned (.bool (namedB l))∧w'=w:=by
 have:=named_any w (strL l)
 rwa [strL_data] at this
theorem body_3 (w:World) (a b txt:ByteArray) (N width places:Int) (l:List UInt8) (hl:l.length≤65536) :
  Calls Tryz.prog 56 #[planV a b (3:Nat) N txt width places,.string (strL l)] w fun x w'=>x=.returned (.bool (bodyB (3:Nat) places l))∧Fr [] w w':=by
 have fA:=(Fr.refl [] w).alloc (.cells #[.string a,.string b,.int .u8 3,.int .i64 N,.string txt,.int .i64 width,.int .i64 places] 57)
 have c2:=cell_new w #[.string a,.string b,.int .u8 3,.int .i64 N,.string txt,.int .i64 width,.int .i64 places] 57 (0,0) 2 _ rfl
 have c6:=cell_new w #[.string a,.string b,.int .u8 3,.int .i64 N,.string txt,.int .i64 width,.int .i64 places] 57 (0,0) 6 _ rfl
 have hN:=fun W=>named_l W l
 have F:=fA
 show Calls _ _ #[.agg #[.string a,.string b,.int .u8 3,.int .i64 N,.string txt,.int .i64 width,.int .i64 places],_] _ fun x w'=>x=.returned (.bool (namedB l || plainB l places))∧_
 have hX:=fun W=>plain_l W l places hl
 cases hn:namedB l with
 | false =>
  simp only [hn] at hN
  go_enter Tryz.func56,Tryz.ntmps56
  go_wp2_with (first
   | (go_at_call 55;refine (hN _).mono ?_;rintro e w1 ⟨rfl,hw⟩;subst hw)
   | (go_at_call 99;refine (hX _).mono ?_;rintro e w2 ⟨rfl,f2⟩))
  go_ret
  exact⟨rfl,F.then f2⟩
 | true =>
  simp only [hn] at hN
  go_enter Tryz.func56,Tryz.ntmps56
  go_wp2_with (go_at_call 55;refine (hN _).mono ?_;rintro e w1 ⟨rfl,hw⟩;subst hw)
  go_ret
  exact⟨rfl,F⟩
theorem body_4 (w:World) (a b txt:ByteArray) (N width places:Int) (l:List UInt8) (hl:l.length≤65536) :
  Calls Tryz.prog 56 #[planV a b (4:Nat) N txt width places,.string (strL l)] w fun x w'=>x=.returned (.bool (bodyB (4:Nat) places l))∧Fr [] w w':=by
 have fA:=(Fr.refl [] w).alloc (.cells #[.string a,.string b,.int .u8 4,.int .i64 N,.string txt,.int .i64 width,.int .i64 places] 57)
 have c2:=cell_new w #[.string a,.string b,.int .u8 4,.int .i64 N,.string txt,.int .i64 width,.int .i64 places] 57 (0,0) 2 _ rfl
 have c6:=cell_new w #[.string a,.string b,.int .u8 4,.int .i64 N,.string txt,.int .i64 width,.int .i64 places] 57 (0,0) 6 _ rfl
 have hN:=fun W=>named_l W l
 have F:=fA
 show Calls _ _ #[.agg #[.string a,.string b,.int .u8 4,.int .i64 N,.string txt,.int .i64 width,.int .i64 places],_] _ fun x w'=>x=.returned (.bool (namedB l || expB l places))∧_
 have hX:=fun W=>exp_l W l places hl
 cases hn:namedB l with
 | false =>
  simp only [hn] at hN
  go_enter Tryz.func56,Tryz.ntmps56
  go_wp2_with (first
   | (go_at_call 55;refine (hN _).mono ?_;rintro e w1 ⟨rfl,hw⟩;subst hw)
   | (go_at_call 100;refine (hX _).mono ?_;rintro e w2 ⟨rfl,f2⟩))
  go_ret
  exact⟨rfl,F.then f2⟩
 | true =>
  simp only [hn] at hN
  go_enter Tryz.func56,Tryz.ntmps56
  go_wp2_with (go_at_call 55;refine (hN _).mono ?_;rintro e w1 ⟨rfl,hw⟩;subst hw)
  go_ret
  exact⟨rfl,F⟩
theorem body_6 (w:World) (a b txt:ByteArray) (N width places:Int) (l:List UInt8) (hl:l.length≤65536) :
  Calls Tryz.prog 56 #[planV a b (6:Nat) N txt width places,.string (strL l)] w fun x w'=>x=.returned (.bool (bodyB (6:Nat) places l))∧Fr [] w w':=by
 have fA:=(Fr.refl [] w).alloc (.cells #[.string a,.string b,.int .u8 6,.int .i64 N,.string txt,.int .i64 width,.int .i64 places] 57)
 have c2:=cell_new w #[.string a,.string b,.int .u8 6,.int .i64 N,.string txt,.int .i64 width,.int .i64 places] 57 (0,0) 2 _ rfl
 have c6:=cell_new w #[.string a,.string b,.int .u8 6,.int .i64 N,.string txt,.int .i64 width,.int .i64 places] 57 (0,0) 6 _ rfl
 have hN:=fun W=>named_l W l
 have F:=fA
 show Calls _ _ #[.agg #[.string a,.string b,.int .u8 6,.int .i64 N,.string txt,.int .i64 width,.int .i64 places],_] _ fun x w'=>x=.returned (.bool (namedB l || hexB l places))∧_
 have hX:=fun W=>hex_l W l places hl
 cases hn:namedB l with
 | false =>
  simp only [hn] at hN
  go_enter Tryz.func56,Tryz.ntmps56
  go_wp2_with (first
   | (go_at_call 55;refine (hN _).mono ?_;rintro e w1 ⟨rfl,hw⟩;subst hw)
   | (go_at_call 101;refine (hX _).mono ?_;rintro e w2 ⟨rfl,f2⟩))
  go_ret
  exact⟨rfl,F.then f2⟩
 | true =>
  simp only [hn] at hN
  go_enter Tryz.func56,Tryz.ntmps56
  go_wp2_with (go_at_call 55;refine (hN _).mono ?_;rintro e w1 ⟨rfl,hw⟩;subst hw)
  go_ret
  exact⟨rfl,F⟩
theorem body_o (w:World) (a b txt:ByteArray) (d:Nat) (N width places:Int) (l:List UInt8) (hl:l.length≤65536) (h3:d ≠ 3) (h4:d ≠ 4) (h6:d ≠ 6) :
  Calls Tryz.prog 56 #[planV a b d N txt width places,.string (strL l)] w fun x w'=>x=.returned (.bool (bodyB d places l))∧Fr [] w w':=by
 have fA:=(Fr.refl [] w).alloc (.cells #[.string a,.string b,.int .u8 d,.int .i64 N,.string txt,.int .i64 width,.int .i64 places] 57)
 have c2:=cell_new w #[.string a,.string b,.int .u8 d,.int .i64 N,.string txt,.int .i64 width,.int .i64 places] 57 (0,0) 2 _ rfl
 have c6:=cell_new w #[.string a,.string b,.int .u8 d,.int .i64 N,.string txt,.int .i64 width,.int .i64 places] 57 (0,0) 6 _ rfl
 have hN:=fun W=>named_l W l
 have F:=fA
 have hb:bodyB d places l=(namedB l || (plainB l (-1) || expB l (-1))):=by unfold bodyB;rw [if_neg (by omega),if_neg (by omega),if_neg (by omega)]
 rw [hb]
 show Calls _ _ #[.agg #[.string a,.string b,.int .u8 d,.int .i64 N,.string txt,.int .i64 width,.int .i64 places],_] _ _
 have q3:((d:Int)==3)=false:=beq_eq_false_iff_ne.2 (by omega)
 have q4:((d:Int)==4)=false:=beq_eq_false_iff_ne.2 (by omega)
 have q6:((d:Int)==6)=false:=beq_eq_false_iff_ne.2 (by omega)
 have hX:=fun W=>plain_l W l (-1) hl
 have hY:=fun W=>exp_l W l (-1) hl
 clear h3 h4 h6 hb
 cases hn:namedB l with
 | false =>
  simp only [hn] at hN
  cases hp:plainB l (-1) with
  | false =>
   simp only [hp] at hX
   go_enter Tryz.func56,Tryz.ntmps56
   go_wp2_with (first
    | (go_at_call 55;refine (hN _).mono ?_;rintro e w1 ⟨rfl,hw⟩;subst hw)
    | (go_at_call 99;refine (hX _).mono ?_;rintro e w2 ⟨rfl,f2⟩)
    | (go_at_call 100;refine (hY _).mono ?_;rintro e w3 ⟨rfl,f3⟩))
   go_ret
   exact⟨rfl,(F.then f2).then f3⟩
  | true =>
   simp only [hp] at hX
   go_enter Tryz.func56,Tryz.ntmps56
   go_wp2_with (first
    | (go_at_call 55;refine (hN _).mono ?_;rintro e w1 ⟨rfl,hw⟩;subst hw)
    | (go_at_call 99;refine (hX _).mono ?_;rintro e w2 ⟨rfl,f2⟩))
   go_ret
   exact⟨rfl,F.then f2⟩
 | true =>
  simp only [hn] at hN
  go_enter Tryz.func56,Tryz.ntmps56
  go_wp2_with (go_at_call 55;refine (hN _).mono ?_;rintro e w1 ⟨rfl,hw⟩;subst hw)
  go_ret
  exact⟨rfl,F⟩
theorem body_l (w:World) (a b txt:ByteArray) (d:Nat) (N width places:Int) (l:List UInt8) (hl:l.length≤65536) :
  Calls Tryz.prog 56 #[planV a b d N txt width places,.string (strL l)] w fun x w'=>x=.returned (.bool (bodyB d places l))∧Fr [] w w':=by
 by_cases h3:d=3
 ·subst h3;exact body_3 w a b txt N width places l hl
 ·by_cases h4:d=4
  ·subst h4;exact body_4 w a b txt N width places l hl
  ·by_cases h6:d=6
   ·subst h6;exact body_6 w a b txt N width places l hl
   ·exact body_o w a b txt d N width places l hl h3 h4 h6
end Go.Proofs.YtcmndpjemdjalaaGreatDoor
namespace Go.Proofs.YtcmndpjemdjalaaGreatDoor
open Go.RowKit
def Var (W:World) (b:Nat) (v:Value):Prop:=W.cell? ⟨b,0,none⟩=some v∧W.frozen? ⟨b,0,none⟩=false
namespace Var
variable {W W':World} {b c:Nat} {v:Value}
theorem cell (h:Var W b v):W.cell? ⟨b,0,none⟩=some v:=h.1
theorem frozen (h:Var W b v):W.frozen? ⟨b,0,none⟩=false:=h.2
theorem lt (h:Var W b v):b<W.heap.size:=World.block_lt_of_cell? W _ h.1
theorem fr {S:List Nat} (h:Var W b v) (hf:Fr S W W') (hs:b ∉ S):Var W' b v:=⟨hf.stay h.1 hs,(hf.frozen h.lt hs).trans h.2⟩
theorem drew (h:Var W b v):Var W.drew b v:=h.fr (Fr.refl [] W).drew (by simp)
theorem set (h:Var W b v) (x:Value):Var (W.setCell ⟨b,0,none⟩ x) b x:=⟨World.cell?_setCell_same W _ x h.1,(World.frozen?_setCell _ _ _ _).trans h.2⟩
theorem other (h:Var W b v) (hne:b ≠ c) (x:Value):Var (W.setCell ⟨c,0,none⟩ x) b v :=
 h.fr ((Fr.refl [c] W).setCell (.inl (by simp)) x) (by simp;exact hne)
end Var
end Go.Proofs.YtcmndpjemdjalaaGreatDoor
namespace Go.Proofs.YtcmndpjemdjalaaGreatDoor
open Go.RowKit
def finOk (k:Bool) (u width:Int) (n:Nat):Bool:=(k && (decide (u≤0) || (n:Int)==width)) && decide (width≤(n:Int))
theorem strL_append (m n:List UInt8):strL m++strL n=strL (m++n):=by
 rw [← strL_of (strL m++strL n),ByteArray.data_append,Array.toList_append,strL_data,strL_data]
theorem takeEnd_any (w:World) (bm bn bu bk bs bp:Nat) (m n s:List UInt8) (u width:Int) (k:Bool)
  (hm:Var w bm (.string (strL m))) (hn:Var w bn (.string (strL n))) (hu:Var w bu (.int .i64 u)) (hk:Var w bk (.bool k)) (hs:Var w bs (.string (strL s))) (hp:w.cell? ⟨bp,5,none⟩=some (.int .i64 width))
  (_d1:¬ bm=bn) (d2:¬ bu=bn) (d3:¬ bk=bn) (d4:¬ bs=bn) (d5:¬ bp=bn) (d6:¬ bs=bk) (d7:¬ bp=bk) (hsz:¬ 9223372036854775807<(strL m).size+(strL n).size) :
  CallsD Tryz.prog 52 #[.pointer (some ⟨bm,0,none⟩),.pointer (some ⟨bn,0,none⟩),.pointer (some ⟨bu,0,none⟩),.pointer (some ⟨bk,0,none⟩),.pointer (some ⟨bs,0,none⟩),.pointer (some ⟨bp,0,none⟩)] .returning w fun e u' w' =>
   u'=.returning∧e=.returned (.tuple #[])∧Var w' bn (.string (strL (m++n)))∧Var w' bk (.bool (finOk k u width (strL s).size))∧Fr [bn,bk] w w':=by
 have c1:=hm.cell
 have c2:=hn.cell
 have c3:=hu.cell
 have c4:=hk.cell
 have c5:=hs.cell
 have z2:=hn.frozen
 have z4:=hk.frozen
 have d3':¬ bn=bk:=fun h=>d3 h.symm
 have fin:∀ x,x=finOk k u width (strL s).size→∀ W,W=((w.setCell ⟨bn,0,none⟩ (.string (strL m++strL n))).setCell ⟨bk,0,none⟩ (.bool x))→Var W bn (.string (strL (m++n)))∧Var W bk (.bool (finOk k u width (strL s).size))∧Fr [bn,bk] w W:=by
  rintro x rfl W rfl
  rw [strL_append]
  exact⟨(hn.set _).other d3' _,(hk.other d3 _).set _,((Fr.refl [bn,bk] w).setCell (.inl (by simp)) _).setCell (.inl (by simp)) _⟩
 have fin2:∀ y x,x=finOk k u width (strL s).size→∀ W,W=(((w.setCell ⟨bn,0,none⟩ (.string (strL m++strL n))).setCell ⟨bk,0,none⟩ (.bool y)).setCell ⟨bk,0,none⟩ (.bool x))→Var W bn (.string (strL (m++n)))∧Var W bk (.bool (finOk k u width (strL s).size))∧Fr [bn,bk] w W:=by
  rintro y x rfl W rfl
  rw [strL_append]
  exact⟨((hn.set _).other d3' _).other d3' _,((hk.other d3 _).set _).set _,(((Fr.refl [bn,bk] w).setCell (.inl (by simp)) _).setCell (.inl (by simp)) _).setCell (.inl (by simp)) _⟩
 by_cases hu0:0<u
 ·have hu1:¬ u≤0:=by omega
  cases k with
  | false =>
   go_enter_d Tryz.func52,Tryz.ntmps52
   go_wp2_with fail
   go_end0
   exact⟨rfl,fin2 _ _ rfl _ rfl⟩
  | true =>
   by_cases he:((strL s).size:Int)=width
   ·go_enter_d Tryz.func52,Tryz.ntmps52
    go_wp2_with fail
    go_end0
    exact⟨rfl,fin2 _ _ (by simp [finOk,he]) _ rfl⟩
   ·go_enter_d Tryz.func52,Tryz.ntmps52
    go_wp2_with fail
    go_end0
    exact⟨rfl,fin2 _ _ (by simp [finOk,he];omega) _ rfl⟩
 ·have hu1:u≤0:=by omega
  cases k with
  | false =>
   go_enter_d Tryz.func52,Tryz.ntmps52
   go_wp2_with fail
   go_end0
   exact⟨rfl,fin _ rfl _ rfl⟩
  | true =>
   go_enter_d Tryz.func52,Tryz.ntmps52
   go_wp2_with fail
   go_end0
   exact⟨rfl,fin _ (by simp [finOk,hu1]) _ rfl⟩
end Go.Proofs.YtcmndpjemdjalaaGreatDoor
namespace Go.Proofs.YtcmndpjemdjalaaGreatDoor
open Go.RowKit
structure TakeAt (w W:World) (bm br bu:Nat) (a b txt:ByteArray) (d:Nat) (N width places:Int) (l:List UInt8):Prop where
 p0:W.cell? ⟨w.heap.size,0,none⟩=some (.string a)
 p1:W.cell? ⟨w.heap.size,1,none⟩=some (.string b)
 p2:W.cell? ⟨w.heap.size,2,none⟩=some (.int .u8 d)
 p3:W.cell? ⟨w.heap.size,3,none⟩=some (.int .i64 N)
 p4:W.cell? ⟨w.heap.size,4,none⟩=some (.string txt)
 p5:W.cell? ⟨w.heap.size,5,none⟩=some (.int .i64 width)
 p6:W.cell? ⟨w.heap.size,6,none⟩=some (.int .i64 places)
 s:Var W (w.heap.size+1) (.string (strL l))
 n:Var W (w.heap.size+1+1) (.string ⟨#[]⟩)
 k:Var W (w.heap.size+1+1+1) (.bool false)
 m:Var W bm (.string ⟨#[]⟩)
 r:Var W br (.string (strL l))
 u:Var W bu (.int .i64 0)
 fr:Fr [] w W
 hm:w.heap.size+1+1+1<bm
 hr:w.heap.size+1+1+1<br
 hu:w.heap.size+1+1+1<bu
 mr:bm ≠ br
 mu:bm ≠ bu
 ru:br ≠ bu
theorem rows7 (w:World) (o1 o2 o3 o4 o5 o6 o7:Obj) (W:World) (hW:W=(((((((w.alloc o1).alloc o2).alloc o3).alloc o4).alloc o5).alloc o6).alloc o7).drew) :
  W.heap[w.heap.size]?=some o1∧W.heap[w.heap.size+1]?=some o2∧W.heap[w.heap.size+1+1]?=some o3∧W.heap[w.heap.size+1+1+1]?=some o4∧W.heap[w.heap.size+1+1+1+1]?=some o5∧W.heap[w.heap.size+1+1+1+1+1]?=some o6∧W.heap[w.heap.size+1+1+1+1+1+1]?=some o7∧Fr [] w W:=by
 subst hW
 have h1:=row_new w o1
 have h2:=row_new (w.alloc o1) o2
 have h3:=row_new ((w.alloc o1).alloc o2) o3
 have h4:=row_new (((w.alloc o1).alloc o2).alloc o3) o4
 have h5:=row_new ((((w.alloc o1).alloc o2).alloc o3).alloc o4) o5
 have h6:=row_new (((((w.alloc o1).alloc o2).alloc o3).alloc o4).alloc o5) o6
 have h7:=row_new ((((((w.alloc o1).alloc o2).alloc o3).alloc o4).alloc o5).alloc o6) o7
 simp only [World.size_alloc] at h2 h3 h4 h5 h6 h7
 have f:=fun (X:World) (o:Obj)=>(Fr.refl [] X).alloc o
 have g:=fun (X:World)=>(Fr.refl [] X).drew
 have k:=fun (X:World) (o:Obj) (b:Nat) (q:Obj) (h:X.heap[b]?=some q)=>(f X o).row h (by simp)
 have e:=fun (X:World) (b:Nat) (q:Obj) (h:X.heap[b]?=some q)=>(g X).row h (by simp)
 exact⟨e _ _ _ (k _ _ _ _ (k _ _ _ _ (k _ _ _ _ (k _ _ _ _ (k _ _ _ _ (k _ _ _ _ h1)))))),e _ _ _ (k _ _ _ _ (k _ _ _ _ (k _ _ _ _ (k _ _ _ _ (k _ _ _ _ h2))))),e _ _ _ (k _ _ _ _ (k _ _ _ _ (k _ _ _ _ (k _ _ _ _ h3)))),e _ _ _ (k _ _ _ _ (k _ _ _ _ (k _ _ _ _ h4))),e _ _ _ (k _ _ _ _ (k _ _ _ _ h5)),e _ _ _ (k _ _ _ _ h6),e _ _ _ h7,((((((((Fr.refl [] w).alloc _).alloc _).alloc _).alloc _).alloc _).alloc _).alloc _).drew⟩
theorem var_row {W:World} {b:Nat} {v:Value} {t:TypeId} (h:W.heap[b]?=some (.cells #[v] t (0,0))):Var W b v:=⟨by rw [cell_of_row _ b 0 _ _ _ h];rfl,frozen_of_row W b 0 _ _ h⟩
theorem takeAt_rows {w W:World} {bm br bu:Nat} {a b txt:ByteArray} {d:Nat} {N width places:Int} {l:List UInt8} (hf:Fr [] w W)
  (h1:W.heap[w.heap.size]?=some (.cells #[.string a,.string b,.int .u8 d,.int .i64 N,.string txt,.int .i64 width,.int .i64 places] 57)) (h2:W.heap[w.heap.size+1]?=some (.cells #[.string (strL l)] 9)) (h3:W.heap[w.heap.size+1+1]?=some (.cells #[.string ⟨#[]⟩] 9)) (h4:W.heap[w.heap.size+1+1+1]?=some (.cells #[.bool false] 4))
  (hm:W.heap[bm]?=some (.cells #[.string ⟨#[]⟩] 9)) (hr:W.heap[br]?=some (.cells #[.string (strL l)] 9)) (hu:W.heap[bu]?=some (.cells #[.int .i64 0] 3))
  (q1:w.heap.size+1+1+1<bm) (q2:w.heap.size+1+1+1<br) (q3:w.heap.size+1+1+1<bu) (q4:bm ≠ br) (q5:bm ≠ bu) (q6:br ≠ bu):TakeAt w W bm br bu a b txt d N width places l where
 p0:=by rw [cell_of_row _ _ 0 _ _ _ h1];rfl
 p1:=by rw [cell_of_row _ _ 1 _ _ _ h1];rfl
 p2:=by rw [cell_of_row _ _ 2 _ _ _ h1];rfl
 p3:=by rw [cell_of_row _ _ 3 _ _ _ h1];rfl
 p4:=by rw [cell_of_row _ _ 4 _ _ _ h1];rfl
 p5:=by rw [cell_of_row _ _ 5 _ _ _ h1];rfl
 p6:=by rw [cell_of_row _ _ 6 _ _ _ h1];rfl
 s:=var_row h2
 n:=var_row h3
 k:=var_row h4
 m:=var_row hm
 r:=var_row hr
 u:=var_row hu
 fr:=hf
 hm:=q1
 hr:=q2
 hu:=q3
 mr:=q4
 mu:=q5
 ru:=q6
noncomputable def regionNo (k:Nat):Code→Option Code
 | .region i ops d=>if i==k then some (.region i ops d) else none
 | .seq a b=>match regionNo k a with
  | some c=>some c
  | none=>regionNo k b
 | .block _ b=>regionNo k b
 | .loop b=>regionNo k b
 | .scope b=>regionNo k b
 | _=>none
noncomputable def takeFirst:Code:=match Tryz.f29.body with
 | some c=>(match regionNo 1 c with
  | some r=>r
  | none=>.skip)
 | none=>.skip
theorem take_begin (w:World) (a b txt:ByteArray) (d:Nat) (N width places:Int) (l:List UInt8) :
  Code.wp Tryz.prog takeFirst (fun e a' W=>e=.normal∧∃ bm br bu,a'={ tmps:=#[.agg #[.string a,.string b,.int .u8 d,.int .i64 N,.string txt,.int .i64 width,.int .i64 places],.string (strL l),.pointer (some ⟨w.heap.size,0,none⟩),.pointer (some ⟨w.heap.size+1,0,none⟩),.pointer (some ⟨w.heap.size+1+1,0,none⟩),.pointer (some ⟨w.heap.size+1+1+1,0,none⟩),.pointer (some ⟨bm,0,none⟩),.pointer (some ⟨br,0,none⟩),.pointer (some ⟨bu,0,none⟩),undef,undef,undef,undef,.string (strL l),undef,undef,undef,undef,undef,undef,undef,undef,undef,undef,undef,undef,undef,undef,undef,undef,undef,undef,undef,undef,undef,undef,undef,undef,undef,undef,undef,undef,undef,undef,undef,undef,undef,undef,undef,undef,undef,undef,undef,undef,undef,undef,undef,undef,undef,undef,undef,undef,undef,undef,undef,undef,undef,undef,undef,undef,undef,undef,undef,undef,undef,undef,undef,undef,undef,undef,undef,undef,undef,undef,undef,undef,undef,undef,undef,undef,undef,undef,undef,undef,undef,undef,undef,undef,undef,undef,undef,undef,undef,undef,undef,undef,undef,undef,undef,undef,undef,undef,undef,undef,undef,undef],defers:=[] }∧TakeAt w W bm br bu a b txt d N width places l) { tmps:=#[.agg #[.string a,.string b,.int .u8 d,.int .i64 N,.string txt,.int .i64 width,.int .i64 places],.string (strL l),.pointer (some ⟨w.heap.size,0,none⟩),.pointer (some ⟨w.heap.size+1,0,none⟩),.pointer (some ⟨w.heap.size+1+1,0,none⟩),.pointer (some ⟨w.heap.size+1+1+1,0,none⟩),undef,undef,undef,undef,undef,undef,undef,undef,undef,undef,undef,undef,undef,undef,undef,undef,undef,undef,undef,undef,undef,undef,undef,undef,undef,undef,undef,undef,undef,undef,undef,undef,undef,undef,undef,undef,undef,undef,undef,undef,undef,undef,undef,undef,undef,undef,undef,undef,undef,undef,undef,undef,undef,undef,undef,undef,undef,undef,undef,undef,undef,undef,undef,undef,undef,undef,undef,undef,undef,undef,undef,undef,undef,undef,undef,undef,undef,undef,undef,undef,undef,undef,undef,undef,undef,undef,undef,undef,undef,undef,undef,undef,undef,undef,undef,undef,undef,undef,undef,undef,undef,undef,undef,undef,undef,undef,undef,undef,undef,undef],defers:=[] }
   ((((w.alloc (.cells #[.string a,.string b,.int .u8 d,.int .i64 N,.string txt,.int .i64 width,.int .i64 places] 57)).alloc (.cells #[.string (strL l)] 9)).alloc (.cells #[.string ⟨#[]⟩] 9)).alloc (.cells #[.bool false] 4)):=by
 conv=>arg 2;whnf
 go_region
 all_goals
  obtain⟨h1,h2,h3,h4,h5,h6,h7,hf⟩:=rows7 w _ _ _ _ _ _ _ _ rfl
  refine⟨rfl,_,_,_,rfl,takeAt_rows hf h1 h2 h3 h4 ?_ ?_ ?_ ?_ ?_ ?_ ?_ ?_ ?_⟩
  all_goals first | exact h5 | exact h6 | exact h7 | omega
end Go.Proofs.YtcmndpjemdjalaaGreatDoor
namespace Go.Proofs.YtcmndpjemdjalaaGreatDoor
open Go.RowKit
theorem TakeAt.to {w W W':World} {bm br bu:Nat} {a b txt:ByteArray} {d:Nat} {N width places:Int} {l:List UInt8} (h:TakeAt w W bm br bu a b txt d N width places l) (hf:Fr [] W W'):TakeAt w W' bm br bu a b txt d N width places l where
 p0:=hf.stay h.p0 (by simp)
 p1:=hf.stay h.p1 (by simp)
 p2:=hf.stay h.p2 (by simp)
 p3:=hf.stay h.p3 (by simp)
 p4:=hf.stay h.p4 (by simp)
 p5:=hf.stay h.p5 (by simp)
 p6:=hf.stay h.p6 (by simp)
 s:=h.s.fr hf (by simp)
 n:=h.n.fr hf (by simp)
 k:=h.k.fr hf (by simp)
 m:=h.m.fr hf (by simp)
 r:=h.r.fr hf (by simp)
 u:=h.u.fr hf (by simp)
 fr:=h.fr.then hf
 hm:=h.hm
 hr:=h.hr
 hu:=h.hu
 mr:=h.mr
 mu:=h.mu
 ru:=h.ru
theorem trimLeft_le (l cs:List UInt8):(Lib.trimLeftS l cs).length≤l.length:=(List.dropWhile_sublist _).length_le
theorem trimLeft_blank (w:World) (l:List UInt8):Calls Tryz.prog 54 #[.string (strL l),.string ⟨#[32]⟩] w fun x w'=>x=.returned (.string (strL (Lib.trimLeftS l [32])))∧Fr [] w w':=by
 have:=Tryz.strings_TrimLeft (strL l) ⟨#[32]⟩ w (by decide) (Go.Proofs.ascii_of_all (l:=[32]) (by decide))
 refine this.mono ?_
 rintro x w' ⟨h1,h2⟩
 rw [strL_data] at h1
 exact⟨h1,Fr.of_below h2⟩
theorem hasPrefix_l (w:World) (l p:List UInt8):Calls Tryz.prog 39 #[.string (strL l),.string (strL p)] w fun x w'=>x=.returned (.bool (Lib.hasPrefix l p))∧w'=w:=by
 have:=Tryz.strings_HasPrefix (strL l) (strL p) w
 rwa [strL_data,strL_data] at this
theorem take_plain (w:World) (a b txt:ByteArray) (d:Nat) (places:Int) (l:List UInt8) (hl:l.length≤65536) (hp:Lib.hasPrefix (Lib.trimLeftS l [32]) [45]=false) :
  Calls Tryz.prog 29 #[planV a b d 0 txt 0 places,.string (strL l)] w fun x w'=>x=.returned (.tuple #[.string (strL (Lib.trimLeftS l [32])),.bool (finOk (bodyB d places (Lib.trimLeftS l [32])) ((strL l).size - (strL (Lib.trimLeftS l [32])).size:Int) 0 (strL l).size)])∧Fr [] w w':=by
 have hmf:∀ (fn:Fn) (first cap:Array Value) (w:World),(Instr.makeFunc fn first cap).run Tryz.prog w=.ok (.func fn first cap) w:=fun _ _ _ _=>rfl
 have hix:∀ w,(Instr.index 133 (.agg #[.string ⟨#[]⟩,.string ⟨#[43]⟩,.string ⟨#[32]⟩]) (.int .i64 0)).run Tryz.prog w=.ok (.string ⟨#[]⟩) w:=fun _=>by kernel_rfl
 have hT:=fun W=>trimLeft_blank W l
 have hle:=trimLeft_le l [32]
 generalize Lib.trimLeftS l [32]=R at *
 have hP:=fun W=>hasPrefix_l W R [45]
 simp only [hp] at hP
 have hP':∀ W,Calls Tryz.prog 39 #[.string (strL R),.string ⟨#[45]⟩] W fun x w'=>x=.returned (.bool false)∧w'=W:=hP
 clear hP
 have z1:(strL l).size≤65536:=by rw [strL_size];exact hl
 have z2:(strL R).size≤(strL l).size:=by rw [strL_size,strL_size];exact hle
 rcases Bool.eq_false_or_eq_true ((strL R).toList==[110,97,110]) with hb | hb
 ·unfold planV
  go_enter_defers Tryz.func29,Tryz.ntmps29
  go_wp2_with fail
  refine wp_mono (take_begin w a b txt d 0 0 places l) ?_
  rintro e a' W ⟨rfl,bm,br,bu,rfl,h⟩
  have q2:=h.p2
  have q3:=h.p3
  have qs:=h.s.cell
  have qsz:=h.s.frozen
  have qr:=h.r.cell
  have qrz:=h.r.frozen
  have qu:=h.u.cell
  have quz:=h.u.frozen
  have qm:=h.m.cell
  have qmz:=h.m.frozen
  have e1:=h.hm
  have e2:=h.hr
  have e3:=h.hu
  have e4:=h.mr
  have e5:=h.mu
  have e6:=h.ru
  simp only [Exit.then]
  go_wp2_with (first
   | (go_at_call 54;go_loud (refine (hT _).mono ?_;rintro x w1 ⟨rfl,f1⟩;have h:=h.to f1;have q2:=h.p2;have q3:=h.p3;have qs:=h.s.cell;have qr:=h.r.cell;have qrz:=h.r.frozen;have qu:=h.u.cell;have quz:=h.u.frozen;have qm:=h.m.cell;have qmz:=h.m.frozen))
   | (go_at_call 39;go_loud (refine (hP' _).mono ?_;rintro x w2 ⟨rfl,hw⟩;subst hw)))
  have fZ:Fr [bm,br,bu] w1 ((w1.setCell ⟨br,0,none⟩ (.string (strL R))).setCell ⟨bu,0,none⟩ (.int .i64 (((strL l).size:Int) - ((strL R).size:Int)))):=((Fr.refl [bm,br,bu] w1).setCell (.inl (by simp)) _).setCell (.inl (by simp)) _
  have vr:Var ((w1.setCell ⟨br,0,none⟩ (.string (strL R))).setCell ⟨bu,0,none⟩ (.int .i64 (((strL l).size:Int) - ((strL R).size:Int)))) br (.string (strL R)):=(h.r.set _).other e6 _
  have vm:Var ((w1.setCell ⟨br,0,none⟩ (.string (strL R))).setCell ⟨bu,0,none⟩ (.int .i64 (((strL l).size:Int) - ((strL R).size:Int)))) bm (.string (strL [])):=(h.m.other e4 _).other e5 _
  have vu:Var ((w1.setCell ⟨br,0,none⟩ (.string (strL R))).setCell ⟨bu,0,none⟩ (.int .i64 (((strL l).size:Int) - ((strL R).size:Int)))) bu (.int .i64 (((strL l).size:Int) - ((strL R).size:Int))):=(h.u.other (Ne.symm e6) _).set _
  generalize ((w1.setCell ⟨br,0,none⟩ (.string (strL R))).setCell ⟨bu,0,none⟩ (.int .i64 (((strL l).size:Int) - ((strL R).size:Int))))=Z at *
  clear q2 q3 qs qsz qr qrz qu quz qm qmz
  have vs:=h.s.fr fZ (by simp;omega)
  have vn:=h.n.fr fZ (by simp;omega)
  have vk:=h.k.fr fZ (by simp;omega)
  have p0:=fZ.stay h.p0 (by simp;omega)
  have p1:=fZ.stay h.p1 (by simp;omega)
  have p2:=fZ.stay h.p2 (by simp;omega)
  have p3:=fZ.stay h.p3 (by simp;omega)
  have p4:=fZ.stay h.p4 (by simp;omega)
  have p5:=fZ.stay h.p5 (by simp;omega)
  have p6:=fZ.stay h.p6 (by simp;omega)
  have cr:=vr.cell
  have G:=h.fr.after fZ (by simp;omega)
  clear fZ h
  refine region_mono [] 4 [[],[],[],[1,2]] [none,none,none,none] (by kernel_rfl) (by kernel_rfl) ?_
  simp only [Chain,fill,Act.put,List.nil_append,List.cons_append,List.take_succ_cons,List.take_zero,List.drop_succ_cons,List.drop_zero,List.setIfInBounds_toArray,List.set_cons_zero,List.set_cons_succ,Nat.reduceAdd]
  iterate 3 (apply Exists.intro;apply And.intro;·intro vs w2 hf hh K hK;have p0:=hf.stayd p0;have p1:=hf.stayd p1;have p2:=hf.stayd p2;have p3:=hf.stayd p3;have p4:=hf.stayd p4;have p5:=hf.stayd p5;have p6:=hf.stayd p6;have cr:=hf.stayd cr;simp only [Held] at hh;(try simp only [] at hK ⊢);go_simp;exact hK _ _ ⟨rfl,Fr.refl _ _⟩)
  apply Exists.intro;apply And.intro
  ·intro vs w2 hf hh K hK;have p0:=hf.stayd p0;have p1:=hf.stayd p1;have p2:=hf.stayd p2;have p3:=hf.stayd p3;have p4:=hf.stayd p4;have p5:=hf.stayd p5;have p6:=hf.stayd p6;have cr:=hf.stayd cr;simp only [Held,List.getD_cons_zero,List.getD_cons_succ,Just,and_true] at hh;(try simp only [hh] at hK ⊢);go_simp;refine (body_l _ a b txt d 0 0 places (R) (by omega)).mono ?_;rintro e w3 ⟨rfl,f3⟩;exact hK _ _ ⟨rfl,f3⟩
  intro vs w2 hf hh
  simp only [HeldAll,Just,and_true,Nat.reduceAdd] at hh
  obtain⟨e0,e1,e2,e3⟩:=hh
  simp only [e0,e1,e2,e3]
  clear e0 e1 e2 e3
  clear vs
  have p0:=hf.stayd p0
  have p1:=hf.stayd p1
  have p2:=hf.stayd p2
  have p3:=hf.stayd p3
  have p4:=hf.stayd p4
  have p5:=hf.stayd p5
  have p6:=hf.stayd p6
  have cr:=hf.stayd cr
  have vn:=vn.drew.fr hf (by simp)
  have vk:=vk.drew.fr hf (by simp)
  have vm:=vm.drew.fr hf (by simp)
  have vu:=vu.drew.fr hf (by simp)
  have vs:=vs.drew.fr hf (by simp)
  have cn:=vn.cell
  have cnz:=vn.frozen
  have ck:=vk.cell
  have ckz:=vk.frozen
  have G2:=G.drew.then hf
  go_wp2_with fail
  have D1:w.heap.size+1+1 ≠ w.heap.size+1+1+1:=by omega
  have vn:=(vn.set (.string (strL (R)))).other D1 (.bool (bodyB d places (R)))
  have vk:=(vk.other (Ne.symm D1) (.string (strL (R)))).set (.bool (bodyB d places (R)))
  have vm:=(vm.other (c:=w.heap.size+1+1) (by omega) (.string (strL (R)))).other (c:=w.heap.size+1+1+1) (by omega) (.bool (bodyB d places (R)))
  have vu:=(vu.other (c:=w.heap.size+1+1) (by omega) (.string (strL (R)))).other (c:=w.heap.size+1+1+1) (by omega) (.bool (bodyB d places (R)))
  have vs:=(vs.other (c:=w.heap.size+1+1) (by omega) (.string (strL (R)))).other (c:=w.heap.size+1+1+1) (by omega) (.bool (bodyB d places (R)))
  have fD:=((Fr.refl [w.heap.size+1+1,w.heap.size+1+1+1] w2).setCell (p:=⟨w.heap.size+1+1,0,none⟩) (.inl (by simp)) (.string (strL (R)))).setCell (p:=⟨w.heap.size+1+1+1,0,none⟩) (.inl (by simp)) (.bool (bodyB d places (R)))
  have p5:=fD.stay p5 (by simp;omega)
  have G3:=G2.after fD (by simp;omega)
  have hsz:¬ 9223372036854775807<(strL []).size+(strL (R)).size:=by rw [strL_size,strL_size];simp only [List.length_nil];rw [strL_size,strL_size] at z2;omega
  refine leaves_cons (f:=52) (args:=#[.pointer (some ⟨bm,0,none⟩),.pointer (some ⟨w.heap.size+1+1,0,none⟩),.pointer (some ⟨bu,0,none⟩),.pointer (some ⟨w.heap.size+1+1+1,0,none⟩),.pointer (some ⟨w.heap.size+1,0,none⟩),.pointer (some ⟨w.heap.size,0,none⟩)]) (by simp) (by simp [go_sem]) ?_
  refine (takeEnd_any _ bm (w.heap.size+1+1) bu (w.heap.size+1+1+1) (w.heap.size+1) w.heap.size [] (R) l _ 0 _ vm vn vu vk vs p5 (by omega) (by omega) (by omega) (by omega) (by omega) (by omega) (by omega) hsz).mono ?_
  rintro e u' w3 ⟨rfl,rfl,hn3,hk3,f3⟩
  have q1:=hn3.cell
  have q2:=hk3.cell
  simp [Leaves,settle,results,Tryz.results29,go_sem,q1,q2]
  exact G3.after f3 (by simp;omega)
 ·unfold planV
  go_enter_defers Tryz.func29,Tryz.ntmps29
  go_wp2_with fail
  refine wp_mono (take_begin w a b txt d 0 0 places l) ?_
  rintro e a' W ⟨rfl,bm,br,bu,rfl,h⟩
  have q2:=h.p2
  have q3:=h.p3
  have qs:=h.s.cell
  have qsz:=h.s.frozen
  have qr:=h.r.cell
  have qrz:=h.r.frozen
  have qu:=h.u.cell
  have quz:=h.u.frozen
  have qm:=h.m.cell
  have qmz:=h.m.frozen
  have e1:=h.hm
  have e2:=h.hr
  have e3:=h.hu
  have e4:=h.mr
  have e5:=h.mu
  have e6:=h.ru
  simp only [Exit.then]
  go_wp2_with (first
   | (go_at_call 54;go_loud (refine (hT _).mono ?_;rintro x w1 ⟨rfl,f1⟩;have h:=h.to f1;have q2:=h.p2;have q3:=h.p3;have qs:=h.s.cell;have qr:=h.r.cell;have qrz:=h.r.frozen;have qu:=h.u.cell;have quz:=h.u.frozen;have qm:=h.m.cell;have qmz:=h.m.frozen))
   | (go_at_call 39;go_loud (refine (hP' _).mono ?_;rintro x w2 ⟨rfl,hw⟩;subst hw)))
  have fZ:Fr [bm,br,bu] w1 ((w1.setCell ⟨br,0,none⟩ (.string (strL R))).setCell ⟨bu,0,none⟩ (.int .i64 (((strL l).size:Int) - ((strL R).size:Int)))):=((Fr.refl [bm,br,bu] w1).setCell (.inl (by simp)) _).setCell (.inl (by simp)) _
  have vr:Var ((w1.setCell ⟨br,0,none⟩ (.string (strL R))).setCell ⟨bu,0,none⟩ (.int .i64 (((strL l).size:Int) - ((strL R).size:Int)))) br (.string (strL R)):=(h.r.set _).other e6 _
  have vm:Var ((w1.setCell ⟨br,0,none⟩ (.string (strL R))).setCell ⟨bu,0,none⟩ (.int .i64 (((strL l).size:Int) - ((strL R).size:Int)))) bm (.string (strL [])):=(h.m.other e4 _).other e5 _
  have vu:Var ((w1.setCell ⟨br,0,none⟩ (.string (strL R))).setCell ⟨bu,0,none⟩ (.int .i64 (((strL l).size:Int) - ((strL R).size:Int)))) bu (.int .i64 (((strL l).size:Int) - ((strL R).size:Int))):=(h.u.other (Ne.symm e6) _).set _
  generalize ((w1.setCell ⟨br,0,none⟩ (.string (strL R))).setCell ⟨bu,0,none⟩ (.int .i64 (((strL l).size:Int) - ((strL R).size:Int))))=Z at *
  clear q2 q3 qs qsz qr qrz qu quz qm qmz
  have vs:=h.s.fr fZ (by simp;omega)
  have vn:=h.n.fr fZ (by simp;omega)
  have vk:=h.k.fr fZ (by simp;omega)
  have p0:=fZ.stay h.p0 (by simp;omega)
  have p1:=fZ.stay h.p1 (by simp;omega)
  have p2:=fZ.stay h.p2 (by simp;omega)
  have p3:=fZ.stay h.p3 (by simp;omega)
  have p4:=fZ.stay h.p4 (by simp;omega)
  have p5:=fZ.stay h.p5 (by simp;omega)
  have p6:=fZ.stay h.p6 (by simp;omega)
  have cr:=vr.cell
  have G:=h.fr.after fZ (by simp;omega)
  clear fZ h
  refine region_mono [] 4 [[],[],[],[1,2]] [none,none,none,none] (by kernel_rfl) (by kernel_rfl) ?_
  simp only [Chain,fill,Act.put,List.nil_append,List.cons_append,List.take_succ_cons,List.take_zero,List.drop_succ_cons,List.drop_zero,List.setIfInBounds_toArray,List.set_cons_zero,List.set_cons_succ,Nat.reduceAdd]
  iterate 3 (apply Exists.intro;apply And.intro;·intro vs w2 hf hh K hK;have p0:=hf.stayd p0;have p1:=hf.stayd p1;have p2:=hf.stayd p2;have p3:=hf.stayd p3;have p4:=hf.stayd p4;have p5:=hf.stayd p5;have p6:=hf.stayd p6;have cr:=hf.stayd cr;simp only [Held] at hh;(try simp only [] at hK ⊢);go_simp;exact hK _ _ ⟨rfl,Fr.refl _ _⟩)
  apply Exists.intro;apply And.intro
  ·intro vs w2 hf hh K hK;have p0:=hf.stayd p0;have p1:=hf.stayd p1;have p2:=hf.stayd p2;have p3:=hf.stayd p3;have p4:=hf.stayd p4;have p5:=hf.stayd p5;have p6:=hf.stayd p6;have cr:=hf.stayd cr;simp only [Held,List.getD_cons_zero,List.getD_cons_succ,Just,and_true] at hh;(try simp only [hh] at hK ⊢);go_simp;refine (body_l _ a b txt d 0 0 places (R) (by omega)).mono ?_;rintro e w3 ⟨rfl,f3⟩;exact hK _ _ ⟨rfl,f3⟩
  intro vs w2 hf hh
  simp only [HeldAll,Just,and_true,Nat.reduceAdd] at hh
  obtain⟨e0,e1,e2,e3⟩:=hh
  simp only [e0,e1,e2,e3]
  clear e0 e1 e2 e3
  clear vs
  have p0:=hf.stayd p0
  have p1:=hf.stayd p1
  have p2:=hf.stayd p2
  have p3:=hf.stayd p3
  have p4:=hf.stayd p4
  have p5:=hf.stayd p5
  have p6:=hf.stayd p6
  have cr:=hf.stayd cr
  have vn:=vn.drew.fr hf (by simp)
  have vk:=vk.drew.fr hf (by simp)
  have vm:=vm.drew.fr hf (by simp)
  have vu:=vu.drew.fr hf (by simp)
  have vs:=vs.drew.fr hf (by simp)
  have cn:=vn.cell
  have cnz:=vn.frozen
  have ck:=vk.cell
  have ckz:=vk.frozen
  have G2:=G.drew.then hf
  go_wp2_with fail
  have D1:w.heap.size+1+1 ≠ w.heap.size+1+1+1:=by omega
  have vn:=(vn.set (.string (strL (R)))).other D1 (.bool (bodyB d places (R)))
  have vk:=(vk.other (Ne.symm D1) (.string (strL (R)))).set (.bool (bodyB d places (R)))
  have vm:=(vm.other (c:=w.heap.size+1+1) (by omega) (.string (strL (R)))).other (c:=w.heap.size+1+1+1) (by omega) (.bool (bodyB d places (R)))
  have vu:=(vu.other (c:=w.heap.size+1+1) (by omega) (.string (strL (R)))).other (c:=w.heap.size+1+1+1) (by omega) (.bool (bodyB d places (R)))
  have vs:=(vs.other (c:=w.heap.size+1+1) (by omega) (.string (strL (R)))).other (c:=w.heap.size+1+1+1) (by omega) (.bool (bodyB d places (R)))
  have fD:=((Fr.refl [w.heap.size+1+1,w.heap.size+1+1+1] w2).setCell (p:=⟨w.heap.size+1+1,0,none⟩) (.inl (by simp)) (.string (strL (R)))).setCell (p:=⟨w.heap.size+1+1+1,0,none⟩) (.inl (by simp)) (.bool (bodyB d places (R)))
  have p5:=fD.stay p5 (by simp;omega)
  have G3:=G2.after fD (by simp;omega)
  have hsz:¬ 9223372036854775807<(strL []).size+(strL (R)).size:=by rw [strL_size,strL_size];simp only [List.length_nil];rw [strL_size,strL_size] at z2;omega
  refine leaves_cons (f:=52) (args:=#[.pointer (some ⟨bm,0,none⟩),.pointer (some ⟨w.heap.size+1+1,0,none⟩),.pointer (some ⟨bu,0,none⟩),.pointer (some ⟨w.heap.size+1+1+1,0,none⟩),.pointer (some ⟨w.heap.size+1,0,none⟩),.pointer (some ⟨w.heap.size,0,none⟩)]) (by simp) (by simp [go_sem]) ?_
  refine (takeEnd_any _ bm (w.heap.size+1+1) bu (w.heap.size+1+1+1) (w.heap.size+1) w.heap.size [] (R) l _ 0 _ vm vn vu vk vs p5 (by omega) (by omega) (by omega) (by omega) (by omega) (by omega) (by omega) hsz).mono ?_
  rintro e u' w3 ⟨rfl,rfl,hn3,hk3,f3⟩
  have q1:=hn3.cell
  have q2:=hk3.cell
  simp [Leaves,settle,results,Tryz.results29,go_sem,q1,q2]
  exact G3.after f3 (by simp;omega)
end Go.Proofs.YtcmndpjemdjalaaGreatDoor
namespace Go.Proofs.YtcmndpjemdjalaaGreatDoor
open Go.RowKit
theorem load_string {W:World} {b:Nat} {v:Value} (h:Var W b v):(loadVar 9 ⟨b,0,none⟩).run Tryz.prog W=.ok v W:=by
 have:=h.cell
 simp [loadVar,isAgg,underlying,Tryz.underlying9,this,Result.andThen]
theorem load_bool {W:World} {b:Nat} {v:Value} (h:Var W b v):(loadVar 4 ⟨b,0,none⟩).run Tryz.prog W=.ok v W:=by
 have:=h.cell
 simp [loadVar,isAgg,underlying,Tryz.underlying4,this,Result.andThen]
theorem results_two {fn:Func} {p q:Tmp} {ty tq:TypeId} (h:fn.results=#[.cell p ty,.cell q tq]) (tmps:Array Value) (w:World) (b c:Addr) (v1 v2:Value)
  (hp:tmps.getD p undef=.pointer (some b)) (hq:tmps.getD q undef=.pointer (some c)) (h1:(loadVar ty b).run Tryz.prog w=.ok v1 w) (h2:(loadVar tq c).run Tryz.prog w=.ok v2 w) :
  (results fn tmps).run Tryz.prog w=.ok (.tuple #[v1,v2]) w:=by
 unfold results
 rw [h]
 rw [Array.getD_eq_getD_getElem?] at hp hq
 simp [hp,hq,asAddr,h1,h2,Result.andThen]
theorem minus_shape {R:List UInt8} (h:Lib.hasPrefix R [45]=true):∃ S,R=45 :: S:=by
 unfold Lib.hasPrefix at h
 rcases R with _ | ⟨a,S⟩
 ·simp at h
 ·simp [List.isPrefixOf] at h
  subst h;exact⟨S,rfl⟩
theorem slice_one (x:UInt8) (S:List UInt8):(strL (x :: S)).extract 1 (strL (x :: S)).size=strL S:=by
 rw [← strL_of ((strL (x :: S)).extract 1 (strL (x :: S)).size)]
 congr 1
 rw [ByteArray.data_extract,Array.toList_extract,strL_data,strL_size]
 simp
theorem take_minus (w:World) (a b txt:ByteArray) (d:Nat) (places:Int) (l S:List UInt8) (hl:l.length≤65536) (hR:Lib.trimLeftS l [32]=45 :: S) (hb:¬ S=[110,97,110]) :
  Calls Tryz.prog 29 #[planV a b d 0 txt 0 places,.string (strL l)] w fun x w'=>x=.returned (.tuple #[.string (strL (45 :: S)),.bool (finOk (bodyB d places S) ((strL l).size - (strL (45 :: S)).size:Int) 0 (strL l).size)])∧Fr [] w w':=by
 have hp:Lib.hasPrefix (Lib.trimLeftS l [32]) [45]=true:=by rw [hR];rfl
 have hmf:∀ (fn:Fn) (first cap:Array Value) (w:World),(Instr.makeFunc fn first cap).run Tryz.prog w=.ok (.func fn first cap) w:=fun _ _ _ _=>rfl
 have hix:∀ w,(Instr.index 133 (.agg #[.string ⟨#[]⟩,.string ⟨#[43]⟩,.string ⟨#[32]⟩]) (.int .i64 0)).run Tryz.prog w=.ok (.string ⟨#[]⟩) w:=fun _=>by kernel_rfl
 have hT:=fun W=>trimLeft_blank W l
 have hle:=trimLeft_le l [32]
 generalize Lib.trimLeftS l [32]=R at *
 have hP:=fun W=>hasPrefix_l W R [45]
 simp only [hp] at hP
 have hP':∀ W,Calls Tryz.prog 39 #[.string (strL R),.string ⟨#[45]⟩] W fun x w'=>x=.returned (.bool true)∧w'=W:=hP
 clear hP
 have z1:(strL l).size≤65536:=by rw [strL_size];exact hl
 have z2:(strL R).size≤(strL l).size:=by rw [strL_size,strL_size];exact hle
 subst hR
 have hlS:S.length≤65536:=by simp only [List.length_cons] at hle;omega
 clear hle hp
 have hsl:=slice_one 45 S
 have hone:¬ ((strL (45 :: S)).size:Int)<1:=by rw [strL_size,List.length_cons];omega
 have hone2:(1:Int)≤((strL (45 :: S)).size:Int):=by rw [strL_size,List.length_cons];omega
 have hb2:((strL S).toList==[110,97,110])=false:=by rw [ByteArray.toList_eq,strL_data];simpa using hb
 unfold planV
 go_enter_defers Tryz.func29,Tryz.ntmps29
 go_wp2_with fail
 refine wp_mono (take_begin w a b txt d 0 0 places l) ?_
 rintro e a' W ⟨rfl,bm,br,bu,rfl,h⟩
 have q2:=h.p2
 have q3:=h.p3
 have qs:=h.s.cell
 have qsz:=h.s.frozen
 have qr:=h.r.cell
 have qrz:=h.r.frozen
 have qu:=h.u.cell
 have quz:=h.u.frozen
 have qm:=h.m.cell
 have qmz:=h.m.frozen
 have e1:=h.hm
 have e2:=h.hr
 have e3:=h.hu
 have e4:=h.mr
 have e5:=h.mu
 have e6:=h.ru
 simp only [Exit.then]
 go_wp2_with (first
  | (go_at_call 54;go_loud (refine (hT _).mono ?_;rintro x w1 ⟨rfl,f1⟩;have h:=h.to f1;have q2:=h.p2;have q3:=h.p3;have qs:=h.s.cell;have qr:=h.r.cell;have qrz:=h.r.frozen;have qu:=h.u.cell;have quz:=h.u.frozen;have qm:=h.m.cell;have qmz:=h.m.frozen))
  | (go_at_call 39;go_loud (refine (hP' _).mono ?_;rintro x w2 ⟨rfl,hw⟩;subst hw)))
 go_region
 simp only [Exit.then]
 go_wp2_with fail
 clear hsl hone hone2 hT hP' hb2 hix
 have fZ:Fr [bm,br,bu] w1 ((((((w1.setCell ⟨br,0,none⟩ (.string (strL (45 :: S)))).setCell ⟨bu,0,none⟩ (.int .i64 (((strL l).size:Int) - ((strL (45 :: S)).size:Int)))).setCell ⟨bm,0,none⟩ (.string ⟨#[45]⟩)).setCell ⟨br,0,none⟩ (.string (strL S))).drew)):=(((((Fr.refl [bm,br,bu] w1).setCell (.inl (by simp)) _).setCell (.inl (by simp)) _).setCell (.inl (by simp)) _).setCell (.inl (by simp)) _).drew
 have vr:Var ((((((w1.setCell ⟨br,0,none⟩ (.string (strL (45 :: S)))).setCell ⟨bu,0,none⟩ (.int .i64 (((strL l).size:Int) - ((strL (45 :: S)).size:Int)))).setCell ⟨bm,0,none⟩ (.string ⟨#[45]⟩)).setCell ⟨br,0,none⟩ (.string (strL S))).drew)) br (.string (strL S)):=(((((h.r.set _).other e6 _).other (Ne.symm e4) _).set _).drew)
 have vm:Var ((((((w1.setCell ⟨br,0,none⟩ (.string (strL (45 :: S)))).setCell ⟨bu,0,none⟩ (.int .i64 (((strL l).size:Int) - ((strL (45 :: S)).size:Int)))).setCell ⟨bm,0,none⟩ (.string ⟨#[45]⟩)).setCell ⟨br,0,none⟩ (.string (strL S))).drew)) bm (.string (strL [45])):=((((h.m.other e4 _).other e5 _).set _).other e4 _).drew
 have vu:Var ((((((w1.setCell ⟨br,0,none⟩ (.string (strL (45 :: S)))).setCell ⟨bu,0,none⟩ (.int .i64 (((strL l).size:Int) - ((strL (45 :: S)).size:Int)))).setCell ⟨bm,0,none⟩ (.string ⟨#[45]⟩)).setCell ⟨br,0,none⟩ (.string (strL S))).drew)) bu (.int .i64 (((strL l).size:Int) - ((strL (45 :: S)).size:Int))):=((((h.u.other (Ne.symm e6) _).set _).other (Ne.symm e5) _).other (Ne.symm e6) _).drew
 generalize ((((((w1.setCell ⟨br,0,none⟩ (.string (strL (45 :: S)))).setCell ⟨bu,0,none⟩ (.int .i64 (((strL l).size:Int) - ((strL (45 :: S)).size:Int)))).setCell ⟨bm,0,none⟩ (.string ⟨#[45]⟩)).setCell ⟨br,0,none⟩ (.string (strL S))).drew))=Z at *
 clear q2 q3 qs qsz qr qrz qu quz qm qmz
 have vs:=h.s.fr fZ (by simp;omega)
 have vn:=h.n.fr fZ (by simp;omega)
 have vk:=h.k.fr fZ (by simp;omega)
 have p0:=fZ.stay h.p0 (by simp;omega)
 have p1:=fZ.stay h.p1 (by simp;omega)
 have p2:=fZ.stay h.p2 (by simp;omega)
 have p3:=fZ.stay h.p3 (by simp;omega)
 have p4:=fZ.stay h.p4 (by simp;omega)
 have p5:=fZ.stay h.p5 (by simp;omega)
 have p6:=fZ.stay h.p6 (by simp;omega)
 have cr:=vr.cell
 have G:=h.fr.after fZ (by simp;omega)
 clear fZ h
 refine region_mono [] 4 [[],[],[],[1,2]] [none,none,none,none] (by kernel_rfl) (by kernel_rfl) ?_
 simp only [Chain,fill,Act.put,List.nil_append,List.cons_append,List.take_succ_cons,List.take_zero,List.drop_succ_cons,List.drop_zero,List.setIfInBounds_toArray,List.set_cons_zero,List.set_cons_succ,Nat.reduceAdd]
 iterate 3 (apply Exists.intro;apply And.intro;·intro vs w2 hf hh K hK;have p0:=hf.stayd p0;have p1:=hf.stayd p1;have p2:=hf.stayd p2;have p3:=hf.stayd p3;have p4:=hf.stayd p4;have p5:=hf.stayd p5;have p6:=hf.stayd p6;have cr:=hf.stayd cr;simp only [Held] at hh;(try simp only [] at hK ⊢);go_simp;exact hK _ _ ⟨rfl,Fr.refl _ _⟩)
 apply Exists.intro;apply And.intro
 ·intro vs w2 hf hh K hK;have p0:=hf.stayd p0;have p1:=hf.stayd p1;have p2:=hf.stayd p2;have p3:=hf.stayd p3;have p4:=hf.stayd p4;have p5:=hf.stayd p5;have p6:=hf.stayd p6;have cr:=hf.stayd cr;simp only [Held,List.getD_cons_zero,List.getD_cons_succ,Just,and_true] at hh;(try simp only [hh] at hK ⊢);go_simp;refine (body_l _ a b txt d 0 0 places (S) (by exact hlS)).mono ?_;rintro e w3 ⟨rfl,f3⟩;exact hK _ _ ⟨rfl,f3⟩
 intro vs w2 hf hh
 simp only [HeldAll,Just,and_true,Nat.reduceAdd] at hh
 obtain⟨e0,e1,e2,e3⟩:=hh
 simp only [e0,e1,e2,e3]
 clear e0 e1 e2 e3
 clear vs
 have p0:=hf.stayd p0
 have p1:=hf.stayd p1
 have p2:=hf.stayd p2
 have p3:=hf.stayd p3
 have p4:=hf.stayd p4
 have p5:=hf.stayd p5
 have p6:=hf.stayd p6
 have cr:=hf.stayd cr
 have vn:=vn.drew.fr hf (by simp)
 have vk:=vk.drew.fr hf (by simp)
 have vm:=vm.drew.fr hf (by simp)
 have vu:=vu.drew.fr hf (by simp)
 have vs:=vs.drew.fr hf (by simp)
 have cn:=vn.cell
 have cnz:=vn.frozen
 have ck:=vk.cell
 have ckz:=vk.frozen
 have G2:=G.drew.then hf
 go_wp2_with fail
 have D1:w.heap.size+1+1 ≠ w.heap.size+1+1+1:=by omega
 have vn:=(vn.set (.string (strL (S)))).other D1 (.bool (bodyB d places (S)))
 have vk:=(vk.other (Ne.symm D1) (.string (strL (S)))).set (.bool (bodyB d places (S)))
 have vm:=(vm.other (c:=w.heap.size+1+1) (by omega) (.string (strL (S)))).other (c:=w.heap.size+1+1+1) (by omega) (.bool (bodyB d places (S)))
 have vu:=(vu.other (c:=w.heap.size+1+1) (by omega) (.string (strL (S)))).other (c:=w.heap.size+1+1+1) (by omega) (.bool (bodyB d places (S)))
 have vs:=(vs.other (c:=w.heap.size+1+1) (by omega) (.string (strL (S)))).other (c:=w.heap.size+1+1+1) (by omega) (.bool (bodyB d places (S)))
 have fD:=((Fr.refl [w.heap.size+1+1,w.heap.size+1+1+1] w2).setCell (p:=⟨w.heap.size+1+1,0,none⟩) (.inl (by simp)) (.string (strL (S)))).setCell (p:=⟨w.heap.size+1+1+1,0,none⟩) (.inl (by simp)) (.bool (bodyB d places (S)))
 have p5:=fD.stay p5 (by simp;omega)
 have G3:=G2.after fD (by simp;omega)
 have hsz:¬ 9223372036854775807<(strL [45]).size+(strL (S)).size:=by rw [strL_size,strL_size];simp only [List.length_cons,List.length_nil];omega
 refine leaves_cons (f:=52) (args:=#[.pointer (some ⟨bm,0,none⟩),.pointer (some ⟨w.heap.size+1+1,0,none⟩),.pointer (some ⟨bu,0,none⟩),.pointer (some ⟨w.heap.size+1+1+1,0,none⟩),.pointer (some ⟨w.heap.size+1,0,none⟩),.pointer (some ⟨w.heap.size,0,none⟩)]) (by simp) (by simp [go_sem]) ?_
 refine (takeEnd_any _ bm (w.heap.size+1+1) bu (w.heap.size+1+1+1) (w.heap.size+1) w.heap.size [45] (S) l _ 0 _ vm vn vu vk vs p5 (by omega) (by omega) (by omega) (by omega) (by omega) (by omega) (by omega) hsz).mono ?_
 rintro e u' w3 ⟨rfl,rfl,hn3,hk3,f3⟩
 refine⟨_,results_two rfl _ w3 ⟨w.heap.size+1+1,0,none⟩ ⟨w.heap.size+1+1+1,0,none⟩ _ _ rfl rfl (load_string hn3) (load_bool hk3),?_⟩
 refine⟨rfl,?_⟩
 exact G3.after f3 (by simp;omega)
theorem take_minusnan (w:World) (a b txt:ByteArray) (d:Nat) (places:Int) (l S:List UInt8) (hl:l.length≤65536) (hR:Lib.trimLeftS l [32]=45 :: S) (hb:S=[110,97,110]) :
  Calls Tryz.prog 29 #[planV a b d 0 txt 0 places,.string (strL l)] w fun x w'=>x=.returned (.tuple #[.string (strL [45]),.bool false])∧Fr [] w w':=by
 have hp:Lib.hasPrefix (Lib.trimLeftS l [32]) [45]=true:=by rw [hR];rfl
 have hmf:∀ (fn:Fn) (first cap:Array Value) (w:World),(Instr.makeFunc fn first cap).run Tryz.prog w=.ok (.func fn first cap) w:=fun _ _ _ _=>rfl
 have hix:∀ w,(Instr.index 133 (.agg #[.string ⟨#[]⟩,.string ⟨#[43]⟩,.string ⟨#[32]⟩]) (.int .i64 0)).run Tryz.prog w=.ok (.string ⟨#[]⟩) w:=fun _=>by kernel_rfl
 have hT:=fun W=>trimLeft_blank W l
 have hle:=trimLeft_le l [32]
 generalize Lib.trimLeftS l [32]=R at *
 have hP:=fun W=>hasPrefix_l W R [45]
 simp only [hp] at hP
 have hP':∀ W,Calls Tryz.prog 39 #[.string (strL R),.string ⟨#[45]⟩] W fun x w'=>x=.returned (.bool true)∧w'=W:=hP
 clear hP
 have z1:(strL l).size≤65536:=by rw [strL_size];exact hl
 have z2:(strL R).size≤(strL l).size:=by rw [strL_size,strL_size];exact hle
 subst hR
 have hlS:S.length≤65536:=by simp only [List.length_cons] at hle;omega
 clear hle hp
 have hsl:=slice_one 45 S
 have hone:¬ ((strL (45 :: S)).size:Int)<1:=by rw [strL_size,List.length_cons];omega
 have hone2:(1:Int)≤((strL (45 :: S)).size:Int):=by rw [strL_size,List.length_cons];omega
 have hb2:((strL S).toList==[110,97,110])=true:=by rw [ByteArray.toList_eq,strL_data,hb];rfl
 clear hb
 unfold planV
 go_enter_defers Tryz.func29,Tryz.ntmps29
 go_wp2_with fail
 refine wp_mono (take_begin w a b txt d 0 0 places l) ?_
 rintro e a' W ⟨rfl,bm,br,bu,rfl,h⟩
 have q2:=h.p2
 have q3:=h.p3
 have qs:=h.s.cell
 have qsz:=h.s.frozen
 have qr:=h.r.cell
 have qrz:=h.r.frozen
 have qu:=h.u.cell
 have quz:=h.u.frozen
 have qm:=h.m.cell
 have qn:=h.n.cell
 have qnz:=h.n.frozen
 have qk:=h.k.cell
 have qkz:=h.k.frozen
 have qmz:=h.m.frozen
 have e1:=h.hm
 have e2:=h.hr
 have e3:=h.hu
 have e4:=h.mr
 have e5:=h.mu
 have e6:=h.ru
 simp only [Exit.then]
 go_wp2_with (first
  | (go_at_call 54;go_loud (refine (hT _).mono ?_;rintro x w1 ⟨rfl,f1⟩;have h:=h.to f1;have q2:=h.p2;have q3:=h.p3;have qs:=h.s.cell;have qr:=h.r.cell;have qrz:=h.r.frozen;have qu:=h.u.cell;have quz:=h.u.frozen;have qn:=h.n.cell;have qnz:=h.n.frozen;have qk:=h.k.cell;have qkz:=h.k.frozen;have qm:=h.m.cell;have qmz:=h.m.frozen))
  | (go_at_call 39;go_loud (refine (hP' _).mono ?_;rintro x w2 ⟨rfl,hw⟩;subst hw)))
 go_region
 simp only [Exit.then]
 go_wp2_with fail
 clear hsl hone hone2 hT hP' hb2 hix
 have fZ:Fr [bm,br,bu,w.heap.size+1+1,w.heap.size+1+1+1] w1 (((((((w1.setCell ⟨br,0,none⟩ (.string (strL (45 :: S)))).setCell ⟨bu,0,none⟩ (.int .i64 (((strL l).size:Int) - ((strL (45 :: S)).size:Int)))).setCell ⟨bm,0,none⟩ (.string ⟨#[45]⟩)).setCell ⟨br,0,none⟩ (.string (strL S))).setCell ⟨w.heap.size+1+1,0,none⟩ (.string ⟨#[]⟩)).setCell ⟨w.heap.size+1+1+1,0,none⟩ (.bool false)).drew):=(((((((Fr.refl _ w1).setCell (.inl (by simp)) _).setCell (.inl (by simp)) _).setCell (.inl (by simp)) _).setCell (.inl (by simp)) _).setCell (.inl (by simp)) _).setCell (.inl (by simp)) _).drew
 have vm:Var (((((((w1.setCell ⟨br,0,none⟩ (.string (strL (45 :: S)))).setCell ⟨bu,0,none⟩ (.int .i64 (((strL l).size:Int) - ((strL (45 :: S)).size:Int)))).setCell ⟨bm,0,none⟩ (.string ⟨#[45]⟩)).setCell ⟨br,0,none⟩ (.string (strL S))).setCell ⟨w.heap.size+1+1,0,none⟩ (.string ⟨#[]⟩)).setCell ⟨w.heap.size+1+1+1,0,none⟩ (.bool false)).drew) bm (.string (strL [45])):=((((((h.m.other (c:=br) (by omega) _).other (c:=bu) (by omega) _).set _).other (c:=br) (by omega) _).other (c:=w.heap.size+1+1) (by omega) _).other (c:=w.heap.size+1+1+1) (by omega) _).drew
 have vu:Var (((((((w1.setCell ⟨br,0,none⟩ (.string (strL (45 :: S)))).setCell ⟨bu,0,none⟩ (.int .i64 (((strL l).size:Int) - ((strL (45 :: S)).size:Int)))).setCell ⟨bm,0,none⟩ (.string ⟨#[45]⟩)).setCell ⟨br,0,none⟩ (.string (strL S))).setCell ⟨w.heap.size+1+1,0,none⟩ (.string ⟨#[]⟩)).setCell ⟨w.heap.size+1+1+1,0,none⟩ (.bool false)).drew) bu (.int .i64 (((strL l).size:Int) - ((strL (45 :: S)).size:Int))):=((((((h.u.other (c:=br) (by omega) _).set _).other (c:=bm) (by omega) _).other (c:=br) (by omega) _).other (c:=w.heap.size+1+1) (by omega) _).other (c:=w.heap.size+1+1+1) (by omega) _).drew
 have vn:Var (((((((w1.setCell ⟨br,0,none⟩ (.string (strL (45 :: S)))).setCell ⟨bu,0,none⟩ (.int .i64 (((strL l).size:Int) - ((strL (45 :: S)).size:Int)))).setCell ⟨bm,0,none⟩ (.string ⟨#[45]⟩)).setCell ⟨br,0,none⟩ (.string (strL S))).setCell ⟨w.heap.size+1+1,0,none⟩ (.string ⟨#[]⟩)).setCell ⟨w.heap.size+1+1+1,0,none⟩ (.bool false)).drew) (w.heap.size+1+1) (.string (strL [])):=((((((h.n.other (c:=br) (by omega) _).other (c:=bu) (by omega) _).other (c:=bm) (by omega) _).other (c:=br) (by omega) _).set _).other (c:=w.heap.size+1+1+1) (by omega) _).drew
 have vk:Var (((((((w1.setCell ⟨br,0,none⟩ (.string (strL (45 :: S)))).setCell ⟨bu,0,none⟩ (.int .i64 (((strL l).size:Int) - ((strL (45 :: S)).size:Int)))).setCell ⟨bm,0,none⟩ (.string ⟨#[45]⟩)).setCell ⟨br,0,none⟩ (.string (strL S))).setCell ⟨w.heap.size+1+1,0,none⟩ (.string ⟨#[]⟩)).setCell ⟨w.heap.size+1+1+1,0,none⟩ (.bool false)).drew) (w.heap.size+1+1+1) (.bool false):=((((((h.k.other (c:=br) (by omega) _).other (c:=bu) (by omega) _).other (c:=bm) (by omega) _).other (c:=br) (by omega) _).other (c:=w.heap.size+1+1) (by omega) _).set _).drew
 generalize (((((((w1.setCell ⟨br,0,none⟩ (.string (strL (45 :: S)))).setCell ⟨bu,0,none⟩ (.int .i64 (((strL l).size:Int) - ((strL (45 :: S)).size:Int)))).setCell ⟨bm,0,none⟩ (.string ⟨#[45]⟩)).setCell ⟨br,0,none⟩ (.string (strL S))).setCell ⟨w.heap.size+1+1,0,none⟩ (.string ⟨#[]⟩)).setCell ⟨w.heap.size+1+1+1,0,none⟩ (.bool false)).drew)=Z at *
 have vs:=h.s.fr fZ (by simp;omega)
 have p5:=fZ.stay h.p5 (by simp;omega)
 have G3:=h.fr.after fZ (by simp;omega)
 have hsz:¬ 9223372036854775807<(strL [45]).size+(strL []).size:=by rw [strL_size,strL_size];simp only [List.length_cons,List.length_nil];omega
 refine leaves_cons (f:=52) (args:=#[.pointer (some ⟨bm,0,none⟩),.pointer (some ⟨w.heap.size+1+1,0,none⟩),.pointer (some ⟨bu,0,none⟩),.pointer (some ⟨w.heap.size+1+1+1,0,none⟩),.pointer (some ⟨w.heap.size+1,0,none⟩),.pointer (some ⟨w.heap.size,0,none⟩)]) (by simp) (by simp [go_sem]) ?_
 refine (takeEnd_any _ bm (w.heap.size+1+1) bu (w.heap.size+1+1+1) (w.heap.size+1) w.heap.size [45] [] l _ 0 _ vm vn vu vk vs p5 (by omega) (by omega) (by omega) (by omega) (by omega) (by omega) (by omega) hsz).mono ?_
 rintro e u' w3 ⟨rfl,rfl,hn3,hk3,f3⟩
 have hk3:Var w3 (w.heap.size+1+1+1) (.bool false):=by simpa [finOk] using hk3
 refine⟨_,results_two rfl _ w3 ⟨w.heap.size+1+1,0,none⟩ ⟨w.heap.size+1+1+1,0,none⟩ _ _ rfl rfl (load_string hn3) (load_bool hk3),?_⟩
 refine⟨rfl,?_⟩
 exact G3.after f3 (by simp;omega)
end Go.Proofs.YtcmndpjemdjalaaGreatDoor
namespace Go.Proofs.YtcmndpjemdjalaaGreatDoor
open Go.RowKit
def takeOk (d:Nat) (places:Int) (l:List UInt8):Bool :=
 (Lib.trimLeftS l [32]).length==l.length && (match l with
  | 45 :: S=>S != [110,97,110] && bodyB d places S
  | _=>bodyB d places l)
theorem dropWhile_eq {p:UInt8→Bool}:∀ {l:List UInt8},(l.dropWhile p).length=l.length→l.dropWhile p=l
 | [],_=>rfl
 | a :: l,h=>by
  by_cases ha:p a=true
  ·rw [List.dropWhile_cons_of_pos ha] at h
   have:=(List.dropWhile_sublist p (l:=l)).length_le
   simp only [List.length_cons] at h;omega
  ·rw [List.dropWhile_cons_of_neg ha]
theorem trimLeft_eq {l cs:List UInt8} (h:(Lib.trimLeftS l cs).length=l.length):Lib.trimLeftS l cs=l:=dropWhile_eq h
theorem finOk_zero (k:Bool) (l R:List UInt8) (h:R.length≤l.length):finOk k (((strL l).size:Int) - ((strL R).size:Int)) 0 (strL l).size=(R.length==l.length && k):=by
 unfold finOk
 rw [strL_size,strL_size]
 by_cases he:R.length=l.length
 ·have h1:(R.length==l.length)=true:=by simpa using he
  rw [h1,he]
  simp
 ·have h1:(R.length==l.length)=false:=by simpa using he
  have h2:¬ ((l.length:Int) - (R.length:Int)≤0):=by omega
  have h3:¬ ((l.length:Int)=0):=by omega
  rw [h1]
  have h4:((l.length:Int)==0)=false:=beq_eq_false_iff_ne.2 h3
  rw [h4,decide_eq_false h2]
  simp
theorem take_zero (w:World) (a b txt:ByteArray) (d:Nat) (places:Int) (l:List UInt8) (hl:l.length≤65536) :
  Calls Tryz.prog 29 #[planV a b d 0 txt 0 places,.string (strL l)] w fun x w'=>∃ n,x=.returned (.tuple #[.string n,.bool (takeOk d places l)])∧(takeOk d places l=true→n=strL l)∧Fr [] w w':=by
 have hle:=trimLeft_le l [32]
 cases hp:Lib.hasPrefix (Lib.trimLeftS l [32]) [45] with
 | false =>
  refine (take_plain w a b txt d places l hl hp).mono ?_
  rintro x w' ⟨rfl,f⟩
  have hk:takeOk d places l=finOk (bodyB d places (Lib.trimLeftS l [32])) (((strL l).size:Int) - ((strL (Lib.trimLeftS l [32])).size:Int)) 0 (strL l).size:=by
   rw [finOk_zero _ _ _ hle]
   unfold takeOk
   by_cases he:(Lib.trimLeftS l [32]).length=l.length
   ·have h1:((Lib.trimLeftS l [32]).length==l.length)=true:=by simpa using he
    rw [h1,trimLeft_eq he]
    rw [trimLeft_eq he] at hp
    simp only [Bool.true_and]
    split
    ·simp [Lib.hasPrefix,List.isPrefixOf] at hp
    ·rfl
   ·have h1:((Lib.trimLeftS l [32]).length==l.length)=false:=by simpa using he
    rw [h1];rfl
  refine⟨_,by rw [hk],?_,f⟩
  intro h
  unfold takeOk at h
  rw [Bool.and_eq_true] at h
  rw [trimLeft_eq (by simpa using h.1)]
 | true =>
  obtain⟨S,hS⟩:=minus_shape hp
  have hleS:(45 :: S).length≤l.length:=by rw [← hS];exact hle
  by_cases hn:S=[110,97,110]
  ·refine (take_minusnan w a b txt d places l S hl hS hn).mono ?_
   rintro x w' ⟨rfl,f⟩
   have hk:takeOk d places l=false:=by
    unfold takeOk
    by_cases he:(Lib.trimLeftS l [32]).length=l.length
    ·have h2:=trimLeft_eq he
     rw [hS] at h2
     rw [← h2,hn]
     simp
    ·have h1:((Lib.trimLeftS l [32]).length==l.length)=false:=by simpa using he
     rw [h1];rfl
   refine⟨_,by rw [hk],?_,f⟩
   intro h;rw [hk] at h;simp at h
  ·refine (take_minus w a b txt d places l S hl hS hn).mono ?_
   rintro x w' ⟨rfl,f⟩
   have hk:takeOk d places l=finOk (bodyB d places S) (((strL l).size:Int) - ((strL (45 :: S)).size:Int)) 0 (strL l).size:=by
    rw [finOk_zero _ _ _ hleS]
    unfold takeOk
    rw [hS]
    by_cases he:(45 :: S).length=l.length
    ·have h2:=trimLeft_eq (l:=l) (cs:=[32]) (by rw [hS];exact he)
     rw [hS] at h2
     have h1:((45 :: S).length==l.length)=true:=by simpa using he
     rw [h1,← h2]
     have h3:(S != [110,97,110])=true:=by simpa using hn
     simp [h3]
    ·have h1:((45 :: S).length==l.length)=false:=by simpa using he
     rw [h1];rfl
   refine⟨_,by rw [hk],?_,f⟩
   intro h
   unfold takeOk at h
   rw [Bool.and_eq_true] at h
   have h2:=trimLeft_eq (l:=l) (cs:=[32]) (by simpa using h.1)
   rw [hS] at h2
   rw [h2]
def ErrAt (w:World) (T:TypeId) (v:Value) (code at_:Int):Prop :=
 ∃ b2 b1:Nat,v=.iface T (.pointer (some ⟨b2,0,none⟩))∧w.cell? ⟨b2,0,none⟩=some (.pointer (some ⟨b1,0,none⟩))∧w.cell? ⟨b1,0,none⟩=some (.int .i64 code)∧w.cell? ⟨b1,1,none⟩=some (.int .i64 at_)
theorem ErrAt.fr {w w':World} {T:TypeId} {v:Value} {code at_:Int} (h:ErrAt w T v code at_) (hf:Fr [] w w'):ErrAt w' T v code at_:=by
 obtain⟨b2,b1,h1,h2,h3,h4⟩:=h
 exact⟨b2,b1,h1,hf.stay h2 (by simp),hf.stay h3 (by simp),hf.stay h4 (by simp)⟩
theorem matchNo_any (w:World) (code at_:Int):Calls Tryz.prog 18 #[.int .i64 code,.int .i64 at_] w fun x w'=>∃ v,x=.returned v∧ErrAt w' 88 v code at_∧Fr [] w w':=by
 go_enter Tryz.func18,Tryz.ntmps18
 go_wp2_with fail
 go_ret
 have f1:=(Fr.refl [] w).alloc (.cells #[.int .i64 code,.int .i64 at_] 25)
 have f2:=(Fr.refl [] (w.alloc (.cells #[.int .i64 code,.int .i64 at_] 25))).alloc (.cells #[.pointer (some ⟨w.heap.size,0,none⟩)] 90)
 refine⟨_,rfl,⟨w.heap.size+1,w.heap.size,rfl,?_,?_,?_⟩,f1.then f2⟩
 ·have:=cell_new (w.alloc (.cells #[.int .i64 code,.int .i64 at_] 25)) #[.pointer (some ⟨w.heap.size,0,none⟩)] 90 (0,0) 0 _ rfl
  rwa [World.size_alloc] at this
 ·exact f2.stay (cell_new w #[.int .i64 code,.int .i64 at_] 25 (0,0) 0 _ rfl) (by simp)
 ·exact f2.stay (cell_new w #[.int .i64 code,.int .i64 at_] 25 (0,0) 1 _ rfl) (by simp)
end Go.Proofs.YtcmndpjemdjalaaGreatDoor
namespace Go.Proofs.YtcmndpjemdjalaaGreatDoor
open Go.RowKit
theorem extract_all (s:ByteArray):s.extract 0 s.size=s:=by
 apply ByteArray.ext
 rw [ByteArray.data_extract]
 show s.data.extract 0 s.data.size=s.data
 exact Array.extract_size
theorem cutSuffix_l (w:World) (l p:List UInt8) (hl:l.length≤65536) :
  Calls Tryz.prog 28 #[.string (strL l),.string (strL p)] w fun x w'=>x=.returned (.tuple #[.string (strL (Lib.trimSuffix l p)),.bool (Lib.hasSuffix l p)])∧w'=w:=by
 have:=Tryz.strings_CutSuffix (strL l) (strL p) w (by rw [strL_size];omega)
 rw [strL_data,strL_data] at this
 exact this
end Go.Proofs.YtcmndpjemdjalaaGreatDoor
