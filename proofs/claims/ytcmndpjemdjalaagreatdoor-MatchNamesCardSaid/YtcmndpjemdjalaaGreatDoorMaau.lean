/- Laws that the claimed theorem leans on: no condition of their own beyond their hypotheses. -/
import Derived.Test.YtcmndpjemdjalaaGreatDoorMaas
import Derived.Test.YtcmndpjemdjalaaGreatDoorMaat
set_option maxRecDepth 100000
set_option maxHeartbeats 16000000
namespace Go.Proofs.YtcmndpjemdjalaaGreatDoor
open Go.RowKit
theorem takenG_yes (w:World) (txt:ByteArray) (d:Nat) (N width places:Int) (l n:List UInt8) (hl:l.length≤65536)
  (hT:∀ W,Calls Tryz.prog 29 #[planV ⟨#[]⟩ ⟨#[]⟩ d N txt width places,.string (strL l)] W fun x w'=>x=.returned (.tuple #[.string (strL n),.bool true])∧Fr [] W w') :
  Calls Tryz.prog 20 #[planV ⟨#[]⟩ ⟨#[]⟩ d N txt width places,.string (strL l)] w fun x w' =>
   x=.returned (.tuple #[.string (strL n),.nilIface])∧Fr [] w w':=by
 have hC:∀ W,Calls Tryz.prog 28 #[.string (strL l),.string ⟨#[]⟩] W fun x w'=>x=.returned (.tuple #[.string (strL l),.bool true])∧w'=W:=by
  intro W
  have h:=cutSuffix_l W l [] hl
  have e1:Lib.hasSuffix l []=true:=by unfold Lib.hasSuffix;simp [List.isSuffixOf]
  have e2:Lib.trimSuffix l []=l:=by unfold Lib.trimSuffix;rw [if_pos e1];simp
  rw [e1,e2] at h
  exact h
 have hsl0:=extract_all (strL l)
 unfold planV at *
 have fA:=(Fr.refl [] w).alloc (.cells #[.string ⟨#[]⟩,.string ⟨#[]⟩,.int .u8 d,.int .i64 N,.string txt,.int .i64 width,.int .i64 places] 57)
 have p0:=cell_new w #[.string ⟨#[]⟩,.string ⟨#[]⟩,.int .u8 d,.int .i64 N,.string txt,.int .i64 width,.int .i64 places] 57 (0,0) 0 _ rfl
 have p1:=cell_new w #[.string ⟨#[]⟩,.string ⟨#[]⟩,.int .u8 d,.int .i64 N,.string txt,.int .i64 width,.int .i64 places] 57 (0,0) 1 _ rfl
 have p2:=cell_new w #[.string ⟨#[]⟩,.string ⟨#[]⟩,.int .u8 d,.int .i64 N,.string txt,.int .i64 width,.int .i64 places] 57 (0,0) 2 _ rfl
 have p3:=cell_new w #[.string ⟨#[]⟩,.string ⟨#[]⟩,.int .u8 d,.int .i64 N,.string txt,.int .i64 width,.int .i64 places] 57 (0,0) 3 _ rfl
 have p4:=cell_new w #[.string ⟨#[]⟩,.string ⟨#[]⟩,.int .u8 d,.int .i64 N,.string txt,.int .i64 width,.int .i64 places] 57 (0,0) 4 _ rfl
 have p5:=cell_new w #[.string ⟨#[]⟩,.string ⟨#[]⟩,.int .u8 d,.int .i64 N,.string txt,.int .i64 width,.int .i64 places] 57 (0,0) 5 _ rfl
 have p6:=cell_new w #[.string ⟨#[]⟩,.string ⟨#[]⟩,.int .u8 d,.int .i64 N,.string txt,.int .i64 width,.int .i64 places] 57 (0,0) 6 _ rfl
 generalize hW:w.alloc (.cells #[.string ⟨#[]⟩,.string ⟨#[]⟩,.int .u8 d,.int .i64 N,.string txt,.int .i64 width,.int .i64 places] 57)=W at *
 go_enter Tryz.func20,Tryz.ntmps20
 go_wp2_with fail
 refine wp_loop_rounds 1 ?_
 rw [rounds_succ]
 go_wp2_with fail
 clear hW
 refine region_mono [] 13 [[],[],[1],[2],[0,3],[],[5],[4,6],[7],[8],[8],[9],[10]] [none,none,none,none,none,none,none,none,none,none,none,none,none] (by kernel_rfl) (by kernel_rfl) ?_
 simp only [Chain,fill,Act.put,List.nil_append,List.cons_append,List.take_succ_cons,List.take_zero,List.drop_succ_cons,List.drop_zero,List.setIfInBounds_toArray,List.set_cons_zero,List.set_cons_succ,Nat.reduceAdd]
 iterate 7 (apply Exists.intro;apply And.intro;·intro vs w2 hf hh K hK;have p0:=hf.stayd p0;have p1:=hf.stayd p1;have p2:=hf.stayd p2;have p3:=hf.stayd p3;have p4:=hf.stayd p4;have p5:=hf.stayd p5;have p6:=hf.stayd p6;simp only [Held,List.getD_cons_zero,List.getD_cons_succ,Just,and_true] at hh;(try simp only [hh] at hK ⊢);go_simp;exact hK _ _ ⟨rfl,Fr.refl _ _⟩)
 apply Exists.intro;apply And.intro
 ·intro vs w2 hf hh K hK;have p0:=hf.stayd p0;have p1:=hf.stayd p1;have p2:=hf.stayd p2;have p3:=hf.stayd p3;have p4:=hf.stayd p4;have p5:=hf.stayd p5;have p6:=hf.stayd p6;simp only [Held,List.getD_cons_zero,List.getD_cons_succ,Just,and_true] at hh;(try simp only [hh] at hK ⊢);go_simp;refine (hC _).mono ?_;rintro e w3 ⟨rfl,hw⟩;exact hK _ _ ⟨rfl,by rw [hw];exact Fr.refl _ _⟩
 iterate 5 (apply Exists.intro;apply And.intro;·intro vs w2 hf hh K hK;simp only [Held,List.getD_cons_zero,List.getD_cons_succ,Just,and_true] at hh;(try simp only [hh] at hK ⊢);go_simp;exact hK _ _ ⟨rfl,Fr.refl _ _⟩)
 intro vs w2 hf hh
 simp only [HeldAll,Just,and_true,Nat.reduceAdd] at hh
 obtain⟨e0,e1,e2,e3,e4,e5,e6,e7,e8,e9,e10,e11,e12⟩:=hh
 simp only [e0,e1,e2,e3,e4,e5,e6,e7,e8,e9,e10,e11,e12]
 clear e0 e1 e2 e3 e4 e5 e6 e7 e8 e9 e10 e11 e12
 clear vs
 have p0:=hf.stayd p0
 have p1:=hf.stayd p1
 have p2:=hf.stayd p2
 have p3:=hf.stayd p3
 have p4:=hf.stayd p4
 have p5:=hf.stayd p5
 have p6:=hf.stayd p6
 have G:=fA.drew.then hf
 go_wp2_with (go_at_call 29;refine (hT _).mono ?_;rintro x w3 ⟨rfl,f3⟩)
 go_ret2
 exact⟨rfl,G.then f3⟩
theorem takenG_no (w:World) (txt:ByteArray) (d:Nat) (N width places:Int) (l:List UInt8) (hl:l.length≤65536)
  (hT:∀ W,Calls Tryz.prog 29 #[planV ⟨#[]⟩ ⟨#[]⟩ d N txt width places,.string (strL l)] W fun x w'=>∃ n:List UInt8,x=.returned (.tuple #[.string (strL n),.bool false])∧Fr [] W w') :
  Calls Tryz.prog 20 #[planV ⟨#[]⟩ ⟨#[]⟩ d N txt width places,.string (strL l)] w fun x w' =>
   ∃ v,x=.returned (.tuple #[.string ⟨#[]⟩,v])∧ErrAt w' 88 v 220 0∧Fr [] w w':=by
 have hC:∀ W,Calls Tryz.prog 28 #[.string (strL l),.string ⟨#[]⟩] W fun x w'=>x=.returned (.tuple #[.string (strL l),.bool true])∧w'=W:=by
  intro W
  have h:=cutSuffix_l W l [] hl
  have e1:Lib.hasSuffix l []=true:=by unfold Lib.hasSuffix;simp [List.isSuffixOf]
  have e2:Lib.trimSuffix l []=l:=by unfold Lib.trimSuffix;rw [if_pos e1];simp
  rw [e1,e2] at h
  exact h
 have hsl0:=extract_all (strL l)
 have hN:=fun W=>matchNo_any W 220 0
 unfold planV at *
 have fA:=(Fr.refl [] w).alloc (.cells #[.string ⟨#[]⟩,.string ⟨#[]⟩,.int .u8 d,.int .i64 N,.string txt,.int .i64 width,.int .i64 places] 57)
 have p0:=cell_new w #[.string ⟨#[]⟩,.string ⟨#[]⟩,.int .u8 d,.int .i64 N,.string txt,.int .i64 width,.int .i64 places] 57 (0,0) 0 _ rfl
 have p1:=cell_new w #[.string ⟨#[]⟩,.string ⟨#[]⟩,.int .u8 d,.int .i64 N,.string txt,.int .i64 width,.int .i64 places] 57 (0,0) 1 _ rfl
 have p2:=cell_new w #[.string ⟨#[]⟩,.string ⟨#[]⟩,.int .u8 d,.int .i64 N,.string txt,.int .i64 width,.int .i64 places] 57 (0,0) 2 _ rfl
 have p3:=cell_new w #[.string ⟨#[]⟩,.string ⟨#[]⟩,.int .u8 d,.int .i64 N,.string txt,.int .i64 width,.int .i64 places] 57 (0,0) 3 _ rfl
 have p4:=cell_new w #[.string ⟨#[]⟩,.string ⟨#[]⟩,.int .u8 d,.int .i64 N,.string txt,.int .i64 width,.int .i64 places] 57 (0,0) 4 _ rfl
 have p5:=cell_new w #[.string ⟨#[]⟩,.string ⟨#[]⟩,.int .u8 d,.int .i64 N,.string txt,.int .i64 width,.int .i64 places] 57 (0,0) 5 _ rfl
 have p6:=cell_new w #[.string ⟨#[]⟩,.string ⟨#[]⟩,.int .u8 d,.int .i64 N,.string txt,.int .i64 width,.int .i64 places] 57 (0,0) 6 _ rfl
 generalize hW:w.alloc (.cells #[.string ⟨#[]⟩,.string ⟨#[]⟩,.int .u8 d,.int .i64 N,.string txt,.int .i64 width,.int .i64 places] 57)=W at *
 go_enter Tryz.func20,Tryz.ntmps20
 go_wp2_with fail
 refine wp_loop_rounds 1 ?_
 rw [rounds_succ]
 go_wp2_with fail
 clear hW
 refine region_mono [] 13 [[],[],[1],[2],[0,3],[],[5],[4,6],[7],[8],[8],[9],[10]] [none,none,none,none,none,none,none,none,none,none,none,none,none] (by kernel_rfl) (by kernel_rfl) ?_
 simp only [Chain,fill,Act.put,List.nil_append,List.cons_append,List.take_succ_cons,List.take_zero,List.drop_succ_cons,List.drop_zero,List.setIfInBounds_toArray,List.set_cons_zero,List.set_cons_succ,Nat.reduceAdd]
 iterate 7 (apply Exists.intro;apply And.intro;·intro vs w2 hf hh K hK;have p0:=hf.stayd p0;have p1:=hf.stayd p1;have p2:=hf.stayd p2;have p3:=hf.stayd p3;have p4:=hf.stayd p4;have p5:=hf.stayd p5;have p6:=hf.stayd p6;simp only [Held,List.getD_cons_zero,List.getD_cons_succ,Just,and_true] at hh;(try simp only [hh] at hK ⊢);go_simp;exact hK _ _ ⟨rfl,Fr.refl _ _⟩)
 apply Exists.intro;apply And.intro
 ·intro vs w2 hf hh K hK;have p0:=hf.stayd p0;have p1:=hf.stayd p1;have p2:=hf.stayd p2;have p3:=hf.stayd p3;have p4:=hf.stayd p4;have p5:=hf.stayd p5;have p6:=hf.stayd p6;simp only [Held,List.getD_cons_zero,List.getD_cons_succ,Just,and_true] at hh;(try simp only [hh] at hK ⊢);go_simp;refine (hC _).mono ?_;rintro e w3 ⟨rfl,hw⟩;exact hK _ _ ⟨rfl,by rw [hw];exact Fr.refl _ _⟩
 iterate 5 (apply Exists.intro;apply And.intro;·intro vs w2 hf hh K hK;simp only [Held,List.getD_cons_zero,List.getD_cons_succ,Just,and_true] at hh;(try simp only [hh] at hK ⊢);go_simp;exact hK _ _ ⟨rfl,Fr.refl _ _⟩)
 intro vs w2 hf hh
 simp only [HeldAll,Just,and_true,Nat.reduceAdd] at hh
 obtain⟨e0,e1,e2,e3,e4,e5,e6,e7,e8,e9,e10,e11,e12⟩:=hh
 simp only [e0,e1,e2,e3,e4,e5,e6,e7,e8,e9,e10,e11,e12]
 clear e0 e1 e2 e3 e4 e5 e6 e7 e8 e9 e10 e11 e12
 clear vs
 have p0:=hf.stayd p0
 have p1:=hf.stayd p1
 have p2:=hf.stayd p2
 have p3:=hf.stayd p3
 have p4:=hf.stayd p4
 have p5:=hf.stayd p5
 have p6:=hf.stayd p6
 have G:=fA.drew.then hf
 go_wp2_with (first
  | (go_at_call 29;refine (hT _).mono ?_;rintro x w3 ⟨n,rfl,f3⟩;have p0:=f3.stay p0 (by simp))
  | (go_at_call 18;refine (hN _).mono ?_;rintro x w4 ⟨v,rfl,hv,f4⟩))
 go_ret2
 exact⟨v,rfl,hv,(G.then f3).then f4⟩
end Go.Proofs.YtcmndpjemdjalaaGreatDoor
namespace Go.Proofs.YtcmndpjemdjalaaGreatDoor
open Go.RowKit
theorem taken_yes (w:World) (txt:ByteArray) (d:Nat) (places:Int) (l:List UInt8) (hl:l.length≤65536) (hk:takeOk d places l=true) :
  Calls Tryz.prog 20 #[planV ⟨#[]⟩ ⟨#[]⟩ d 0 txt 0 places,.string (strL l)] w fun x w'=>x=.returned (.tuple #[.string (strL l),.nilIface])∧Fr [] w w' :=
 takenG_yes w txt d 0 0 places l l hl fun W=>(take_zero W _ _ txt d places l hl).mono fun x w' ⟨n,h1,h2,h3⟩=>⟨by rw [h1,h2 hk,hk],h3⟩
theorem taken_no (w:World) (txt:ByteArray) (d:Nat) (places:Int) (l:List UInt8) (hl:l.length≤65536) (hk:takeOk d places l=false) :
  Calls Tryz.prog 20 #[planV ⟨#[]⟩ ⟨#[]⟩ d 0 txt 0 places,.string (strL l)] w fun x w'=>∃ v,x=.returned (.tuple #[.string ⟨#[]⟩,v])∧ErrAt w' 88 v 220 0∧Fr [] w w' :=
 takenG_no w txt d 0 0 places l hl fun W=>(take_zero W _ _ txt d places l hl).mono fun x w' ⟨n,h1,h2,h3⟩=>⟨n.data.toList,by rw [h1,hk,strL_of],h3⟩
end Go.Proofs.YtcmndpjemdjalaaGreatDoor
namespace Go.Proofs.YtcmndpjemdjalaaGreatDoor
open Go.RowKit
def apiPlan (ops:Value) (width places:Int) (mode:Nat):Value:=.agg #[ops,.int .i64 width,.int .i64 places,.int .u8 mode]
theorem open_one (w:World) (b cap d mode:Nat) (N width places:Int) (txt:ByteArray) (hd:((d:Int) != 1)=true)
  (h0:w.cell? ⟨b,0,none⟩=some (.int .u8 d)) (h1:w.cell? ⟨b,1,none⟩=some (.int .i64 N)) (h2:w.cell? ⟨b,2,none⟩=some (.string txt)) :
  Calls Tryz.prog 19 #[apiPlan (.slice (some ⟨b,0,none⟩) 1 cap) width places mode] w fun x w'=>x=.returned (planV ⟨#[]⟩ ⟨#[]⟩ d N txt width places)∧Fr [] w w':=by
 have hb:=World.block_lt_of_cell? _ _ h0
 unfold apiPlan planV
 go_enter Tryz.func19,Tryz.ntmps19
 go_wp2_with fail
 have f1:=(Fr.refl [] w).alloc (.cells #[.slice (some ⟨b,0,none⟩) 1 cap,.int .i64 width,.int .i64 places,.int .u8 mode] 37)
 have f2:=(Fr.refl [] (w.alloc (.cells #[.slice (some ⟨b,0,none⟩) 1 cap,.int .i64 width,.int .i64 places,.int .u8 mode] 37))).alloc (.cells #[.string ⟨#[]⟩,.string ⟨#[]⟩,.int .u8 0,.int .i64 0,.string ⟨#[]⟩,.int .i64 0,.int .i64 0] 57)
 have f3:=(Fr.refl [] ((w.alloc (.cells #[.slice (some ⟨b,0,none⟩) 1 cap,.int .i64 width,.int .i64 places,.int .u8 mode] 37)).alloc (.cells #[.string ⟨#[]⟩,.string ⟨#[]⟩,.int .u8 0,.int .i64 0,.string ⟨#[]⟩,.int .i64 0,.int .i64 0] 57))).alloc (.cells #[.string ⟨#[]⟩,.string ⟨#[]⟩,.int .u8 0,.int .i64 0,.string ⟨#[]⟩,.int .i64 width,.int .i64 places] 57)
 have r2:=f3.row (row_new (w.alloc (.cells #[.slice (some ⟨b,0,none⟩) 1 cap,.int .i64 width,.int .i64 places,.int .u8 mode] 37)) (.cells #[.string ⟨#[]⟩,.string ⟨#[]⟩,.int .u8 0,.int .i64 0,.string ⟨#[]⟩,.int .i64 0,.int .i64 0] 57)) (by simp)
 have r3:=row_new ((w.alloc (.cells #[.slice (some ⟨b,0,none⟩) 1 cap,.int .i64 width,.int .i64 places,.int .u8 mode] 37)).alloc (.cells #[.string ⟨#[]⟩,.string ⟨#[]⟩,.int .u8 0,.int .i64 0,.string ⟨#[]⟩,.int .i64 0,.int .i64 0] 57)) (.cells #[.string ⟨#[]⟩,.string ⟨#[]⟩,.int .u8 0,.int .i64 0,.string ⟨#[]⟩,.int .i64 width,.int .i64 places] 57)
 have fW:=(f1.then f2).then f3
 generalize hW:((w.alloc (.cells #[.slice (some ⟨b,0,none⟩) 1 cap,.int .i64 width,.int .i64 places,.int .u8 mode] 37)).alloc (.cells #[.string ⟨#[]⟩,.string ⟨#[]⟩,.int .u8 0,.int .i64 0,.string ⟨#[]⟩,.int .i64 0,.int .i64 0] 57)).alloc (.cells #[.string ⟨#[]⟩,.string ⟨#[]⟩,.int .u8 0,.int .i64 0,.string ⟨#[]⟩,.int .i64 width,.int .i64 places] 57)=W at *
 have hWs:W.heap.size=w.heap.size+1+1+1:=by rw [← hW];simp
 simp only [World.size_alloc] at r2 r3
 clear hW f1 f2 f3
 have h0:=fW.stay h0 (by simp)
 have h1:=fW.stay h1 (by simp)
 have h2:=fW.stay h2 (by simp)
 have q0:W.cell? ⟨w.heap.size+1+1,0,none⟩=some (.string ⟨#[]⟩):=by rw [cell_of_row _ _ 0 _ _ _ r3];rfl
 have s0:W.cell? ⟨w.heap.size+1,0,none⟩=some (.string ⟨#[]⟩):=by rw [cell_of_row _ _ 0 _ _ _ r2];rfl
 have q1:W.cell? ⟨w.heap.size+1+1,1,none⟩=some (.string ⟨#[]⟩):=by rw [cell_of_row _ _ 1 _ _ _ r3];rfl
 have s1:W.cell? ⟨w.heap.size+1,1,none⟩=some (.string ⟨#[]⟩):=by rw [cell_of_row _ _ 1 _ _ _ r2];rfl
 have q2:W.cell? ⟨w.heap.size+1+1,2,none⟩=some (.int .u8 0):=by rw [cell_of_row _ _ 2 _ _ _ r3];rfl
 have s2:W.cell? ⟨w.heap.size+1,2,none⟩=some (.int .u8 0):=by rw [cell_of_row _ _ 2 _ _ _ r2];rfl
 have q3:W.cell? ⟨w.heap.size+1+1,3,none⟩=some (.int .i64 0):=by rw [cell_of_row _ _ 3 _ _ _ r3];rfl
 have s3:W.cell? ⟨w.heap.size+1,3,none⟩=some (.int .i64 0):=by rw [cell_of_row _ _ 3 _ _ _ r2];rfl
 have q4:W.cell? ⟨w.heap.size+1+1,4,none⟩=some (.string ⟨#[]⟩):=by rw [cell_of_row _ _ 4 _ _ _ r3];rfl
 have s4:W.cell? ⟨w.heap.size+1,4,none⟩=some (.string ⟨#[]⟩):=by rw [cell_of_row _ _ 4 _ _ _ r2];rfl
 have q5:W.cell? ⟨w.heap.size+1+1,5,none⟩=some (.int .i64 width):=by rw [cell_of_row _ _ 5 _ _ _ r3];rfl
 have s5:W.cell? ⟨w.heap.size+1,5,none⟩=some (.int .i64 0):=by rw [cell_of_row _ _ 5 _ _ _ r2];rfl
 have q6:W.cell? ⟨w.heap.size+1+1,6,none⟩=some (.int .i64 places):=by rw [cell_of_row _ _ 6 _ _ _ r3];rfl
 have s6:W.cell? ⟨w.heap.size+1,6,none⟩=some (.int .i64 0):=by rw [cell_of_row _ _ 6 _ _ _ r2];rfl
 have z3:∀ i,W.frozen? ⟨w.heap.size+1+1,i,none⟩=false:=fun i=>frozen_of_row W _ i _ _ r3
 have z2:∀ i,W.frozen? ⟨w.heap.size+1,i,none⟩=false:=fun i=>frozen_of_row W _ i _ _ r2
 have n1:¬ b=w.heap.size+1+1+1:=by omega
 have n2:¬ b=w.heap.size+1+1:=by omega
 have n3:¬ b=w.heap.size+1:=by omega
 refine wp_loop_rounds 2 ?_
 rw [rounds_succ]
 go_wp2_with fail
 have fX:=(((((Fr.refl [w.heap.size+1+1] W).setCell (p:=⟨w.heap.size+1+1,2,none⟩) (.inl (by simp)) (.int .u8 d)).setCell (p:=⟨w.heap.size+1+1,3,none⟩) (.inl (by simp)) (.int .i64 N)).setCell (p:=⟨w.heap.size+1+1,4,none⟩) (.inl (by simp)) (.string txt)).alloc (.cells #[.int .u8 d,.int .i64 N,.string txt] 46))
 have r3:=heap_setCell_same _ _ 4 _ _ (.string txt) (heap_setCell_same _ _ 3 _ _ (.int .i64 N) (heap_setCell_same _ _ 2 _ _ (.int .u8 d) r3))
 have r3:=((Fr.refl [] _).alloc (.cells #[.int .u8 d,.int .i64 N,.string txt] 46)).row r3 (by simp)
 have r2:=fX.row r2 (by simp)
 generalize ((((W.setCell ⟨w.heap.size+1+1,2,none⟩ (.int .u8 d)).setCell ⟨w.heap.size+1+1,3,none⟩ (.int .i64 N)).setCell ⟨w.heap.size+1+1,4,none⟩ (.string txt)).alloc (.cells #[.int .u8 d,.int .i64 N,.string txt] 46))=X at *
 clear q0 q1 q2 q3 q4 q5 q6 s0 s1 s2 s3 s4 s5 s6 z2 z3 h0 h1 h2
 rw [rounds_succ]
 go_wp2_with (first
  | ((with_reducible show wpList _ _ _ (⟨some 36,.load 57 (.tmp 3),_,_,_,_⟩ :: _) _ _);go_loud (refine wpList_load_row rfl 57 (.tmp 3) rfl (w.heap.size+1+1) rfl _ _ _ _ r3 Tryz.underlying57 rfl (by kernel_rfl) ?_))
  | ((with_reducible show wpList _ _ _ (⟨none,.store 57 (.tmp 2) (.tmp 36),_,_,_,_⟩ :: _) _ _);go_loud (refine wpList_store_whole rfl 57 (.tmp 2) (.tmp 36) rfl (w.heap.size+1) #[.string ⟨#[]⟩,.string ⟨#[]⟩,.int .u8 d,.int .i64 N,.string txt,.int .i64 width,.int .i64 places] rfl rfl _ _ r2 (by kernel_rfl) rfl (by simp [Value.oneCell']) ?_;intro w3 hn3 g3)))
 (try simp only [Exit.inBlock,Exit.then])
 refine bodyPost_ret (v:=_) (results_cell_row rfl _ _ (w.heap.size+1) _ _ _ _ rfl hn3 Tryz.underlying57 rfl (by kernel_rfl)) rfl ?_
 exact⟨rfl,(fW.after fX (by simp <;> omega)).after g3 (by simp <;> omega)⟩
end Go.Proofs.YtcmndpjemdjalaaGreatDoor
namespace Go.Proofs.YtcmndpjemdjalaaGreatDoor
open Go.RowKit
open Pb
theorem matchReadG_form (w:World) (E F:Int) (ops:Value) (pm:Nat) (wd places:Int) (l:List UInt8) (mode:Nat)
  (hCk:∀ W,Fr [] w W→Calls Tryz.prog 12 #[apiPlan ops wd places pm] W fun x w'=>x=.returned (.int .i64 0)∧Fr [] W w') (hF:¬ FormOk E F) :
  Calls Tryz.prog 8 #[apiPlan ops wd places pm,formV E F,.string (strL l),.int .u8 mode] w fun x w'=>∃ v,x=.returned (.tuple #[.int .u64 0,.int .u8 0,v])∧ErrAt w' 88 v 5 0∧Fr [] w w':=by
 have hC:=fun W=>formsCheck_no E F W hF
 unfold apiPlan formV at *
 have fA:=(Fr.refl [] w).alloc (.cells #[ops,.int .i64 wd,.int .i64 places,.int .u8 pm] 37)
 have a0:=cell_new w #[ops,.int .i64 wd,.int .i64 places,.int .u8 pm] 37 (0,0) 0 _ rfl
 have a1:=cell_new w #[ops,.int .i64 wd,.int .i64 places,.int .u8 pm] 37 (0,0) 1 _ rfl
 have a2:=cell_new w #[ops,.int .i64 wd,.int .i64 places,.int .u8 pm] 37 (0,0) 2 _ rfl
 have a3:=cell_new w #[ops,.int .i64 wd,.int .i64 places,.int .u8 pm] 37 (0,0) 3 _ rfl
 have fB:=(Fr.refl [] (w.alloc (.cells #[ops,.int .i64 wd,.int .i64 places,.int .u8 pm] 37))).alloc (.cells #[.int .i64 E,.int .i64 F] 39)
 have a0:=fB.stay a0 (by simp)
 have a1:=fB.stay a1 (by simp)
 have a2:=fB.stay a2 (by simp)
 have a3:=fB.stay a3 (by simp)
 have f0:=cell_new (w.alloc (.cells #[ops,.int .i64 wd,.int .i64 places,.int .u8 pm] 37)) #[.int .i64 E,.int .i64 F] 39 (0,0) 0 _ rfl
 have f1:=cell_new (w.alloc (.cells #[ops,.int .i64 wd,.int .i64 places,.int .u8 pm] 37)) #[.int .i64 E,.int .i64 F] 39 (0,0) 1 _ rfl
 rw [World.size_alloc] at f0 f1
 have fW:=fA.then fB
 clear fA fB
 go_enter Tryz.func8,Tryz.ntmps8
 generalize hW:((w.alloc (.cells #[ops,.int .i64 wd,.int .i64 places,.int .u8 pm] 37)).alloc (.cells #[.int .i64 E,.int .i64 F] 39))=W at *
 go_wp2_with (first
  | (go_at_call 12;go_loud (refine (hCk _ fW).mono ?_;rintro x w1 ⟨rfl,g1⟩;have a0:=g1.stay a0 (by simp);have a1:=g1.stay a1 (by simp);have a2:=g1.stay a2 (by simp);have a3:=g1.stay a3 (by simp);have f0:=g1.stay f0 (by simp);have f1:=g1.stay f1 (by simp);have G1:=fW.then g1))
  | (go_at_call 17;go_loud (refine (hC w1).mono ?_;rintro x w2 ⟨rfl,g2⟩;have a0:=g2.stay a0 (by simp);have a1:=g2.stay a1 (by simp);have a2:=g2.stay a2 (by simp);have a3:=g2.stay a3 (by simp);have f0:=g2.stay f0 (by simp);have f1:=g2.stay f1 (by simp);have G2:=G1.then g2))
  | (go_at_call 18;go_loud (refine (matchNo_any _ _ _).mono ?_;rintro x w3 ⟨v,rfl,hv,g3⟩)))
 go_ret3
 exact⟨v,rfl,hv,G2.then g3⟩
theorem matchReadG_long (w:World) (E F:Int) (ops:Value) (pm:Nat) (wd places:Int) (l:List UInt8) (mode:Nat)
  (hCk:∀ W,Fr [] w W→Calls Tryz.prog 12 #[apiPlan ops wd places pm] W fun x w'=>x=.returned (.int .i64 0)∧Fr [] W w') (hF:FormOk E F) (hl:65536<l.length) :
  Calls Tryz.prog 8 #[apiPlan ops wd places pm,formV E F,.string (strL l),.int .u8 mode] w fun x w'=>∃ v,x=.returned (.tuple #[.int .u64 0,.int .u8 0,v])∧ErrAt w' 88 v 3 0∧Fr [] w w':=by
 have hC:=fun W=>formsCheck_ok E F W hF
 have hlong:(65536:Int)<((strL l).size:Int):=by rw [strL_size];omega
 unfold apiPlan formV at *
 have fA:=(Fr.refl [] w).alloc (.cells #[ops,.int .i64 wd,.int .i64 places,.int .u8 pm] 37)
 have a0:=cell_new w #[ops,.int .i64 wd,.int .i64 places,.int .u8 pm] 37 (0,0) 0 _ rfl
 have a1:=cell_new w #[ops,.int .i64 wd,.int .i64 places,.int .u8 pm] 37 (0,0) 1 _ rfl
 have a2:=cell_new w #[ops,.int .i64 wd,.int .i64 places,.int .u8 pm] 37 (0,0) 2 _ rfl
 have a3:=cell_new w #[ops,.int .i64 wd,.int .i64 places,.int .u8 pm] 37 (0,0) 3 _ rfl
 have fB:=(Fr.refl [] (w.alloc (.cells #[ops,.int .i64 wd,.int .i64 places,.int .u8 pm] 37))).alloc (.cells #[.int .i64 E,.int .i64 F] 39)
 have a0:=fB.stay a0 (by simp)
 have a1:=fB.stay a1 (by simp)
 have a2:=fB.stay a2 (by simp)
 have a3:=fB.stay a3 (by simp)
 have f0:=cell_new (w.alloc (.cells #[ops,.int .i64 wd,.int .i64 places,.int .u8 pm] 37)) #[.int .i64 E,.int .i64 F] 39 (0,0) 0 _ rfl
 have f1:=cell_new (w.alloc (.cells #[ops,.int .i64 wd,.int .i64 places,.int .u8 pm] 37)) #[.int .i64 E,.int .i64 F] 39 (0,0) 1 _ rfl
 rw [World.size_alloc] at f0 f1
 have fW:=fA.then fB
 clear fA fB
 go_enter Tryz.func8,Tryz.ntmps8
 generalize hW:((w.alloc (.cells #[ops,.int .i64 wd,.int .i64 places,.int .u8 pm] 37)).alloc (.cells #[.int .i64 E,.int .i64 F] 39))=W at *
 go_wp2_with (first
  | (go_at_call 12;go_loud (refine (hCk _ fW).mono ?_;rintro x w1 ⟨rfl,g1⟩;have a0:=g1.stay a0 (by simp);have a1:=g1.stay a1 (by simp);have a2:=g1.stay a2 (by simp);have a3:=g1.stay a3 (by simp);have f0:=g1.stay f0 (by simp);have f1:=g1.stay f1 (by simp);have G1:=fW.then g1))
  | (go_at_call 17;go_loud (refine (hC w1).mono ?_;rintro x w2 ⟨rfl,g2⟩;have a0:=g2.stay a0 (by simp);have a1:=g2.stay a1 (by simp);have a2:=g2.stay a2 (by simp);have a3:=g2.stay a3 (by simp);have f0:=g2.stay f0 (by simp);have f1:=g2.stay f1 (by simp);have G2:=G1.then g2))
  | (go_at_call 18;go_loud (refine (matchNo_any _ _ _).mono ?_;rintro x w3 ⟨v,rfl,hv,g3⟩)))
 go_ret3
 exact⟨v,rfl,hv,G2.then g3⟩
theorem matchReadG_mode (w:World) (E F:Int) (ops:Value) (pm:Nat) (wd places:Int) (l:List UInt8) (mode:Nat)
  (hCk:∀ W,Fr [] w W→Calls Tryz.prog 12 #[apiPlan ops wd places pm] W fun x w'=>x=.returned (.int .i64 0)∧Fr [] W w') (hF:FormOk E F) (hl:l.length≤65536) (hm:5≤mode) :
  Calls Tryz.prog 8 #[apiPlan ops wd places pm,formV E F,.string (strL l),.int .u8 mode] w fun x w'=>∃ v,x=.returned (.tuple #[.int .u64 0,.int .u8 0,v])∧ErrAt w' 88 v 7 0∧Fr [] w w':=by
 have hC:=fun W=>formsCheck_ok E F W hF
 have hshort:¬ (65536:Int)<((strL l).size:Int):=by rw [strL_size];omega
 have hmm:(4:Int)<(mode:Int):=by omega
 unfold apiPlan formV at *
 have fA:=(Fr.refl [] w).alloc (.cells #[ops,.int .i64 wd,.int .i64 places,.int .u8 pm] 37)
 have a0:=cell_new w #[ops,.int .i64 wd,.int .i64 places,.int .u8 pm] 37 (0,0) 0 _ rfl
 have a1:=cell_new w #[ops,.int .i64 wd,.int .i64 places,.int .u8 pm] 37 (0,0) 1 _ rfl
 have a2:=cell_new w #[ops,.int .i64 wd,.int .i64 places,.int .u8 pm] 37 (0,0) 2 _ rfl
 have a3:=cell_new w #[ops,.int .i64 wd,.int .i64 places,.int .u8 pm] 37 (0,0) 3 _ rfl
 have fB:=(Fr.refl [] (w.alloc (.cells #[ops,.int .i64 wd,.int .i64 places,.int .u8 pm] 37))).alloc (.cells #[.int .i64 E,.int .i64 F] 39)
 have a0:=fB.stay a0 (by simp)
 have a1:=fB.stay a1 (by simp)
 have a2:=fB.stay a2 (by simp)
 have a3:=fB.stay a3 (by simp)
 have f0:=cell_new (w.alloc (.cells #[ops,.int .i64 wd,.int .i64 places,.int .u8 pm] 37)) #[.int .i64 E,.int .i64 F] 39 (0,0) 0 _ rfl
 have f1:=cell_new (w.alloc (.cells #[ops,.int .i64 wd,.int .i64 places,.int .u8 pm] 37)) #[.int .i64 E,.int .i64 F] 39 (0,0) 1 _ rfl
 rw [World.size_alloc] at f0 f1
 have fW:=fA.then fB
 clear fA fB
 go_enter Tryz.func8,Tryz.ntmps8
 generalize hW:((w.alloc (.cells #[ops,.int .i64 wd,.int .i64 places,.int .u8 pm] 37)).alloc (.cells #[.int .i64 E,.int .i64 F] 39))=W at *
 go_wp2_with (first
  | (go_at_call 12;go_loud (refine (hCk _ fW).mono ?_;rintro x w1 ⟨rfl,g1⟩;have a0:=g1.stay a0 (by simp);have a1:=g1.stay a1 (by simp);have a2:=g1.stay a2 (by simp);have a3:=g1.stay a3 (by simp);have f0:=g1.stay f0 (by simp);have f1:=g1.stay f1 (by simp);have G1:=fW.then g1))
  | (go_at_call 17;go_loud (refine (hC w1).mono ?_;rintro x w2 ⟨rfl,g2⟩;have a0:=g2.stay a0 (by simp);have a1:=g2.stay a1 (by simp);have a2:=g2.stay a2 (by simp);have a3:=g2.stay a3 (by simp);have f0:=g2.stay f0 (by simp);have f1:=g2.stay f1 (by simp);have G2:=G1.then g2))
  | (go_at_call 18;go_loud (refine (matchNo_any _ _ _).mono ?_;rintro x w3 ⟨v,rfl,hv,g3⟩)))
 go_ret3
 exact⟨v,rfl,hv,G2.then g3⟩
theorem matchReadG_no (w:World) (E F:Int) (ops pv:Value) (pm:Nat) (wd places:Int) (l:List UInt8) (mode:Nat)
  (hCk:∀ W,Fr [] w W→Calls Tryz.prog 12 #[apiPlan ops wd places pm] W fun x w'=>x=.returned (.int .i64 0)∧Fr [] W w') (hF:FormOk E F) (hl:l.length≤65536) (hm:mode<5) (hOp:∀ W,Fr [] w W→Calls Tryz.prog 19 #[apiPlan ops wd places pm] W fun x w'=>x=.returned pv∧Fr [] W w')
  (at_:Int) (hTk:∀ W,Calls Tryz.prog 20 #[pv,.string (strL l)] W fun x w'=>∃ v,x=.returned (.tuple #[.string ⟨#[]⟩,v])∧ErrAt w' 88 v 220 at_∧Fr [] W w') :
  Calls Tryz.prog 8 #[apiPlan ops wd places pm,formV E F,.string (strL l),.int .u8 mode] w fun x w'=>∃ v,x=.returned (.tuple #[.int .u64 0,.int .u8 0,v])∧ErrAt w' 88 v 220 at_∧Fr [] w w':=by
 have hC:=fun W=>formsCheck_ok E F W hF
 have hshort:¬ (65536:Int)<((strL l).size:Int):=by rw [strL_size];omega
 have hmm:¬ (4:Int)<(mode:Int):=by omega
 unfold apiPlan formV at *
 have fA:=(Fr.refl [] w).alloc (.cells #[ops,.int .i64 wd,.int .i64 places,.int .u8 pm] 37)
 have a0:=cell_new w #[ops,.int .i64 wd,.int .i64 places,.int .u8 pm] 37 (0,0) 0 _ rfl
 have a1:=cell_new w #[ops,.int .i64 wd,.int .i64 places,.int .u8 pm] 37 (0,0) 1 _ rfl
 have a2:=cell_new w #[ops,.int .i64 wd,.int .i64 places,.int .u8 pm] 37 (0,0) 2 _ rfl
 have a3:=cell_new w #[ops,.int .i64 wd,.int .i64 places,.int .u8 pm] 37 (0,0) 3 _ rfl
 have fB:=(Fr.refl [] (w.alloc (.cells #[ops,.int .i64 wd,.int .i64 places,.int .u8 pm] 37))).alloc (.cells #[.int .i64 E,.int .i64 F] 39)
 have a0:=fB.stay a0 (by simp)
 have a1:=fB.stay a1 (by simp)
 have a2:=fB.stay a2 (by simp)
 have a3:=fB.stay a3 (by simp)
 have f0:=cell_new (w.alloc (.cells #[ops,.int .i64 wd,.int .i64 places,.int .u8 pm] 37)) #[.int .i64 E,.int .i64 F] 39 (0,0) 0 _ rfl
 have f1:=cell_new (w.alloc (.cells #[ops,.int .i64 wd,.int .i64 places,.int .u8 pm] 37)) #[.int .i64 E,.int .i64 F] 39 (0,0) 1 _ rfl
 rw [World.size_alloc] at f0 f1
 have fW:=fA.then fB
 clear fA fB
 go_enter Tryz.func8,Tryz.ntmps8
 generalize hW:((w.alloc (.cells #[ops,.int .i64 wd,.int .i64 places,.int .u8 pm] 37)).alloc (.cells #[.int .i64 E,.int .i64 F] 39))=W at *
 go_wp2_with (first
  | (go_at_call 12;go_loud (refine (hCk _ fW).mono ?_;rintro x w1 ⟨rfl,g1⟩;have a0:=g1.stay a0 (by simp);have a1:=g1.stay a1 (by simp);have a2:=g1.stay a2 (by simp);have a3:=g1.stay a3 (by simp);have f0:=g1.stay f0 (by simp);have f1:=g1.stay f1 (by simp);have G1:=fW.then g1))
  | (go_at_call 17;go_loud (refine (hC w1).mono ?_;rintro x w2 ⟨rfl,g2⟩;have a0:=g2.stay a0 (by simp);have a1:=g2.stay a1 (by simp);have a2:=g2.stay a2 (by simp);have a3:=g2.stay a3 (by simp);have f0:=g2.stay f0 (by simp);have f1:=g2.stay f1 (by simp);have G2:=G1.then g2))
  | (go_at_call 19;go_loud (refine (hOp w2 G2).mono ?_;rintro x w4 ⟨rfl,g4⟩;have a0:=g4.stay a0 (by simp);have a1:=g4.stay a1 (by simp);have a2:=g4.stay a2 (by simp);have a3:=g4.stay a3 (by simp);have f0:=g4.stay f0 (by simp);have f1:=g4.stay f1 (by simp);have G4:=G2.then g4))
  | (go_at_call 20;go_loud (refine (hTk w4).mono ?_;rintro x w5 ⟨v,rfl,⟨b2,b1,rfl,hv⟩,g5⟩)))
 go_ret3
 exact⟨_,rfl,⟨b2,b1,rfl,hv⟩,G4.then g5⟩
theorem matchReadG_yes (w:World) (E F:Int) (ops pv:Value) (pm:Nat) (wd places:Int) (l:List UInt8) (mode:Nat)
  (hCk:∀ W,Fr [] w W→Calls Tryz.prog 12 #[apiPlan ops wd places pm] W fun x w'=>x=.returned (.int .i64 0)∧Fr [] W w') (hF:FormOk E F) (hl:l.length≤65536) (hm:mode<5) (hOp:∀ W,Fr [] w W→Calls Tryz.prog 19 #[apiPlan ops wd places pm] W fun x w'=>x=.returned pv∧Fr [] W w')
  (n:List UInt8) (hTk:∀ W,Calls Tryz.prog 20 #[pv,.string (strL l)] W fun x w'=>x=.returned (.tuple #[.string (strL n),.nilIface])∧Fr [] W w') (hn:n.length≤65536) (neg:Bool) (t:Txt) (hok:t.Ok) (hr:n=signL neg t.body) (hTab:TabAt 7 Lib.deBruijn32tab w) :
  Calls Tryz.prog 8 #[apiPlan ops wd places pm,formV E F,.string (strL l),.int .u8 mode] w fun x w'=>x=.returned (.tuple #[.int .u64 (txtV E F neg mode t).1,.int .u8 (txtV E F neg mode t).2,.nilIface])∧Fr [] w w':=by
 have hC:=fun W=>formsCheck_ok E F W hF
 have hshort:¬ (65536:Int)<((strL l).size:Int):=by rw [strL_size];omega
 have hmm:¬ (4:Int)<(mode:Int):=by omega
 have hRB:=fun W hT=>readBits_ok W E F (strL n) t neg mode hF hm (by rw [strL_data];exact hr) (by rw [strL_size];exact hn) hok hT
 generalize txtV E F neg mode t=r at *
 clear hr hok
 unfold apiPlan formV at *
 have fA:=(Fr.refl [] w).alloc (.cells #[ops,.int .i64 wd,.int .i64 places,.int .u8 pm] 37)
 have a0:=cell_new w #[ops,.int .i64 wd,.int .i64 places,.int .u8 pm] 37 (0,0) 0 _ rfl
 have a1:=cell_new w #[ops,.int .i64 wd,.int .i64 places,.int .u8 pm] 37 (0,0) 1 _ rfl
 have a2:=cell_new w #[ops,.int .i64 wd,.int .i64 places,.int .u8 pm] 37 (0,0) 2 _ rfl
 have a3:=cell_new w #[ops,.int .i64 wd,.int .i64 places,.int .u8 pm] 37 (0,0) 3 _ rfl
 have fB:=(Fr.refl [] (w.alloc (.cells #[ops,.int .i64 wd,.int .i64 places,.int .u8 pm] 37))).alloc (.cells #[.int .i64 E,.int .i64 F] 39)
 have a0:=fB.stay a0 (by simp)
 have a1:=fB.stay a1 (by simp)
 have a2:=fB.stay a2 (by simp)
 have a3:=fB.stay a3 (by simp)
 have f0:=cell_new (w.alloc (.cells #[ops,.int .i64 wd,.int .i64 places,.int .u8 pm] 37)) #[.int .i64 E,.int .i64 F] 39 (0,0) 0 _ rfl
 have f1:=cell_new (w.alloc (.cells #[ops,.int .i64 wd,.int .i64 places,.int .u8 pm] 37)) #[.int .i64 E,.int .i64 F] 39 (0,0) 1 _ rfl
 rw [World.size_alloc] at f0 f1
 have fW:=fA.then fB
 clear fA fB
 go_enter Tryz.func8,Tryz.ntmps8
 generalize hW:((w.alloc (.cells #[ops,.int .i64 wd,.int .i64 places,.int .u8 pm] 37)).alloc (.cells #[.int .i64 E,.int .i64 F] 39))=W at *
 go_wp2_with (first
  | (go_at_call 12;go_loud (refine (hCk _ fW).mono ?_;rintro x w1 ⟨rfl,g1⟩;have a0:=g1.stay a0 (by simp);have a1:=g1.stay a1 (by simp);have a2:=g1.stay a2 (by simp);have a3:=g1.stay a3 (by simp);have f0:=g1.stay f0 (by simp);have f1:=g1.stay f1 (by simp);have G1:=fW.then g1))
  | (go_at_call 17;go_loud (refine (hC w1).mono ?_;rintro x w2 ⟨rfl,g2⟩;have a0:=g2.stay a0 (by simp);have a1:=g2.stay a1 (by simp);have a2:=g2.stay a2 (by simp);have a3:=g2.stay a3 (by simp);have f0:=g2.stay f0 (by simp);have f1:=g2.stay f1 (by simp);have G2:=G1.then g2))
  | (go_at_call 19;go_loud (refine (hOp w2 G2).mono ?_;rintro x w4 ⟨rfl,g4⟩;have a0:=g4.stay a0 (by simp);have a1:=g4.stay a1 (by simp);have a2:=g4.stay a2 (by simp);have a3:=g4.stay a3 (by simp);have f0:=g4.stay f0 (by simp);have f1:=g4.stay f1 (by simp);have G4:=G2.then g4))
  | (go_at_call 20;go_loud (refine (hTk w4).mono ?_;rintro x w5 ⟨rfl,g5⟩;have a0:=g5.stay a0 (by simp);have a1:=g5.stay a1 (by simp);have a2:=g5.stay a2 (by simp);have a3:=g5.stay a3 (by simp);have f0:=g5.stay f0 (by simp);have f1:=g5.stay f1 (by simp);have G5:=G4.then g5;have hT5:TabAt 7 Lib.deBruijn32tab w5:=fun j hj=>G5.stay (hTab j hj) (by simp)))
  | (go_at_call 14;go_loud (refine (hRB w5 hT5).mono ?_;rintro x w6 ⟨rfl,g6⟩)))
 go_ret3
 exact⟨rfl,(G5.then g6).alloc _⟩
end Go.Proofs.YtcmndpjemdjalaaGreatDoor
namespace Go.Proofs.YtcmndpjemdjalaaGreatDoor
open Go.RowKit
theorem slice_drop (l:List UInt8) (n:Nat):(strL l).extract n (strL l).size=strL (l.drop n):=by
 rw [← strL_of ((strL l).extract n (strL l).size)]
 congr 1
 rw [ByteArray.data_extract,Array.toList_extract,strL_data,strL_size,List.extract_eq_take_drop]
 rw [List.take_of_length_le (by simp)]
theorem sliceN_run (l:List UInt8) (n:Nat) (hn:n≤l.length) (W:World):(Instr.slice 9 (.string (strL l)) (some (.int .i64 (n:Nat))) none none).run Tryz.prog W=.ok (.string (strL (l.drop n))) W:=by
 rw [run_slice_string_l (t:=9) (ht:=Tryz.underlying9) (h0:=by omega) (h1:=by rw [strL_size];omega)]
 rw [Int.toNat_natCast,slice_drop]
theorem without_no (w:World) (bp br bf bu:Nat) (a b txt:ByteArray) (d:Nat) (N width places n:Int) (l m:List UInt8) (hl:m.length≤65536)
  (p0:w.cell? ⟨bp,0,none⟩=some (.string a)) (p1:w.cell? ⟨bp,1,none⟩=some (.string b)) (p2:w.cell? ⟨bp,2,none⟩=some (.int .u8 d)) (p3:w.cell? ⟨bp,3,none⟩=some (.int .i64 N))
  (p4:w.cell? ⟨bp,4,none⟩=some (.string txt)) (p5:w.cell? ⟨bp,5,none⟩=some (.int .i64 width)) (p6:w.cell? ⟨bp,6,none⟩=some (.int .i64 places)) (cr:w.cell? ⟨br,0,none⟩=some (.string (strL l)))
  (hsl:∀ W,(Instr.slice 9 (.string (strL l)) (some (.int .i64 n)) none none).run Tryz.prog W=.ok (.string (strL m)) W) (hb:bodyB d places m=false) :
  Calls Tryz.prog 57 #[.int .i64 n,.pointer (some ⟨bp,0,none⟩),.pointer (some ⟨br,0,none⟩),.pointer (some ⟨bf,0,none⟩),.pointer (some ⟨bu,0,none⟩)] w fun x w'=>x=.returned (.bool false)∧Fr [] w w':=by
 have hB:=fun W=>body_l W a b txt d N width places m hl
 rw [hb] at hB
 clear hb hl
 unfold planV at hB
 generalize strL l=L at *
 generalize strL m=M at *
 go_enter Tryz.func57,Tryz.ntmps57
 go_wp2_with fail
 refine region_mono_g [] 12 [[],[],[],[1,2],[0,3],[4],[5],[6],[6],[6,7,8],[6,9],[6,10]] [none,none,none,none,none,none,none,none,none,none,none,none] (by kernel_rfl) (by kernel_rfl) ?_
 simp only [Chain,fill,Act.put,List.nil_append,List.cons_append,List.take_succ_cons,List.take_zero,List.drop_succ_cons,List.drop_zero,List.setIfInBounds_toArray,List.set_cons_zero,List.set_cons_succ,Nat.reduceAdd]
 iterate 4 (apply Exists.intro;apply And.intro;·intro vs w2 hf hh K hK;have p0:=hf.stayd p0;have p1:=hf.stayd p1;have p2:=hf.stayd p2;have p3:=hf.stayd p3;have p4:=hf.stayd p4;have p5:=hf.stayd p5;have p6:=hf.stayd p6;have cr:=hf.stayd cr;simp only [Held,List.getD_cons_zero,List.getD_cons_succ,Just,and_true] at hh;(try simp only [hh] at hK ⊢);go_simp;exact hK _ _ ⟨rfl,Fr.refl _ _⟩)
 apply Exists.intro;apply And.intro
 ·intro vs w2 hf hh K hK;have p0:=hf.stayd p0;have p1:=hf.stayd p1;have p2:=hf.stayd p2;have p3:=hf.stayd p3;have p4:=hf.stayd p4;have p5:=hf.stayd p5;have p6:=hf.stayd p6;have cr:=hf.stayd cr;simp only [Held,List.getD_cons_zero,List.getD_cons_succ,Just,and_true] at hh;(try simp only [hh] at hK ⊢);go_simp;refine (hB _).mono ?_;rintro x w3 ⟨rfl,f3⟩;exact hK _ _ ⟨rfl,f3⟩
 iterate 7 (apply Exists.intro;apply And.intro;·intro vs w2 hf hh K hK;have p0:=hf.stayd p0;have p1:=hf.stayd p1;have p2:=hf.stayd p2;have p3:=hf.stayd p3;have p4:=hf.stayd p4;have p5:=hf.stayd p5;have p6:=hf.stayd p6;have cr:=hf.stayd cr;simp only [Held,List.getD_cons_zero,List.getD_cons_succ,Just,and_true] at hh;(try simp only [hh] at hK ⊢);go_simp;exact hK _ _ ⟨rfl,Fr.refl _ _⟩)
 intro vs w2 hf hh
 simp only [HeldAll,Just,and_true,Nat.reduceAdd] at hh
 obtain⟨e0,e1,e2,e3,e4,e5,e6,e7,e8,e9,e10,e11⟩:=hh
 simp only [e0,e1,e2,e3,e4,e5,e6,e7,e8,e9,e10,e11]
 clear e0 e1 e2 e3 e4 e5 e6 e7 e8 e9 e10 e11
 clear vs
 have p0:=hf.stayd p0
 have p1:=hf.stayd p1
 have p2:=hf.stayd p2
 have p3:=hf.stayd p3
 have p4:=hf.stayd p4
 have p5:=hf.stayd p5
 have p6:=hf.stayd p6
 have cr:=hf.stayd cr
 go_wp2_with fail
 go_ret
 exact⟨rfl,(Fr.refl [] w).drew.then hf⟩
theorem without_yes (w:World) (bp br bf bu:Nat) (a b txt:ByteArray) (d:Nat) (N width places n:Int) (l m:List UInt8) (v0 v1:Value) (hl:m.length≤65536)
  (p0:w.cell? ⟨bp,0,none⟩=some (.string a)) (p1:w.cell? ⟨bp,1,none⟩=some (.string b)) (p2:w.cell? ⟨bp,2,none⟩=some (.int .u8 d)) (p3:w.cell? ⟨bp,3,none⟩=some (.int .i64 N))
  (p4:w.cell? ⟨bp,4,none⟩=some (.string txt)) (p5:w.cell? ⟨bp,5,none⟩=some (.int .i64 width)) (p6:w.cell? ⟨bp,6,none⟩=some (.int .i64 places)) (cr:w.cell? ⟨br,0,none⟩=some (.string (strL l)))
  (hvf:Var w bf v0) (hvu:Var w bu v1) (hne:bf ≠ bu)
  (hsl:∀ W,(Instr.slice 9 (.string (strL l)) (some (.int .i64 n)) none none).run Tryz.prog W=.ok (.string (strL m)) W) (hb:bodyB d places m=true) (hnm:namedB m=false) :
  Calls Tryz.prog 57 #[.int .i64 n,.pointer (some ⟨bp,0,none⟩),.pointer (some ⟨br,0,none⟩),.pointer (some ⟨bf,0,none⟩),.pointer (some ⟨bu,0,none⟩)] w fun x w'=>x=.returned (.bool true)∧Var w' bf (.string (strL m))∧Var w' bu (.int .i64 n)∧Fr [bf,bu] w w':=by
 have hB:=fun W=>body_l W a b txt d N width places m hl
 have hN:=fun W=>named_l W m
 rw [hb] at hB
 rw [hnm] at hN
 clear hb hl hnm
 unfold planV at hB
 generalize strL l=L at *
 generalize strL m=M at *
 go_enter Tryz.func57,Tryz.ntmps57
 go_wp2_with fail
 refine region_mono_g [] 12 [[],[],[],[1,2],[0,3],[4],[5],[6],[6],[6,7,8],[6,9],[6,10]] [none,none,none,none,none,none,none,none,none,none,none,none] (by kernel_rfl) (by kernel_rfl) ?_
 simp only [Chain,fill,Act.put,List.nil_append,List.cons_append,List.take_succ_cons,List.take_zero,List.drop_succ_cons,List.drop_zero,List.setIfInBounds_toArray,List.set_cons_zero,List.set_cons_succ,Nat.reduceAdd]
 iterate 4 (apply Exists.intro;apply And.intro;·intro vs w2 hf hh K hK;have p0:=hf.stayd p0;have p1:=hf.stayd p1;have p2:=hf.stayd p2;have p3:=hf.stayd p3;have p4:=hf.stayd p4;have p5:=hf.stayd p5;have p6:=hf.stayd p6;have cr:=hf.stayd cr;simp only [Held,List.getD_cons_zero,List.getD_cons_succ,Just,and_true] at hh;(try simp only [hh] at hK ⊢);go_simp;exact hK _ _ ⟨rfl,Fr.refl _ _⟩)
 apply Exists.intro;apply And.intro
 ·intro vs w2 hf hh K hK;have p0:=hf.stayd p0;have p1:=hf.stayd p1;have p2:=hf.stayd p2;have p3:=hf.stayd p3;have p4:=hf.stayd p4;have p5:=hf.stayd p5;have p6:=hf.stayd p6;have cr:=hf.stayd cr;simp only [Held,List.getD_cons_zero,List.getD_cons_succ,Just,and_true] at hh;(try simp only [hh] at hK ⊢);go_simp;refine (hB _).mono ?_;rintro x w3 ⟨rfl,f3⟩;exact hK _ _ ⟨rfl,f3⟩
 iterate 5 (apply Exists.intro;apply And.intro;·intro vs w2 hf hh K hK;have p0:=hf.stayd p0;have p1:=hf.stayd p1;have p2:=hf.stayd p2;have p3:=hf.stayd p3;have p4:=hf.stayd p4;have p5:=hf.stayd p5;have p6:=hf.stayd p6;have cr:=hf.stayd cr;simp only [Held,List.getD_cons_zero,List.getD_cons_succ,Just,and_true] at hh;(try simp only [hh] at hK ⊢);go_simp;exact hK _ _ ⟨rfl,Fr.refl _ _⟩)
 apply Exists.intro;apply And.intro
 ·intro vs w2 hf hh K hK;have p0:=hf.stayd p0;have p1:=hf.stayd p1;have p2:=hf.stayd p2;have p3:=hf.stayd p3;have p4:=hf.stayd p4;have p5:=hf.stayd p5;have p6:=hf.stayd p6;have cr:=hf.stayd cr;simp only [Held,List.getD_cons_zero,List.getD_cons_succ,Just,and_true] at hh;(try simp only [hh] at hK ⊢);go_simp;refine (hN _).mono ?_;rintro x w3 ⟨rfl,hw⟩;subst hw;exact hK _ _ ⟨rfl,Fr.refl _ _⟩
 apply Exists.intro;apply And.intro
 ·intro vs w2 hf hh K hK;simp only [Held,List.getD_cons_zero,List.getD_cons_succ,Just,and_true] at hh;(try simp only [hh] at hK ⊢);go_simp;exact hK _ _ ⟨rfl,Fr.refl _ _⟩
 intro vs w2 hf hh
 simp only [HeldAll,Just,and_true,Nat.reduceAdd] at hh
 obtain⟨e0,e1,e2,e3,e4,e5,e6,e7,e8,e9,e10,e11⟩:=hh
 simp only [e0,e1,e2,e3,e4,e5,e6,e7,e8,e9,e10,e11]
 clear e0 e1 e2 e3 e4 e5 e6 e7 e8 e9 e10 e11
 clear vs
 have p0:=hf.stayd p0
 have p1:=hf.stayd p1
 have p2:=hf.stayd p2
 have p3:=hf.stayd p3
 have p4:=hf.stayd p4
 have p5:=hf.stayd p5
 have p6:=hf.stayd p6
 have cr:=hf.stayd cr
 have hvf:=hvf.drew.fr hf (by simp)
 have hvu:=hvu.drew.fr hf (by simp)
 have q0:=hvf.cell
 have q0z:=hvf.frozen
 have q1:=hvu.cell
 have q1z:=hvu.frozen
 go_wp2_with fail
 go_ret
 exact⟨rfl,(hvf.set _).other hne _,(hvu.other (Ne.symm hne) _).set _,((Fr.refl [bf,bu] w).drew.then hf).trans (((Fr.refl [bf,bu] w2).setCell (p:=⟨bf,0,none⟩) (.inl (by simp)) _).setCell (p:=⟨bu,0,none⟩) (.inl (by simp)) _) (by simp)⟩
end Go.Proofs.YtcmndpjemdjalaaGreatDoor
namespace Go.Proofs.YtcmndpjemdjalaaGreatDoor
open Go.RowKit
theorem taken_up (w:World) (txt:ByteArray) (L R F:List UInt8) (ok:Bool) (n:Nat) (Q:List UInt8→Bool→Prop) (h3:3≤n) (zS:(strL L).size=n)
  (hC:∀ W,Calls Tryz.prog 28 #[.string (strL R),.string (strL [33])] W fun x w'=>x=.returned (.tuple #[.string (strL F),.bool ok])∧w'=W)
  (hs0:∀ W,(Instr.index 9 (.string (strL L)) (.int .i64 0)).run Tryz.prog W=.ok (.int .u8 120) W) (hs1:∀ W,(Instr.index 9 (.string (strL L)) (.int .i64 1)).run Tryz.prog W=.ok (.int .u8 61) W)
  (hsl:∀ W,(Instr.slice 9 (.string (strL L)) (some (.int .i64 2)) none none).run Tryz.prog W=.ok (.string (strL R)) W)
  (hT:ok=true→∀ W,Calls Tryz.prog 29 #[planV (strL [120,61]) (strL [33]) 3 5 txt 8 3,.string (strL F)] W fun x w'=>∃ (m:List UInt8) (k:Bool),x=.returned (.tuple #[.string (strL m),.bool k])∧Q m k∧Fr [] W w')
  (Pst:Ending→World→Prop) (h1:∀ m w',Q m true→Fr [] w w'→Pst (.returned (.tuple #[.string (strL m),.nilIface])) w') (h2:∀ m v w',Q m false→ErrAt w' 88 v 220 2→Fr [] w w'→Pst (.returned (.tuple #[.string ⟨#[]⟩,v])) w')
  (h4:ok=false→∀ v w',ErrAt w' 88 v 220 n→Fr [] w w'→Pst (.returned (.tuple #[.string ⟨#[]⟩,v])) w') :
  Calls Tryz.prog 20 #[planV (strL [120,61]) (strL [33]) 3 5 txt 8 3,.string (strL L)] w Pst:=by
 have ha0:∀ W,(Instr.index 9 (.string (strL [120,61])) (.int .i64 0)).run Tryz.prog W=.ok (.int .u8 120) W:=fun _=>by kernel_rfl
 have ha1:∀ W,(Instr.index 9 (.string (strL [120,61])) (.int .i64 1)).run Tryz.prog W=.ok (.int .u8 61) W:=fun _=>by kernel_rfl
 have zA:(strL [120,61]).size=2:=by rw [strL_size];rfl
 have hN:=fun W=>matchNo_any W 220 2
 have hM:=fun W=>matchNo_any W 220 n
 have z0:¬ n=0:=by omega
 have z1:¬ n≤1:=by omega
 have z2:¬ (n:Int)≤1:=by omega
 clear h3
 unfold planV at *
 generalize strL [120,61]=A at *
 generalize strL [33]=B at *
 generalize strL L=S at *
 generalize strL R=R' at *
 generalize strL F=F' at *
 have fA:=(Fr.refl [] w).alloc (.cells #[.string A,.string B,.int .u8 3,.int .i64 5,.string txt,.int .i64 8,.int .i64 3] 57)
 have p0:=cell_new w #[.string A,.string B,.int .u8 3,.int .i64 5,.string txt,.int .i64 8,.int .i64 3] 57 (0,0) 0 _ rfl
 have p1:=cell_new w #[.string A,.string B,.int .u8 3,.int .i64 5,.string txt,.int .i64 8,.int .i64 3] 57 (0,0) 1 _ rfl
 have p2:=cell_new w #[.string A,.string B,.int .u8 3,.int .i64 5,.string txt,.int .i64 8,.int .i64 3] 57 (0,0) 2 _ rfl
 have p3:=cell_new w #[.string A,.string B,.int .u8 3,.int .i64 5,.string txt,.int .i64 8,.int .i64 3] 57 (0,0) 3 _ rfl
 have p4:=cell_new w #[.string A,.string B,.int .u8 3,.int .i64 5,.string txt,.int .i64 8,.int .i64 3] 57 (0,0) 4 _ rfl
 have p5:=cell_new w #[.string A,.string B,.int .u8 3,.int .i64 5,.string txt,.int .i64 8,.int .i64 3] 57 (0,0) 5 _ rfl
 have p6:=cell_new w #[.string A,.string B,.int .u8 3,.int .i64 5,.string txt,.int .i64 8,.int .i64 3] 57 (0,0) 6 _ rfl
 generalize hW:w.alloc (.cells #[.string A,.string B,.int .u8 3,.int .i64 5,.string txt,.int .i64 8,.int .i64 3] 57)=W at *
 go_enter Tryz.func20,Tryz.ntmps20
 go_wp2_with fail
 refine wp_loop_rounds 3 ?_
 rw [rounds_succ]
 go_wp2_with fail
 clear hW
 refine region_mono_g [] 14 [[],[],[1],[0,2],[3],[4],[4],[4,5,6],[4],[4,8],[4],[4,9,10],[4,7,11],[4,12]] [none,none,none,none,none,none,none,none,none,none,none,none,none,none] (by kernel_rfl) (by kernel_rfl) ?_
 simp only [Chain,fill,Act.put,List.nil_append,List.cons_append,List.take_succ_cons,List.take_zero,List.drop_succ_cons,List.drop_zero,List.setIfInBounds_toArray,List.set_cons_zero,List.set_cons_succ,Nat.reduceAdd]
 iterate 14 (apply Exists.intro;apply And.intro;·intro vs w2 hf hh K hK;have p0:=hf.stayd p0;have p1:=hf.stayd p1;have p2:=hf.stayd p2;have p3:=hf.stayd p3;have p4:=hf.stayd p4;have p5:=hf.stayd p5;have p6:=hf.stayd p6;simp only [Held,List.getD_cons_zero,List.getD_cons_succ,Just,and_true] at hh;(try simp only [hh] at hK ⊢);go_simp;exact hK _ _ ⟨rfl,Fr.refl _ _⟩)
 intro vs w2 hf hh
 simp only [HeldAll,Just,and_true,Nat.reduceAdd] at hh
 obtain⟨e0,e1,e2,e3,e4,e5,e6,e7,e8,e9,e10,e11,e12,e13⟩:=hh
 simp only [e0,e1,e2,e3,e4,e5,e6,e7,e8,e9,e10,e11,e12,e13]
 clear e0 e1 e2 e3 e4 e5 e6 e7 e8 e9 e10 e11 e12 e13
 clear vs
 have p0:=hf.stayd p0
 have p1:=hf.stayd p1
 have p2:=hf.stayd p2
 have p3:=hf.stayd p3
 have p4:=hf.stayd p4
 have p5:=hf.stayd p5
 have p6:=hf.stayd p6
 have F1:=fA.drew.then hf
 clear hf
 go_wp2_with fail
 rw [rounds_succ]
 go_wp2_with fail
 generalize w2=W2 at *
 refine region_mono_g [] 14 [[],[],[1],[0,2],[3],[4],[4],[4,5,6],[4],[4,8],[4],[4,9,10],[4,7,11],[4,12]] [none,none,none,none,none,none,none,none,none,none,none,none,none,none] (by kernel_rfl) (by kernel_rfl) ?_
 simp only [Chain,fill,Act.put,List.nil_append,List.cons_append,List.take_succ_cons,List.take_zero,List.drop_succ_cons,List.drop_zero,List.setIfInBounds_toArray,List.set_cons_zero,List.set_cons_succ,Nat.reduceAdd]
 iterate 14 (apply Exists.intro;apply And.intro;·intro vs w2 hf hh K hK;have p0:=hf.stayd p0;have p1:=hf.stayd p1;have p2:=hf.stayd p2;have p3:=hf.stayd p3;have p4:=hf.stayd p4;have p5:=hf.stayd p5;have p6:=hf.stayd p6;simp only [Held,List.getD_cons_zero,List.getD_cons_succ,Just,and_true] at hh;(try simp only [hh] at hK ⊢);go_simp;exact hK _ _ ⟨rfl,Fr.refl _ _⟩)
 intro vs w2 hf hh
 simp only [HeldAll,Just,and_true,Nat.reduceAdd] at hh
 obtain⟨e0,e1,e2,e3,e4,e5,e6,e7,e8,e9,e10,e11,e12,e13⟩:=hh
 simp only [e0,e1,e2,e3,e4,e5,e6,e7,e8,e9,e10,e11,e12,e13]
 clear e0 e1 e2 e3 e4 e5 e6 e7 e8 e9 e10 e11 e12 e13
 clear vs
 have p0:=hf.stayd p0
 have p1:=hf.stayd p1
 have p2:=hf.stayd p2
 have p3:=hf.stayd p3
 have p4:=hf.stayd p4
 have p5:=hf.stayd p5
 have p6:=hf.stayd p6
 have F2:=F1.drew.then hf
 clear hf
 go_wp2_with fail
 rw [rounds_succ]
 go_wp2_with fail
 generalize w2=W3 at *
 clear ha0 ha1 hs0 hs1 z0 z1 z2
 refine region_mono [] 13 [[],[],[1],[2],[0,3],[],[5],[4,6],[7],[8],[8],[9],[10]] [none,none,none,none,none,none,none,none,none,none,none,none,none] (by kernel_rfl) (by kernel_rfl) ?_
 simp only [Chain,fill,Act.put,List.nil_append,List.cons_append,List.take_succ_cons,List.take_zero,List.drop_succ_cons,List.drop_zero,List.setIfInBounds_toArray,List.set_cons_zero,List.set_cons_succ,Nat.reduceAdd]
 iterate 7 (apply Exists.intro;apply And.intro;·intro vs w2 hf hh K hK;have p0:=hf.stayd p0;have p1:=hf.stayd p1;have p2:=hf.stayd p2;have p3:=hf.stayd p3;have p4:=hf.stayd p4;have p5:=hf.stayd p5;have p6:=hf.stayd p6;simp only [Held,List.getD_cons_zero,List.getD_cons_succ,Just,and_true] at hh;(try simp only [hh] at hK ⊢);go_simp;exact hK _ _ ⟨rfl,Fr.refl _ _⟩)
 apply Exists.intro;apply And.intro
 ·intro vs w2 hf hh K hK;have p0:=hf.stayd p0;have p1:=hf.stayd p1;have p2:=hf.stayd p2;have p3:=hf.stayd p3;have p4:=hf.stayd p4;have p5:=hf.stayd p5;have p6:=hf.stayd p6;simp only [Held,List.getD_cons_zero,List.getD_cons_succ,Just,and_true] at hh;(try simp only [hh] at hK ⊢);go_simp;refine (hC _).mono ?_;rintro e w3 ⟨rfl,hw⟩;exact hK _ _ ⟨rfl,by rw [hw];exact Fr.refl _ _⟩
 iterate 5 (apply Exists.intro;apply And.intro;·intro vs w2 hf hh K hK;simp only [Held,List.getD_cons_zero,List.getD_cons_succ,Just,and_true] at hh;(try simp only [hh] at hK ⊢);go_simp;exact hK _ _ ⟨rfl,Fr.refl _ _⟩)
 intro vs w2 hf hh
 simp only [HeldAll,Just,and_true,Nat.reduceAdd] at hh
 obtain⟨e0,e1,e2,e3,e4,e5,e6,e7,e8,e9,e10,e11,e12⟩:=hh
 simp only [e0,e1,e2,e3,e4,e5,e6,e7,e8,e9,e10,e11,e12]
 clear e0 e1 e2 e3 e4 e5 e6 e7 e8 e9 e10 e11 e12
 clear vs
 have p0:=hf.stayd p0
 have p1:=hf.stayd p1
 have p2:=hf.stayd p2
 have p3:=hf.stayd p3
 have p4:=hf.stayd p4
 have p5:=hf.stayd p5
 have p6:=hf.stayd p6
 have G:=F2.drew.then hf
 cases ok with
 | false =>
  clear hT
  go_wp2_with (go_at_call 18;refine (hM _).mono ?_;rintro x w4 ⟨v,rfl,hv,f4⟩)
  exact h4 (by trivial) v _ hv (G.then f4)
 | true =>
  have hT1:=hT rfl
  clear hT zS
  go_wp2_with fail
  refine (hT1 _).mono ?_
  rintro x w3 ⟨m,k,rfl,hq,f3⟩
  have p0:=f3.stay p0 (by simp)
  cases k with
  | true =>
   go_wp2_with fail
   exact h1 m _ hq (G.then f3)
  | false =>
   go_wp2_with (go_at_call 18;refine (hN _).mono ?_;rintro x w4 ⟨v,rfl,hv,f4⟩)
   exact h2 m v _ hq hv ((G.then f3).then f4)
theorem taken_up1 (w:World) (txt:ByteArray) (n:List UInt8) (hT:∀ W,Calls Tryz.prog 29 #[planV (strL [120,61]) (strL [33]) 3 5 txt 8 3,.string (strL [43,48,48,49,46,53,48,48])] W fun x w'=>x=.returned (.tuple #[.string (strL n),.bool true])∧Fr [] W w') :
  Calls Tryz.prog 20 #[planV (strL [120,61]) (strL [33]) 3 5 txt 8 3,.string (strL [120,61,43,48,48,49,46,53,48,48,33])] w fun x w'=>x=.returned (.tuple #[.string (strL n),.nilIface])∧Fr [] w w':=by
 have hC:∀ W,Calls Tryz.prog 28 #[.string (strL [43,48,48,49,46,53,48,48,33]),.string (strL [33])] W fun x w'=>x=.returned (.tuple #[.string (strL [43,48,48,49,46,53,48,48]),.bool true])∧w'=W:=by
  intro W
  have h:=cutSuffix_l W [43,48,48,49,46,53,48,48,33] [33] (by decide)
  rw [show Lib.hasSuffix [43,48,48,49,46,53,48,48,33] [33]=true by decide,show Lib.trimSuffix [43,48,48,49,46,53,48,48,33] [33]=[43,48,48,49,46,53,48,48] by decide] at h
  exact h
 exact taken_up w txt [120,61,43,48,48,49,46,53,48,48,33] [43,48,48,49,46,53,48,48,33] [43,48,48,49,46,53,48,48] true 11 (fun m k=>m=n∧k=true) (by decide) (by rw [strL_size];rfl) hC (fun _=>by kernel_rfl) (fun _=>by kernel_rfl) (fun W=>sliceN_run [120,61,43,48,48,49,46,53,48,48,33] 2 (by decide) W) (fun _ W=>(hT W).mono fun x w' ⟨h1,h2⟩=>⟨n,true,h1,⟨rfl,rfl⟩,h2⟩)
  _ (fun m w' h f=>by obtain⟨rfl,-⟩:=h;exact⟨rfl,f⟩) (fun m v w' h=>by cases h.2) (fun h=>by cases h)
theorem taken_up2 (w:World) (txt:ByteArray) (hT:∀ W,Calls Tryz.prog 29 #[planV (strL [120,61]) (strL [33]) 3 5 txt 8 3,.string (strL [43,48,48,48,49,46,53,48,48])] W fun x w'=>∃ n:List UInt8,x=.returned (.tuple #[.string (strL n),.bool false])∧Fr [] W w') :
  Calls Tryz.prog 20 #[planV (strL [120,61]) (strL [33]) 3 5 txt 8 3,.string (strL [120,61,43,48,48,48,49,46,53,48,48,33])] w fun x w'=>∃ v,x=.returned (.tuple #[.string ⟨#[]⟩,v])∧ErrAt w' 88 v 220 2∧Fr [] w w':=by
 have hC:∀ W,Calls Tryz.prog 28 #[.string (strL [43,48,48,48,49,46,53,48,48,33]),.string (strL [33])] W fun x w'=>x=.returned (.tuple #[.string (strL [43,48,48,48,49,46,53,48,48]),.bool true])∧w'=W:=by
  intro W
  have h:=cutSuffix_l W [43,48,48,48,49,46,53,48,48,33] [33] (by decide)
  rw [show Lib.hasSuffix [43,48,48,48,49,46,53,48,48,33] [33]=true by decide,show Lib.trimSuffix [43,48,48,48,49,46,53,48,48,33] [33]=[43,48,48,48,49,46,53,48,48] by decide] at h
  exact h
 exact taken_up w txt [120,61,43,48,48,48,49,46,53,48,48,33] [43,48,48,48,49,46,53,48,48,33] [43,48,48,48,49,46,53,48,48] true 12 (fun _ k=>k=false) (by decide) (by rw [strL_size];rfl) hC (fun _=>by kernel_rfl) (fun _=>by kernel_rfl) (fun W=>sliceN_run [120,61,43,48,48,48,49,46,53,48,48,33] 2 (by decide) W) (fun _ W=>(hT W).mono fun x w' ⟨n,h1,h2⟩=>⟨n,false,h1,rfl,h2⟩)
  _ (fun m w' h=>by cases h) (fun m v w' _ hv f=>⟨v,rfl,hv,f⟩) (fun h=>by cases h)
theorem taken_up3 (w:World) (txt:ByteArray) :
  Calls Tryz.prog 20 #[planV (strL [120,61]) (strL [33]) 3 5 txt 8 3,.string (strL [120,61,43,48,48,49,46,53,48,48])] w fun x w'=>∃ v,x=.returned (.tuple #[.string ⟨#[]⟩,v])∧ErrAt w' 88 v 220 10∧Fr [] w w':=by
 have hC:∀ W,Calls Tryz.prog 28 #[.string (strL [43,48,48,49,46,53,48,48]),.string (strL [33])] W fun x w'=>x=.returned (.tuple #[.string (strL [43,48,48,49,46,53,48,48]),.bool false])∧w'=W:=by
  intro W
  have h:=cutSuffix_l W [43,48,48,49,46,53,48,48] [33] (by decide)
  rw [show Lib.hasSuffix [43,48,48,49,46,53,48,48] [33]=false by decide,show Lib.trimSuffix [43,48,48,49,46,53,48,48] [33]=[43,48,48,49,46,53,48,48] by decide] at h
  exact h
 exact taken_up w txt [120,61,43,48,48,49,46,53,48,48] [43,48,48,49,46,53,48,48] [43,48,48,49,46,53,48,48] false 10 (fun _ _=>False) (by decide) (by rw [strL_size];rfl) hC (fun _=>by kernel_rfl) (fun _=>by kernel_rfl) (fun W=>sliceN_run [120,61,43,48,48,49,46,53,48,48] 2 (by decide) W) (fun h=>by cases h)
  _ (fun m w' h=>h.elim) (fun m v w' h=>h.elim) (fun _ v w' hv f=>⟨v,rfl,hv,f⟩)
end Go.Proofs.YtcmndpjemdjalaaGreatDoor
namespace Go.Proofs.YtcmndpjemdjalaaGreatDoor
open Go.RowKit
theorem trimRight_le (l cs:List UInt8):(Lib.trimRightS l cs).length≤l.length:=by
 unfold Lib.trimRightS
 rw [List.length_reverse]
 refine Nat.le_trans (List.dropWhile_sublist _).length_le ?_
 rw [List.length_reverse];exact Nat.le_refl _
theorem trimRight_blank (w:World) (l:List UInt8) (hl:l.length≤65536):Calls Tryz.prog 53 #[.string (strL l),.string ⟨#[32]⟩] w fun x w'=>x=.returned (.string (strL (Lib.trimRightS l [32])))∧Fr [] w w':=by
 have:=Tryz.strings_TrimRight (strL l) ⟨#[32]⟩ w (by rw [strL_size];omega) (by decide) (Go.Proofs.ascii_of_all (l:=[32]) (by decide))
 refine this.mono ?_
 rintro x w' ⟨h1,h2⟩
 rw [strL_data] at h1
 exact⟨h1,Fr.of_below h2⟩
theorem take_back (w:World) (a b txt:ByteArray) (d:Nat) (places:Int) (l:List UInt8) (hl:l.length≤65536) (hp:Lib.hasPrefix (Lib.trimRightS l [32]) [45]=false) (hb:((strL (Lib.trimRightS l [32])).toList==[110,97,110])=false) :
  Calls Tryz.prog 29 #[planV a b d 8 txt 6 places,.string (strL l)] w fun x w'=>x=.returned (.tuple #[.string (strL (Lib.trimRightS l [32])),.bool (finOk (bodyB d places (Lib.trimRightS l [32])) ((strL l).size - (strL (Lib.trimRightS l [32])).size:Int) 6 (strL l).size)])∧Fr [] w w':=by
 have hmf:∀ (fn:Fn) (first cap:Array Value) (w:World),(Instr.makeFunc fn first cap).run Tryz.prog w=.ok (.func fn first cap) w:=fun _ _ _ _=>rfl
 have hix:∀ w,(Instr.index 133 (.agg #[.string ⟨#[]⟩,.string ⟨#[43]⟩,.string ⟨#[32]⟩]) (.int .i64 0)).run Tryz.prog w=.ok (.string ⟨#[]⟩) w:=fun _=>by kernel_rfl
 have hT:=fun W=>trimRight_blank W l hl
 have hle:=trimRight_le l [32]
 generalize Lib.trimRightS l [32]=R at *
 have hP:=fun W=>hasPrefix_l W R [45]
 simp only [hp] at hP
 have hP':∀ W,Calls Tryz.prog 39 #[.string (strL R),.string ⟨#[45]⟩] W fun x w'=>x=.returned (.bool false)∧w'=W:=hP
 clear hP
 have z1:(strL l).size≤65536:=by rw [strL_size];exact hl
 have z2:(strL R).size≤(strL l).size:=by rw [strL_size,strL_size];exact hle
 clear hp
 unfold planV
 go_enter_defers Tryz.func29,Tryz.ntmps29
 go_wp2_with fail
 refine wp_mono (take_begin w a b txt d 8 6 places l) ?_
 rintro e a' W ⟨rfl,bm,br,bu,rfl,h⟩
 have q2:=h.p2
 have q3:=h.p3
 have qs:=h.s.cell
 have qsz:=h.s.frozen
 have qr:=h.r.cell
 have qrz:=h.r.frozen
 have qu:=h.u.cell
 have quz:=h.u.frozen
 have qm:=h.m.cell
 have qmz:=h.m.frozen
 have e1:=h.hm
 have e2:=h.hr
 have e3:=h.hu
 have e4:=h.mr
 have e5:=h.mu
 have e6:=h.ru
 simp only [Exit.then]
 go_wp2_with (first
  | (go_at_call 53;go_loud (refine (hT _).mono ?_;rintro x w1 ⟨rfl,f1⟩;have h:=h.to f1;have q2:=h.p2;have q3:=h.p3;have qs:=h.s.cell;have qr:=h.r.cell;have qrz:=h.r.frozen;have qu:=h.u.cell;have quz:=h.u.frozen;have qm:=h.m.cell;have qmz:=h.m.frozen))
  | (go_at_call 39;go_loud (refine (hP' _).mono ?_;rintro x w2 ⟨rfl,hw⟩;subst hw)))
 have fZ:Fr [bm,br,bu] w1 ((w1.setCell ⟨br,0,none⟩ (.string (strL R))).setCell ⟨bu,0,none⟩ (.int .i64 (((strL l).size:Int) - ((strL R).size:Int)))):=((Fr.refl [bm,br,bu] w1).setCell (.inl (by simp)) _).setCell (.inl (by simp)) _
 have vr:Var ((w1.setCell ⟨br,0,none⟩ (.string (strL R))).setCell ⟨bu,0,none⟩ (.int .i64 (((strL l).size:Int) - ((strL R).size:Int)))) br (.string (strL R)):=(h.r.set _).other e6 _
 have vm:Var ((w1.setCell ⟨br,0,none⟩ (.string (strL R))).setCell ⟨bu,0,none⟩ (.int .i64 (((strL l).size:Int) - ((strL R).size:Int)))) bm (.string (strL [])):=(h.m.other e4 _).other e5 _
 have vu:Var ((w1.setCell ⟨br,0,none⟩ (.string (strL R))).setCell ⟨bu,0,none⟩ (.int .i64 (((strL l).size:Int) - ((strL R).size:Int)))) bu (.int .i64 (((strL l).size:Int) - ((strL R).size:Int))):=(h.u.other (Ne.symm e6) _).set _
 generalize ((w1.setCell ⟨br,0,none⟩ (.string (strL R))).setCell ⟨bu,0,none⟩ (.int .i64 (((strL l).size:Int) - ((strL R).size:Int))))=Z at *
 clear q2 q3 qs qsz qr qrz qu quz qm qmz
 have vs:=h.s.fr fZ (by simp;omega)
 have vn:=h.n.fr fZ (by simp;omega)
 have vk:=h.k.fr fZ (by simp;omega)
 have p0:=fZ.stay h.p0 (by simp;omega)
 have p1:=fZ.stay h.p1 (by simp;omega)
 have p2:=fZ.stay h.p2 (by simp;omega)
 have p3:=fZ.stay h.p3 (by simp;omega)
 have p4:=fZ.stay h.p4 (by simp;omega)
 have p5:=fZ.stay h.p5 (by simp;omega)
 have p6:=fZ.stay h.p6 (by simp;omega)
 have cr:=vr.cell
 have G:=h.fr.after fZ (by simp;omega)
 clear fZ h
 refine region_mono [] 4 [[],[],[],[1,2]] [none,none,none,none] (by kernel_rfl) (by kernel_rfl) ?_
 simp only [Chain,fill,Act.put,List.nil_append,List.cons_append,List.take_succ_cons,List.take_zero,List.drop_succ_cons,List.drop_zero,List.setIfInBounds_toArray,List.set_cons_zero,List.set_cons_succ,Nat.reduceAdd]
 iterate 3 (apply Exists.intro;apply And.intro;·intro vs w2 hf hh K hK;have p0:=hf.stayd p0;have p1:=hf.stayd p1;have p2:=hf.stayd p2;have p3:=hf.stayd p3;have p4:=hf.stayd p4;have p5:=hf.stayd p5;have p6:=hf.stayd p6;have cr:=hf.stayd cr;simp only [Held] at hh;(try simp only [] at hK ⊢);go_simp;exact hK _ _ ⟨rfl,Fr.refl _ _⟩)
 apply Exists.intro;apply And.intro
 ·intro vs w2 hf hh K hK;have p0:=hf.stayd p0;have p1:=hf.stayd p1;have p2:=hf.stayd p2;have p3:=hf.stayd p3;have p4:=hf.stayd p4;have p5:=hf.stayd p5;have p6:=hf.stayd p6;have cr:=hf.stayd cr;simp only [Held,List.getD_cons_zero,List.getD_cons_succ,Just,and_true] at hh;(try simp only [hh] at hK ⊢);go_simp;refine (body_l _ a b txt d 8 6 places (R) (by omega)).mono ?_;rintro e w3 ⟨rfl,f3⟩;exact hK _ _ ⟨rfl,f3⟩
 intro vs w2 hf hh
 simp only [HeldAll,Just,and_true,Nat.reduceAdd] at hh
 obtain⟨e0,e1,e2,e3⟩:=hh
 simp only [e0,e1,e2,e3]
 clear e0 e1 e2 e3
 clear vs
 have p0:=hf.stayd p0
 have p1:=hf.stayd p1
 have p2:=hf.stayd p2
 have p3:=hf.stayd p3
 have p4:=hf.stayd p4
 have p5:=hf.stayd p5
 have p6:=hf.stayd p6
 have cr:=hf.stayd cr
 have vn:=vn.drew.fr hf (by simp)
 have vk:=vk.drew.fr hf (by simp)
 have vm:=vm.drew.fr hf (by simp)
 have vu:=vu.drew.fr hf (by simp)
 have vs:=vs.drew.fr hf (by simp)
 have cn:=vn.cell
 have cnz:=vn.frozen
 have ck:=vk.cell
 have ckz:=vk.frozen
 have G2:=G.drew.then hf
 go_wp2_with fail
 have D1:w.heap.size+1+1 ≠ w.heap.size+1+1+1:=by omega
 have vn:=(vn.set (.string (strL (R)))).other D1 (.bool (bodyB d places (R)))
 have vk:=(vk.other (Ne.symm D1) (.string (strL (R)))).set (.bool (bodyB d places (R)))
 have vm:=(vm.other (c:=w.heap.size+1+1) (by omega) (.string (strL (R)))).other (c:=w.heap.size+1+1+1) (by omega) (.bool (bodyB d places (R)))
 have vu:=(vu.other (c:=w.heap.size+1+1) (by omega) (.string (strL (R)))).other (c:=w.heap.size+1+1+1) (by omega) (.bool (bodyB d places (R)))
 have vs:=(vs.other (c:=w.heap.size+1+1) (by omega) (.string (strL (R)))).other (c:=w.heap.size+1+1+1) (by omega) (.bool (bodyB d places (R)))
 have fD:=((Fr.refl [w.heap.size+1+1,w.heap.size+1+1+1] w2).setCell (p:=⟨w.heap.size+1+1,0,none⟩) (.inl (by simp)) (.string (strL (R)))).setCell (p:=⟨w.heap.size+1+1+1,0,none⟩) (.inl (by simp)) (.bool (bodyB d places (R)))
 have p5:=fD.stay p5 (by simp;omega)
 have G3:=G2.after fD (by simp;omega)
 have hsz:¬ 9223372036854775807<(strL []).size+(strL (R)).size:=by rw [strL_size,strL_size];simp only [List.length_nil];rw [strL_size,strL_size] at z2;omega
 refine leaves_cons (f:=52) (args:=#[.pointer (some ⟨bm,0,none⟩),.pointer (some ⟨w.heap.size+1+1,0,none⟩),.pointer (some ⟨bu,0,none⟩),.pointer (some ⟨w.heap.size+1+1+1,0,none⟩),.pointer (some ⟨w.heap.size+1,0,none⟩),.pointer (some ⟨w.heap.size,0,none⟩)]) (by simp) (by simp [go_sem]) ?_
 refine (takeEnd_any _ bm (w.heap.size+1+1) bu (w.heap.size+1+1+1) (w.heap.size+1) w.heap.size [] (R) l _ 6 _ vm vn vu vk vs p5 (by omega) (by omega) (by omega) (by omega) (by omega) (by omega) (by omega) hsz).mono ?_
 rintro e u' w3 ⟨rfl,rfl,hn3,hk3,f3⟩
 refine⟨_,results_two rfl _ w3 ⟨w.heap.size+1+1,0,none⟩ ⟨w.heap.size+1+1+1,0,none⟩ _ _ rfl rfl (load_string hn3) (load_bool hk3),?_⟩
 refine⟨rfl,?_⟩
 exact G3.after f3 (by simp;omega)
end Go.Proofs.YtcmndpjemdjalaaGreatDoor
