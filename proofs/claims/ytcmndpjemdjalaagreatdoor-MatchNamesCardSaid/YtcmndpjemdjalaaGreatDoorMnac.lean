/- Laws that the claimed theorem leans on: no condition of their own beyond their hypotheses. -/
import Derived.Test.YtcmndpjemdjalaaGreatDoorMaaw
set_option maxRecDepth 100000
set_option maxHeartbeats 16000000
namespace Go.Proofs.YtcmndpjemdjalaaGreatDoor
open Go.RowKit
theorem field_5x (w:World) (b:Nat) (ops:Value) (h:RdAt w b (strL [123,48,53,120,125]) ((1:Nat):Int) ops 0 0 0) :
  Calls Tryz.prog 41 #[.pointer (some ⟨b,0,none⟩)] w fun x w'=>x=.returned (.agg #[.int .u8 6,.int .i64 4])∧RdAt w' b (strL [123,48,53,120,125]) ((5:Nat):Int) ops 5 (-1) 0∧Fr [b] w w':=by
 have hb:=h.lt
 have r2:=row_new w (.cells #[.int .u8 0,.int .i64 0] 117)
 have F:=(Fr.refl [b] w).alloc (.cells #[.int .u8 0,.int .i64 0] 117)
 have h:=h.alloc (.cells #[.int .u8 0,.int .i64 0] 117)
 have sz:w.heap.size+1≤(w.alloc (.cells #[.int .u8 0,.int .i64 0] 117)).heap.size:=by simp
 go_enter Tryz.func41,Tryz.ntmps41
 generalize hW:w.alloc (.cells #[.int .u8 0,.int .i64 0] 117)=W at *
 go_wp2_with (first
  | (go_at_call 63;(with_reducible show Calls _ _ #[_,.string ⟨#[43,32]⟩] _ _);go_loud (refine (readTake_miss _ b _ _ 1 _ _ _ _ 0 h (by show _<(strL _).size;rw [strL_size];simp) (by rw [strL_size];simp) (by show Lib.indexByte [43,32] 48+1=0;decide) rfl (by omega)).mono ?_;rintro x w1 ⟨rfl,h,g⟩;have r2:=g.row r2 (by simp;omega);have sz:=Nat.le_trans sz g.size;replace F:=F.trans g (by simp);have rT:=row_new w1 (.cells #[.int .u8 0,.int .i64 0] 117);have r2:=((Fr.refl [] w1).alloc (.cells #[.int .u8 0,.int .i64 0] 117)).row r2 (by simp);have h:=h.alloc (.cells #[.int .u8 0,.int .i64 0] 117);replace F:=F.alloc (.cells #[.int .u8 0,.int .i64 0] 117);have szT:w1.heap.size+1≤(w1.alloc (.cells #[.int .u8 0,.int .i64 0] 117)).heap.size:=(by simp)))
  | (go_at_call 63;(with_reducible show Calls _ _ #[_,.string ⟨#[48,45]⟩] _ _);go_loud (refine (readTake_hit _ b _ _ 1 _ _ _ _ 1 h (by show _<(strL _).size;rw [strL_size];simp) (by rw [strL_size];simp) (by show Lib.indexByte [48,45] 48+1=1;decide) (by decide) (by omega)).mono ?_;rintro x w2 ⟨rfl,h,g⟩;have r2:=g.row r2 (by simp;omega);have rT:=g.row rT (by simp;omega);have szT:=Nat.le_trans szT g.size;replace F:=F.trans g (by simp);have d1:w2.cell? ⟨w1.heap.size,1,none⟩=some (.int .i64 0):=(by rw [cell_of_row _ _ 1 _ _ _ rT];rfl);have dz:=frozen_of_row w2 w1.heap.size 1 _ _ rT;have gT:=(Fr.refl [w1.heap.size] w2).setCell (p:=⟨w1.heap.size,1,none⟩) (.inl (by simp)) (.int .i64 4);have rT:=heap_setCell_same w2 w1.heap.size 1 _ _ (.int .i64 4) rT;have r2:=gT.row r2 (by simp;omega);have h:=h.other w1.heap.size 1 (.int .i64 4) (by omega);replace F:=F.setCell (p:=⟨w1.heap.size,1,none⟩) (.inr (by simp;omega)) (.int .i64 4);have szT:w1.heap.size+1≤(w2.setCell ⟨w1.heap.size,1,none⟩ (.int .i64 4)).heap.size:=(by rw [World.size_setCell];exact szT)))
  | (go_at_call 64;(with_reducible show Calls _ _ #[_,.int .u8 49] _ _);go_loud (refine (readDigit_is _ b _ 49 2 _ _ _ _ true h (by show _<(strL _).size;rw [strL_size];simp) (by rw [digitAt,dif_pos (by show _<(strL _).size;rw [strL_size];simp)];show (decide (49≤(53:UInt8).toNat) && decide ((53:UInt8).toNat≤57))=true;decide)).mono ?_;rintro x w3 ⟨rfl,g⟩;have h:=h.fr g (by simp);have r2:=g.row r2 (by simp);have rT:=g.row rT (by simp);have szT:=Nat.le_trans szT g.size;replace F:=F.then g))
  | (go_at_call 65;(with_reducible show Calls _ _ #[_,.int .i64 256,_] _ _);go_loud (refine (readNum _ b _ 2 5 256 _ _ _ _ _ h (by show _<(strL _).size;rw [strL_size];simp) (by rw [strL_size];simp) (by decide) (by show (53:UInt8)=dig 5;decide) (by rw [digitAt,dif_pos (by show _<(strL _).size;rw [strL_size];simp)];show (decide (48≤(120:UInt8).toNat) && decide ((120:UInt8).toNat≤57))=false;decide) (by omega)).mono ?_;rintro x w6 ⟨rfl,h,g⟩;have r2:=g.row r2 (by simp;omega);have rT:=g.row rT (by simp;omega);have szT:=Nat.le_trans szT g.size;replace F:=F.trans g (by simp);have c3:=h.c3;have z3:=h.z 3 (by omega);have h:=h.set3 5;have gS:=(Fr.refl [b] w6).setCell (p:=⟨b,3,none⟩) (.inl (by simp)) (.int .i64 5);have r2:=gS.row r2 (by simp;omega);have rT:=gS.row rT (by simp;omega);replace F:=F.trans gS (by simp);have szS:=gS.size;have szT:=Nat.le_trans szT szS;have c4:=h.c4;have z4:=h.z 4 (by omega);have h:=h.set4 (-1);have gS:=(Fr.refl [b] (w6.setCell ⟨b,3,none⟩ (.int .i64 5))).setCell (p:=⟨b,4,none⟩) (.inl (by simp)) (.int .i64 (-1));have r2:=gS.row r2 (by simp;omega);have rT:=gS.row rT (by simp;omega);replace F:=F.trans gS (by simp);have szS:=gS.size;have szT:=Nat.le_trans szT szS))
  | (go_at_call 63;(with_reducible show Calls _ _ #[_,.string ⟨#[46]⟩] _ _);go_loud (refine (readTake_miss _ b _ _ 3 _ _ _ _ 0 h (by show _<(strL _).size;rw [strL_size];simp) (by rw [strL_size];simp) (by show Lib.indexByte [46] 120+1=0;decide) rfl (by omega)).mono ?_;rintro x w4 ⟨rfl,h,g⟩;have r2:=g.row r2 (by simp;omega);have rT:=g.row rT (by simp;omega);have szT:=Nat.le_trans szT g.size;replace F:=F.trans g (by simp);have c1:=h.c1))
  | (go_at_call 63;(with_reducible show Calls _ _ #[_,.string ⟨#[115,102,101,103,120]⟩] _ _);go_loud (refine (readTake_hit _ b _ _ 3 _ _ _ _ 5 h (by show _<(strL _).size;rw [strL_size];simp) (by rw [strL_size];simp) (by show Lib.indexByte [115,102,101,103,120] 120+1=5;decide) (by decide) (by omega)).mono ?_;rintro x w5 ⟨rfl,h,g⟩;have r2:=g.row r2 (by simp;omega);have rT:=g.row rT (by simp;omega);have szT:=Nat.le_trans szT g.size;replace F:=F.trans g (by simp);have d0:w5.cell? ⟨w1.heap.size,0,none⟩=some (.int .u8 0):=(by rw [cell_of_row _ _ 0 _ _ _ rT];rfl);have dz:=frozen_of_row w5 w1.heap.size 0 _ _ rT)))
 have gT:=(Fr.refl [w1.heap.size] w5).setCell (p:=⟨w1.heap.size,0,none⟩) (.inl (by simp)) (.int .u8 6)
 have rT:=heap_setCell_same w5 w1.heap.size 0 _ _ (.int .u8 6) rT
 have r2:=gT.row r2 (by simp;omega)
 have h:=h.other w1.heap.size 0 (.int .u8 6) (by omega)
 have F:=F.setCell (p:=⟨w1.heap.size,0,none⟩) (.inr (by simp;omega)) (.int .u8 6)
 have szT:w1.heap.size+1≤(w5.setCell ⟨w1.heap.size,0,none⟩ (.int .u8 6)).heap.size:=by rw [World.size_setCell];exact szT
 clear gT d0 dz
 generalize w5.setCell ⟨w1.heap.size,0,none⟩ (.int .u8 6)=Y at *
 have d0:Y.cell? ⟨w1.heap.size,0,none⟩=some (.int .u8 6):=by rw [cell_of_row _ _ 0 _ _ _ rT];rfl
 have c4:=h.c4
 refine region_mono_g [] 14 [[],[0],[1],[2],[3],[3,4],[3],[3,6],[3,7],[3,8],[3,9],[3,5,10],[3,11],[3,12]] [none,none,none,none,none,none,none,none,none,none,none,none,none,none] (by kernel_rfl) (by kernel_rfl) ?_
 simp only [Chain,fill,Act.put,List.nil_append,List.cons_append,List.take_succ_cons,List.take_zero,List.drop_succ_cons,List.drop_zero,List.setIfInBounds_toArray,List.set_cons_zero,List.set_cons_succ,Nat.reduceAdd]
 iterate 11 (apply Exists.intro;apply And.intro;·intro vs w2 hf hh K hK;have d0:=hf.stayd d0;have c4:=hf.stayd c4;simp only [Held,List.getD_cons_zero,List.getD_cons_succ,Just,and_true] at hh;(try simp only [hh] at hK ⊢);go_simp;exact hK _ _ ⟨rfl,Fr.refl _ _⟩)
 apply Exists.intro;apply And.intro
 ·intro vs w2 hf hh K hK;have d0:=hf.stayd d0;have c4:=hf.stayd c4;simp only [Held,List.getD_cons_zero,List.getD_cons_succ,Just,and_true] at hh;(try simp only [hh] at hK ⊢);go_simp;refine (placed_6 _ (-1)).mono ?_;rintro e w6 ⟨rfl,hx⟩;exact hK _ _ ⟨rfl,by rw [hx];exact Fr.refl _ _⟩
 iterate 2 (apply Exists.intro;apply And.intro;·intro vs w2 hf hh K hK;simp only [Held,List.getD_cons_zero,List.getD_cons_succ,Just,and_true] at hh;(try simp only [hh] at hK ⊢);go_simp;exact hK _ _ ⟨rfl,Fr.refl _ _⟩)
 intro vs w2 hf hh
 simp only [HeldAll,Just,and_true,Nat.reduceAdd] at hh
 obtain⟨e0,e1,e2,e3,e4,e5,e6,e7,e8,e9,e10,e11,e12,e13⟩:=hh
 simp only [e0,e1,e2,e3,e4,e5,e6,e7,e8,e9,e10,e11,e12,e13]
 clear e0 e1 e2 e3 e4 e5 e6 e7 e8 e9 e10 e11 e12 e13
 clear vs
 have d0:=hf.stayd d0
 have c4:=hf.stayd c4
 have h:=h.drew.fr hf (by simp)
 have rT:=hf.row (w:=Y.drew) rT (by simp)
 have r2:=hf.row (w:=Y.drew) r2 (by simp)
 have szT:w1.heap.size+1≤w2.heap.size:=Nat.le_trans szT hf.size
 have F:=F.drew.then hf
 have c4:=h.c4
 clear hf d0
 go_wp2_with (first
  | (go_at_call 63;(with_reducible show Calls _ _ #[_,.string ⟨#[125]⟩] _ _);go_loud (refine (readTake_hit _ b _ _ 4 _ _ _ _ 1 h (by show _<(strL _).size;rw [strL_size];simp) (by rw [strL_size];simp) (by show Lib.indexByte [125] 125+1=1;decide) (by decide) (by omega)).mono ?_;rintro x w8 ⟨rfl,h,g⟩;have r2:=g.row r2 (by simp;omega);have rT:=g.row rT (by simp;omega);replace F:=F.trans g (by simp)))
  | ((with_reducible show wpList _ _ _ (⟨some 105,.load 117 (.tmp 3),_,_,_,_⟩ :: _) _ _);go_loud (refine wpList_load_row rfl 117 (.tmp 3) rfl w1.heap.size rfl _ _ _ _ rT Tryz.underlying117 rfl (by kernel_rfl) ?_))
  | ((with_reducible show wpList _ _ _ (⟨none,.store 117 (.tmp 2) (.tmp 105),_,_,_,_⟩ :: _) _ _);go_loud (refine wpList_store_whole rfl 117 (.tmp 2) (.tmp 105) rfl w.heap.size #[.int .u8 6,.int .i64 4] rfl rfl _ _ r2 (by kernel_rfl) rfl (by simp [Value.oneCell']) ?_;intro w9 hn9 g9)))
 (try simp only [Exit.inBlock,Exit.then])
 refine bodyPost_ret (v:=_) (results_cell_row rfl _ _ w.heap.size _ _ _ _ rfl hn9 Tryz.underlying117 rfl (by kernel_rfl)) rfl ?_
 exact⟨rfl,h.fr g9 (by simp;omega),F.trans g9 (by simp)⟩
end Go.Proofs.YtcmndpjemdjalaaGreatDoor
namespace Go.Proofs.YtcmndpjemdjalaaGreatDoor
open Go.RowKit
theorem field_8s (w:World) (b:Nat) (ops:Value) (h:RdAt w b (strL [123,43,48,56,115,125]) ((1:Nat):Int) ops 0 0 0) :
  Calls Tryz.prog 41 #[.pointer (some ⟨b,0,none⟩)] w fun x w'=>x=.returned (.agg #[.int .u8 2,.int .i64 5])∧RdAt w' b (strL [123,43,48,56,115,125]) ((6:Nat):Int) ops 8 (-1) 0∧Fr [b] w w':=by
 have hb:=h.lt
 have r2:=row_new w (.cells #[.int .u8 0,.int .i64 0] 117)
 have F:=(Fr.refl [b] w).alloc (.cells #[.int .u8 0,.int .i64 0] 117)
 have h:=h.alloc (.cells #[.int .u8 0,.int .i64 0] 117)
 have sz:w.heap.size+1≤(w.alloc (.cells #[.int .u8 0,.int .i64 0] 117)).heap.size:=by simp
 go_enter Tryz.func41,Tryz.ntmps41
 generalize hW:w.alloc (.cells #[.int .u8 0,.int .i64 0] 117)=W at *
 go_wp2_with (first
  | (go_at_call 63;(with_reducible show Calls _ _ #[_,.string ⟨#[43,32]⟩] _ _);go_loud (refine (readTake_hit _ b _ _ 1 _ _ _ _ 1 h (by show _<(strL _).size;rw [strL_size];simp) (by rw [strL_size];simp) (by show Lib.indexByte [43,32] 43+1=1;decide) (by decide) (by omega)).mono ?_;rintro x w1 ⟨rfl,h,g⟩;have r2:=g.row r2 (by simp;omega);have sz:=Nat.le_trans sz g.size;replace F:=F.trans g (by simp);have rT:=row_new w1 (.cells #[.int .u8 0,.int .i64 1] 117);have r2:=((Fr.refl [] w1).alloc (.cells #[.int .u8 0,.int .i64 1] 117)).row r2 (by simp);have h:=h.alloc (.cells #[.int .u8 0,.int .i64 1] 117);replace F:=F.alloc (.cells #[.int .u8 0,.int .i64 1] 117);have szT:w1.heap.size+1≤(w1.alloc (.cells #[.int .u8 0,.int .i64 1] 117)).heap.size:=(by simp)))
  | (go_at_call 63;(with_reducible show Calls _ _ #[_,.string ⟨#[48,45]⟩] _ _);go_loud (refine (readTake_hit _ b _ _ 2 _ _ _ _ 1 h (by show _<(strL _).size;rw [strL_size];simp) (by rw [strL_size];simp) (by show Lib.indexByte [48,45] 48+1=1;decide) (by decide) (by omega)).mono ?_;rintro x w2 ⟨rfl,h,g⟩;have r2:=g.row r2 (by simp;omega);have rT:=g.row rT (by simp;omega);have szT:=Nat.le_trans szT g.size;replace F:=F.trans g (by simp);have d1:w2.cell? ⟨w1.heap.size,1,none⟩=some (.int .i64 1):=(by rw [cell_of_row _ _ 1 _ _ _ rT];rfl);have dz:=frozen_of_row w2 w1.heap.size 1 _ _ rT;have gT:=(Fr.refl [w1.heap.size] w2).setCell (p:=⟨w1.heap.size,1,none⟩) (.inl (by simp)) (.int .i64 5);have rT:=heap_setCell_same w2 w1.heap.size 1 _ _ (.int .i64 5) rT;have r2:=gT.row r2 (by simp;omega);have h:=h.other w1.heap.size 1 (.int .i64 5) (by omega);replace F:=F.setCell (p:=⟨w1.heap.size,1,none⟩) (.inr (by simp;omega)) (.int .i64 5);have szT:w1.heap.size+1≤(w2.setCell ⟨w1.heap.size,1,none⟩ (.int .i64 5)).heap.size:=(by rw [World.size_setCell];exact szT)))
  | (go_at_call 64;(with_reducible show Calls _ _ #[_,.int .u8 49] _ _);go_loud (refine (readDigit_is _ b _ 49 3 _ _ _ _ true h (by show _<(strL _).size;rw [strL_size];simp) (by rw [digitAt,dif_pos (by show _<(strL _).size;rw [strL_size];simp)];show (decide (49≤(56:UInt8).toNat) && decide ((56:UInt8).toNat≤57))=true;decide)).mono ?_;rintro x w3 ⟨rfl,g⟩;have h:=h.fr g (by simp);have r2:=g.row r2 (by simp);have rT:=g.row rT (by simp);have szT:=Nat.le_trans szT g.size;replace F:=F.then g))
  | (go_at_call 65;(with_reducible show Calls _ _ #[_,.int .i64 256,_] _ _);go_loud (refine (readNum _ b _ 3 8 256 _ _ _ _ _ h (by show _<(strL _).size;rw [strL_size];simp) (by rw [strL_size];simp) (by decide) (by show (56:UInt8)=dig 8;decide) (by rw [digitAt,dif_pos (by show _<(strL _).size;rw [strL_size];simp)];show (decide (48≤(115:UInt8).toNat) && decide ((115:UInt8).toNat≤57))=false;decide) (by omega)).mono ?_;rintro x w6 ⟨rfl,h,g⟩;have r2:=g.row r2 (by simp;omega);have rT:=g.row rT (by simp;omega);have szT:=Nat.le_trans szT g.size;replace F:=F.trans g (by simp);have c3:=h.c3;have z3:=h.z 3 (by omega);have h:=h.set3 8;have gS:=(Fr.refl [b] w6).setCell (p:=⟨b,3,none⟩) (.inl (by simp)) (.int .i64 8);have r2:=gS.row r2 (by simp;omega);have rT:=gS.row rT (by simp;omega);replace F:=F.trans gS (by simp);have szS:=gS.size;have szT:=Nat.le_trans szT szS;have c4:=h.c4;have z4:=h.z 4 (by omega);have h:=h.set4 (-1);have gS:=(Fr.refl [b] (w6.setCell ⟨b,3,none⟩ (.int .i64 8))).setCell (p:=⟨b,4,none⟩) (.inl (by simp)) (.int .i64 (-1));have r2:=gS.row r2 (by simp;omega);have rT:=gS.row rT (by simp;omega);replace F:=F.trans gS (by simp);have szS:=gS.size;have szT:=Nat.le_trans szT szS))
  | (go_at_call 63;(with_reducible show Calls _ _ #[_,.string ⟨#[46]⟩] _ _);go_loud (refine (readTake_miss _ b _ _ 4 _ _ _ _ 0 h (by show _<(strL _).size;rw [strL_size];simp) (by rw [strL_size];simp) (by show Lib.indexByte [46] 115+1=0;decide) rfl (by omega)).mono ?_;rintro x w4 ⟨rfl,h,g⟩;have r2:=g.row r2 (by simp;omega);have rT:=g.row rT (by simp;omega);have szT:=Nat.le_trans szT g.size;replace F:=F.trans g (by simp);have c1:=h.c1))
  | (go_at_call 63;(with_reducible show Calls _ _ #[_,.string ⟨#[115,102,101,103,120]⟩] _ _);go_loud (refine (readTake_hit _ b _ _ 4 _ _ _ _ 1 h (by show _<(strL _).size;rw [strL_size];simp) (by rw [strL_size];simp) (by show Lib.indexByte [115,102,101,103,120] 115+1=1;decide) (by decide) (by omega)).mono ?_;rintro x w5 ⟨rfl,h,g⟩;have r2:=g.row r2 (by simp;omega);have rT:=g.row rT (by simp;omega);have szT:=Nat.le_trans szT g.size;replace F:=F.trans g (by simp);have d0:w5.cell? ⟨w1.heap.size,0,none⟩=some (.int .u8 0):=(by rw [cell_of_row _ _ 0 _ _ _ rT];rfl);have dz:=frozen_of_row w5 w1.heap.size 0 _ _ rT)))
 have gT:=(Fr.refl [w1.heap.size] w5).setCell (p:=⟨w1.heap.size,0,none⟩) (.inl (by simp)) (.int .u8 2)
 have rT:=heap_setCell_same w5 w1.heap.size 0 _ _ (.int .u8 2) rT
 have r2:=gT.row r2 (by simp;omega)
 have h:=h.other w1.heap.size 0 (.int .u8 2) (by omega)
 have F:=F.setCell (p:=⟨w1.heap.size,0,none⟩) (.inr (by simp;omega)) (.int .u8 2)
 have szT:w1.heap.size+1≤(w5.setCell ⟨w1.heap.size,0,none⟩ (.int .u8 2)).heap.size:=by rw [World.size_setCell];exact szT
 clear gT d0 dz
 generalize w5.setCell ⟨w1.heap.size,0,none⟩ (.int .u8 2)=Y at *
 have d0:Y.cell? ⟨w1.heap.size,0,none⟩=some (.int .u8 2):=by rw [cell_of_row _ _ 0 _ _ _ rT];rfl
 have c4:=h.c4
 refine region_mono_g [] 14 [[],[0],[1],[2],[3],[3,4],[3],[3,6],[3,7],[3,8],[3,9],[3,5,10],[3,11],[3,12]] [none,none,none,none,none,none,none,none,none,none,none,none,none,none] (by kernel_rfl) (by kernel_rfl) ?_
 simp only [Chain,fill,Act.put,List.nil_append,List.cons_append,List.take_succ_cons,List.take_zero,List.drop_succ_cons,List.drop_zero,List.setIfInBounds_toArray,List.set_cons_zero,List.set_cons_succ,Nat.reduceAdd]
 iterate 11 (apply Exists.intro;apply And.intro;·intro vs w2 hf hh K hK;have d0:=hf.stayd d0;have c4:=hf.stayd c4;simp only [Held,List.getD_cons_zero,List.getD_cons_succ,Just,and_true] at hh;(try simp only [hh] at hK ⊢);go_simp;exact hK _ _ ⟨rfl,Fr.refl _ _⟩)
 apply Exists.intro;apply And.intro
 ·intro vs w2 hf hh K hK;have d0:=hf.stayd d0;have c4:=hf.stayd c4;simp only [Held,List.getD_cons_zero,List.getD_cons_succ,Just,and_true] at hh;(try simp only [hh] at hK ⊢);go_simp;refine (placed_2 _ (-1)).mono ?_;rintro e w6 ⟨rfl,hx⟩;exact hK _ _ ⟨rfl,by rw [hx];exact Fr.refl _ _⟩
 iterate 2 (apply Exists.intro;apply And.intro;·intro vs w2 hf hh K hK;simp only [Held,List.getD_cons_zero,List.getD_cons_succ,Just,and_true] at hh;(try simp only [hh] at hK ⊢);go_simp;exact hK _ _ ⟨rfl,Fr.refl _ _⟩)
 intro vs w2 hf hh
 simp only [HeldAll,Just,and_true,Nat.reduceAdd] at hh
 obtain⟨e0,e1,e2,e3,e4,e5,e6,e7,e8,e9,e10,e11,e12,e13⟩:=hh
 simp only [e0,e1,e2,e3,e4,e5,e6,e7,e8,e9,e10,e11,e12,e13]
 clear e0 e1 e2 e3 e4 e5 e6 e7 e8 e9 e10 e11 e12 e13
 clear vs
 have d0:=hf.stayd d0
 have c4:=hf.stayd c4
 have h:=h.drew.fr hf (by simp)
 have rT:=hf.row (w:=Y.drew) rT (by simp)
 have r2:=hf.row (w:=Y.drew) r2 (by simp)
 have szT:w1.heap.size+1≤w2.heap.size:=Nat.le_trans szT hf.size
 have F:=F.drew.then hf
 have c4:=h.c4
 clear hf d0
 go_wp2_with (first
  | (go_at_call 63;(with_reducible show Calls _ _ #[_,.string ⟨#[125]⟩] _ _);go_loud (refine (readTake_hit _ b _ _ 5 _ _ _ _ 1 h (by show _<(strL _).size;rw [strL_size];simp) (by rw [strL_size];simp) (by show Lib.indexByte [125] 125+1=1;decide) (by decide) (by omega)).mono ?_;rintro x w8 ⟨rfl,h,g⟩;have r2:=g.row r2 (by simp;omega);have rT:=g.row rT (by simp;omega);replace F:=F.trans g (by simp)))
  | ((with_reducible show wpList _ _ _ (⟨some 105,.load 117 (.tmp 3),_,_,_,_⟩ :: _) _ _);go_loud (refine wpList_load_row rfl 117 (.tmp 3) rfl w1.heap.size rfl _ _ _ _ rT Tryz.underlying117 rfl (by kernel_rfl) ?_))
  | ((with_reducible show wpList _ _ _ (⟨none,.store 117 (.tmp 2) (.tmp 105),_,_,_,_⟩ :: _) _ _);go_loud (refine wpList_store_whole rfl 117 (.tmp 2) (.tmp 105) rfl w.heap.size #[.int .u8 2,.int .i64 5] rfl rfl _ _ r2 (by kernel_rfl) rfl (by simp [Value.oneCell']) ?_;intro w9 hn9 g9)))
 (try simp only [Exit.inBlock,Exit.then])
 refine bodyPost_ret (v:=_) (results_cell_row rfl _ _ w.heap.size _ _ _ _ rfl hn9 Tryz.underlying117 rfl (by kernel_rfl)) rfl ?_
 exact⟨rfl,h.fr g9 (by simp;omega),F.trans g9 (by simp)⟩
end Go.Proofs.YtcmndpjemdjalaaGreatDoor
