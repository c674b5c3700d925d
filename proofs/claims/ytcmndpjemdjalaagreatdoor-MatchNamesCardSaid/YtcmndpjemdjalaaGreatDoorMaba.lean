/- Laws that the claimed theorem leans on: no condition of their own beyond their hypotheses. -/
import Derived.Test.YtcmndpjemdjalaaGreatDoorMaao
import Derived.Test.YtcmndpjemdjalaaGreatDoorMaav
import Derived.Test.YtcmndpjemdjalaaGreatDoorMaaw
import Derived.Test.YtcmndpjemdjalaaGreatDoorMaay
import Derived.Test.YtcmndpjemdjalaaGreatDoorMaaz
set_option maxRecDepth 100000
set_option maxHeartbeats 16000000
namespace Go.Proofs.YtcmndpjemdjalaaGreatDoor
open Go.RowKit
theorem field_fp (w:World) (b p:Nat) (ops:Value) (hp:p<10) (h:RdAt w b (strL [123,46,dig p,102,125]) ((1:Nat):Int) ops 0 0 0) :
  Calls Tryz.prog 41 #[.pointer (some ⟨b,0,none⟩)] w fun x w'=>x=.returned (.agg #[.int .u8 3,.int .i64 0])∧RdAt w' b (strL [123,46,dig p,102,125]) ((5:Nat):Int) ops 0 (p:Nat) 0∧Fr [b] w w':=by
 have hb:=h.lt
 have hp1:(0:Int)≤(p:Int):=by omega
 have hp2:¬ (p:Int)<0:=by omega
 have r2:=row_new w (.cells #[.int .u8 0,.int .i64 0] 117)
 have F:=(Fr.refl [b] w).alloc (.cells #[.int .u8 0,.int .i64 0] 117)
 have h:=h.alloc (.cells #[.int .u8 0,.int .i64 0] 117)
 have sz:w.heap.size+1≤(w.alloc (.cells #[.int .u8 0,.int .i64 0] 117)).heap.size:=by simp
 go_enter Tryz.func41,Tryz.ntmps41
 generalize hW:w.alloc (.cells #[.int .u8 0,.int .i64 0] 117)=W at *
 go_wp2_with (first
  | (go_at_call 63;(with_reducible show Calls _ _ #[_,.string ⟨#[43,32]⟩] _ _);go_loud (refine (readTake_miss _ b _ _ 1 _ _ _ _ 0 h (by show _<(strL _).size;rw [strL_size];simp) (by rw [strL_size];simp) (by show Lib.indexByte [43,32] 46+1=0;decide) rfl (by omega)).mono ?_;rintro x w1 ⟨rfl,h,g⟩;have r2:=g.row r2 (by simp;omega);have sz:=Nat.le_trans sz g.size;replace F:=F.trans g (by simp);have rT:=row_new w1 (.cells #[.int .u8 0,.int .i64 0] 117);have r2:=((Fr.refl [] w1).alloc (.cells #[.int .u8 0,.int .i64 0] 117)).row r2 (by simp);have h:=h.alloc (.cells #[.int .u8 0,.int .i64 0] 117);replace F:=F.alloc (.cells #[.int .u8 0,.int .i64 0] 117);have szT:w1.heap.size+1≤(w1.alloc (.cells #[.int .u8 0,.int .i64 0] 117)).heap.size:=(by simp)))
  | (go_at_call 63;(with_reducible show Calls _ _ #[_,.string ⟨#[48,45]⟩] _ _);go_loud (refine (readTake_miss _ b _ _ 1 _ _ _ _ 0 h (by show _<(strL _).size;rw [strL_size];simp) (by rw [strL_size];simp) (by show Lib.indexByte [48,45] 46+1=0;decide) rfl (by omega)).mono ?_;rintro x w2 ⟨rfl,h,g⟩;have r2:=g.row r2 (by simp;omega);have rT:=g.row rT (by simp;omega);have szT:=Nat.le_trans szT g.size;replace F:=F.trans g (by simp)))
  | (go_at_call 64;(with_reducible show Calls _ _ #[_,.int .u8 49] _ _);go_loud (refine (readDigit_is _ b _ 49 1 _ _ _ _ false h (by show _<(strL _).size;rw [strL_size];simp) (by rw [digitAt,dif_pos (by show _<(strL _).size;rw [strL_size];simp)];show (decide (49≤(46:UInt8).toNat) && decide ((46:UInt8).toNat≤57))=false;decide)).mono ?_;rintro x w3 ⟨rfl,g⟩;have h:=h.fr g (by simp);have r2:=g.row r2 (by simp);have rT:=g.row rT (by simp);have szT:=Nat.le_trans szT g.size;replace F:=F.then g;have c4:=h.c4;have z4:=h.z 4 (by omega);have h:=h.set4 (-1);have gS:=(Fr.refl [b] w3).setCell (p:=⟨b,4,none⟩) (.inl (by simp)) (.int .i64 (-1));have r2:=gS.row r2 (by simp;omega);have rT:=gS.row rT (by simp;omega);replace F:=F.trans gS (by simp);have szS:=gS.size;have szT:=Nat.le_trans szT szS))
  | (go_at_call 63;(with_reducible show Calls _ _ #[_,.string ⟨#[46]⟩] _ _);go_loud (refine (readTake_hit _ b _ _ 1 _ _ _ _ 1 h (by show _<(strL _).size;rw [strL_size];simp) (by rw [strL_size];simp) (by show Lib.indexByte [46] 46+1=1;decide) (by decide) (by omega)).mono ?_;rintro x w4 ⟨rfl,h,g⟩;have r2:=g.row r2 (by simp;omega);have rT:=g.row rT (by simp;omega);have szT:=Nat.le_trans szT g.size;replace F:=F.trans g (by simp)))
  | (go_at_call 64;(with_reducible show Calls _ _ #[_,.int .u8 48] _ _);go_loud (refine (readDigit_is _ b _ 48 2 _ _ _ _ true h (by show _<(strL _).size;rw [strL_size];simp) (by rw [digitAt,dif_pos (by show _<(strL _).size;rw [strL_size];simp)];show (decide (48≤(dig p).toNat) && decide ((dig p).toNat≤57))=true;rw [dig_toNat hp];simp;omega)).mono ?_;rintro x w5 ⟨rfl,g⟩;have h:=h.fr g (by simp);have r2:=g.row r2 (by simp);have rT:=g.row rT (by simp);have szT:=Nat.le_trans szT g.size;replace F:=F.then g))
  | (go_at_call 65;go_loud (refine (readNum _ b _ 2 p 2000 _ _ _ _ _ h (by show _<(strL _).size;rw [strL_size];simp) (by rw [strL_size];simp) hp rfl (by rw [digitAt,dif_pos (by show _<(strL _).size;rw [strL_size];simp)];show (decide (48≤(102:UInt8).toNat) && decide ((102:UInt8).toNat≤57))=false;decide) (by omega)).mono ?_;rintro x w6 ⟨rfl,h,g⟩;have r2:=g.row r2 (by simp;omega);have rT:=g.row rT (by simp;omega);have szT:=Nat.le_trans szT g.size;replace F:=F.trans g (by simp);have c4:=h.c4;have z4:=h.z 4 (by omega);have c1:=h.c1;have h:=h.set4 p;have gS:=(Fr.refl [b] w6).setCell (p:=⟨b,4,none⟩) (.inl (by simp)) (.int .i64 p);have r2:=gS.row r2 (by simp;omega);have rT:=gS.row rT (by simp;omega);replace F:=F.trans gS (by simp);have szS:=gS.size;have szT:=Nat.le_trans szT szS))
  | (go_at_call 63;(with_reducible show Calls _ _ #[_,.string ⟨#[115,102,101,103,120]⟩] _ _);go_loud (refine (readTake_hit _ b _ _ 3 _ _ _ _ 2 h (by show _<(strL _).size;rw [strL_size];simp) (by rw [strL_size];simp) (by show Lib.indexByte [115,102,101,103,120] 102+1=2;decide) (by decide) (by omega)).mono ?_;rintro x w5 ⟨rfl,h,g⟩;have r2:=g.row r2 (by simp;omega);have rT:=g.row rT (by simp;omega);have szT:=Nat.le_trans szT g.size;replace F:=F.trans g (by simp);have d0:w5.cell? ⟨w1.heap.size,0,none⟩=some (.int .u8 0):=(by rw [cell_of_row _ _ 0 _ _ _ rT];rfl);have dz:=frozen_of_row w5 w1.heap.size 0 _ _ rT)))
 have gT:=(Fr.refl [w1.heap.size] w5).setCell (p:=⟨w1.heap.size,0,none⟩) (.inl (by simp)) (.int .u8 3)
 have rT:=heap_setCell_same w5 w1.heap.size 0 _ _ (.int .u8 3) rT
 have r2:=gT.row r2 (by simp;omega)
 have h:=h.other w1.heap.size 0 (.int .u8 3) (by omega)
 have F:=F.setCell (p:=⟨w1.heap.size,0,none⟩) (.inr (by simp;omega)) (.int .u8 3)
 have szT:w1.heap.size+1≤(w5.setCell ⟨w1.heap.size,0,none⟩ (.int .u8 3)).heap.size:=by rw [World.size_setCell];exact szT
 clear gT d0 dz
 generalize w5.setCell ⟨w1.heap.size,0,none⟩ (.int .u8 3)=Y at *
 have d0:Y.cell? ⟨w1.heap.size,0,none⟩=some (.int .u8 3):=by rw [cell_of_row _ _ 0 _ _ _ rT];rfl
 have c4:=h.c4
 refine region_mono_g [] 14 [[],[0],[1],[2],[3],[3,4],[3],[3,6],[3,7],[3,8],[3,9],[3,5,10],[3,11],[3,12]] [none,none,none,none,none,none,none,none,none,none,none,none,none,none] (by kernel_rfl) (by kernel_rfl) ?_
 simp only [Chain,fill,Act.put,List.nil_append,List.cons_append,List.take_succ_cons,List.take_zero,List.drop_succ_cons,List.drop_zero,List.setIfInBounds_toArray,List.set_cons_zero,List.set_cons_succ,Nat.reduceAdd]
 iterate 11 (apply Exists.intro;apply And.intro;·intro vs w2 hf hh K hK;have d0:=hf.stayd d0;have c4:=hf.stayd c4;simp only [Held,List.getD_cons_zero,List.getD_cons_succ,Just,and_true] at hh;(try simp only [hh] at hK ⊢);go_simp;exact hK _ _ ⟨rfl,Fr.refl _ _⟩)
 apply Exists.intro;apply And.intro
 ·intro vs w2 hf hh K hK;have d0:=hf.stayd d0;have c4:=hf.stayd c4;simp only [Held,List.getD_cons_zero,List.getD_cons_succ,Just,and_true] at hh;(try simp only [hh] at hK ⊢);go_simp;refine (placed_3 _ (p:Nat)).mono ?_;rintro e w6 ⟨rfl,hx⟩;exact hK _ _ ⟨rfl,by rw [hx];exact Fr.refl _ _⟩
 iterate 2 (apply Exists.intro;apply And.intro;·intro vs w2 hf hh K hK;simp only [Held,List.getD_cons_zero,List.getD_cons_succ,Just,and_true] at hh;(try simp only [hh] at hK ⊢);go_simp;exact hK _ _ ⟨rfl,Fr.refl _ _⟩)
 intro vs w2 hf hh
 simp only [HeldAll,Just,and_true,Nat.reduceAdd] at hh
 obtain⟨e0,e1,e2,e3,e4,e5,e6,e7,e8,e9,e10,e11,e12,e13⟩:=hh
 simp only [e0,e1,e2,e3,e4,e5,e6,e7,e8,e9,e10,e11,e12,e13]
 clear e0 e1 e2 e3 e4 e5 e6 e7 e8 e9 e10 e11 e12 e13
 clear vs
 have d0:=hf.stayd d0
 have c4:=hf.stayd c4
 have h:=h.drew.fr hf (by simp)
 have rT:=hf.row (w:=Y.drew) rT (by simp)
 have r2:=hf.row (w:=Y.drew) r2 (by simp)
 have szT:w1.heap.size+1≤w2.heap.size:=Nat.le_trans szT hf.size
 have F:=F.drew.then hf
 have c4:=h.c4
 clear hf d0
 go_wp2_with (first
  | (go_at_call 63;(with_reducible show Calls _ _ #[_,.string ⟨#[125]⟩] _ _);go_loud (refine (readTake_hit _ b _ _ 4 _ _ _ _ 1 h (by show _<(strL _).size;rw [strL_size];simp) (by rw [strL_size];simp) (by show Lib.indexByte [125] 125+1=1;decide) (by decide) (by omega)).mono ?_;rintro x w8 ⟨rfl,h,g⟩;have r2:=g.row r2 (by simp;omega);have rT:=g.row rT (by simp;omega);replace F:=F.trans g (by simp)))
  | (go_at_call 63;(with_reducible show Calls _ _ #[_,.string ⟨#[58]⟩] _ _);go_loud (refine (readTake_miss _ b _ _ 4 _ _ _ _ 0 h (by show _<(strL _).size;rw [strL_size];simp) (by rw [strL_size];simp) (by show Lib.indexByte [58] 125+1=0;decide) rfl (by omega)).mono ?_;rintro x w8 ⟨rfl,h,g⟩;have r2:=g.row r2 (by simp;omega);have rT:=g.row rT (by simp;omega);replace F:=F.trans g (by simp)))
  | ((with_reducible show wpList _ _ _ (⟨some 105,.load 117 (.tmp 3),_,_,_,_⟩ :: _) _ _);go_loud (refine wpList_load_row rfl 117 (.tmp 3) rfl w1.heap.size rfl _ _ _ _ rT Tryz.underlying117 rfl (by kernel_rfl) ?_))
  | ((with_reducible show wpList _ _ _ (⟨none,.store 117 (.tmp 2) (.tmp 105),_,_,_,_⟩ :: _) _ _);go_loud (refine wpList_store_whole rfl 117 (.tmp 2) (.tmp 105) rfl w.heap.size #[.int .u8 3,.int .i64 0] rfl rfl _ _ r2 (by kernel_rfl) rfl (by simp [Value.oneCell']) ?_;intro w9 hn9 g9)))
 (try simp only [Exit.inBlock,Exit.then])
 refine bodyPost_ret (v:=_) (results_cell_row rfl _ _ w.heap.size _ _ _ _ rfl hn9 Tryz.underlying117 rfl (by kernel_rfl)) rfl ?_
 exact⟨rfl,h.fr g9 (by simp;omega),F.trans g9 (by simp)⟩
theorem field_ep (w:World) (b p:Nat) (ops:Value) (hp:p<10) (h:RdAt w b (strL [123,46,dig p,101,125]) ((1:Nat):Int) ops 0 0 0) :
  Calls Tryz.prog 41 #[.pointer (some ⟨b,0,none⟩)] w fun x w'=>x=.returned (.agg #[.int .u8 4,.int .i64 0])∧RdAt w' b (strL [123,46,dig p,101,125]) ((5:Nat):Int) ops 0 (p:Nat) 0∧Fr [b] w w':=by
 have hb:=h.lt
 have hp1:(0:Int)≤(p:Int):=by omega
 have hp2:¬ (p:Int)<0:=by omega
 have r2:=row_new w (.cells #[.int .u8 0,.int .i64 0] 117)
 have F:=(Fr.refl [b] w).alloc (.cells #[.int .u8 0,.int .i64 0] 117)
 have h:=h.alloc (.cells #[.int .u8 0,.int .i64 0] 117)
 have sz:w.heap.size+1≤(w.alloc (.cells #[.int .u8 0,.int .i64 0] 117)).heap.size:=by simp
 go_enter Tryz.func41,Tryz.ntmps41
 generalize hW:w.alloc (.cells #[.int .u8 0,.int .i64 0] 117)=W at *
 go_wp2_with (first
  | (go_at_call 63;(with_reducible show Calls _ _ #[_,.string ⟨#[43,32]⟩] _ _);go_loud (refine (readTake_miss _ b _ _ 1 _ _ _ _ 0 h (by show _<(strL _).size;rw [strL_size];simp) (by rw [strL_size];simp) (by show Lib.indexByte [43,32] 46+1=0;decide) rfl (by omega)).mono ?_;rintro x w1 ⟨rfl,h,g⟩;have r2:=g.row r2 (by simp;omega);have sz:=Nat.le_trans sz g.size;replace F:=F.trans g (by simp);have rT:=row_new w1 (.cells #[.int .u8 0,.int .i64 0] 117);have r2:=((Fr.refl [] w1).alloc (.cells #[.int .u8 0,.int .i64 0] 117)).row r2 (by simp);have h:=h.alloc (.cells #[.int .u8 0,.int .i64 0] 117);replace F:=F.alloc (.cells #[.int .u8 0,.int .i64 0] 117);have szT:w1.heap.size+1≤(w1.alloc (.cells #[.int .u8 0,.int .i64 0] 117)).heap.size:=(by simp)))
  | (go_at_call 63;(with_reducible show Calls _ _ #[_,.string ⟨#[48,45]⟩] _ _);go_loud (refine (readTake_miss _ b _ _ 1 _ _ _ _ 0 h (by show _<(strL _).size;rw [strL_size];simp) (by rw [strL_size];simp) (by show Lib.indexByte [48,45] 46+1=0;decide) rfl (by omega)).mono ?_;rintro x w2 ⟨rfl,h,g⟩;have r2:=g.row r2 (by simp;omega);have rT:=g.row rT (by simp;omega);have szT:=Nat.le_trans szT g.size;replace F:=F.trans g (by simp)))
  | (go_at_call 64;(with_reducible show Calls _ _ #[_,.int .u8 49] _ _);go_loud (refine (readDigit_is _ b _ 49 1 _ _ _ _ false h (by show _<(strL _).size;rw [strL_size];simp) (by rw [digitAt,dif_pos (by show _<(strL _).size;rw [strL_size];simp)];show (decide (49≤(46:UInt8).toNat) && decide ((46:UInt8).toNat≤57))=false;decide)).mono ?_;rintro x w3 ⟨rfl,g⟩;have h:=h.fr g (by simp);have r2:=g.row r2 (by simp);have rT:=g.row rT (by simp);have szT:=Nat.le_trans szT g.size;replace F:=F.then g;have c4:=h.c4;have z4:=h.z 4 (by omega);have h:=h.set4 (-1);have gS:=(Fr.refl [b] w3).setCell (p:=⟨b,4,none⟩) (.inl (by simp)) (.int .i64 (-1));have r2:=gS.row r2 (by simp;omega);have rT:=gS.row rT (by simp;omega);replace F:=F.trans gS (by simp);have szS:=gS.size;have szT:=Nat.le_trans szT szS))
  | (go_at_call 63;(with_reducible show Calls _ _ #[_,.string ⟨#[46]⟩] _ _);go_loud (refine (readTake_hit _ b _ _ 1 _ _ _ _ 1 h (by show _<(strL _).size;rw [strL_size];simp) (by rw [strL_size];simp) (by show Lib.indexByte [46] 46+1=1;decide) (by decide) (by omega)).mono ?_;rintro x w4 ⟨rfl,h,g⟩;have r2:=g.row r2 (by simp;omega);have rT:=g.row rT (by simp;omega);have szT:=Nat.le_trans szT g.size;replace F:=F.trans g (by simp)))
  | (go_at_call 64;(with_reducible show Calls _ _ #[_,.int .u8 48] _ _);go_loud (refine (readDigit_is _ b _ 48 2 _ _ _ _ true h (by show _<(strL _).size;rw [strL_size];simp) (by rw [digitAt,dif_pos (by show _<(strL _).size;rw [strL_size];simp)];show (decide (48≤(dig p).toNat) && decide ((dig p).toNat≤57))=true;rw [dig_toNat hp];simp;omega)).mono ?_;rintro x w5 ⟨rfl,g⟩;have h:=h.fr g (by simp);have r2:=g.row r2 (by simp);have rT:=g.row rT (by simp);have szT:=Nat.le_trans szT g.size;replace F:=F.then g))
  | (go_at_call 65;go_loud (refine (readNum _ b _ 2 p 2000 _ _ _ _ _ h (by show _<(strL _).size;rw [strL_size];simp) (by rw [strL_size];simp) hp rfl (by rw [digitAt,dif_pos (by show _<(strL _).size;rw [strL_size];simp)];show (decide (48≤(101:UInt8).toNat) && decide ((101:UInt8).toNat≤57))=false;decide) (by omega)).mono ?_;rintro x w6 ⟨rfl,h,g⟩;have r2:=g.row r2 (by simp;omega);have rT:=g.row rT (by simp;omega);have szT:=Nat.le_trans szT g.size;replace F:=F.trans g (by simp);have c4:=h.c4;have z4:=h.z 4 (by omega);have c1:=h.c1;have h:=h.set4 p;have gS:=(Fr.refl [b] w6).setCell (p:=⟨b,4,none⟩) (.inl (by simp)) (.int .i64 p);have r2:=gS.row r2 (by simp;omega);have rT:=gS.row rT (by simp;omega);replace F:=F.trans gS (by simp);have szS:=gS.size;have szT:=Nat.le_trans szT szS))
  | (go_at_call 63;(with_reducible show Calls _ _ #[_,.string ⟨#[115,102,101,103,120]⟩] _ _);go_loud (refine (readTake_hit _ b _ _ 3 _ _ _ _ 3 h (by show _<(strL _).size;rw [strL_size];simp) (by rw [strL_size];simp) (by show Lib.indexByte [115,102,101,103,120] 101+1=3;decide) (by decide) (by omega)).mono ?_;rintro x w5 ⟨rfl,h,g⟩;have r2:=g.row r2 (by simp;omega);have rT:=g.row rT (by simp;omega);have szT:=Nat.le_trans szT g.size;replace F:=F.trans g (by simp);have d0:w5.cell? ⟨w1.heap.size,0,none⟩=some (.int .u8 0):=(by rw [cell_of_row _ _ 0 _ _ _ rT];rfl);have dz:=frozen_of_row w5 w1.heap.size 0 _ _ rT)))
 have gT:=(Fr.refl [w1.heap.size] w5).setCell (p:=⟨w1.heap.size,0,none⟩) (.inl (by simp)) (.int .u8 4)
 have rT:=heap_setCell_same w5 w1.heap.size 0 _ _ (.int .u8 4) rT
 have r2:=gT.row r2 (by simp;omega)
 have h:=h.other w1.heap.size 0 (.int .u8 4) (by omega)
 have F:=F.setCell (p:=⟨w1.heap.size,0,none⟩) (.inr (by simp;omega)) (.int .u8 4)
 have szT:w1.heap.size+1≤(w5.setCell ⟨w1.heap.size,0,none⟩ (.int .u8 4)).heap.size:=by rw [World.size_setCell];exact szT
 clear gT d0 dz
 generalize w5.setCell ⟨w1.heap.size,0,none⟩ (.int .u8 4)=Y at *
 have d0:Y.cell? ⟨w1.heap.size,0,none⟩=some (.int .u8 4):=by rw [cell_of_row _ _ 0 _ _ _ rT];rfl
 have c4:=h.c4
 refine region_mono_g [] 14 [[],[0],[1],[2],[3],[3,4],[3],[3,6],[3,7],[3,8],[3,9],[3,5,10],[3,11],[3,12]] [none,none,none,none,none,none,none,none,none,none,none,none,none,none] (by kernel_rfl) (by kernel_rfl) ?_
 simp only [Chain,fill,Act.put,List.nil_append,List.cons_append,List.take_succ_cons,List.take_zero,List.drop_succ_cons,List.drop_zero,List.setIfInBounds_toArray,List.set_cons_zero,List.set_cons_succ,Nat.reduceAdd]
 iterate 11 (apply Exists.intro;apply And.intro;·intro vs w2 hf hh K hK;have d0:=hf.stayd d0;have c4:=hf.stayd c4;simp only [Held,List.getD_cons_zero,List.getD_cons_succ,Just,and_true] at hh;(try simp only [hh] at hK ⊢);go_simp;exact hK _ _ ⟨rfl,Fr.refl _ _⟩)
 apply Exists.intro;apply And.intro
 ·intro vs w2 hf hh K hK;have d0:=hf.stayd d0;have c4:=hf.stayd c4;simp only [Held,List.getD_cons_zero,List.getD_cons_succ,Just,and_true] at hh;(try simp only [hh] at hK ⊢);go_simp;refine (placed_4 _ (p:Nat) (by omega)).mono ?_;rintro e w6 ⟨rfl,hx⟩;exact hK _ _ ⟨rfl,by rw [hx];exact Fr.refl _ _⟩
 iterate 2 (apply Exists.intro;apply And.intro;·intro vs w2 hf hh K hK;simp only [Held,List.getD_cons_zero,List.getD_cons_succ,Just,and_true] at hh;(try simp only [hh] at hK ⊢);go_simp;exact hK _ _ ⟨rfl,Fr.refl _ _⟩)
 intro vs w2 hf hh
 simp only [HeldAll,Just,and_true,Nat.reduceAdd] at hh
 obtain⟨e0,e1,e2,e3,e4,e5,e6,e7,e8,e9,e10,e11,e12,e13⟩:=hh
 simp only [e0,e1,e2,e3,e4,e5,e6,e7,e8,e9,e10,e11,e12,e13]
 clear e0 e1 e2 e3 e4 e5 e6 e7 e8 e9 e10 e11 e12 e13
 clear vs
 have d0:=hf.stayd d0
 have c4:=hf.stayd c4
 have h:=h.drew.fr hf (by simp)
 have rT:=hf.row (w:=Y.drew) rT (by simp)
 have r2:=hf.row (w:=Y.drew) r2 (by simp)
 have szT:w1.heap.size+1≤w2.heap.size:=Nat.le_trans szT hf.size
 have F:=F.drew.then hf
 have c4:=h.c4
 clear hf d0
 go_wp2_with (first
  | (go_at_call 63;(with_reducible show Calls _ _ #[_,.string ⟨#[125]⟩] _ _);go_loud (refine (readTake_hit _ b _ _ 4 _ _ _ _ 1 h (by show _<(strL _).size;rw [strL_size];simp) (by rw [strL_size];simp) (by show Lib.indexByte [125] 125+1=1;decide) (by decide) (by omega)).mono ?_;rintro x w8 ⟨rfl,h,g⟩;have r2:=g.row r2 (by simp;omega);have rT:=g.row rT (by simp;omega);replace F:=F.trans g (by simp)))
  | (go_at_call 63;(with_reducible show Calls _ _ #[_,.string ⟨#[58]⟩] _ _);go_loud (refine (readTake_miss _ b _ _ 4 _ _ _ _ 0 h (by show _<(strL _).size;rw [strL_size];simp) (by rw [strL_size];simp) (by show Lib.indexByte [58] 125+1=0;decide) rfl (by omega)).mono ?_;rintro x w8 ⟨rfl,h,g⟩;have r2:=g.row r2 (by simp;omega);have rT:=g.row rT (by simp;omega);replace F:=F.trans g (by simp)))
  | ((with_reducible show wpList _ _ _ (⟨some 105,.load 117 (.tmp 3),_,_,_,_⟩ :: _) _ _);go_loud (refine wpList_load_row rfl 117 (.tmp 3) rfl w1.heap.size rfl _ _ _ _ rT Tryz.underlying117 rfl (by kernel_rfl) ?_))
  | ((with_reducible show wpList _ _ _ (⟨none,.store 117 (.tmp 2) (.tmp 105),_,_,_,_⟩ :: _) _ _);go_loud (refine wpList_store_whole rfl 117 (.tmp 2) (.tmp 105) rfl w.heap.size #[.int .u8 4,.int .i64 0] rfl rfl _ _ r2 (by kernel_rfl) rfl (by simp [Value.oneCell']) ?_;intro w9 hn9 g9)))
 (try simp only [Exit.inBlock,Exit.then])
 refine bodyPost_ret (v:=_) (results_cell_row rfl _ _ w.heap.size _ _ _ _ rfl hn9 Tryz.underlying117 rfl (by kernel_rfl)) rfl ?_
 exact⟨rfl,h.fr g9 (by simp;omega),F.trans g9 (by simp)⟩
end Go.Proofs.YtcmndpjemdjalaaGreatDoor
namespace Go.Proofs.YtcmndpjemdjalaaGreatDoor
open Go.RowKit
theorem field_gp (w:World) (b p:Nat) (ops:Value) (hp:p<10) (hp0:0<p) (h:RdAt w b (strL [123,46,dig p,103,125]) ((1:Nat):Int) ops 0 0 0) :
  Calls Tryz.prog 41 #[.pointer (some ⟨b,0,none⟩)] w fun x w'=>x=.returned (.agg #[.int .u8 5,.int .i64 0])∧RdAt w' b (strL [123,46,dig p,103,125]) ((5:Nat):Int) ops 0 (p:Nat) 0∧Fr [b] w w':=by
 have hb:=h.lt
 have hp1:(0:Int)≤(p:Int):=by omega
 have hp2:¬ (p:Int)<0:=by omega
 have r2:=row_new w (.cells #[.int .u8 0,.int .i64 0] 117)
 have F:=(Fr.refl [b] w).alloc (.cells #[.int .u8 0,.int .i64 0] 117)
 have h:=h.alloc (.cells #[.int .u8 0,.int .i64 0] 117)
 have sz:w.heap.size+1≤(w.alloc (.cells #[.int .u8 0,.int .i64 0] 117)).heap.size:=by simp
 go_enter Tryz.func41,Tryz.ntmps41
 generalize hW:w.alloc (.cells #[.int .u8 0,.int .i64 0] 117)=W at *
 go_wp2_with (first
  | (go_at_call 63;(with_reducible show Calls _ _ #[_,.string ⟨#[43,32]⟩] _ _);go_loud (refine (readTake_miss _ b _ _ 1 _ _ _ _ 0 h (by show _<(strL _).size;rw [strL_size];simp) (by rw [strL_size];simp) (by show Lib.indexByte [43,32] 46+1=0;decide) rfl (by omega)).mono ?_;rintro x w1 ⟨rfl,h,g⟩;have r2:=g.row r2 (by simp;omega);have sz:=Nat.le_trans sz g.size;replace F:=F.trans g (by simp);have rT:=row_new w1 (.cells #[.int .u8 0,.int .i64 0] 117);have r2:=((Fr.refl [] w1).alloc (.cells #[.int .u8 0,.int .i64 0] 117)).row r2 (by simp);have h:=h.alloc (.cells #[.int .u8 0,.int .i64 0] 117);replace F:=F.alloc (.cells #[.int .u8 0,.int .i64 0] 117);have szT:w1.heap.size+1≤(w1.alloc (.cells #[.int .u8 0,.int .i64 0] 117)).heap.size:=(by simp)))
  | (go_at_call 63;(with_reducible show Calls _ _ #[_,.string ⟨#[48,45]⟩] _ _);go_loud (refine (readTake_miss _ b _ _ 1 _ _ _ _ 0 h (by show _<(strL _).size;rw [strL_size];simp) (by rw [strL_size];simp) (by show Lib.indexByte [48,45] 46+1=0;decide) rfl (by omega)).mono ?_;rintro x w2 ⟨rfl,h,g⟩;have r2:=g.row r2 (by simp;omega);have rT:=g.row rT (by simp;omega);have szT:=Nat.le_trans szT g.size;replace F:=F.trans g (by simp)))
  | (go_at_call 64;(with_reducible show Calls _ _ #[_,.int .u8 49] _ _);go_loud (refine (readDigit_is _ b _ 49 1 _ _ _ _ false h (by show _<(strL _).size;rw [strL_size];simp) (by rw [digitAt,dif_pos (by show _<(strL _).size;rw [strL_size];simp)];show (decide (49≤(46:UInt8).toNat) && decide ((46:UInt8).toNat≤57))=false;decide)).mono ?_;rintro x w3 ⟨rfl,g⟩;have h:=h.fr g (by simp);have r2:=g.row r2 (by simp);have rT:=g.row rT (by simp);have szT:=Nat.le_trans szT g.size;replace F:=F.then g;have c4:=h.c4;have z4:=h.z 4 (by omega);have h:=h.set4 (-1);have gS:=(Fr.refl [b] w3).setCell (p:=⟨b,4,none⟩) (.inl (by simp)) (.int .i64 (-1));have r2:=gS.row r2 (by simp;omega);have rT:=gS.row rT (by simp;omega);replace F:=F.trans gS (by simp);have szS:=gS.size;have szT:=Nat.le_trans szT szS))
  | (go_at_call 63;(with_reducible show Calls _ _ #[_,.string ⟨#[46]⟩] _ _);go_loud (refine (readTake_hit _ b _ _ 1 _ _ _ _ 1 h (by show _<(strL _).size;rw [strL_size];simp) (by rw [strL_size];simp) (by show Lib.indexByte [46] 46+1=1;decide) (by decide) (by omega)).mono ?_;rintro x w4 ⟨rfl,h,g⟩;have r2:=g.row r2 (by simp;omega);have rT:=g.row rT (by simp;omega);have szT:=Nat.le_trans szT g.size;replace F:=F.trans g (by simp)))
  | (go_at_call 64;(with_reducible show Calls _ _ #[_,.int .u8 48] _ _);go_loud (refine (readDigit_is _ b _ 48 2 _ _ _ _ true h (by show _<(strL _).size;rw [strL_size];simp) (by rw [digitAt,dif_pos (by show _<(strL _).size;rw [strL_size];simp)];show (decide (48≤(dig p).toNat) && decide ((dig p).toNat≤57))=true;rw [dig_toNat hp];simp;omega)).mono ?_;rintro x w5 ⟨rfl,g⟩;have h:=h.fr g (by simp);have r2:=g.row r2 (by simp);have rT:=g.row rT (by simp);have szT:=Nat.le_trans szT g.size;replace F:=F.then g))
  | (go_at_call 65;go_loud (refine (readNum _ b _ 2 p 2000 _ _ _ _ _ h (by show _<(strL _).size;rw [strL_size];simp) (by rw [strL_size];simp) hp rfl (by rw [digitAt,dif_pos (by show _<(strL _).size;rw [strL_size];simp)];show (decide (48≤(103:UInt8).toNat) && decide ((103:UInt8).toNat≤57))=false;decide) (by omega)).mono ?_;rintro x w6 ⟨rfl,h,g⟩;have r2:=g.row r2 (by simp;omega);have rT:=g.row rT (by simp;omega);have szT:=Nat.le_trans szT g.size;replace F:=F.trans g (by simp);have c4:=h.c4;have z4:=h.z 4 (by omega);have c1:=h.c1;have h:=h.set4 p;have gS:=(Fr.refl [b] w6).setCell (p:=⟨b,4,none⟩) (.inl (by simp)) (.int .i64 p);have r2:=gS.row r2 (by simp;omega);have rT:=gS.row rT (by simp;omega);replace F:=F.trans gS (by simp);have szS:=gS.size;have szT:=Nat.le_trans szT szS))
  | (go_at_call 63;(with_reducible show Calls _ _ #[_,.string ⟨#[115,102,101,103,120]⟩] _ _);go_loud (refine (readTake_hit _ b _ _ 3 _ _ _ _ 4 h (by show _<(strL _).size;rw [strL_size];simp) (by rw [strL_size];simp) (by show Lib.indexByte [115,102,101,103,120] 103+1=4;decide) (by decide) (by omega)).mono ?_;rintro x w5 ⟨rfl,h,g⟩;have r2:=g.row r2 (by simp;omega);have rT:=g.row rT (by simp;omega);have szT:=Nat.le_trans szT g.size;replace F:=F.trans g (by simp);have d0:w5.cell? ⟨w1.heap.size,0,none⟩=some (.int .u8 0):=(by rw [cell_of_row _ _ 0 _ _ _ rT];rfl);have dz:=frozen_of_row w5 w1.heap.size 0 _ _ rT)))
 have gT:=(Fr.refl [w1.heap.size] w5).setCell (p:=⟨w1.heap.size,0,none⟩) (.inl (by simp)) (.int .u8 5)
 have rT:=heap_setCell_same w5 w1.heap.size 0 _ _ (.int .u8 5) rT
 have r2:=gT.row r2 (by simp;omega)
 have h:=h.other w1.heap.size 0 (.int .u8 5) (by omega)
 have F:=F.setCell (p:=⟨w1.heap.size,0,none⟩) (.inr (by simp;omega)) (.int .u8 5)
 have szT:w1.heap.size+1≤(w5.setCell ⟨w1.heap.size,0,none⟩ (.int .u8 5)).heap.size:=by rw [World.size_setCell];exact szT
 clear gT d0 dz
 generalize w5.setCell ⟨w1.heap.size,0,none⟩ (.int .u8 5)=Y at *
 have d0:Y.cell? ⟨w1.heap.size,0,none⟩=some (.int .u8 5):=by rw [cell_of_row _ _ 0 _ _ _ rT];rfl
 have c4:=h.c4
 refine region_mono_g [] 14 [[],[0],[1],[2],[3],[3,4],[3],[3,6],[3,7],[3,8],[3,9],[3,5,10],[3,11],[3,12]] [none,none,none,none,none,none,none,none,none,none,none,none,none,none] (by kernel_rfl) (by kernel_rfl) ?_
 simp only [Chain,fill,Act.put,List.nil_append,List.cons_append,List.take_succ_cons,List.take_zero,List.drop_succ_cons,List.drop_zero,List.setIfInBounds_toArray,List.set_cons_zero,List.set_cons_succ,Nat.reduceAdd]
 iterate 11 (apply Exists.intro;apply And.intro;·intro vs w2 hf hh K hK;have d0:=hf.stayd d0;have c4:=hf.stayd c4;simp only [Held,List.getD_cons_zero,List.getD_cons_succ,Just,and_true] at hh;(try simp only [hh] at hK ⊢);go_simp;exact hK _ _ ⟨rfl,Fr.refl _ _⟩)
 apply Exists.intro;apply And.intro
 ·intro vs w2 hf hh K hK;have d0:=hf.stayd d0;have c4:=hf.stayd c4;simp only [Held,List.getD_cons_zero,List.getD_cons_succ,Just,and_true] at hh;(try simp only [hh] at hK ⊢);go_simp;refine (placed_5_is _ (p:Nat) true (by simp;omega)).mono ?_;rintro e w6 ⟨rfl,hx⟩;exact hK _ _ ⟨rfl,by rw [hx];exact Fr.refl _ _⟩
 iterate 2 (apply Exists.intro;apply And.intro;·intro vs w2 hf hh K hK;simp only [Held,List.getD_cons_zero,List.getD_cons_succ,Just,and_true] at hh;(try simp only [hh] at hK ⊢);go_simp;exact hK _ _ ⟨rfl,Fr.refl _ _⟩)
 intro vs w2 hf hh
 simp only [HeldAll,Just,and_true,Nat.reduceAdd] at hh
 obtain⟨e0,e1,e2,e3,e4,e5,e6,e7,e8,e9,e10,e11,e12,e13⟩:=hh
 simp only [e0,e1,e2,e3,e4,e5,e6,e7,e8,e9,e10,e11,e12,e13]
 clear e0 e1 e2 e3 e4 e5 e6 e7 e8 e9 e10 e11 e12 e13
 clear vs
 have d0:=hf.stayd d0
 have c4:=hf.stayd c4
 have h:=h.drew.fr hf (by simp)
 have rT:=hf.row (w:=Y.drew) rT (by simp)
 have r2:=hf.row (w:=Y.drew) r2 (by simp)
 have szT:w1.heap.size+1≤w2.heap.size:=Nat.le_trans szT hf.size
 have F:=F.drew.then hf
 have c4:=h.c4
 clear hf d0
 go_wp2_with (first
  | (go_at_call 63;(with_reducible show Calls _ _ #[_,.string ⟨#[125]⟩] _ _);go_loud (refine (readTake_hit _ b _ _ 4 _ _ _ _ 1 h (by show _<(strL _).size;rw [strL_size];simp) (by rw [strL_size];simp) (by show Lib.indexByte [125] 125+1=1;decide) (by decide) (by omega)).mono ?_;rintro x w8 ⟨rfl,h,g⟩;have r2:=g.row r2 (by simp;omega);have rT:=g.row rT (by simp;omega);replace F:=F.trans g (by simp)))
  | (go_at_call 63;(with_reducible show Calls _ _ #[_,.string ⟨#[58]⟩] _ _);go_loud (refine (readTake_miss _ b _ _ 4 _ _ _ _ 0 h (by show _<(strL _).size;rw [strL_size];simp) (by rw [strL_size];simp) (by show Lib.indexByte [58] 125+1=0;decide) rfl (by omega)).mono ?_;rintro x w8 ⟨rfl,h,g⟩;have r2:=g.row r2 (by simp;omega);have rT:=g.row rT (by simp;omega);replace F:=F.trans g (by simp)))
  | ((with_reducible show wpList _ _ _ (⟨some 105,.load 117 (.tmp 3),_,_,_,_⟩ :: _) _ _);go_loud (refine wpList_load_row rfl 117 (.tmp 3) rfl w1.heap.size rfl _ _ _ _ rT Tryz.underlying117 rfl (by kernel_rfl) ?_))
  | ((with_reducible show wpList _ _ _ (⟨none,.store 117 (.tmp 2) (.tmp 105),_,_,_,_⟩ :: _) _ _);go_loud (refine wpList_store_whole rfl 117 (.tmp 2) (.tmp 105) rfl w.heap.size #[.int .u8 5,.int .i64 0] rfl rfl _ _ r2 (by kernel_rfl) rfl (by simp [Value.oneCell']) ?_;intro w9 hn9 g9)))
 (try simp only [Exit.inBlock,Exit.then])
 refine bodyPost_ret (v:=_) (results_cell_row rfl _ _ w.heap.size _ _ _ _ rfl hn9 Tryz.underlying117 rfl (by kernel_rfl)) rfl ?_
 exact⟨rfl,h.fr g9 (by simp;omega),F.trans g9 (by simp)⟩
end Go.Proofs.YtcmndpjemdjalaaGreatDoor
namespace Go.Proofs.YtcmndpjemdjalaaGreatDoor
open Go.RowKit
theorem writeIs_s:WriteIs 2 0 0 0 (-1) (strL [123,115,125]):=fun w o b cap hb h0=>write_s w o b cap hb h0
theorem writeIs_x:WriteIs 6 0 0 0 (-1) (strL [123,120,125]):=fun w o b cap hb h0=>write_x w o b cap hb h0
theorem writeIs_fp (p:Nat) (hp:p<10):WriteIs 3 0 0 0 p (strL [123,46,dig p,102,125]):=fun w o b cap hb h0=>write_fp w o b cap p hp hb h0
theorem writeIs_ep (p:Nat) (hp:p<10):WriteIs 4 0 0 0 p (strL [123,46,dig p,101,125]):=fun w o b cap hb h0=>write_ep w o b cap p hp hb h0
theorem writeIs_gp (p:Nat) (hp:p<10):WriteIs 5 0 0 0 p (strL [123,46,dig p,103,125]):=fun w o b cap hb h0=>write_gp w o b cap p hp hb h0
theorem compileIs_s:CompileIs 2 0 0 0 (-1) (strL [123,115,125]):=fun w=>compile_one w 115 [125] 2 0 0 (-1) 0 (by simp) (by decide) (fun W b h=>field_s W b _ h)
theorem compileIs_x:CompileIs 6 0 0 0 (-1) (strL [123,120,125]):=fun w=>compile_one w 120 [125] 6 0 0 (-1) 0 (by simp) (by decide) (fun W b h=>field_x W b _ h)
theorem compileIs_fp (p:Nat) (hp:p<10):CompileIs 3 0 0 0 p (strL [123,46,dig p,102,125]):=fun w=>compile_one w 46 [dig p,102,125] 3 0 0 p 0 (by simp) (by decide) (fun W b h=>field_fp W b p _ hp h)
theorem compileIs_ep (p:Nat) (hp:p<10):CompileIs 4 0 0 0 p (strL [123,46,dig p,101,125]):=fun w=>compile_one w 46 [dig p,101,125] 4 0 0 p 0 (by simp) (by decide) (fun W b h=>field_ep W b p _ hp h)
theorem compileIs_gp (p:Nat) (hp:p<10) (h0:0<p):CompileIs 5 0 0 0 p (strL [123,46,dig p,103,125]):=fun w=>compile_one w 46 [dig p,103,125] 5 0 0 p 0 (by simp) (by decide) (fun W b h=>field_gp W b p _ hp h0 h)
def LookOk (d:Nat) (places:Int):Prop:=(d=2∨d=6)∧places=-1∨(d=3∨d=4)∧0≤places∧places<10∨d=5∧0<places∧places<10
theorem check_look (w:World) (b cap d:Nat) (places:Int) (hl:LookOk d places)
  (h0:w.cell? ⟨b,0,none⟩=some (.int .u8 d)) (h1:w.cell? ⟨b,1,none⟩=some (.int .i64 0)) (h2:w.cell? ⟨b,2,none⟩=some (.string ⟨#[]⟩)) :
  Calls Tryz.prog 12 #[apiPlan (.slice (some ⟨b,0,none⟩) 1 cap) 0 places 0] w fun x w'=>x=.returned (.int .i64 0)∧Fr [] w w':=by
 rcases hl with ⟨rfl | rfl,rfl⟩ | ⟨rfl | rfl,h3,h4⟩ | ⟨rfl,h3,h4⟩
 ·exact check_one w b cap 2 0 0 0 (-1) _ (by omega) (.inl rfl) h0 h1 h2 writeIs_s compileIs_s
 ·exact check_one w b cap 6 0 0 0 (-1) _ (by omega) (.inl rfl) h0 h1 h2 writeIs_x compileIs_x
 ·obtain⟨p,rfl⟩:∃ p:Nat,places=p:=⟨places.toNat,by omega⟩
  exact check_one w b cap 3 0 0 0 p _ (by omega) (.inl rfl) h0 h1 h2 (writeIs_fp p (by omega)) (compileIs_fp p (by omega))
 ·obtain⟨p,rfl⟩:∃ p:Nat,places=p:=⟨places.toNat,by omega⟩
  exact check_one w b cap 4 0 0 0 p _ (by omega) (.inl rfl) h0 h1 h2 (writeIs_ep p (by omega)) (compileIs_ep p (by omega))
 ·obtain⟨p,rfl⟩:∃ p:Nat,places=p:=⟨places.toNat,by omega⟩
  exact check_one w b cap 5 0 0 0 p _ (by omega) (.inl rfl) h0 h1 h2 (writeIs_gp p (by omega)) (compileIs_gp p (by omega) (by omega))
end Go.Proofs.YtcmndpjemdjalaaGreatDoor
namespace Go.Proofs.YtcmndpjemdjalaaGreatDoor
open Go.RowKit
theorem builder_fr {W W':World} {B b:Nat} {bs:List Value} (h:Lib.IsBuilderF 109 5 B b bs W) (hf:Fr [] W W'):Lib.IsBuilderF 109 5 B b bs W':=by
 have H:∀ p,Lib.BuilderAtF 109 5 B b p bs W→Lib.BuilderAtF 109 5 B b p bs W':=by
  rintro p ⟨hB,q,hq,ho,hn⟩
  refine⟨hB,q,hf.row hq (by simp),?_,hn⟩
  refine ho.kept (row:=none) ⟨hf.os,hf.tape,hf.output,hf.size,fun j hj _=>hf.block j hj (by simp)⟩ ?_
  cases hv:q.ownBlock with
  | none=>exact .inl rfl
  | some k=>exact .inr (by simp)
 exact h.elim (fun x=>.inl (H _ x)) (fun x=>.inr (H _ x))
theorem write_up (w:World) (o:Value) (b cap:Nat) (hb:b<w.heap.size)
  (h0:w.cell? ⟨b,0,none⟩=some (.iface 111 (.string (strL [120,61])))) (h1:w.cell? ⟨b,1,none⟩=some (.iface 117 (.agg #[.int .u8 3,.int .i64 5]))) (h2:w.cell? ⟨b,2,none⟩=some (.iface 111 (.string (strL [33])))) :
  Calls Tryz.prog 43 #[apiPlan o 8 3 3,.slice (some ⟨b,0,none⟩) 3 cap] w fun x w'=>x=.returned (.string (strL [120,61,123,43,48,56,46,51,102,58,117,112,125,33]))∧Fr [] w w':=by
 have ta1:∀ v w,(Instr.typeAssert (.iface 117 v) 71 111 true).run Tryz.prog w=.ok (.tuple #[.string ⟨#[]⟩,.bool false]) w:=fun _ _=>by kernel_rfl
 have ta2:∀ v w,(Instr.typeAssert (.iface 117 v) 71 117 true).run Tryz.prog w=.ok (.tuple #[v,.bool true]) w:=fun _ _=>by kernel_rfl
 have ta3:∀ v w,(Instr.typeAssert (.iface 111 v) 71 111 true).run Tryz.prog w=.ok (.tuple #[v,.bool true]) w:=fun _ _=>by kernel_rfl
 unfold apiPlan
 go_enter Tryz.func43,Tryz.ntmps43
 go_wp2_with fail
 have fA:=(Fr.refl [] w).alloc (.cells #[o,.int .i64 8,.int .i64 3,.int .u8 3] 37)
 have fB:=(Fr.refl [] (w.alloc (.cells #[o,.int .i64 8,.int .i64 3,.int .u8 3] 37))).alloc (.cells #[.pointer none,.slice none 0 0] 109)
 have rP:=fB.row (row_new w (.cells #[o,.int .i64 8,.int .i64 3,.int .u8 3] 37)) (by simp)
 have rB:=row_new (w.alloc (.cells #[o,.int .i64 8,.int .i64 3,.int .u8 3] 37)) (.cells #[.pointer none,.slice none 0 0] 109)
 rw [World.size_alloc] at rB
 have F:=fA.then fB
 clear fA fB
 generalize hW:(w.alloc (.cells #[o,.int .i64 8,.int .i64 3,.int .u8 3] 37)).alloc (.cells #[.pointer none,.slice none 0 0] 109)=W at *
 have hWs:W.heap.size=w.heap.size+1+1:=by rw [← hW];simp
 clear hW
 have h0:=F.stay h0 (by simp)
 have h1:=F.stay h1 (by simp)
 have h2:=F.stay h2 (by simp)
 have hB:=fresh_row rB
 have hsz:w.heap.size+1+1≤W.heap.size:=by omega
 clear rB hWs
 refine wp_loop_rounds 4 ?_
 rw [rounds_succ]
 go_wp2_with (first
  | (go_at_call 69;go_loud (refine (newReplacer_4 _ _ 4 _ _ _ _ (cell_new W #[.string ⟨#[123]⟩,.string ⟨#[123,123]⟩,.string ⟨#[125]⟩,.string ⟨#[125,125]⟩] 9 (0,0) 0 _ rfl) (cell_new W #[.string ⟨#[123]⟩,.string ⟨#[123,123]⟩,.string ⟨#[125]⟩,.string ⟨#[125,125]⟩] 9 (0,0) 1 _ rfl) (cell_new W #[.string ⟨#[123]⟩,.string ⟨#[123,123]⟩,.string ⟨#[125]⟩,.string ⟨#[125,125]⟩] 9 (0,0) 2 _ rfl) (cell_new W #[.string ⟨#[123]⟩,.string ⟨#[123,123]⟩,.string ⟨#[125]⟩,.string ⟨#[125,125]⟩] 9 (0,0) 3 _ rfl)).mono ?_;rintro x w1 ⟨r,g,cap1,rfl,hr,hst,hrl,hrg,g1⟩;rw [World.size_alloc] at hrl;have k0:=World.ownsRow.cells hst rfl 0 _ rfl;have k1:=World.ownsRow.cells hst rfl 1 _ rfl;have k2:=World.ownsRow.cells hst rfl 2 _ rfl;have k3:=World.ownsRow.cells hst rfl 3 _ rfl))
  | (go_at_call 70;go_loud (refine (replace_braces _ r g cap1 (strL [120,61]) (.inl rfl) hr (Ne.symm hrg) k0 k1 k2 k3).mono ?_;rintro x w2 ⟨rfl,g2⟩;have fR:=(((Fr.refl [] W).alloc (.cells #[.string ⟨#[123]⟩,.string ⟨#[123,123]⟩,.string ⟨#[125]⟩,.string ⟨#[125,125]⟩] 9)).then g1).after g2 (by simp;omega);have hB:=builder_fr hB fR;have rP:=fR.row rP (by simp);have h1:=fR.stay h1 (by simp);have h2:=fR.stay h2 (by simp);replace F:=F.then fR;have hsz:=Nat.le_trans hsz fR.size;clear k0 k1 k2 k3 hr hst hrl hrg g1 g2 fR))
  | (go_at_call 68;go_loud (refine (writeStr _ _ [] [120,61] _ hB (by simp) (by omega)).mono ?_;rintro x V1 ⟨rfl,hB,hb3,hk3⟩;replace F:=F.belowB hb3 (by omega);have hsz:=Nat.le_trans hsz hb3.size;have rP:=row_kept hk3 rP (by decide) (by omega);have h1:=(hb3.cell (p:=⟨b,1,none⟩) (by simp only;omega)).trans h1;have h2:=(hb3.cell (p:=⟨b,2,none⟩) (by simp only;omega)).trans h2;clear hb3 hk3)))
 simp only [List.nil_append] at hB
 clear h0
 rw [rounds_succ]
 go_wp2_with fail
 have fX:=(Fr.refl [] V1).alloc (.cells #[.int .u8 3,.int .i64 5] 117)
 have rP:=fX.row rP (by simp)
 have hB:=builder_fr hB fX
 have h2:=fX.stay h2 (by simp)
 have rF:=row_new V1 (.cells #[.int .u8 3,.int .i64 5] 117)
 have F:=F.then fX
 have hV1:V1.heap.size+1=(V1.alloc (.cells #[.int .u8 3,.int .i64 5] 117)).heap.size:=by rw [World.size_alloc]
 generalize V1.alloc (.cells #[.int .u8 3,.int .i64 5] 117)=X at *
 have c1:X.cell? ⟨V1.heap.size,1,none⟩=some (.int .i64 5):=by rw [cell_of_row _ _ 1 _ _ _ rF];rfl
 clear fX h1
 refine region_mono [] 14 [[],[],[1],[2],[0,3],[4],[5],[],[],[8],[9],[7,10],[11],[6,12]] [some (StrsAt 3 1 ⟨#[43]⟩),none,none,none,some (StrAt 1 ⟨#[43]⟩),none,none,some (StrsAt 3 1 ⟨#[48]⟩),none,none,none,some (StrAt 1 ⟨#[48]⟩),none,none] (by kernel_rfl) (by kernel_rfl) ?_
 simp only [Chain,fill,Act.put,List.nil_append,List.cons_append,List.take_succ_cons,List.take_zero,List.drop_succ_cons,List.drop_zero,List.setIfInBounds_toArray,List.set_cons_zero,List.set_cons_succ,Nat.reduceAdd]
 refine⟨StrsAt.lasts _ _ _,?_,?_⟩
 ·intro vs w2 hf hh K hK;have c1:=hf.stayd c1;simp only [Held] at hh;(try simp only [] at hK ⊢);go_simp;exact hK _ _ ⟨⟨w2.heap.size,rfl,cell_new w2 _ _ _ 1 _ rfl⟩,(Fr.refl [] w2).alloc _⟩
 iterate 3 (apply Exists.intro;apply And.intro;·intro vs w2 hf hh K hK;have c1:=hf.stayd c1;simp only [Held,List.getD_cons_zero,List.getD_cons_succ,Just,and_true] at hh;(try simp only [hh] at hK ⊢);go_simp;exact hK _ _ ⟨rfl,Fr.refl _ _⟩)
 refine⟨StrAt.lasts _ _,?_,?_⟩
 ·intro vs w2 hf hh K hK;have c1:=hf.stayd c1;simp only [Held,List.getD_cons_zero,List.getD_cons_succ,Just,and_true] at hh;(try simp only [hh] at hK ⊢);obtain⟨⟨g,hg,hc⟩,h3⟩:=hh;simp only [hg] at hK ⊢;go_simp;exact hK _ _ ⟨⟨g,rfl,hc⟩,Fr.refl _ _⟩
 apply Exists.intro;apply And.intro
 ·intro vs w2 hf hh K hK;have c1:=hf.stayd c1;simp only [Held,List.getD_cons_zero,List.getD_cons_succ,and_true] at hh;(try simp only [] at hK ⊢);obtain⟨g,hg,hc⟩:=hh;simp only [hg] at hK ⊢;go_simp;exact hK _ _ ⟨rfl,Fr.refl _ _⟩
 apply Exists.intro;apply And.intro
 ·intro vs w2 hf hh K hK;simp only [Held,List.getD_cons_zero,List.getD_cons_succ,Just,and_true] at hh;(try simp only [hh] at hK ⊢);go_simp;exact hK _ _ ⟨rfl,Fr.refl _ _⟩
 refine⟨StrsAt.lasts _ _ _,?_,?_⟩
 ·intro vs w2 hf hh K hK;have c1:=hf.stayd c1;simp only [Held] at hh;(try simp only [] at hK ⊢);go_simp;exact hK _ _ ⟨⟨w2.heap.size,rfl,cell_new w2 _ _ _ 1 _ rfl⟩,(Fr.refl [] w2).alloc _⟩
 iterate 3 (apply Exists.intro;apply And.intro;·intro vs w2 hf hh K hK;have c1:=hf.stayd c1;simp only [Held,List.getD_cons_zero,List.getD_cons_succ,Just,and_true] at hh;(try simp only [hh] at hK ⊢);go_simp;exact hK _ _ ⟨rfl,Fr.refl _ _⟩)
 refine⟨StrAt.lasts _ _,?_,?_⟩
 ·intro vs w2 hf hh K hK;have c1:=hf.stayd c1;simp only [Held,List.getD_cons_zero,List.getD_cons_succ,Just,and_true] at hh;(try simp only [hh] at hK ⊢);obtain⟨⟨g,hg,hc⟩,h3⟩:=hh;simp only [hg] at hK ⊢;go_simp;exact hK _ _ ⟨⟨g,rfl,hc⟩,Fr.refl _ _⟩
 apply Exists.intro;apply And.intro
 ·intro vs w2 hf hh K hK;have c1:=hf.stayd c1;simp only [Held,List.getD_cons_zero,List.getD_cons_succ,and_true] at hh;(try simp only [] at hK ⊢);obtain⟨g,hg,hc⟩:=hh;simp only [hg] at hK ⊢;go_simp;exact hK _ _ ⟨rfl,Fr.refl _ _⟩
 apply Exists.intro;apply And.intro
 ·intro vs w2 hf hh K hK;simp only [Held,List.getD_cons_zero,List.getD_cons_succ,Just,and_true] at hh;(try simp only [hh] at hK ⊢);go_simp;exact hK _ _ ⟨rfl,Fr.refl _ _⟩
 intro vs w2 hf hh
 simp only [HeldAll,Just,and_true,Nat.reduceAdd] at hh
 obtain⟨e0,e1,e2,e3,e4,e5,e6,e7,e8,e9,e10,e11,e12,e13⟩:=hh
 simp only [e1,e2,e3,e5,e6,e8,e9,e10,e12,e13]
 clear e1 e2 e3 e5 e6 e8 e9 e10 e12 e13
 generalize vs 0=v0 at e0 ⊢
 generalize vs 4=v4 at e4 ⊢
 generalize vs 7=v7 at e7 ⊢
 generalize vs 11=v11 at e11 ⊢
 clear vs
 have c1:=hf.stayd c1
 have rP:=(hf.row (w:=X.drew) rP (by simp))
 have rF:=(hf.row (w:=X.drew) rF (by simp))
 have h2:=hf.stay (w:=X.drew) h2 (by simp)
 have hB:=builder_fr hB ((Fr.refl [] X).drew.then hf)
 have hX2:X.heap.size≤w2.heap.size:=hf.size
 have F:=F.drew.then hf
 clear hf c1 e0 e4 e7 e11
 have hsz:w.heap.size+1+1≤w2.heap.size:=by omega
 have a1:w2.cell? ⟨w.heap.size,1,none⟩=some (.int .i64 8):=by rw [cell_of_row _ _ 1 _ _ _ rP];rfl
 have a2:w2.cell? ⟨w.heap.size,2,none⟩=some (.int .i64 3):=by rw [cell_of_row _ _ 2 _ _ _ rP];rfl
 have a3:w2.cell? ⟨w.heap.size,3,none⟩=some (.int .u8 3):=by rw [cell_of_row _ _ 3 _ _ _ rP];rfl
 have d0:w2.cell? ⟨V1.heap.size,0,none⟩=some (.int .u8 3):=by rw [cell_of_row _ _ 0 _ _ _ rF];rfl
 have nV:¬ V1.heap.size=w.heap.size+1:=by omega
 have hs0:(⟨#[123]⟩++⟨#[43]⟩++⟨#[48]⟩:ByteArray)=strL [123,43,48]:=by show strL [123]++strL [43]++strL [48]=_;rw [cat_l,cat_l];rfl
 have hs1:(⟨#[46]⟩++strL [dig 3]:ByteArray)=strL [46,dig 3]:=cat_l [46] [dig 3]
 have hs2:(⟨#[58]⟩++strL [117,112]:ByteArray)=strL [58,117,112]:=cat_l [58] [117,112]
 have hI8:=fun W=>itoa_digit W 8 (by decide)
 have hI3:=fun W=>itoa_digit W 3 (by decide)
 go_wp2_with (first
  | (go_at_call 68;rw [hs0];go_loud (refine (writeStr _ _ _ [123,43,48] _ hB (by simp) (by omega)).mono ?_;rintro x w3 ⟨rfl,hB,hb3,hk3⟩;replace F:=F.belowB hb3 (by omega);have hsz:=Nat.le_trans hsz hb3.size;have rP:=row_kept hk3 rP (by decide) (by omega);have rF:=row_kept hk3 rF (by decide) (by omega);have h2:=(hb3.cell (p:=⟨b,2,none⟩) (by simp only;omega)).trans h2;have a1:w3.cell? ⟨w.heap.size,1,none⟩=some (.int .i64 8):=(by rw [cell_of_row _ _ 1 _ _ _ rP];rfl);have a2:w3.cell? ⟨w.heap.size,2,none⟩=some (.int .i64 3):=(by rw [cell_of_row _ _ 2 _ _ _ rP];rfl);have a3:w3.cell? ⟨w.heap.size,3,none⟩=some (.int .u8 3):=(by rw [cell_of_row _ _ 3 _ _ _ rP];rfl);have d0:w3.cell? ⟨V1.heap.size,0,none⟩=some (.int .u8 3):=(by rw [cell_of_row _ _ 0 _ _ _ rF];rfl)))
  | (go_at_call 71;(with_reducible show Calls _ _ #[.int .i64 8] _ _);go_loud (refine (hI8 _).mono ?_;rintro x w3 ⟨rfl,hw⟩;subst hw))
  | (go_at_call 71;go_loud (refine (hI3 _).mono ?_;rintro x w3 ⟨rfl,hw⟩;subst hw))
  | (go_at_call 72;go_loud (refine (name_up _).mono ?_;rintro x w3 ⟨rfl,g3⟩;have hB:=builder_fr hB g3;have hsz:=Nat.le_trans hsz g3.size;have F:=F.then g3;have rP:=g3.row rP (by simp);have rF:=g3.row rF (by simp);have h2:=g3.stay h2 (by simp)))
  | (go_at_call 68;(with_reducible show Calls _ _ #[_,.string (strL [dig 8])] _ _);go_loud (refine (writeStr _ _ _ [dig 8] _ hB (by simp) (by omega)).mono ?_;rintro x w3 ⟨rfl,hB,hb3,hk3⟩;replace F:=F.belowB hb3 (by omega);have hsz:=Nat.le_trans hsz hb3.size;have rP:=row_kept hk3 rP (by decide) (by omega);have rF:=row_kept hk3 rF (by decide) (by omega);have h2:=(hb3.cell (p:=⟨b,2,none⟩) (by simp only;omega)).trans h2;have a1:w3.cell? ⟨w.heap.size,1,none⟩=some (.int .i64 8):=(by rw [cell_of_row _ _ 1 _ _ _ rP];rfl);have a2:w3.cell? ⟨w.heap.size,2,none⟩=some (.int .i64 3):=(by rw [cell_of_row _ _ 2 _ _ _ rP];rfl);have a3:w3.cell? ⟨w.heap.size,3,none⟩=some (.int .u8 3):=(by rw [cell_of_row _ _ 3 _ _ _ rP];rfl);have d0:w3.cell? ⟨V1.heap.size,0,none⟩=some (.int .u8 3):=(by rw [cell_of_row _ _ 0 _ _ _ rF];rfl)))
  | (go_at_call 68;(with_reducible show Calls _ _ #[_,.string (strL [46,dig 3])] _ _);go_loud (refine (writeStr _ _ _ [46,dig 3] _ hB (by simp) (by omega)).mono ?_;rintro x w3 ⟨rfl,hB,hb3,hk3⟩;replace F:=F.belowB hb3 (by omega);have hsz:=Nat.le_trans hsz hb3.size;have rP:=row_kept hk3 rP (by decide) (by omega);have rF:=row_kept hk3 rF (by decide) (by omega);have h2:=(hb3.cell (p:=⟨b,2,none⟩) (by simp only;omega)).trans h2;have a1:w3.cell? ⟨w.heap.size,1,none⟩=some (.int .i64 8):=(by rw [cell_of_row _ _ 1 _ _ _ rP];rfl);have a2:w3.cell? ⟨w.heap.size,2,none⟩=some (.int .i64 3):=(by rw [cell_of_row _ _ 2 _ _ _ rP];rfl);have a3:w3.cell? ⟨w.heap.size,3,none⟩=some (.int .u8 3):=(by rw [cell_of_row _ _ 3 _ _ _ rP];rfl);have d0:w3.cell? ⟨V1.heap.size,0,none⟩=some (.int .u8 3):=(by rw [cell_of_row _ _ 0 _ _ _ rF];rfl)))
  | (go_at_call 68;(with_reducible show Calls _ _ #[_,.string (strL [58,117,112])] _ _);go_loud (refine (writeStr _ _ _ [58,117,112] _ hB (by simp) (by omega)).mono ?_;rintro x w3 ⟨rfl,hB,hb3,hk3⟩;replace F:=F.belowB hb3 (by omega);have hsz:=Nat.le_trans hsz hb3.size;have rP:=row_kept hk3 rP (by decide) (by omega);have rF:=row_kept hk3 rF (by decide) (by omega);have h2:=(hb3.cell (p:=⟨b,2,none⟩) (by simp only;omega)).trans h2;have a1:w3.cell? ⟨w.heap.size,1,none⟩=some (.int .i64 8):=(by rw [cell_of_row _ _ 1 _ _ _ rP];rfl);have a2:w3.cell? ⟨w.heap.size,2,none⟩=some (.int .i64 3):=(by rw [cell_of_row _ _ 2 _ _ _ rP];rfl);have a3:w3.cell? ⟨w.heap.size,3,none⟩=some (.int .u8 3):=(by rw [cell_of_row _ _ 3 _ _ _ rP];rfl);have d0:w3.cell? ⟨V1.heap.size,0,none⟩=some (.int .u8 3):=(by rw [cell_of_row _ _ 0 _ _ _ rF];rfl)))
  | (go_at_call 38;(with_reducible show Calls _ _ #[_,.int .u8 125] _ _);go_loud (refine (writeOne _ _ _ 125 _ hB (by simp) (by omega)).mono ?_;rintro x w3 ⟨rfl,hB,hb3,hk3⟩;replace F:=F.belowB hb3 (by omega);have hsz:=Nat.le_trans hsz hb3.size;have rP:=row_kept hk3 rP (by decide) (by omega);have rF:=row_kept hk3 rF (by decide) (by omega);have h2:=(hb3.cell (p:=⟨b,2,none⟩) (by simp only;omega)).trans h2;have a1:w3.cell? ⟨w.heap.size,1,none⟩=some (.int .i64 8):=(by rw [cell_of_row _ _ 1 _ _ _ rP];rfl);have a2:w3.cell? ⟨w.heap.size,2,none⟩=some (.int .i64 3):=(by rw [cell_of_row _ _ 2 _ _ _ rP];rfl);have a3:w3.cell? ⟨w.heap.size,3,none⟩=some (.int .u8 3):=(by rw [cell_of_row _ _ 3 _ _ _ rP];rfl);have d0:w3.cell? ⟨V1.heap.size,0,none⟩=some (.int .u8 3):=(by rw [cell_of_row _ _ 0 _ _ _ rF];rfl)))
  | (go_at_call 38;go_loud (refine (writeOne _ _ _ 102 _ hB (by simp) (by omega)).mono ?_;rintro x w3 ⟨rfl,hB,hb3,hk3⟩;replace F:=F.belowB hb3 (by omega);have hsz:=Nat.le_trans hsz hb3.size;have rP:=row_kept hk3 rP (by decide) (by omega);have rF:=row_kept hk3 rF (by decide) (by omega);have h2:=(hb3.cell (p:=⟨b,2,none⟩) (by simp only;omega)).trans h2;have a1:w3.cell? ⟨w.heap.size,1,none⟩=some (.int .i64 8):=(by rw [cell_of_row _ _ 1 _ _ _ rP];rfl);have a2:w3.cell? ⟨w.heap.size,2,none⟩=some (.int .i64 3):=(by rw [cell_of_row _ _ 2 _ _ _ rP];rfl);have a3:w3.cell? ⟨w.heap.size,3,none⟩=some (.int .u8 3):=(by rw [cell_of_row _ _ 3 _ _ _ rP];rfl);have d0:w3.cell? ⟨V1.heap.size,0,none⟩=some (.int .u8 3):=(by rw [cell_of_row _ _ 0 _ _ _ rF];rfl))))
 clear a1 a2 a3 d0 rF
 rw [rounds_succ]
 go_wp2_with (first
  | (go_at_call 69;go_loud (refine (newReplacer_4 _ _ 4 _ _ _ _ (cell_new w3 #[.string ⟨#[123]⟩,.string ⟨#[123,123]⟩,.string ⟨#[125]⟩,.string ⟨#[125,125]⟩] 9 (0,0) 0 _ rfl) (cell_new w3 #[.string ⟨#[123]⟩,.string ⟨#[123,123]⟩,.string ⟨#[125]⟩,.string ⟨#[125,125]⟩] 9 (0,0) 1 _ rfl) (cell_new w3 #[.string ⟨#[123]⟩,.string ⟨#[123,123]⟩,.string ⟨#[125]⟩,.string ⟨#[125,125]⟩] 9 (0,0) 2 _ rfl) (cell_new w3 #[.string ⟨#[123]⟩,.string ⟨#[123,123]⟩,.string ⟨#[125]⟩,.string ⟨#[125,125]⟩] 9 (0,0) 3 _ rfl)).mono ?_;rintro x w1 ⟨r,g,cap1,rfl,hr,hst,hrl,hrg,g1⟩;rw [World.size_alloc] at hrl;have k0:=World.ownsRow.cells hst rfl 0 _ rfl;have k1:=World.ownsRow.cells hst rfl 1 _ rfl;have k2:=World.ownsRow.cells hst rfl 2 _ rfl;have k3:=World.ownsRow.cells hst rfl 3 _ rfl))
  | (go_at_call 70;go_loud (refine (replace_braces _ r g cap1 (strL [33]) (.inr rfl) hr (Ne.symm hrg) k0 k1 k2 k3).mono ?_;rintro x w2 ⟨rfl,g2⟩;have fR:=(((Fr.refl [] w3).alloc (.cells #[.string ⟨#[123]⟩,.string ⟨#[123,123]⟩,.string ⟨#[125]⟩,.string ⟨#[125,125]⟩] 9)).then g1).after g2 (by simp;omega);have hB:=builder_fr hB fR;have rP:=fR.row rP (by simp);replace F:=F.then fR;have hsz:=Nat.le_trans hsz fR.size;clear k0 k1 k2 k3 hr hst hrl hrg g1 g2 fR))
  | (go_at_call 68;go_loud (refine (writeStr _ _ _ [33] _ hB (by simp) (by omega)).mono ?_;rintro x V3 ⟨rfl,hB,hb3,hk3⟩;replace F:=F.belowB hb3 (by omega);have hsz:=Nat.le_trans hsz hb3.size;have rP:=row_kept hk3 rP (by decide) (by omega);clear hb3 hk3)))
 rw [rounds_succ]
 go_wp2_with (go_at_call 36;go_loud (refine (Tryz.Builder_String_any_k _ _ _ _ hB (by omega)).mono ?_;rintro x w4 ⟨rfl,-,hb4,-⟩))
 go_ret
 exact⟨rfl,F.belowB hb4 (by omega)⟩
end Go.Proofs.YtcmndpjemdjalaaGreatDoor
namespace Go.Proofs.YtcmndpjemdjalaaGreatDoor
open Go.RowKit
theorem writeIs_6s:WriteIs 2 0 8 6 (-1) (strL [123,45,54,115,125]):=fun w o b cap hb h0=>write_6s w o b cap 6 (by decide) (by decide) hb h0
theorem compileIs_6s:CompileIs 2 0 8 6 (-1) (strL [123,45,54,115,125]):=fun w=>compile_one w 45 [54,115,125] 2 8 6 (-1) 0 (by simp) (by decide) (fun W b h=>field_6s W b _ h)
end Go.Proofs.YtcmndpjemdjalaaGreatDoor
