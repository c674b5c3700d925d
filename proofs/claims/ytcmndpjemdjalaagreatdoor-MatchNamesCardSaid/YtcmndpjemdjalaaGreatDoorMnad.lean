/- Laws that the claimed theorem leans on: no condition of their own beyond their hypotheses. -/
import Derived.Laws.IdiomStrings
import Derived.Deep.OwnRows
import Derived.Test.YtcmndpjemdjalaaGreatDoorMaav
import Derived.Test.YtcmndpjemdjalaaGreatDoorMaaw
import Derived.Test.YtcmndpjemdjalaaGreatDoorMaba
import Derived.Test.YtcmndpjemdjalaaGreatDoorMnab
import Derived.Test.YtcmndpjemdjalaaGreatDoorMnac
set_option maxRecDepth 100000
set_option maxHeartbeats 16000000
namespace Go.Proofs.YtcmndpjemdjalaaGreatDoor
open Go.RowKit
theorem write_5f (w:World) (o:Value) (b cap:Nat) (q:Nat) (hq:q<10) (hq0:((q:Int) != 0)=true) (p:Nat) (hp:p<10) (_hb:b<w.heap.size)
  (h0:w.cell? ⟨b,0,none⟩=some (.iface 117 (.agg #[.int .u8 3,.int .i64 2]))) :
  Calls Tryz.prog 43 #[apiPlan o (q:Nat) (p:Nat) 0,.slice (some ⟨b,0,none⟩) 1 cap] w fun x w'=>x=.returned (.string (strL [123,32,dig q,46,dig p,102,125]))∧Fr [] w w':=by
 have ta1:∀ v w,(Instr.typeAssert (.iface 117 v) 71 111 true).run Tryz.prog w=.ok (.tuple #[.string ⟨#[]⟩,.bool false]) w:=fun _ _=>by kernel_rfl
 have ta2:∀ v w,(Instr.typeAssert (.iface 117 v) 71 117 true).run Tryz.prog w=.ok (.tuple #[v,.bool true]) w:=fun _ _=>by kernel_rfl
 unfold apiPlan
 go_enter Tryz.func43,Tryz.ntmps43
 go_wp2_with fail
 have fA:=(Fr.refl [] w).alloc (.cells #[o,.int .i64 (q:Nat),.int .i64 (p:Nat),.int .u8 0] 37)
 have fB:=(Fr.refl [] (w.alloc (.cells #[o,.int .i64 (q:Nat),.int .i64 (p:Nat),.int .u8 0] 37))).alloc (.cells #[.pointer none,.slice none 0 0] 109)
 have rP:=fB.row (row_new w (.cells #[o,.int .i64 (q:Nat),.int .i64 (p:Nat),.int .u8 0] 37)) (by simp)
 have rB:=row_new (w.alloc (.cells #[o,.int .i64 (q:Nat),.int .i64 (p:Nat),.int .u8 0] 37)) (.cells #[.pointer none,.slice none 0 0] 109)
 rw [World.size_alloc] at rB
 have fW:=fA.then fB
 clear fA fB
 generalize hW:(w.alloc (.cells #[o,.int .i64 (q:Nat),.int .i64 (p:Nat),.int .u8 0] 37)).alloc (.cells #[.pointer none,.slice none 0 0] 109)=W at *
 have hWs:W.heap.size=w.heap.size+1+1:=by rw [← hW];simp
 have h0:=fW.stay h0 (by simp)
 refine wp_loop_rounds 2 ?_
 rw [rounds_succ]
 go_wp2_with fail
 have fX:=(Fr.refl [] W).alloc (.cells #[.int .u8 3,.int .i64 2] 117)
 have rP:=fX.row rP (by simp)
 have rB:=fX.row rB (by simp)
 have rF:=row_new W (.cells #[.int .u8 3,.int .i64 2] 117)
 have F:=fW.then fX
 have hXs:(W.alloc (.cells #[.int .u8 3,.int .i64 2] 117)).heap.size=w.heap.size+1+1+1:=by rw [World.size_alloc,hWs]
 rw [hWs] at rF
 generalize W.alloc (.cells #[.int .u8 3,.int .i64 2] 117)=X at *
 have c1:X.cell? ⟨w.heap.size+1+1,1,none⟩=some (.int .i64 2):=by rw [cell_of_row _ _ 1 _ _ _ rF];rfl
 clear hW fX fW
 refine region_mono [] 14 [[],[],[1],[2],[0,3],[4],[5],[],[],[8],[9],[7,10],[11],[6,12]] [some (StrsAt 3 2 ⟨#[32]⟩),none,none,none,some (StrAt 2 ⟨#[32]⟩),none,none,some (StrsAt 3 0 ⟨#[]⟩),none,none,none,some (StrAt 0 ⟨#[]⟩),none,none] (by kernel_rfl) (by kernel_rfl) ?_
 simp only [Chain,fill,Act.put,List.nil_append,List.cons_append,List.take_succ_cons,List.take_zero,List.drop_succ_cons,List.drop_zero,List.setIfInBounds_toArray,List.set_cons_zero,List.set_cons_succ,Nat.reduceAdd]
 refine⟨StrsAt.lasts _ _ _,?_,?_⟩
 ·intro vs w2 hf hh K hK;have c1:=hf.stayd c1;simp only [Held] at hh;(try simp only [] at hK ⊢);go_simp;exact hK _ _ ⟨⟨w2.heap.size,rfl,cell_new w2 _ _ _ 2 _ rfl⟩,(Fr.refl [] w2).alloc _⟩
 iterate 3 (apply Exists.intro;apply And.intro;·intro vs w2 hf hh K hK;have c1:=hf.stayd c1;simp only [Held,List.getD_cons_zero,List.getD_cons_succ,Just,and_true] at hh;(try simp only [hh] at hK ⊢);go_simp;exact hK _ _ ⟨rfl,Fr.refl _ _⟩)
 refine⟨StrAt.lasts _ _,?_,?_⟩
 ·intro vs w2 hf hh K hK;have c1:=hf.stayd c1;simp only [Held,List.getD_cons_zero,List.getD_cons_succ,Just,and_true] at hh;(try simp only [hh] at hK ⊢);obtain⟨⟨g,hg,hc⟩,h3⟩:=hh;simp only [hg] at hK ⊢;go_simp;exact hK _ _ ⟨⟨g,rfl,hc⟩,Fr.refl _ _⟩
 apply Exists.intro;apply And.intro
 ·intro vs w2 hf hh K hK;have c1:=hf.stayd c1;simp only [Held,List.getD_cons_zero,List.getD_cons_succ,and_true] at hh;(try simp only [] at hK ⊢);obtain⟨g,hg,hc⟩:=hh;simp only [hg] at hK ⊢;go_simp;exact hK _ _ ⟨rfl,Fr.refl _ _⟩
 apply Exists.intro;apply And.intro
 ·intro vs w2 hf hh K hK;simp only [Held,List.getD_cons_zero,List.getD_cons_succ,Just,and_true] at hh;(try simp only [hh] at hK ⊢);go_simp;exact hK _ _ ⟨rfl,Fr.refl _ _⟩
 refine⟨StrsAt.lasts _ _ _,?_,?_⟩
 ·intro vs w2 hf hh K hK;have c1:=hf.stayd c1;simp only [Held] at hh;(try simp only [] at hK ⊢);go_simp;exact hK _ _ ⟨⟨w2.heap.size,rfl,cell_new w2 _ _ _ 0 _ rfl⟩,(Fr.refl [] w2).alloc _⟩
 iterate 3 (apply Exists.intro;apply And.intro;·intro vs w2 hf hh K hK;have c1:=hf.stayd c1;simp only [Held,List.getD_cons_zero,List.getD_cons_succ,Just,and_true] at hh;(try simp only [hh] at hK ⊢);go_simp;exact hK _ _ ⟨rfl,Fr.refl _ _⟩)
 refine⟨StrAt.lasts _ _,?_,?_⟩
 ·intro vs w2 hf hh K hK;have c1:=hf.stayd c1;simp only [Held,List.getD_cons_zero,List.getD_cons_succ,Just,and_true] at hh;(try simp only [hh] at hK ⊢);obtain⟨⟨g,hg,hc⟩,h3⟩:=hh;simp only [hg] at hK ⊢;go_simp;exact hK _ _ ⟨⟨g,rfl,hc⟩,Fr.refl _ _⟩
 apply Exists.intro;apply And.intro
 ·intro vs w2 hf hh K hK;have c1:=hf.stayd c1;simp only [Held,List.getD_cons_zero,List.getD_cons_succ,and_true] at hh;(try simp only [] at hK ⊢);obtain⟨g,hg,hc⟩:=hh;simp only [hg] at hK ⊢;go_simp;exact hK _ _ ⟨rfl,Fr.refl _ _⟩
 apply Exists.intro;apply And.intro
 ·intro vs w2 hf hh K hK;simp only [Held,List.getD_cons_zero,List.getD_cons_succ,Just,and_true] at hh;(try simp only [hh] at hK ⊢);go_simp;exact hK _ _ ⟨rfl,Fr.refl _ _⟩
 intro vs w2 hf hh
 simp only [HeldAll,Just,and_true,Nat.reduceAdd] at hh
 obtain⟨e0,e1,e2,e3,e4,e5,e6,e7,e8,e9,e10,e11,e12,e13⟩:=hh
 simp only [e1,e2,e3,e5,e6,e8,e9,e10,e12,e13]
 clear e1 e2 e3 e5 e6 e8 e9 e10 e12 e13
 generalize vs 0=v0 at e0 ⊢
 generalize vs 4=v4 at e4 ⊢
 generalize vs 7=v7 at e7 ⊢
 generalize vs 11=v11 at e11 ⊢
 clear vs
 have c1:=hf.stayd c1
 have rB:=hf.row (w:=X.drew) rB (by simp)
 have H:WrAt w w2 o (q:Nat) (p:Nat) 0 3 2:=⟨hf.row (w:=X.drew) rP (by simp),hf.row (w:=X.drew) rF (by simp)⟩
 have hX2:X.heap.size≤w2.heap.size:=hf.size
 have F:=F.drew.then hf
 clear hf c1 e0 e4 e7 e11 rP rF
 have hB:=fresh_row rB
 have hsz:w.heap.size+1≤w2.heap.size:=by omega
 have a1:=H.a1
 have a2:=H.a2
 have a3:=H.a3
 have d0:=H.d0
 clear rB
 have hs0:(⟨#[123]⟩++⟨#[32]⟩++⟨#[]⟩:ByteArray)=strL [123,32]:=by show strL [123]++strL [32]++strL []=_;rw [cat_l,cat_l];rfl
 have hs1:(⟨#[46]⟩++strL [dig p]:ByteArray)=strL [46,dig p]:=cat_l [46] [dig p]
 go_wp2_with (first
  | (go_at_call 68;rw [hs0];go_loud (refine (writeStr _ _ [] [123,32] _ hB (by simp) (by omega)).mono ?_;rintro x w3 ⟨rfl,hB,hb3,hk3⟩;replace F:=F.belowB hb3 (by omega);have hsz:=Nat.le_trans hsz hb3.size;have H:=H.kept hk3;have a1:=H.a1;have a2:=H.a2;have a3:=H.a3;have d0:=H.d0))
  | (go_at_call 71;with_reducible refine (itoa_digit _ q hq).mono ?_;rintro x w3 ⟨rfl,hw⟩;subst hw)
  | (go_at_call 68;(with_reducible show Calls _ _ #[_,.string (strL [dig q])] _ _);go_loud (refine (writeStr _ _ _ [dig q] _ hB (by simp) (by omega)).mono ?_;rintro x w3 ⟨rfl,hB,hb3,hk3⟩;replace F:=F.belowB hb3 (by omega);have hsz:=Nat.le_trans hsz hb3.size;have H:=H.kept hk3;have a1:=H.a1;have a2:=H.a2;have a3:=H.a3;have d0:=H.d0))
  | (go_at_call 71;go_loud (refine (itoa_digit _ p hp).mono ?_;rintro x w3 ⟨rfl,hw⟩;subst hw))
  | (go_at_call 68;(with_reducible show Calls _ _ #[_,.string (strL [46,dig p])] _ _);go_loud (refine (writeStr _ _ _ [46,dig p] _ hB (by simp) (by omega)).mono ?_;rintro x w3 ⟨rfl,hB,hb3,hk3⟩;replace F:=F.belowB hb3 (by omega);have hsz:=Nat.le_trans hsz hb3.size;have H:=H.kept hk3;have a1:=H.a1;have a2:=H.a2;have a3:=H.a3;have d0:=H.d0))
  | (go_at_call 38;(with_reducible show Calls _ _ #[_,.int .u8 125] _ _);go_loud (refine (writeOne _ _ _ 125 _ hB (by simp) (by omega)).mono ?_;rintro x w3 ⟨rfl,hB,hb3,hk3⟩;replace F:=F.belowB hb3 (by omega);have hsz:=Nat.le_trans hsz hb3.size;have H:=H.kept hk3;have a1:=H.a1;have a2:=H.a2;have a3:=H.a3;have d0:=H.d0))
  | (go_at_call 38;go_loud (refine (writeOne _ _ _ 102 _ hB (by simp) (by omega)).mono ?_;rintro x w3 ⟨rfl,hB,hb3,hk3⟩;replace F:=F.belowB hb3 (by omega);have hsz:=Nat.le_trans hsz hb3.size;have H:=H.kept hk3;have a1:=H.a1;have a2:=H.a2;have a3:=H.a3;have d0:=H.d0)))
 rw [rounds_succ]
 go_wp2_with (go_at_call 36;go_loud (refine (Tryz.Builder_String_any_k _ _ _ _ hB (by omega)).mono ?_;rintro x w4 ⟨rfl,-,hb4,-⟩))
 go_ret
 exact⟨rfl,F.belowB hb4 (by omega)⟩
theorem write_5x (w:World) (o:Value) (b cap:Nat) (q:Nat) (hq:q<10) (hq0:((q:Int) != 0)=true) (_hb:b<w.heap.size)
  (h0:w.cell? ⟨b,0,none⟩=some (.iface 117 (.agg #[.int .u8 6,.int .i64 4]))) :
  Calls Tryz.prog 43 #[apiPlan o (q:Nat) (-1) 0,.slice (some ⟨b,0,none⟩) 1 cap] w fun x w'=>x=.returned (.string (strL [123,48,dig q,120,125]))∧Fr [] w w':=by
 have ta1:∀ v w,(Instr.typeAssert (.iface 117 v) 71 111 true).run Tryz.prog w=.ok (.tuple #[.string ⟨#[]⟩,.bool false]) w:=fun _ _=>by kernel_rfl
 have ta2:∀ v w,(Instr.typeAssert (.iface 117 v) 71 117 true).run Tryz.prog w=.ok (.tuple #[v,.bool true]) w:=fun _ _=>by kernel_rfl
 unfold apiPlan
 go_enter Tryz.func43,Tryz.ntmps43
 go_wp2_with fail
 have fA:=(Fr.refl [] w).alloc (.cells #[o,.int .i64 (q:Nat),.int .i64 (-1),.int .u8 0] 37)
 have fB:=(Fr.refl [] (w.alloc (.cells #[o,.int .i64 (q:Nat),.int .i64 (-1),.int .u8 0] 37))).alloc (.cells #[.pointer none,.slice none 0 0] 109)
 have rP:=fB.row (row_new w (.cells #[o,.int .i64 (q:Nat),.int .i64 (-1),.int .u8 0] 37)) (by simp)
 have rB:=row_new (w.alloc (.cells #[o,.int .i64 (q:Nat),.int .i64 (-1),.int .u8 0] 37)) (.cells #[.pointer none,.slice none 0 0] 109)
 rw [World.size_alloc] at rB
 have fW:=fA.then fB
 clear fA fB
 generalize hW:(w.alloc (.cells #[o,.int .i64 (q:Nat),.int .i64 (-1),.int .u8 0] 37)).alloc (.cells #[.pointer none,.slice none 0 0] 109)=W at *
 have hWs:W.heap.size=w.heap.size+1+1:=by rw [← hW];simp
 have h0:=fW.stay h0 (by simp)
 refine wp_loop_rounds 2 ?_
 rw [rounds_succ]
 go_wp2_with fail
 have fX:=(Fr.refl [] W).alloc (.cells #[.int .u8 6,.int .i64 4] 117)
 have rP:=fX.row rP (by simp)
 have rB:=fX.row rB (by simp)
 have rF:=row_new W (.cells #[.int .u8 6,.int .i64 4] 117)
 have F:=fW.then fX
 have hXs:(W.alloc (.cells #[.int .u8 6,.int .i64 4] 117)).heap.size=w.heap.size+1+1+1:=by rw [World.size_alloc,hWs]
 rw [hWs] at rF
 generalize W.alloc (.cells #[.int .u8 6,.int .i64 4] 117)=X at *
 have c1:X.cell? ⟨w.heap.size+1+1,1,none⟩=some (.int .i64 4):=by rw [cell_of_row _ _ 1 _ _ _ rF];rfl
 clear hW fX fW
 refine region_mono [] 14 [[],[],[1],[2],[0,3],[4],[5],[],[],[8],[9],[7,10],[11],[6,12]] [some (StrsAt 3 0 ⟨#[]⟩),none,none,none,some (StrAt 0 ⟨#[]⟩),none,none,some (StrsAt 3 1 ⟨#[48]⟩),none,none,none,some (StrAt 1 ⟨#[48]⟩),none,none] (by kernel_rfl) (by kernel_rfl) ?_
 simp only [Chain,fill,Act.put,List.nil_append,List.cons_append,List.take_succ_cons,List.take_zero,List.drop_succ_cons,List.drop_zero,List.setIfInBounds_toArray,List.set_cons_zero,List.set_cons_succ,Nat.reduceAdd]
 refine⟨StrsAt.lasts _ _ _,?_,?_⟩
 ·intro vs w2 hf hh K hK;have c1:=hf.stayd c1;simp only [Held] at hh;(try simp only [] at hK ⊢);go_simp;exact hK _ _ ⟨⟨w2.heap.size,rfl,cell_new w2 _ _ _ 0 _ rfl⟩,(Fr.refl [] w2).alloc _⟩
 iterate 3 (apply Exists.intro;apply And.intro;·intro vs w2 hf hh K hK;have c1:=hf.stayd c1;simp only [Held,List.getD_cons_zero,List.getD_cons_succ,Just,and_true] at hh;(try simp only [hh] at hK ⊢);go_simp;exact hK _ _ ⟨rfl,Fr.refl _ _⟩)
 refine⟨StrAt.lasts _ _,?_,?_⟩
 ·intro vs w2 hf hh K hK;have c1:=hf.stayd c1;simp only [Held,List.getD_cons_zero,List.getD_cons_succ,Just,and_true] at hh;(try simp only [hh] at hK ⊢);obtain⟨⟨g,hg,hc⟩,h3⟩:=hh;simp only [hg] at hK ⊢;go_simp;exact hK _ _ ⟨⟨g,rfl,hc⟩,Fr.refl _ _⟩
 apply Exists.intro;apply And.intro
 ·intro vs w2 hf hh K hK;have c1:=hf.stayd c1;simp only [Held,List.getD_cons_zero,List.getD_cons_succ,and_true] at hh;(try simp only [] at hK ⊢);obtain⟨g,hg,hc⟩:=hh;simp only [hg] at hK ⊢;go_simp;exact hK _ _ ⟨rfl,Fr.refl _ _⟩
 apply Exists.intro;apply And.intro
 ·intro vs w2 hf hh K hK;simp only [Held,List.getD_cons_zero,List.getD_cons_succ,Just,and_true] at hh;(try simp only [hh] at hK ⊢);go_simp;exact hK _ _ ⟨rfl,Fr.refl _ _⟩
 refine⟨StrsAt.lasts _ _ _,?_,?_⟩
 ·intro vs w2 hf hh K hK;have c1:=hf.stayd c1;simp only [Held] at hh;(try simp only [] at hK ⊢);go_simp;exact hK _ _ ⟨⟨w2.heap.size,rfl,cell_new w2 _ _ _ 1 _ rfl⟩,(Fr.refl [] w2).alloc _⟩
 iterate 3 (apply Exists.intro;apply And.intro;·intro vs w2 hf hh K hK;have c1:=hf.stayd c1;simp only [Held,List.getD_cons_zero,List.getD_cons_succ,Just,and_true] at hh;(try simp only [hh] at hK ⊢);go_simp;exact hK _ _ ⟨rfl,Fr.refl _ _⟩)
 refine⟨StrAt.lasts _ _,?_,?_⟩
 ·intro vs w2 hf hh K hK;have c1:=hf.stayd c1;simp only [Held,List.getD_cons_zero,List.getD_cons_succ,Just,and_true] at hh;(try simp only [hh] at hK ⊢);obtain⟨⟨g,hg,hc⟩,h3⟩:=hh;simp only [hg] at hK ⊢;go_simp;exact hK _ _ ⟨⟨g,rfl,hc⟩,Fr.refl _ _⟩
 apply Exists.intro;apply And.intro
 ·intro vs w2 hf hh K hK;have c1:=hf.stayd c1;simp only [Held,List.getD_cons_zero,List.getD_cons_succ,and_true] at hh;(try simp only [] at hK ⊢);obtain⟨g,hg,hc⟩:=hh;simp only [hg] at hK ⊢;go_simp;exact hK _ _ ⟨rfl,Fr.refl _ _⟩
 apply Exists.intro;apply And.intro
 ·intro vs w2 hf hh K hK;simp only [Held,List.getD_cons_zero,List.getD_cons_succ,Just,and_true] at hh;(try simp only [hh] at hK ⊢);go_simp;exact hK _ _ ⟨rfl,Fr.refl _ _⟩
 intro vs w2 hf hh
 simp only [HeldAll,Just,and_true,Nat.reduceAdd] at hh
 obtain⟨e0,e1,e2,e3,e4,e5,e6,e7,e8,e9,e10,e11,e12,e13⟩:=hh
 simp only [e1,e2,e3,e5,e6,e8,e9,e10,e12,e13]
 clear e1 e2 e3 e5 e6 e8 e9 e10 e12 e13
 generalize vs 0=v0 at e0 ⊢
 generalize vs 4=v4 at e4 ⊢
 generalize vs 7=v7 at e7 ⊢
 generalize vs 11=v11 at e11 ⊢
 clear vs
 have c1:=hf.stayd c1
 have rB:=hf.row (w:=X.drew) rB (by simp)
 have H:WrAt w w2 o (q:Nat) (-1) 0 6 4:=⟨hf.row (w:=X.drew) rP (by simp),hf.row (w:=X.drew) rF (by simp)⟩
 have hX2:X.heap.size≤w2.heap.size:=hf.size
 have F:=F.drew.then hf
 clear hf c1 e0 e4 e7 e11 rP rF
 have hB:=fresh_row rB
 have hsz:w.heap.size+1≤w2.heap.size:=by omega
 have a1:=H.a1
 have a2:=H.a2
 have a3:=H.a3
 have d0:=H.d0
 clear rB
 have hs0:(⟨#[123]⟩++⟨#[]⟩++⟨#[48]⟩:ByteArray)=strL [123,48]:=by show strL [123]++strL []++strL [48]=_;rw [cat_l,cat_l];rfl
 go_wp2_with (first
  | (go_at_call 68;rw [hs0];go_loud (refine (writeStr _ _ [] [123,48] _ hB (by simp) (by omega)).mono ?_;rintro x w3 ⟨rfl,hB,hb3,hk3⟩;replace F:=F.belowB hb3 (by omega);have hsz:=Nat.le_trans hsz hb3.size;have H:=H.kept hk3;have a1:=H.a1;have a2:=H.a2;have a3:=H.a3;have d0:=H.d0))
  | (go_at_call 71;with_reducible refine (itoa_digit _ q hq).mono ?_;rintro x w3 ⟨rfl,hw⟩;subst hw)
  | (go_at_call 68;(with_reducible show Calls _ _ #[_,.string (strL [dig q])] _ _);go_loud (refine (writeStr _ _ _ [dig q] _ hB (by simp) (by omega)).mono ?_;rintro x w3 ⟨rfl,hB,hb3,hk3⟩;replace F:=F.belowB hb3 (by omega);have hsz:=Nat.le_trans hsz hb3.size;have H:=H.kept hk3;have a1:=H.a1;have a2:=H.a2;have a3:=H.a3;have d0:=H.d0))
  | (go_at_call 38;(with_reducible show Calls _ _ #[_,.int .u8 125] _ _);go_loud (refine (writeOne _ _ _ 125 _ hB (by simp) (by omega)).mono ?_;rintro x w3 ⟨rfl,hB,hb3,hk3⟩;replace F:=F.belowB hb3 (by omega);have hsz:=Nat.le_trans hsz hb3.size;have H:=H.kept hk3;have a1:=H.a1;have a2:=H.a2;have a3:=H.a3;have d0:=H.d0))
  | (go_at_call 38;go_loud (refine (writeOne _ _ _ 120 _ hB (by simp) (by omega)).mono ?_;rintro x w3 ⟨rfl,hB,hb3,hk3⟩;replace F:=F.belowB hb3 (by omega);have hsz:=Nat.le_trans hsz hb3.size;have H:=H.kept hk3;have a1:=H.a1;have a2:=H.a2;have a3:=H.a3;have d0:=H.d0)))
 rw [rounds_succ]
 go_wp2_with (go_at_call 36;go_loud (refine (Tryz.Builder_String_any_k _ _ _ _ hB (by omega)).mono ?_;rintro x w4 ⟨rfl,-,hb4,-⟩))
 go_ret
 exact⟨rfl,F.belowB hb4 (by omega)⟩
theorem write_8s (w:World) (o:Value) (b cap:Nat) (q:Nat) (hq:q<10) (hq0:((q:Int) != 0)=true) (_hb:b<w.heap.size)
  (h0:w.cell? ⟨b,0,none⟩=some (.iface 117 (.agg #[.int .u8 2,.int .i64 5]))) :
  Calls Tryz.prog 43 #[apiPlan o (q:Nat) (-1) 0,.slice (some ⟨b,0,none⟩) 1 cap] w fun x w'=>x=.returned (.string (strL [123,43,48,dig q,115,125]))∧Fr [] w w':=by
 have ta1:∀ v w,(Instr.typeAssert (.iface 117 v) 71 111 true).run Tryz.prog w=.ok (.tuple #[.string ⟨#[]⟩,.bool false]) w:=fun _ _=>by kernel_rfl
 have ta2:∀ v w,(Instr.typeAssert (.iface 117 v) 71 117 true).run Tryz.prog w=.ok (.tuple #[v,.bool true]) w:=fun _ _=>by kernel_rfl
 unfold apiPlan
 go_enter Tryz.func43,Tryz.ntmps43
 go_wp2_with fail
 have fA:=(Fr.refl [] w).alloc (.cells #[o,.int .i64 (q:Nat),.int .i64 (-1),.int .u8 0] 37)
 have fB:=(Fr.refl [] (w.alloc (.cells #[o,.int .i64 (q:Nat),.int .i64 (-1),.int .u8 0] 37))).alloc (.cells #[.pointer none,.slice none 0 0] 109)
 have rP:=fB.row (row_new w (.cells #[o,.int .i64 (q:Nat),.int .i64 (-1),.int .u8 0] 37)) (by simp)
 have rB:=row_new (w.alloc (.cells #[o,.int .i64 (q:Nat),.int .i64 (-1),.int .u8 0] 37)) (.cells #[.pointer none,.slice none 0 0] 109)
 rw [World.size_alloc] at rB
 have fW:=fA.then fB
 clear fA fB
 generalize hW:(w.alloc (.cells #[o,.int .i64 (q:Nat),.int .i64 (-1),.int .u8 0] 37)).alloc (.cells #[.pointer none,.slice none 0 0] 109)=W at *
 have hWs:W.heap.size=w.heap.size+1+1:=by rw [← hW];simp
 have h0:=fW.stay h0 (by simp)
 refine wp_loop_rounds 2 ?_
 rw [rounds_succ]
 go_wp2_with fail
 have fX:=(Fr.refl [] W).alloc (.cells #[.int .u8 2,.int .i64 5] 117)
 have rP:=fX.row rP (by simp)
 have rB:=fX.row rB (by simp)
 have rF:=row_new W (.cells #[.int .u8 2,.int .i64 5] 117)
 have F:=fW.then fX
 have hXs:(W.alloc (.cells #[.int .u8 2,.int .i64 5] 117)).heap.size=w.heap.size+1+1+1:=by rw [World.size_alloc,hWs]
 rw [hWs] at rF
 generalize W.alloc (.cells #[.int .u8 2,.int .i64 5] 117)=X at *
 have c1:X.cell? ⟨w.heap.size+1+1,1,none⟩=some (.int .i64 5):=by rw [cell_of_row _ _ 1 _ _ _ rF];rfl
 clear hW fX fW
 refine region_mono [] 14 [[],[],[1],[2],[0,3],[4],[5],[],[],[8],[9],[7,10],[11],[6,12]] [some (StrsAt 3 1 ⟨#[43]⟩),none,none,none,some (StrAt 1 ⟨#[43]⟩),none,none,some (StrsAt 3 1 ⟨#[48]⟩),none,none,none,some (StrAt 1 ⟨#[48]⟩),none,none] (by kernel_rfl) (by kernel_rfl) ?_
 simp only [Chain,fill,Act.put,List.nil_append,List.cons_append,List.take_succ_cons,List.take_zero,List.drop_succ_cons,List.drop_zero,List.setIfInBounds_toArray,List.set_cons_zero,List.set_cons_succ,Nat.reduceAdd]
 refine⟨StrsAt.lasts _ _ _,?_,?_⟩
 ·intro vs w2 hf hh K hK;have c1:=hf.stayd c1;simp only [Held] at hh;(try simp only [] at hK ⊢);go_simp;exact hK _ _ ⟨⟨w2.heap.size,rfl,cell_new w2 _ _ _ 1 _ rfl⟩,(Fr.refl [] w2).alloc _⟩
 iterate 3 (apply Exists.intro;apply And.intro;·intro vs w2 hf hh K hK;have c1:=hf.stayd c1;simp only [Held,List.getD_cons_zero,List.getD_cons_succ,Just,and_true] at hh;(try simp only [hh] at hK ⊢);go_simp;exact hK _ _ ⟨rfl,Fr.refl _ _⟩)
 refine⟨StrAt.lasts _ _,?_,?_⟩
 ·intro vs w2 hf hh K hK;have c1:=hf.stayd c1;simp only [Held,List.getD_cons_zero,List.getD_cons_succ,Just,and_true] at hh;(try simp only [hh] at hK ⊢);obtain⟨⟨g,hg,hc⟩,h3⟩:=hh;simp only [hg] at hK ⊢;go_simp;exact hK _ _ ⟨⟨g,rfl,hc⟩,Fr.refl _ _⟩
 apply Exists.intro;apply And.intro
 ·intro vs w2 hf hh K hK;have c1:=hf.stayd c1;simp only [Held,List.getD_cons_zero,List.getD_cons_succ,and_true] at hh;(try simp only [] at hK ⊢);obtain⟨g,hg,hc⟩:=hh;simp only [hg] at hK ⊢;go_simp;exact hK _ _ ⟨rfl,Fr.refl _ _⟩
 apply Exists.intro;apply And.intro
 ·intro vs w2 hf hh K hK;simp only [Held,List.getD_cons_zero,List.getD_cons_succ,Just,and_true] at hh;(try simp only [hh] at hK ⊢);go_simp;exact hK _ _ ⟨rfl,Fr.refl _ _⟩
 refine⟨StrsAt.lasts _ _ _,?_,?_⟩
 ·intro vs w2 hf hh K hK;have c1:=hf.stayd c1;simp only [Held] at hh;(try simp only [] at hK ⊢);go_simp;exact hK _ _ ⟨⟨w2.heap.size,rfl,cell_new w2 _ _ _ 1 _ rfl⟩,(Fr.refl [] w2).alloc _⟩
 iterate 3 (apply Exists.intro;apply And.intro;·intro vs w2 hf hh K hK;have c1:=hf.stayd c1;simp only [Held,List.getD_cons_zero,List.getD_cons_succ,Just,and_true] at hh;(try simp only [hh] at hK ⊢);go_simp;exact hK _ _ ⟨rfl,Fr.refl _ _⟩)
 refine⟨StrAt.lasts _ _,?_,?_⟩
 ·intro vs w2 hf hh K hK;have c1:=hf.stayd c1;simp only [Held,List.getD_cons_zero,List.getD_cons_succ,Just,and_true] at hh;(try simp only [hh] at hK ⊢);obtain⟨⟨g,hg,hc⟩,h3⟩:=hh;simp only [hg] at hK ⊢;go_simp;exact hK _ _ ⟨⟨g,rfl,hc⟩,Fr.refl _ _⟩
 apply Exists.intro;apply And.intro
 ·intro vs w2 hf hh K hK;have c1:=hf.stayd c1;simp only [Held,List.getD_cons_zero,List.getD_cons_succ,and_true] at hh;(try simp only [] at hK ⊢);obtain⟨g,hg,hc⟩:=hh;simp only [hg] at hK ⊢;go_simp;exact hK _ _ ⟨rfl,Fr.refl _ _⟩
 apply Exists.intro;apply And.intro
 ·intro vs w2 hf hh K hK;simp only [Held,List.getD_cons_zero,List.getD_cons_succ,Just,and_true] at hh;(try simp only [hh] at hK ⊢);go_simp;exact hK _ _ ⟨rfl,Fr.refl _ _⟩
 intro vs w2 hf hh
 simp only [HeldAll,Just,and_true,Nat.reduceAdd] at hh
 obtain⟨e0,e1,e2,e3,e4,e5,e6,e7,e8,e9,e10,e11,e12,e13⟩:=hh
 simp only [e1,e2,e3,e5,e6,e8,e9,e10,e12,e13]
 clear e1 e2 e3 e5 e6 e8 e9 e10 e12 e13
 generalize vs 0=v0 at e0 ⊢
 generalize vs 4=v4 at e4 ⊢
 generalize vs 7=v7 at e7 ⊢
 generalize vs 11=v11 at e11 ⊢
 clear vs
 have c1:=hf.stayd c1
 have rB:=hf.row (w:=X.drew) rB (by simp)
 have H:WrAt w w2 o (q:Nat) (-1) 0 2 5:=⟨hf.row (w:=X.drew) rP (by simp),hf.row (w:=X.drew) rF (by simp)⟩
 have hX2:X.heap.size≤w2.heap.size:=hf.size
 have F:=F.drew.then hf
 clear hf c1 e0 e4 e7 e11 rP rF
 have hB:=fresh_row rB
 have hsz:w.heap.size+1≤w2.heap.size:=by omega
 have a1:=H.a1
 have a2:=H.a2
 have a3:=H.a3
 have d0:=H.d0
 clear rB
 have hs0:(⟨#[123]⟩++⟨#[43]⟩++⟨#[48]⟩:ByteArray)=strL [123,43,48]:=by show strL [123]++strL [43]++strL [48]=_;rw [cat_l,cat_l];rfl
 go_wp2_with (first
  | (go_at_call 68;rw [hs0];go_loud (refine (writeStr _ _ [] [123,43,48] _ hB (by simp) (by omega)).mono ?_;rintro x w3 ⟨rfl,hB,hb3,hk3⟩;replace F:=F.belowB hb3 (by omega);have hsz:=Nat.le_trans hsz hb3.size;have H:=H.kept hk3;have a1:=H.a1;have a2:=H.a2;have a3:=H.a3;have d0:=H.d0))
  | (go_at_call 71;with_reducible refine (itoa_digit _ q hq).mono ?_;rintro x w3 ⟨rfl,hw⟩;subst hw)
  | (go_at_call 68;(with_reducible show Calls _ _ #[_,.string (strL [dig q])] _ _);go_loud (refine (writeStr _ _ _ [dig q] _ hB (by simp) (by omega)).mono ?_;rintro x w3 ⟨rfl,hB,hb3,hk3⟩;replace F:=F.belowB hb3 (by omega);have hsz:=Nat.le_trans hsz hb3.size;have H:=H.kept hk3;have a1:=H.a1;have a2:=H.a2;have a3:=H.a3;have d0:=H.d0))
  | (go_at_call 38;(with_reducible show Calls _ _ #[_,.int .u8 125] _ _);go_loud (refine (writeOne _ _ _ 125 _ hB (by simp) (by omega)).mono ?_;rintro x w3 ⟨rfl,hB,hb3,hk3⟩;replace F:=F.belowB hb3 (by omega);have hsz:=Nat.le_trans hsz hb3.size;have H:=H.kept hk3;have a1:=H.a1;have a2:=H.a2;have a3:=H.a3;have d0:=H.d0))
  | (go_at_call 38;go_loud (refine (writeOne _ _ _ 115 _ hB (by simp) (by omega)).mono ?_;rintro x w3 ⟨rfl,hB,hb3,hk3⟩;replace F:=F.belowB hb3 (by omega);have hsz:=Nat.le_trans hsz hb3.size;have H:=H.kept hk3;have a1:=H.a1;have a2:=H.a2;have a3:=H.a3;have d0:=H.d0)))
 rw [rounds_succ]
 go_wp2_with (go_at_call 36;go_loud (refine (Tryz.Builder_String_any_k _ _ _ _ hB (by omega)).mono ?_;rintro x w4 ⟨rfl,-,hb4,-⟩))
 go_ret
 exact⟨rfl,F.belowB hb4 (by omega)⟩
end Go.Proofs.YtcmndpjemdjalaaGreatDoor
namespace Go.Proofs.YtcmndpjemdjalaaGreatDoor
open Go.RowKit
theorem field_5f (w:World) (b:Nat) (ops:Value) (h:RdAt w b (strL [123,32,53,46,48,102,125]) ((1:Nat):Int) ops 0 0 0) :
  Calls Tryz.prog 41 #[.pointer (some ⟨b,0,none⟩)] w fun x w'=>x=.returned (.agg #[.int .u8 3,.int .i64 2])∧RdAt w' b (strL [123,32,53,46,48,102,125]) ((7:Nat):Int) ops 5 0 0∧Fr [b] w w':=by
 have hb:=h.lt
 have r2:=row_new w (.cells #[.int .u8 0,.int .i64 0] 117)
 have F:=(Fr.refl [b] w).alloc (.cells #[.int .u8 0,.int .i64 0] 117)
 have h:=h.alloc (.cells #[.int .u8 0,.int .i64 0] 117)
 have sz:w.heap.size+1≤(w.alloc (.cells #[.int .u8 0,.int .i64 0] 117)).heap.size:=by simp
 go_enter Tryz.func41,Tryz.ntmps41
 generalize hW:w.alloc (.cells #[.int .u8 0,.int .i64 0] 117)=W at *
 go_wp2_with (first
  | (go_at_call 63;(with_reducible show Calls _ _ #[_,.string ⟨#[43,32]⟩] _ _);go_loud (refine (readTake_hit _ b _ _ 1 _ _ _ _ 2 h (by show _<(strL _).size;rw [strL_size];simp) (by rw [strL_size];simp) (by show Lib.indexByte [43,32] 32+1=2;decide) (by decide) (by omega)).mono ?_;rintro x w1 ⟨rfl,h,g⟩;have r2:=g.row r2 (by simp;omega);have sz:=Nat.le_trans sz g.size;replace F:=F.trans g (by simp);have rT:=row_new w1 (.cells #[.int .u8 0,.int .i64 2] 117);have r2:=((Fr.refl [] w1).alloc (.cells #[.int .u8 0,.int .i64 2] 117)).row r2 (by simp);have h:=h.alloc (.cells #[.int .u8 0,.int .i64 2] 117);replace F:=F.alloc (.cells #[.int .u8 0,.int .i64 2] 117);have szT:w1.heap.size+1≤(w1.alloc (.cells #[.int .u8 0,.int .i64 2] 117)).heap.size:=(by simp)))
  | (go_at_call 63;(with_reducible show Calls _ _ #[_,.string ⟨#[48,45]⟩] _ _);go_loud (refine (readTake_miss _ b _ _ 2 _ _ _ _ 0 h (by show _<(strL _).size;rw [strL_size];simp) (by rw [strL_size];simp) (by show Lib.indexByte [48,45] 53+1=0;decide) rfl (by omega)).mono ?_;rintro x w2 ⟨rfl,h,g⟩;have r2:=g.row r2 (by simp;omega);have rT:=g.row rT (by simp;omega);have szT:=Nat.le_trans szT g.size;replace F:=F.trans g (by simp)))
  | (go_at_call 64;(with_reducible show Calls _ _ #[_,.int .u8 49] _ _);go_loud (refine (readDigit_is _ b _ 49 2 _ _ _ _ true h (by show _<(strL _).size;rw [strL_size];simp) (by rw [digitAt,dif_pos (by show _<(strL _).size;rw [strL_size];simp)];show (decide (49≤(53:UInt8).toNat) && decide ((53:UInt8).toNat≤57))=true;decide)).mono ?_;rintro x w3 ⟨rfl,g⟩;have h:=h.fr g (by simp);have r2:=g.row r2 (by simp);have rT:=g.row rT (by simp);have szT:=Nat.le_trans szT g.size;replace F:=F.then g))
  | (go_at_call 65;(with_reducible show Calls _ _ #[_,.int .i64 256,_] _ _);go_loud (refine (readNum _ b _ 2 5 256 _ _ _ _ _ h (by show _<(strL _).size;rw [strL_size];simp) (by rw [strL_size];simp) (by decide) (by show (53:UInt8)=dig 5;decide) (by rw [digitAt,dif_pos (by show _<(strL _).size;rw [strL_size];simp)];show (decide (48≤(46:UInt8).toNat) && decide ((46:UInt8).toNat≤57))=false;decide) (by omega)).mono ?_;rintro x w6 ⟨rfl,h,g⟩;have r2:=g.row r2 (by simp;omega);have rT:=g.row rT (by simp;omega);have szT:=Nat.le_trans szT g.size;replace F:=F.trans g (by simp);have c3:=h.c3;have z3:=h.z 3 (by omega);have h:=h.set3 5;have gS:=(Fr.refl [b] w6).setCell (p:=⟨b,3,none⟩) (.inl (by simp)) (.int .i64 5);have r2:=gS.row r2 (by simp;omega);have rT:=gS.row rT (by simp;omega);replace F:=F.trans gS (by simp);have szS:=gS.size;have szT:=Nat.le_trans szT szS;have c4:=h.c4;have z4:=h.z 4 (by omega);have h:=h.set4 (-1);have gS:=(Fr.refl [b] (w6.setCell ⟨b,3,none⟩ (.int .i64 5))).setCell (p:=⟨b,4,none⟩) (.inl (by simp)) (.int .i64 (-1));have r2:=gS.row r2 (by simp;omega);have rT:=gS.row rT (by simp;omega);replace F:=F.trans gS (by simp);have szS:=gS.size;have szT:=Nat.le_trans szT szS))
  | (go_at_call 63;(with_reducible show Calls _ _ #[_,.string ⟨#[46]⟩] _ _);go_loud (refine (readTake_hit _ b _ _ 3 _ _ _ _ 1 h (by show _<(strL _).size;rw [strL_size];simp) (by rw [strL_size];simp) (by show Lib.indexByte [46] 46+1=1;decide) (by decide) (by omega)).mono ?_;rintro x w4 ⟨rfl,h,g⟩;have r2:=g.row r2 (by simp;omega);have rT:=g.row rT (by simp;omega);have szT:=Nat.le_trans szT g.size;replace F:=F.trans g (by simp)))
  | (go_at_call 64;(with_reducible show Calls _ _ #[_,.int .u8 48] _ _);go_loud (refine (readDigit_is _ b _ 48 4 _ _ _ _ true h (by show _<(strL _).size;rw [strL_size];simp) (by rw [digitAt,dif_pos (by show _<(strL _).size;rw [strL_size];simp)];show (decide (48≤(48:UInt8).toNat) && decide ((48:UInt8).toNat≤57))=true;decide)).mono ?_;rintro x w3 ⟨rfl,g⟩;have h:=h.fr g (by simp);have r2:=g.row r2 (by simp);have rT:=g.row rT (by simp);have szT:=Nat.le_trans szT g.size;replace F:=F.then g))
  | (go_at_call 65;(with_reducible show Calls _ _ #[_,.int .i64 2000,_] _ _);go_loud (refine (readNum _ b _ 4 0 2000 _ _ _ _ _ h (by show _<(strL _).size;rw [strL_size];simp) (by rw [strL_size];simp) (by decide) (by show (48:UInt8)=dig 0;decide) (by rw [digitAt,dif_pos (by show _<(strL _).size;rw [strL_size];simp)];show (decide (48≤(102:UInt8).toNat) && decide ((102:UInt8).toNat≤57))=false;decide) (by omega)).mono ?_;rintro x w6 ⟨rfl,h,g⟩;have r2:=g.row r2 (by simp;omega);have rT:=g.row rT (by simp;omega);have szT:=Nat.le_trans szT g.size;replace F:=F.trans g (by simp);have c4:=h.c4;have z4:=h.z 4 (by omega);have h:=h.set4 0;have gS:=(Fr.refl [b] w6).setCell (p:=⟨b,4,none⟩) (.inl (by simp)) (.int .i64 0);have r2:=gS.row r2 (by simp;omega);have rT:=gS.row rT (by simp;omega);replace F:=F.trans gS (by simp);have szS:=gS.size;have szT:=Nat.le_trans szT szS;have c1:=h.c1))
  | (go_at_call 63;(with_reducible show Calls _ _ #[_,.string ⟨#[115,102,101,103,120]⟩] _ _);go_loud (refine (readTake_hit _ b _ _ 5 _ _ _ _ 2 h (by show _<(strL _).size;rw [strL_size];simp) (by rw [strL_size];simp) (by show Lib.indexByte [115,102,101,103,120] 102+1=2;decide) (by decide) (by omega)).mono ?_;rintro x w5 ⟨rfl,h,g⟩;have r2:=g.row r2 (by simp;omega);have rT:=g.row rT (by simp;omega);have szT:=Nat.le_trans szT g.size;replace F:=F.trans g (by simp);have d0:w5.cell? ⟨w1.heap.size,0,none⟩=some (.int .u8 0):=(by rw [cell_of_row _ _ 0 _ _ _ rT];rfl);have dz:=frozen_of_row w5 w1.heap.size 0 _ _ rT)))
 have gT:=(Fr.refl [w1.heap.size] w5).setCell (p:=⟨w1.heap.size,0,none⟩) (.inl (by simp)) (.int .u8 3)
 have rT:=heap_setCell_same w5 w1.heap.size 0 _ _ (.int .u8 3) rT
 have r2:=gT.row r2 (by simp;omega)
 have h:=h.other w1.heap.size 0 (.int .u8 3) (by omega)
 have F:=F.setCell (p:=⟨w1.heap.size,0,none⟩) (.inr (by simp;omega)) (.int .u8 3)
 have szT:w1.heap.size+1≤(w5.setCell ⟨w1.heap.size,0,none⟩ (.int .u8 3)).heap.size:=by rw [World.size_setCell];exact szT
 clear gT d0 dz
 generalize w5.setCell ⟨w1.heap.size,0,none⟩ (.int .u8 3)=Y at *
 have d0:Y.cell? ⟨w1.heap.size,0,none⟩=some (.int .u8 3):=by rw [cell_of_row _ _ 0 _ _ _ rT];rfl
 have c4:=h.c4
 refine region_mono_g [] 14 [[],[0],[1],[2],[3],[3,4],[3],[3,6],[3,7],[3,8],[3,9],[3,5,10],[3,11],[3,12]] [none,none,none,none,none,none,none,none,none,none,none,none,none,none] (by kernel_rfl) (by kernel_rfl) ?_
 simp only [Chain,fill,Act.put,List.nil_append,List.cons_append,List.take_succ_cons,List.take_zero,List.drop_succ_cons,List.drop_zero,List.setIfInBounds_toArray,List.set_cons_zero,List.set_cons_succ,Nat.reduceAdd]
 iterate 11 (apply Exists.intro;apply And.intro;·intro vs w2 hf hh K hK;have d0:=hf.stayd d0;have c4:=hf.stayd c4;simp only [Held,List.getD_cons_zero,List.getD_cons_succ,Just,and_true] at hh;(try simp only [hh] at hK ⊢);go_simp;exact hK _ _ ⟨rfl,Fr.refl _ _⟩)
 apply Exists.intro;apply And.intro
 ·intro vs w2 hf hh K hK;have d0:=hf.stayd d0;have c4:=hf.stayd c4;simp only [Held,List.getD_cons_zero,List.getD_cons_succ,Just,and_true] at hh;(try simp only [hh] at hK ⊢);go_simp;refine (placed_3 _ 0).mono ?_;rintro e w6 ⟨rfl,hx⟩;exact hK _ _ ⟨rfl,by rw [hx];exact Fr.refl _ _⟩
 iterate 2 (apply Exists.intro;apply And.intro;·intro vs w2 hf hh K hK;simp only [Held,List.getD_cons_zero,List.getD_cons_succ,Just,and_true] at hh;(try simp only [hh] at hK ⊢);go_simp;exact hK _ _ ⟨rfl,Fr.refl _ _⟩)
 intro vs w2 hf hh
 simp only [HeldAll,Just,and_true,Nat.reduceAdd] at hh
 obtain⟨e0,e1,e2,e3,e4,e5,e6,e7,e8,e9,e10,e11,e12,e13⟩:=hh
 simp only [e0,e1,e2,e3,e4,e5,e6,e7,e8,e9,e10,e11,e12,e13]
 clear e0 e1 e2 e3 e4 e5 e6 e7 e8 e9 e10 e11 e12 e13
 clear vs
 have d0:=hf.stayd d0
 have c4:=hf.stayd c4
 have h:=h.drew.fr hf (by simp)
 have rT:=hf.row (w:=Y.drew) rT (by simp)
 have r2:=hf.row (w:=Y.drew) r2 (by simp)
 have szT:w1.heap.size+1≤w2.heap.size:=Nat.le_trans szT hf.size
 have F:=F.drew.then hf
 have c4:=h.c4
 clear hf d0
 go_wp2_with (first
  | (go_at_call 63;(with_reducible show Calls _ _ #[_,.string ⟨#[125]⟩] _ _);go_loud (refine (readTake_hit _ b _ _ 6 _ _ _ _ 1 h (by show _<(strL _).size;rw [strL_size];simp) (by rw [strL_size];simp) (by show Lib.indexByte [125] 125+1=1;decide) (by decide) (by omega)).mono ?_;rintro x w8 ⟨rfl,h,g⟩;have r2:=g.row r2 (by simp;omega);have rT:=g.row rT (by simp;omega);replace F:=F.trans g (by simp)))
  | (go_at_call 63;(with_reducible show Calls _ _ #[_,.string ⟨#[58]⟩] _ _);go_loud (refine (readTake_miss _ b _ _ 6 _ _ _ _ 0 h (by show _<(strL _).size;rw [strL_size];simp) (by rw [strL_size];simp) (by show Lib.indexByte [58] 125+1=0;decide) rfl (by omega)).mono ?_;rintro x w8 ⟨rfl,h,g⟩;have r2:=g.row r2 (by simp;omega);have rT:=g.row rT (by simp;omega);replace F:=F.trans g (by simp)))
  | ((with_reducible show wpList _ _ _ (⟨some 105,.load 117 (.tmp 3),_,_,_,_⟩ :: _) _ _);go_loud (refine wpList_load_row rfl 117 (.tmp 3) rfl w1.heap.size rfl _ _ _ _ rT Tryz.underlying117 rfl (by kernel_rfl) ?_))
  | ((with_reducible show wpList _ _ _ (⟨none,.store 117 (.tmp 2) (.tmp 105),_,_,_,_⟩ :: _) _ _);go_loud (refine wpList_store_whole rfl 117 (.tmp 2) (.tmp 105) rfl w.heap.size #[.int .u8 3,.int .i64 2] rfl rfl _ _ r2 (by kernel_rfl) rfl (by simp [Value.oneCell']) ?_;intro w9 hn9 g9)))
 (try simp only [Exit.inBlock,Exit.then])
 refine bodyPost_ret (v:=_) (results_cell_row rfl _ _ w.heap.size _ _ _ _ rfl hn9 Tryz.underlying117 rfl (by kernel_rfl)) rfl ?_
 exact⟨rfl,h.fr g9 (by simp;omega),F.trans g9 (by simp)⟩
end Go.Proofs.YtcmndpjemdjalaaGreatDoor
namespace Go.Proofs.YtcmndpjemdjalaaGreatDoor
open Go.RowKit
theorem writeIs_5f:WriteIs 3 0 2 5 0 (strL [123,32,53,46,48,102,125]):=fun w o b cap hb h0=>write_5f w o b cap 5 (by decide) (by decide) 0 (by decide) hb h0
theorem writeIs_5x:WriteIs 6 0 4 5 (-1) (strL [123,48,53,120,125]):=fun w o b cap hb h0=>write_5x w o b cap 5 (by decide) (by decide) hb h0
theorem writeIs_8s:WriteIs 2 0 5 8 (-1) (strL [123,43,48,56,115,125]):=fun w o b cap hb h0=>write_8s w o b cap 8 (by decide) (by decide) hb h0
theorem compileIs_5f:CompileIs 3 0 2 5 0 (strL [123,32,53,46,48,102,125]):=fun w=>compile_one w 32 [53,46,48,102,125] 3 2 5 0 0 (by simp) (by decide) (fun W b h=>field_5f W b _ h)
theorem compileIs_5x:CompileIs 6 0 4 5 (-1) (strL [123,48,53,120,125]):=fun w=>compile_one w 48 [53,120,125] 6 4 5 (-1) 0 (by simp) (by decide) (fun W b h=>field_5x W b _ h)
theorem compileIs_8s:CompileIs 2 0 5 8 (-1) (strL [123,43,48,56,115,125]):=fun w=>compile_one w 43 [48,56,115,125] 2 5 8 (-1) 0 (by simp) (by decide) (fun W b h=>field_8s W b _ h)
end Go.Proofs.YtcmndpjemdjalaaGreatDoor
namespace Go.Proofs.YtcmndpjemdjalaaGreatDoor
open Go.RowKit
def zerosN:List UInt8:=List.replicate 65537 0
theorem zerosN_length:zerosN.length=65537:=List.length_replicate
def zerosC:Array Value:=madeCells #[.int .u8 0] 65537
theorem zerosC_at (j:Nat) (hj:j<65537):zerosC[j]?=some (.int .u8 0):=by
 unfold zerosC madeCells
 simp [hj,Nat.mod_one]
theorem run_zeros (w:World):(Instr.makeSlice 40 (.int .i64 65537) (.int .i64 65537)).run Tryz.prog w=.ok (.slice (some ⟨w.heap.size,0,none⟩) 65537 65537) (w.alloc (.cells zerosC 5)) :=
 run_make_row' 40 5 (.int .u8 0) 1 Tryz.underlying40 (by kernel_rfl) rfl .i64 .i64 65537 (by omega) (by omega) w
def ZerosS (v:Value) (w:World):Prop:=∃ g:Nat,v=.slice (some ⟨g,0,none⟩) 65537 65537∧∀ j,j<65537→w.cell? ⟨g,j,none⟩=some (.int .u8 0)
theorem ZerosS.lasts:Lasts [] ZerosS:=fun _ _ _ ⟨g,h,hc⟩ hf=>⟨g,h,fun j hj=>hf.stay (hc j hj) (by simp)⟩
theorem zerosS_made (w:World):ZerosS (.slice (some ⟨w.heap.size,0,none⟩) 65537 65537) (w.alloc (.cells zerosC 5)) :=
 ⟨w.heap.size,rfl,fun j hj=>cell_new w zerosC 5 (0,0) j _ (zerosC_at j hj)⟩
theorem convert_zeros (w:World) (g:Nat) (h:∀ j,j<65537→w.cell? ⟨g,j,none⟩=some (.int .u8 0)):(convert 40 9 (.slice (some ⟨g,0,none⟩) 65537 65537)).run Tryz.prog w=.ok (.string (strL zerosN)) w:=by
 have e:=run_convert_bytes_back (P:=Tryz.prog) w 40 9 5 ⟨g,0,none⟩ 65537 zerosN Tryz.underlying40 Tryz.underlying5 Tryz.underlying9 (fun j hj=>by
  rw [show (⟨g,0,none⟩:Addr).add j=⟨g,j,none⟩ by unfold Addr.add;split <;> simp_all]
  rw [h j (by rw [zerosN_length] at hj;exact hj)]
  have:zerosN[j]=0:=List.eq_of_mem_replicate (n:=65537) (List.getElem_mem hj)
  rw [this];rfl)
 rw [zerosN_length] at e
 exact e
end Go.Proofs.YtcmndpjemdjalaaGreatDoor
