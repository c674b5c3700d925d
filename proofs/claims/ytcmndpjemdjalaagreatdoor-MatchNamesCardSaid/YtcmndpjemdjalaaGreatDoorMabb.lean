/- Laws that the claimed theorem leans on: no condition of their own beyond their hypotheses. -/
import Derived.Test.YtcmndpjemdjalaaGreatDoorMaaa
import Derived.Test.YtcmndpjemdjalaaGreatDoorMaau
import Derived.Test.YtcmndpjemdjalaaGreatDoorMaay
import Derived.Test.YtcmndpjemdjalaaGreatDoorMaaz
import Derived.Test.YtcmndpjemdjalaaGreatDoorMaba
set_option maxRecDepth 100000
set_option maxHeartbeats 16000000
namespace Go.Proofs.YtcmndpjemdjalaaGreatDoor
open Go.RowKit Go.Extern.Stop Go.Stop Go.Extern
theorem asHitM (e2 e t:Addr) (old:Value) (w:World) (hg:w.cell? ⟨0,0,none⟩=some (.iface 137 (.agg #[.pointer (some ⟨9,32,none⟩)]))) (he:w.cell? e2=some (.pointer (some e))) (ht0:w.cell? t=some old) (hf0:w.frozen? t=false) :
  Calls Tryz.prog 21 #[.iface 88 (.pointer (some e2)),.iface 62 (.pointer (some t))] w fun ev w'=>ev=.returned (.bool true)∧w'=((((w.alloc (.cells #[.pointer (some t)] 62)).alloc (.cells #[.pointer (some ⟨9,62,none⟩),.pointer (some ⟨w.heap.size,0,none⟩),.int .u64 150] 97)).alloc (.cells #[.pointer (some ⟨9,62,none⟩),.pointer (some ⟨w.heap.size,0,none⟩),.int .u64 150] 97)).alloc (.cells #[.pointer (some e)] 60)).setCell t (.pointer (some e)):=by
 have h6:=@run_callFunc_extern Tryz.prog 30 _ (fun args=>ReflectliteValue.unpack (args.getD 0 (.tuple #[]))) Tryz.func30 (by kernel_rfl) (by kernel_rfl) (by kernel_rfl) (by kernel_rfl)
 have h7:=@run_callFunc_extern Tryz.prog 31 _ (ReflectliteValue.methodAny (ReflectliteValue.valueError "reflectlite.Value.Type" 0) (fun t _ _ _=>ReflectliteType.toType t)) Tryz.func31 (by kernel_rfl) (by kernel_rfl) (by kernel_rfl) (by kernel_rfl)
 have h8:=@run_callFunc_extern Tryz.prog 32 _ (ReflectliteValue.method (ReflectliteValue.valueError "reflectlite.Value.IsNil" 0) ReflectliteValue.isNil) Tryz.func32 (by kernel_rfl) (by kernel_rfl) (by kernel_rfl) (by kernel_rfl)
 have h27:=@run_callFunc_extern Tryz.prog 306 _ (ReflectliteType.abiMethod fun t=>do pure (.int .u8 (← Rtype.kind t))) Tryz.func306 (by kernel_rfl) (by kernel_rfl) (by kernel_rfl) (by kernel_rfl)
 have h37:=@run_callFunc_extern Tryz.prog 323 _ (ReflectliteType.method ReflectliteType.elem) Tryz.func323 (by kernel_rfl) (by kernel_rfl) (by kernel_rfl) (by kernel_rfl)
 have h38:=@run_callFunc_extern Tryz.prog 324 _ (ReflectliteType.relation "Implements" ReflectliteType.implements_) Tryz.func324 (by kernel_rfl) (by kernel_rfl) (by kernel_rfl) (by kernel_rfl)
 have h10:=@run_callFunc_extern Tryz.prog 58 _ ReflectliteType.typeOf Tryz.func58 (by kernel_rfl) (by kernel_rfl) (by kernel_rfl) (by kernel_rfl)
 have h35:=@run_callFunc_extern Tryz.prog 321 _ (ReflectliteType.relation "AssignableTo" ReflectliteType.assignableTo) Tryz.func321 (by kernel_rfl) (by kernel_rfl) (by kernel_rfl) (by kernel_rfl)
 have h11:=@run_callFunc_extern Tryz.prog 59 _ (ReflectliteValue.method (ReflectliteValue.valueError "reflectlite.Value.Elem" 0) ReflectliteValue.elem) Tryz.func59 (by kernel_rfl) (by kernel_rfl) (by kernel_rfl) (by kernel_rfl)
 have h12:=@run_callFunc_extern Tryz.prog 60 _ ReflectliteValue.set Tryz.func60 (by kernel_rfl) (by kernel_rfl) (by kernel_rfl) (by kernel_rfl)
 have lk:∀ v w,(Instr.typeAssert (.iface 88 v) 32 142 true).run Tryz.prog w=.ok (.tuple #[.nilIface,.bool false]) w:=fun v w=>run_typeAssert_lacksB Tryz.underlying142 (by kernel_rfl) (by kernel_rfl) v _ w
 have hs:∀ v w,(Instr.typeAssert (.iface 88 v) 32 145 true).run Tryz.prog w=.ok (.tuple #[.iface 88 v,.bool true]) w:=fun v w=>run_typeAssert_hasB Tryz.underlying145 (by kernel_rfl) v _ w
 have tO:=asTypeOfP
 have tX:=asTypeOfM
 have aX:=asAssignableM
 have aP:=asAssignableP
 have v25:=asValueOfP
 have f6:=asValueOfPP
 have f7:=asTypePP
 have k27:=asKindPP
 have k25:=asKindP
 have e27:=asElemPP
 have i25:=asImplementsP
 have n8:=asIsNilPP ⟨w.heap.size,0,none⟩ t ((w.alloc (.cells #[.pointer (some t)] 62)).alloc (.cells #[.pointer (some ⟨9,62,none⟩),.pointer (some ⟨w.heap.size,0,none⟩),.int .u64 150] 97)) (by simp)
 have hlt:0<w.heap.size:=World.block_lt_of_cell? w _ hg
 have hg2:((w.alloc (.cells #[.pointer (some t)] 62)).alloc (.cells #[.pointer (some ⟨9,62,none⟩),.pointer (some ⟨w.heap.size,0,none⟩),.int .u64 150] 97)).cell? ⟨0,0,none⟩=some (.iface 137 (.agg #[.pointer (some ⟨9,32,none⟩)])):=by
  rw [World.cell?_alloc_lt _ _ ⟨0,0,none⟩ (by simp),World.cell?_alloc_lt _ _ ⟨0,0,none⟩ hlt];exact hg
 have htl:t.block<w.heap.size:=World.block_lt_of_cell? w _ ht0
 have hel:e2.block<w.heap.size:=World.block_lt_of_cell? w _ he
 have he3:(((w.alloc (.cells #[.pointer (some t)] 62)).alloc (.cells #[.pointer (some ⟨9,62,none⟩),.pointer (some ⟨w.heap.size,0,none⟩),.int .u64 150] 97)).alloc (.cells #[.pointer (some ⟨9,62,none⟩),.pointer (some ⟨w.heap.size,0,none⟩),.int .u64 150] 97)).cell? e2=some (.pointer (some e)):=by rw [World.cell?_alloc_lt _ _ e2 (by simp;omega),World.cell?_alloc_lt _ _ e2 (by simp;omega),World.cell?_alloc_lt _ _ e2 hel];exact he
 have el:=asElemVPP ⟨w.heap.size,0,none⟩ t (((w.alloc (.cells #[.pointer (some t)] 62)).alloc (.cells #[.pointer (some ⟨9,62,none⟩),.pointer (some ⟨w.heap.size,0,none⟩),.int .u64 150] 97)).alloc (.cells #[.pointer (some ⟨9,62,none⟩),.pointer (some ⟨w.heap.size,0,none⟩),.int .u64 150] 97)) (by rw [World.cell?_alloc_lt _ _ ⟨w.heap.size,0,none⟩ (by simp;omega)];simp)
 have st:=asSetP t ⟨w.heap.size+1+1+1,0,none⟩ e old ((((w.alloc (.cells #[.pointer (some t)] 62)).alloc (.cells #[.pointer (some ⟨9,62,none⟩),.pointer (some ⟨w.heap.size,0,none⟩),.int .u64 150] 97)).alloc (.cells #[.pointer (some ⟨9,62,none⟩),.pointer (some ⟨w.heap.size,0,none⟩),.int .u64 150] 97)).alloc (.cells #[.pointer (some e)] 60))
  (by rw [World.cell?_alloc_at _ _ _ _ (by simp)];rfl)
  (by rw [World.cell?_alloc_lt _ _ t (by simp;omega),World.cell?_alloc_lt _ _ t (by simp;omega),World.cell?_alloc_lt _ _ t (by simp;omega),World.cell?_alloc_lt _ _ t htl];exact ht0)
  (by rw [World.frozen?_alloc_old _ _ t (by simp;omega),World.frozen?_alloc_old _ _ t (by simp;omega),World.frozen?_alloc_old _ _ t (by simp;omega),World.frozen?_alloc_old _ _ t (Nat.ne_of_lt htl)];exact hf0)
 go_enter Tryz.func21,Tryz.ntmps21
 go_wp2
 refine wp_loop_rounds 2 ?_
 rw [rounds_succ]
 go_wp2
 rw [rounds_succ]
 go_wp2
 go_ret
 exact⟨rfl,rfl⟩
theorem asErrM (b2 b1:Nat) (code at_:Int) (t:Addr) (old:Value) (w:World) (hg:w.cell? ⟨0,0,none⟩=some (.iface 137 (.agg #[.pointer (some ⟨9,32,none⟩)]))) (h2:w.cell? ⟨b2,0,none⟩=some (.pointer (some ⟨b1,0,none⟩))) (h3:w.cell? ⟨b1,0,none⟩=some (.int .i64 code)) (h4:w.cell? ⟨b1,1,none⟩=some (.int .i64 at_)) (ht0:w.cell? t=some old) (hf0:w.frozen? t=false) (hX:old=.pointer none∧t.off=0∧t.spot=none) :
  Calls Tryz.prog 21 #[.iface 88 (.pointer (some ⟨b2,0,none⟩)),.iface 62 (.pointer (some t))] w fun ev w'=>ev=.returned (.bool true)∧Fr [t.block] w w'∧w'.cell? t=some (.pointer (some ⟨b1,0,none⟩))∧w'.cell? ⟨b1,0,none⟩=some (.int .i64 code)∧w'.cell? ⟨b1,1,none⟩=some (.int .i64 at_):=by
 by_cases hb:b1=t.block
 ·exfalso
  obtain⟨rfl,ho,hs⟩:=hX
  obtain⟨tb,to_,ts⟩:=t
  dsimp only at ho hs hb
  subst ho;subst hs;subst hb
  rw [h3] at ht0
  simp at ht0
 ·refine (asHitM ⟨b2,0,none⟩ ⟨b1,0,none⟩ t old w hg h2 ht0 hf0).mono ?_
  rintro ev w' ⟨rfl,rfl⟩
  have f:=(((((Fr.refl [t.block] w).alloc (.cells #[.pointer (some t)] 62)).alloc (.cells #[.pointer (some ⟨9,62,none⟩),.pointer (some ⟨w.heap.size,0,none⟩),.int .u64 150] 97)).alloc (.cells #[.pointer (some ⟨9,62,none⟩),.pointer (some ⟨w.heap.size,0,none⟩),.int .u64 150] 97)).alloc (.cells #[.pointer (some ⟨b1,0,none⟩)] 60)).setCell (p:=t) (.inl (by simp)) (.pointer (some ⟨b1,0,none⟩))
  have g:=((((Fr.refl [] w).alloc (.cells #[.pointer (some t)] 62)).alloc (.cells #[.pointer (some ⟨9,62,none⟩),.pointer (some ⟨w.heap.size,0,none⟩),.int .u64 150] 97)).alloc (.cells #[.pointer (some ⟨9,62,none⟩),.pointer (some ⟨w.heap.size,0,none⟩),.int .u64 150] 97)).alloc (.cells #[.pointer (some ⟨b1,0,none⟩)] 60)
  exact⟨rfl,f,World.cell?_setCell_same _ _ _ (g.stay ht0 (by simp)),f.stay h3 (by simpa using hb),f.stay h4 (by simpa using hb)⟩
end Go.Proofs.YtcmndpjemdjalaaGreatDoor
namespace Go.Proofs.YtcmndpjemdjalaaGreatDoor
open Go.RowKit
theorem fault_nil (w:World):Calls Tryz.prog 16 #[.nilIface] w fun x w'=>x=.returned (.tuple #[.agg #[.int .i64 0,.int .i64 0],.bool true])∧Fr [] w w':=by
 have fA:=(Fr.refl [] w).alloc (.cells #[.int .i64 0,.int .i64 0] 25)
 have r2:=row_new w (.cells #[.int .i64 0,.int .i64 0] 25)
 have p0:=cell_new w #[.int .i64 0,.int .i64 0] 25 (0,0) 0 _ rfl
 have p1:=cell_new w #[.int .i64 0,.int .i64 0] 25 (0,0) 1 _ rfl
 go_enter Tryz.func16,Tryz.ntmps16
 go_wp2
 refine bodyPost_ret (v:=_) (results_cell_row_tmp rfl _ _ w.heap.size _ _ _ _ rfl r2 rfl Tryz.underlying25 (by kernel_rfl)) rfl ?_
 exact⟨rfl,fA⟩
theorem fault_M (w:World) (v:Value) (code at_:Int) (hg:w.cell? ⟨0,0,none⟩=some (.iface 137 (.agg #[.pointer (some ⟨9,32,none⟩)]))) (hv:ErrAt w 88 v code at_) (hc:(code != 0)=true) :
  Calls Tryz.prog 16 #[v] w fun x w'=>x=.returned (.tuple #[.agg #[.int .i64 code,.int .i64 at_],.bool true])∧Fr [] w w':=by
 have fA:=(Fr.refl [] w).alloc (.cells #[.int .i64 0,.int .i64 0] 25)
 have fB:=(Fr.refl [] (w.alloc (.cells #[.int .i64 0,.int .i64 0] 25))).alloc (.cells #[.pointer none] 60)
 have r2:=fB.row (row_new w (.cells #[.int .i64 0,.int .i64 0] 25)) (by simp)
 have r4:=row_new (w.alloc (.cells #[.int .i64 0,.int .i64 0] 25)) (.cells #[.pointer none] 60)
 have fW:=fA.then fB
 generalize hW:(w.alloc (.cells #[.int .i64 0,.int .i64 0] 25)).alloc (.cells #[.pointer none] 60)=W at *
 rw [World.size_alloc] at r4
 clear fA fB
 have hg:=fW.stay hg (by simp)
 obtain⟨b2,b1,rfl,h2,h3,h4⟩:=hv
 have hb:=World.block_lt_of_cell? _ _ h3
 have nb:¬ b1=w.heap.size:=by simp only at hb;omega
 have q4:=var_row r4
 have hA:=asErrM b2 b1 code at_ ⟨w.heap.size+1,0,none⟩ (.pointer none) W hg (fW.stay h2 (by simp)) (fW.stay h3 (by simp)) (fW.stay h4 (by simp)) q4.cell q4.frozen ⟨rfl,rfl,rfl⟩
 clear h2 h3 h4 hb
 go_enter Tryz.func16,Tryz.ntmps16
 go_wp2_with (go_at_call 21;go_loud (refine hA.mono ?_;rintro x w1 ⟨rfl,g1,k0,k1,k2⟩;have r2:=g1.row r2 (by simp);have p0:w1.cell? ⟨w.heap.size,0,none⟩=some (.int .i64 0):=(by rw [cell_of_row _ _ 0 _ _ _ r2];rfl);have p1:w1.cell? ⟨w.heap.size,1,none⟩=some (.int .i64 0):=(by rw [cell_of_row _ _ 1 _ _ _ r2];rfl);have z:∀ i,w1.frozen? ⟨w.heap.size,i,none⟩=false:=fun i=>frozen_of_row w1 _ i _ _ r2))
 go_region
 all_goals
  simp only [Exit.then]
  go_wp2_with fail
  have r2:=((Fr.refl [] _).drew).row (heap_setCell_same _ _ 1 _ _ (.int .i64 at_) (heap_setCell_same _ _ 0 _ _ (.int .i64 code) r2)) (by simp)
  have fE:=(((Fr.refl [w.heap.size] w1).setCell (p:=⟨w.heap.size,0,none⟩) (.inl (by simp)) (.int .i64 code)).setCell (p:=⟨w.heap.size,1,none⟩) (.inl (by simp)) (.int .i64 at_)).drew
  refine bodyPost_ret (v:=_) (results_cell_row_tmp rfl _ _ w.heap.size _ _ _ _ rfl r2 rfl Tryz.underlying25 (by kernel_rfl)) rfl ?_
  exact⟨rfl,(fW.after g1 (by simp)).after fE (by simp)⟩
theorem of_nil (w:World) (bits fl:Int)  :
  Calls Tryz.prog 7 #[.int .u64 bits,.int .u8 fl,.nilIface] w fun x w'=>x=.returned (.agg #[.int .u64 bits,.int .u8 fl,.int .i64 0,.int .i64 0,.bool true])∧Fr [] w w':=by
 have fA:=(Fr.refl [] w).alloc (.cells #[.int .u64 0,.int .u8 0,.int .i64 0,.int .i64 0,.bool false] 27)
 have r2:=row_new w (.cells #[.int .u64 0,.int .u8 0,.int .i64 0,.int .i64 0,.bool false] 27)
 go_enter Tryz.func7,Tryz.ntmps7
 generalize hW:w.alloc (.cells #[.int .u64 0,.int .u8 0,.int .i64 0,.int .i64 0,.bool false] 27)=W at *
 have hWs:W.heap.size=w.heap.size+1:=by rw [← hW];simp
 go_wp2_with (first
  | (go_at_call 16;go_loud (refine (fault_nil _).mono ?_;rintro x w1 ⟨rfl,g1⟩;have r2:=g1.row r2 (by simp);have sz:=g1.size;have n1:¬ w.heap.size=w1.heap.size:=(by omega);have r2a:∀ o,(w1.alloc o).heap[w.heap.size]?=some (.cells #[.int .u64 0,.int .u8 0,.int .i64 0,.int .i64 0,.bool false] 27):=fun o=>((Fr.refl [] w1).alloc o).row r2 (by simp)))
  | ((with_reducible show wpList _ _ _ (⟨none,.store 27 (.tmp 6) (.tmp 18),_,_,_,_⟩ :: _) _ _);go_loud (refine wpList_store_whole rfl 27 (.tmp 6) (.tmp 18) rfl w.heap.size #[.int .u64 bits,.int .u8 fl,.int .i64 0,.int .i64 0,.bool true] rfl rfl _ _ (r2a _) (by kernel_rfl) rfl (by simp [Value.oneCell']) ?_;intro w3 hn3 g3)))
 (try simp only [Exit.inBlock,Exit.then])
 refine bodyPost_ret (v:=_) (results_cell_row rfl _ _ w.heap.size _ _ _ _ rfl hn3 Tryz.underlying27 rfl (by kernel_rfl)) rfl ?_
 exact⟨rfl,((fA.then g1).alloc _).after g3 (by simp)⟩
theorem of_M (w:World) (bits fl:Int) (v:Value) (code at_:Int) (hg:w.cell? ⟨0,0,none⟩=some (.iface 137 (.agg #[.pointer (some ⟨9,32,none⟩)]))) (hv:ErrAt w 88 v code at_) (hc:(code != 0)=true) :
  Calls Tryz.prog 7 #[.int .u64 bits,.int .u8 fl,v] w fun x w'=>x=.returned (.agg #[.int .u64 bits,.int .u8 fl,.int .i64 code,.int .i64 at_,.bool true])∧Fr [] w w':=by
 have fA:=(Fr.refl [] w).alloc (.cells #[.int .u64 0,.int .u8 0,.int .i64 0,.int .i64 0,.bool false] 27)
 have r2:=row_new w (.cells #[.int .u64 0,.int .u8 0,.int .i64 0,.int .i64 0,.bool false] 27)
 go_enter Tryz.func7,Tryz.ntmps7
 generalize hW:w.alloc (.cells #[.int .u64 0,.int .u8 0,.int .i64 0,.int .i64 0,.bool false] 27)=W at *
 have hWs:W.heap.size=w.heap.size+1:=by rw [← hW];simp
 go_wp2_with (first
  | (go_at_call 16;go_loud (refine (fault_M _ v code at_ (fA.stay hg (by simp)) (hv.fr fA) hc).mono ?_;rintro x w1 ⟨rfl,g1⟩;have r2:=g1.row r2 (by simp);have sz:=g1.size;have n1:¬ w.heap.size=w1.heap.size:=(by omega);have r2a:∀ o,(w1.alloc o).heap[w.heap.size]?=some (.cells #[.int .u64 0,.int .u8 0,.int .i64 0,.int .i64 0,.bool false] 27):=fun o=>((Fr.refl [] w1).alloc o).row r2 (by simp)))
  | ((with_reducible show wpList _ _ _ (⟨none,.store 27 (.tmp 6) (.tmp 18),_,_,_,_⟩ :: _) _ _);go_loud (refine wpList_store_whole rfl 27 (.tmp 6) (.tmp 18) rfl w.heap.size #[.int .u64 bits,.int .u8 fl,.int .i64 code,.int .i64 at_,.bool true] rfl rfl _ _ (r2a _) (by kernel_rfl) rfl (by simp [Value.oneCell']) ?_;intro w3 hn3 g3)))
 (try simp only [Exit.inBlock,Exit.then])
 refine bodyPost_ret (v:=_) (results_cell_row rfl _ _ w.heap.size _ _ _ _ rfl hn3 Tryz.underlying27 rfl (by kernel_rfl)) rfl ?_
 exact⟨rfl,((fA.then g1).alloc _).after g3 (by simp)⟩
end Go.Proofs.YtcmndpjemdjalaaGreatDoor
namespace Go.Proofs.YtcmndpjemdjalaaGreatDoor
open Go.RowKit
def toldV (bits fl code at_:Int):Value:=.agg #[.int .u64 bits,.int .u8 fl,.int .i64 code,.int .i64 at_,.bool true]
def ErrTy (w:World):Prop:=w.cell? ⟨0,0,none⟩=some (.iface 137 (.agg #[.pointer (some ⟨9,32,none⟩)]))
theorem ErrTy.fr {w w':World} (h:ErrTy w) (hf:Fr [] w w'):ErrTy w':=hf.stay h (by simp)
def TupErr (code at_:Int) (v:Value) (w:World):Prop:=∃ e,v=.tuple #[.int .u64 0,.int .u8 0,e]∧ErrAt w 88 e code at_
theorem TupErr.lasts (code at_:Int):Lasts [] (TupErr code at_):=fun _ _ _ ⟨e,h,he⟩ hf=>⟨e,h,he.fr hf⟩
def IsErr (code at_:Int) (v:Value) (w:World):Prop:=ErrAt w 88 v code at_
theorem IsErr.lasts (code at_:Int):Lasts [] (IsErr code at_):=fun _ _ _ h hf=>ErrAt.fr h hf
theorem by_no (w:World) (P s:ByteArray) (wd pl code at_:Int) (md n:Nat) (C:Nat→Nat→World→Prop) (hC:∀ g cap W W',C g cap W→Fr [] W W'→C g cap W') (hg:ErrTy w) (hcode:(code != 0)=true)
  (hCo:∀ W,Fr [] w W→Calls Tryz.prog 9 #[.string P] W fun x w'=>∃ g cap:Nat,x=.returned (.tuple #[apiPlan (.slice (some ⟨g,0,none⟩) n cap) wd pl md,.nilIface])∧C g cap w'∧Fr [] W w')
  (hRd:∀ g cap W,C g cap W→Fr [] w W→Calls Tryz.prog 8 #[apiPlan (.slice (some ⟨g,0,none⟩) n cap) wd pl md,formV 11 52,.string s,.int .u8 0] W fun x w'=>∃ e,x=.returned (.tuple #[.int .u64 0,.int .u8 0,e])∧ErrAt w' 88 e code at_∧Fr [] W w') :
  Calls Tryz.prog 5 #[.string P,.string s] w fun x w'=>x=.returned (toldV 0 0 code at_)∧Fr [] w w':=by
 have hD:=formsDouble_any
 unfold apiPlan formV at *
 unfold toldV
 have fA:=(Fr.refl [] w).alloc (.cells #[.int .u64 0,.int .u8 0,.int .i64 0,.int .i64 0,.bool false] 27)
 have r4:=row_new w (.cells #[.int .u64 0,.int .u8 0,.int .i64 0,.int .i64 0,.bool false] 27)
 go_enter Tryz.func5,Tryz.ntmps5
 go_wp2_with (go_at_call 9;go_loud (refine (hCo _ fA).mono ?_;rintro x w1 ⟨g,cap,rfl,hc,g1⟩;have r4:=g1.row r4 (by simp)))
 have G:=fA.then g1
 have fB:=(Fr.refl [] w1).alloc (.cells #[.slice (some ⟨g,0,none⟩) n cap,.int .i64 wd,.int .i64 pl,.int .u8 md] 37)
 have rP:=row_new w1 (.cells #[.slice (some ⟨g,0,none⟩) n cap,.int .i64 wd,.int .i64 pl,.int .u8 md] 37)
 have r4:=fB.row r4 (by simp)
 have hc:=hC _ _ _ _ hc fB
 have G:=G.then fB
 generalize w1.alloc (.cells #[.slice (some ⟨g,0,none⟩) n cap,.int .i64 wd,.int .i64 pl,.int .u8 md] 37)=X at *
 have a0:X.cell? ⟨w1.heap.size,0,none⟩=some (.slice (some ⟨g,0,none⟩) n cap):=by rw [cell_of_row _ _ 0 _ _ _ rP];rfl
 have a1:X.cell? ⟨w1.heap.size,1,none⟩=some (.int .i64 wd):=by rw [cell_of_row _ _ 1 _ _ _ rP];rfl
 have a2:X.cell? ⟨w1.heap.size,2,none⟩=some (.int .i64 pl):=by rw [cell_of_row _ _ 2 _ _ _ rP];rfl
 have a3:X.cell? ⟨w1.heap.size,3,none⟩=some (.int .u8 md):=by rw [cell_of_row _ _ 3 _ _ _ rP];rfl
 refine region_mono [] 8 [[],[],[],[0,1,2],[3],[3],[3],[4,5,6]] [none,none,none,some (TupErr code at_),none,none,some (IsErr code at_),none] (by kernel_rfl) (by kernel_rfl) ?_
 simp only [Chain,fill,Act.put,List.nil_append,List.cons_append,List.take_succ_cons,List.take_zero,List.drop_succ_cons,List.drop_zero,List.setIfInBounds_toArray,List.set_cons_zero,List.set_cons_succ,Nat.reduceAdd]
 apply Exists.intro;apply And.intro
 ·intro vs w2 hf hh K hK;have a0:=hf.stayd a0;have a1:=hf.stayd a1;have a2:=hf.stayd a2;have a3:=hf.stayd a3;simp only [Held] at hh;(try simp only [] at hK ⊢);go_simp;exact hK _ _ ⟨rfl,Fr.refl _ _⟩
 apply Exists.intro;apply And.intro
 ·intro vs w2 hf hh K hK;have a0:=hf.stayd a0;have a1:=hf.stayd a1;have a2:=hf.stayd a2;have a3:=hf.stayd a3;simp only [Held] at hh;(try simp only [] at hK ⊢);go_simp;refine (hD _).mono ?_;rintro x w3 ⟨rfl,f3⟩;exact hK _ _ ⟨rfl,f3⟩
 apply Exists.intro;apply And.intro
 ·intro vs w2 hf hh K hK;simp only [Held] at hh;(try simp only [] at hK ⊢);go_simp;exact hK _ _ ⟨rfl,Fr.refl _ _⟩
 refine⟨TupErr.lasts _ _,?_,?_⟩
 ·intro vs w2 hf hh K hK;have a0:=hf.stayd a0;have a1:=hf.stayd a1;have a2:=hf.stayd a2;have a3:=hf.stayd a3;simp only [Held,List.getD_cons_zero,List.getD_cons_succ,Just,and_true] at hh;(try simp only [hh] at hK ⊢);go_simp;refine (hRd _ _ _ (hC _ _ _ _ hc (((Fr.refl [] X).drew).then hf)) (G.drew.then hf)).mono ?_;rintro x w3 ⟨e,rfl,he,f3⟩;exact hK _ _ ⟨⟨e,rfl,he⟩,f3⟩
 apply Exists.intro;apply And.intro
 ·intro vs w2 hf hh K hK;have a0:=hf.stayd a0;have a1:=hf.stayd a1;have a2:=hf.stayd a2;have a3:=hf.stayd a3;simp only [Held,List.getD_cons_zero,List.getD_cons_succ,and_true] at hh;(try simp only [] at hK ⊢);obtain⟨e,hv,he⟩:=hh;simp only [hv] at hK ⊢;go_simp;exact hK _ _ ⟨rfl,Fr.refl _ _⟩
 apply Exists.intro;apply And.intro
 ·intro vs w2 hf hh K hK;have a0:=hf.stayd a0;have a1:=hf.stayd a1;have a2:=hf.stayd a2;have a3:=hf.stayd a3;simp only [Held,List.getD_cons_zero,List.getD_cons_succ,and_true] at hh;(try simp only [] at hK ⊢);obtain⟨e,hv,he⟩:=hh;simp only [hv] at hK ⊢;go_simp;exact hK _ _ ⟨rfl,Fr.refl _ _⟩
 refine⟨IsErr.lasts _ _,?_,?_⟩
 ·intro vs w2 hf hh K hK;have a0:=hf.stayd a0;have a1:=hf.stayd a1;have a2:=hf.stayd a2;have a3:=hf.stayd a3;simp only [Held,List.getD_cons_zero,List.getD_cons_succ,and_true] at hh;(try simp only [] at hK ⊢);obtain⟨e,hv,he⟩:=hh;simp only [hv] at hK ⊢;go_simp;exact hK _ _ ⟨he,Fr.refl _ _⟩
 apply Exists.intro;apply And.intro
 ·intro vs w2 hf hh K hK;have a0:=hf.stayd a0;have a1:=hf.stayd a1;have a2:=hf.stayd a2;have a3:=hf.stayd a3;simp only [Held,List.getD_cons_zero,List.getD_cons_succ,Just,and_true] at hh;(try simp only [hh] at hK ⊢);obtain⟨h1,h2,h3⟩:=hh;(try simp only [h1,h2] at hK ⊢);go_simp;refine (of_M _ _ _ _ code at_ (hg.fr (G.drew.then hf)) h3 hcode).mono ?_;rintro x w3 ⟨rfl,f3⟩;exact hK _ _ ⟨rfl,f3⟩
 intro vs w2 hf hh
 simp only [HeldAll,Just,and_true,Nat.reduceAdd] at hh
 obtain⟨e0,e1,e2,e3,e4,e5,e6,e7⟩:=hh
 simp only [e0,e1,e2,e4,e5,e7]
 clear e0 e1 e2 e4 e5 e7
 generalize vs 3=v3 at e3 ⊢
 generalize vs 6=v6 at e6 ⊢
 clear vs
 have a0:=hf.stayd a0
 have a1:=hf.stayd a1
 have a2:=hf.stayd a2
 have a3:=hf.stayd a3
 have r4:=hf.row (w:=X.drew) r4 (by simp)
 have G:=G.drew.then hf
 go_wp2_with ((with_reducible show wpList _ _ _ (⟨none,.store 27 (.tmp 4) (.tmp 22),_,_,_,_⟩ :: _) _ _);go_loud (refine wpList_store_whole rfl 27 (.tmp 4) (.tmp 22) rfl w.heap.size #[.int .u64 0,.int .u8 0,.int .i64 code,.int .i64 at_,.bool true] rfl rfl _ _ r4 (by kernel_rfl) rfl (by simp [Value.oneCell']) ?_;intro w3 hn3 g3))
 (try simp only [Exit.inBlock,Exit.then])
 refine bodyPost_ret (v:=_) (results_cell_row rfl _ _ w.heap.size _ _ _ _ rfl hn3 Tryz.underlying27 rfl (by kernel_rfl)) rfl ?_
 exact⟨rfl,G.after g3 (by simp)⟩
theorem by_yes (w:World) (P s:ByteArray) (wd pl bits fl:Int) (md n:Nat) (C:Nat→Nat→World→Prop) (hC:∀ g cap W W',C g cap W→Fr [] W W'→C g cap W')
  (hCo:∀ W,Fr [] w W→Calls Tryz.prog 9 #[.string P] W fun x w'=>∃ g cap:Nat,x=.returned (.tuple #[apiPlan (.slice (some ⟨g,0,none⟩) n cap) wd pl md,.nilIface])∧C g cap w'∧Fr [] W w')
  (hRd:∀ g cap W,C g cap W→Fr [] w W→Calls Tryz.prog 8 #[apiPlan (.slice (some ⟨g,0,none⟩) n cap) wd pl md,formV 11 52,.string s,.int .u8 0] W fun x w'=>x=.returned (.tuple #[.int .u64 bits,.int .u8 fl,.nilIface])∧Fr [] W w') :
  Calls Tryz.prog 5 #[.string P,.string s] w fun x w'=>x=.returned (toldV bits fl 0 0)∧Fr [] w w':=by
 have hD:=formsDouble_any
 unfold apiPlan formV at *
 unfold toldV
 have fA:=(Fr.refl [] w).alloc (.cells #[.int .u64 0,.int .u8 0,.int .i64 0,.int .i64 0,.bool false] 27)
 have r4:=row_new w (.cells #[.int .u64 0,.int .u8 0,.int .i64 0,.int .i64 0,.bool false] 27)
 go_enter Tryz.func5,Tryz.ntmps5
 go_wp2_with (go_at_call 9;go_loud (refine (hCo _ fA).mono ?_;rintro x w1 ⟨g,cap,rfl,hc,g1⟩;have r4:=g1.row r4 (by simp)))
 have G:=fA.then g1
 have fB:=(Fr.refl [] w1).alloc (.cells #[.slice (some ⟨g,0,none⟩) n cap,.int .i64 wd,.int .i64 pl,.int .u8 md] 37)
 have rP:=row_new w1 (.cells #[.slice (some ⟨g,0,none⟩) n cap,.int .i64 wd,.int .i64 pl,.int .u8 md] 37)
 have r4:=fB.row r4 (by simp)
 have hc:=hC _ _ _ _ hc fB
 have G:=G.then fB
 generalize w1.alloc (.cells #[.slice (some ⟨g,0,none⟩) n cap,.int .i64 wd,.int .i64 pl,.int .u8 md] 37)=X at *
 have a0:X.cell? ⟨w1.heap.size,0,none⟩=some (.slice (some ⟨g,0,none⟩) n cap):=by rw [cell_of_row _ _ 0 _ _ _ rP];rfl
 have a1:X.cell? ⟨w1.heap.size,1,none⟩=some (.int .i64 wd):=by rw [cell_of_row _ _ 1 _ _ _ rP];rfl
 have a2:X.cell? ⟨w1.heap.size,2,none⟩=some (.int .i64 pl):=by rw [cell_of_row _ _ 2 _ _ _ rP];rfl
 have a3:X.cell? ⟨w1.heap.size,3,none⟩=some (.int .u8 md):=by rw [cell_of_row _ _ 3 _ _ _ rP];rfl
 refine region_mono [] 8 [[],[],[],[0,1,2],[3],[3],[3],[4,5,6]] [none,none,none,none,none,none,none,none] (by kernel_rfl) (by kernel_rfl) ?_
 simp only [Chain,fill,Act.put,List.nil_append,List.cons_append,List.take_succ_cons,List.take_zero,List.drop_succ_cons,List.drop_zero,List.setIfInBounds_toArray,List.set_cons_zero,List.set_cons_succ,Nat.reduceAdd]
 apply Exists.intro;apply And.intro
 ·intro vs w2 hf hh K hK;have a0:=hf.stayd a0;have a1:=hf.stayd a1;have a2:=hf.stayd a2;have a3:=hf.stayd a3;simp only [Held] at hh;(try simp only [] at hK ⊢);go_simp;exact hK _ _ ⟨rfl,Fr.refl _ _⟩
 apply Exists.intro;apply And.intro
 ·intro vs w2 hf hh K hK;have a0:=hf.stayd a0;have a1:=hf.stayd a1;have a2:=hf.stayd a2;have a3:=hf.stayd a3;simp only [Held] at hh;(try simp only [] at hK ⊢);go_simp;refine (hD _).mono ?_;rintro x w3 ⟨rfl,f3⟩;exact hK _ _ ⟨rfl,f3⟩
 apply Exists.intro;apply And.intro
 ·intro vs w2 hf hh K hK;simp only [Held] at hh;(try simp only [] at hK ⊢);go_simp;exact hK _ _ ⟨rfl,Fr.refl _ _⟩
 apply Exists.intro;apply And.intro
 ·intro vs w2 hf hh K hK;have a0:=hf.stayd a0;have a1:=hf.stayd a1;have a2:=hf.stayd a2;have a3:=hf.stayd a3;simp only [Held,List.getD_cons_zero,List.getD_cons_succ,Just,and_true] at hh;(try simp only [hh] at hK ⊢);go_simp;refine (hRd _ _ _ (hC _ _ _ _ hc (((Fr.refl [] X).drew).then hf)) (G.drew.then hf)).mono ?_;rintro x w3 ⟨rfl,f3⟩;exact hK _ _ ⟨rfl,f3⟩
 iterate 3 (apply Exists.intro;apply And.intro;·intro vs w2 hf hh K hK;simp only [Held,List.getD_cons_zero,List.getD_cons_succ,Just,and_true] at hh;(try simp only [hh] at hK ⊢);go_simp;exact hK _ _ ⟨rfl,Fr.refl _ _⟩)
 apply Exists.intro;apply And.intro
 ·intro vs w2 hf hh K hK;have a0:=hf.stayd a0;have a1:=hf.stayd a1;have a2:=hf.stayd a2;have a3:=hf.stayd a3;simp only [Held,List.getD_cons_zero,List.getD_cons_succ,Just,and_true] at hh;(try simp only [hh] at hK ⊢);go_simp;refine (of_nil _ _ _).mono ?_;rintro x w3 ⟨rfl,f3⟩;exact hK _ _ ⟨rfl,f3⟩
 intro vs w2 hf hh
 simp only [HeldAll,Just,and_true,Nat.reduceAdd] at hh
 obtain⟨e0,e1,e2,e3,e4,e5,e6,e7⟩:=hh
 simp only [e0,e1,e2,e3,e4,e5,e6,e7]
 clear e0 e1 e2 e3 e4 e5 e6 e7
 clear vs
 have a0:=hf.stayd a0
 have a1:=hf.stayd a1
 have a2:=hf.stayd a2
 have a3:=hf.stayd a3
 have r4:=hf.row (w:=X.drew) r4 (by simp)
 have G:=G.drew.then hf
 go_wp2_with ((with_reducible show wpList _ _ _ (⟨none,.store 27 (.tmp 4) (.tmp 22),_,_,_,_⟩ :: _) _ _);go_loud (refine wpList_store_whole rfl 27 (.tmp 4) (.tmp 22) rfl w.heap.size #[.int .u64 bits,.int .u8 fl,.int .i64 0,.int .i64 0,.bool true] rfl rfl _ _ r4 (by kernel_rfl) rfl (by simp [Value.oneCell']) ?_;intro w3 hn3 g3))
 (try simp only [Exit.inBlock,Exit.then])
 refine bodyPost_ret (v:=_) (results_cell_row rfl _ _ w.heap.size _ _ _ _ rfl hn3 Tryz.underlying27 rfl (by kernel_rfl)) rfl ?_
 exact⟨rfl,G.after g3 (by simp)⟩
theorem lawNo (w:World) (at_:Int):Calls Tryz.prog 6 #[.int .i64 at_] w fun x w'=>x=.returned (toldV 0 0 220 at_)∧Fr [] w w':=by
 unfold toldV
 go_enter Tryz.func6,Tryz.ntmps6
 go_wp2
 refine bodyPost_ret (v:=_) (results_cell_row rfl _ _ w.heap.size _ _ _ _ rfl (row_new w (.cells #[.int .u64 0,.int .u8 0,.int .i64 220,.int .i64 at_,.bool true] 27)) Tryz.underlying27 rfl (by kernel_rfl)) rfl ?_
 exact⟨rfl,(Fr.refl [] w).alloc _⟩
end Go.Proofs.YtcmndpjemdjalaaGreatDoor
namespace Go.Proofs.YtcmndpjemdjalaaGreatDoor
open Go.RowKit
structure UpAt (g:Nat) (w:World):Prop where
 c0:w.cell? ⟨g,0,none⟩=some (.int .u8 1)
 c1:w.cell? ⟨g,1,none⟩=some (.int .i64 0)
 c2:w.cell? ⟨g,2,none⟩=some (.string (strL [120,61]))
 c3:w.cell? ⟨g,3,none⟩=some (.int .u8 3)
 c4:w.cell? ⟨g,4,none⟩=some (.int .i64 5)
 c5:w.cell? ⟨g,5,none⟩=some (.string ⟨#[]⟩)
 c6:w.cell? ⟨g,6,none⟩=some (.int .u8 1)
 c7:w.cell? ⟨g,7,none⟩=some (.int .i64 0)
 c8:w.cell? ⟨g,8,none⟩=some (.string (strL [33]))
theorem UpOps.at {lo:Nat} {v:Value} {w:World} (h:UpOps lo v w):∃ g cap:Nat,v=.slice (some ⟨g,0,none⟩) 3 cap∧lo≤g∧UpAt g w:=by
 obtain⟨g,cap,hv,hg,⟨a0,a1,a2⟩,⟨a3,a4,a5⟩,a6,a7,a8⟩:=h
 exact⟨g,cap,hv,hg,⟨a0,a1,a2,a3,a4,a5,a6,a7,a8⟩⟩
theorem UpAt.fr {g:Nat} {w w':World} {S:List Nat} (h:UpAt g w) (hf:Fr S w w') (hS:g ∉ S):UpAt g w' :=
 ⟨hf.stay h.c0 hS,hf.stay h.c1 hS,hf.stay h.c2 hS,hf.stay h.c3 hS,hf.stay h.c4 hS,hf.stay h.c5 hS,hf.stay h.c6 hS,hf.stay h.c7 hS,hf.stay h.c8 hS⟩
theorem UpAt.lt {g:Nat} {w:World} (h:UpAt g w):g<w.heap.size:=World.block_lt_of_cell? _ _ h.c0
theorem equal_up (w:World) (a b c1 c2:Nat) (h:UpAt a w) (k:UpAt b w) :
  Calls Tryz.prog 73 #[.slice (some ⟨a,0,none⟩) 3 c1,.slice (some ⟨b,0,none⟩) 3 c2] w fun x w'=>x=.returned (.bool true)∧Fr [] w w':=by
 have h0:=h.c0
 have h1:=h.c1
 have h2:=h.c2
 have h3:=h.c3
 have h4:=h.c4
 have h5:=h.c5
 have h6:=h.c6
 have h7:=h.c7
 have h8:=h.c8
 have k0:=k.c0
 have k1:=k.c1
 have k2:=k.c2
 have k3:=k.c3
 have k4:=k.c4
 have k5:=k.c5
 have k6:=k.c6
 have k7:=k.c7
 have k8:=k.c8
 generalize strL [120,61]=S1 at *
 generalize strL [33]=S2 at *
 clear h k
 go_enter Tryz.func73,Tryz.ntmps73
 go_wp2_with fail
 refine wp_loop_rounds 4 ?_
 rw [rounds_succ]
 go_wp2_with fail
 go_region
 simp only [Exit.then]
 go_wp2_with fail
 rw [rounds_succ]
 go_wp2_with fail
 go_region
 simp only [Exit.then]
 go_wp2_with fail
 rw [rounds_succ]
 go_wp2_with fail
 go_region
 simp only [Exit.then]
 go_wp2_with fail
 rw [rounds_succ]
 go_wp2_with fail
 go_ret
 exact⟨rfl,((Fr.refl _ _).drew.drew.drew)⟩
theorem same_up (w:World) (a b c1 c2:Nat) (h:UpAt a w) (k:UpAt b w) :
  Calls Tryz.prog 44 #[apiPlan (.slice (some ⟨a,0,none⟩) 3 c1) 8 3 3,apiPlan (.slice (some ⟨b,0,none⟩) 3 c2) 8 3 3] w fun x w'=>x=.returned (.bool true)∧Fr [] w w':=by
 unfold apiPlan
 have f1:=(Fr.refl [] w).alloc (.cells #[.slice (some ⟨a,0,none⟩) 3 c1,.int .i64 8,.int .i64 3,.int .u8 3] 37)
 have f2:=(Fr.refl [] (w.alloc (.cells #[.slice (some ⟨a,0,none⟩) 3 c1,.int .i64 8,.int .i64 3,.int .u8 3] 37))).alloc (.cells #[.slice (some ⟨b,0,none⟩) 3 c2,.int .i64 8,.int .i64 3,.int .u8 3] 37)
 have F:=f1.then f2
 have hE:=fun W (hf:Fr [] w W)=>equal_up W a b c1 c2 (h.fr hf (by simp)) (k.fr hf (by simp))
 go_enter Tryz.func44,Tryz.ntmps44
 go_wp2_with (go_at_call 73;go_loud (refine (hE _ F).mono ?_;rintro x w1 ⟨rfl,g1⟩))
 go_ret
 exact⟨rfl,F.then g1⟩
end Go.Proofs.YtcmndpjemdjalaaGreatDoor
namespace Go.Proofs.YtcmndpjemdjalaaGreatDoor
open Go.RowKit
theorem parts_up (w:World) (b cap:Nat) (h:UpAt b w) :
  Calls Tryz.prog 42 #[apiPlan (.slice (some ⟨b,0,none⟩) 3 cap) 8 3 3] w fun x w'=>∃ g cap':Nat,x=.returned (.tuple #[.slice (some ⟨g,0,none⟩) 3 cap',.bool true]) ∧
   w'.cell? ⟨g,0,none⟩=some (.iface 111 (.string (strL [120,61])))∧w'.cell? ⟨g,1,none⟩=some (.iface 117 (.agg #[.int .u8 3,.int .i64 5]))∧w'.cell? ⟨g,2,none⟩=some (.iface 111 (.string (strL [33])))∧Fr [] w w':=by
 unfold apiPlan
 generalize hS1:strL [120,61]=S1
 generalize hS2:strL [33]=S2
 have F:=(Fr.refl [] w).alloc (.cells #[.slice (some ⟨b,0,none⟩) 3 cap,.int .i64 8,.int .i64 3,.int .u8 3] 37)
 have c0:=cell_new w #[.slice (some ⟨b,0,none⟩) 3 cap,.int .i64 8,.int .i64 3,.int .u8 3] 37 (0,0) 0 _ rfl
 have hbw:=h.lt
 have h:=h.fr F (by simp)
 go_enter Tryz.func42,Tryz.ntmps42
 generalize hW:w.alloc (.cells #[.slice (some ⟨b,0,none⟩) 3 cap,.int .i64 8,.int .i64 3,.int .u8 3] 37)=W0 at *
 have hWs:w.heap.size≤W0.heap.size:=F.size
 go_wp2_with fail
 refine wp_loop_rounds 4 ?_
 clear c0 hW
 have k0:=h.c0
 have k1:=h.c1
 have k2:=h.c2
 rw [hS1] at k2
 rw [rounds_succ]
 go_wp2_with (at_builtin;go_loud (refine wpList_append_pc _ rfl _ _ rfl w.heap.size _ _ rfl (Pcs.nil _ _) (by simp) (by first | omega | (simp;omega)) _ 1 rfl (.iface 111 (.string S1)) rfl ?_ ?_))
 case _=>first | exact cell_new _ _ _ _ 0 _ rfl | simp []
 intro g1 cap1 W1 hO gr
 try simp only [List.length_nil,List.length_cons,List.nil_append,List.cons_append,Nat.reduceAdd,Nat.zero_add] at hO
 try simp only [List.length_nil,List.length_cons,Nat.reduceAdd,Nat.zero_add]
 have fX:=(((Fr.refl [] W0).alloc (.cells #[.int .u8 1,.int .i64 0,.string S1] 46)).alloc (.cells #[.iface 111 (.string S1)] 71)).grown gr (by intro j e;simp [Value.ownBlock] at e)
 have h:=h.fr fX (by simp)
 have F:=F.then fX
 have hWs:w.heap.size≤W1.heap.size:=F.size
 have ho1:=(hO.own g1 rfl).1
 clear k0 k1 k2 gr fX
 go_wp2_with fail
 have k0:=h.c3
 have k1:=h.c4
 have k2:=h.c5
 rw [rounds_succ]
 go_wp2_with (at_builtin;go_loud (refine wpList_append_pc _ rfl _ _ rfl w.heap.size _ _ rfl (((hO.fr ((Fr.refl [] W1).alloc _) (by simp)).fr ((Fr.refl [] _).alloc _) (by simp))) (by simp) (by first | omega | (simp;omega)) _ 1 rfl (.iface 117 (.agg #[.int .u8 3,.int .i64 5])) rfl ?_ ?_))
 case _=>first | exact cell_new _ _ _ _ 0 _ rfl | simp []
 intro g2 cap2 W2 hO gr
 try simp only [List.length_nil,List.length_cons,List.nil_append,List.cons_append,Nat.reduceAdd,Nat.zero_add] at hO
 try simp only [List.length_nil,List.length_cons,Nat.reduceAdd,Nat.zero_add]
 have fX:=(((Fr.refl [g1] W1).alloc (.cells #[.int .u8 3,.int .i64 5,.string ⟨#[]⟩] 46)).alloc (.cells #[.iface 117 (.agg #[.int .u8 3,.int .i64 5])] 71)).grown gr (by intro j e;simp [Value.ownBlock] at e;left;simp [e])
 have h:=h.fr fX (by simp;omega)
 have F:=F.after fX (by simp;omega)
 have hWs:w.heap.size≤W2.heap.size:=F.size
 have ho2:=(hO.own g2 rfl).1
 clear k0 k1 k2 gr fX
 go_wp2_with fail
 have k0:=h.c6
 have k1:=h.c7
 have k2:=h.c8
 rw [hS2] at k2
 rw [rounds_succ]
 go_wp2_with (at_builtin;go_loud (refine wpList_append_pc _ rfl _ _ rfl w.heap.size _ _ rfl (((hO.fr ((Fr.refl [] W2).alloc _) (by simp)).fr ((Fr.refl [] _).alloc _) (by simp))) (by simp) (by first | omega | (simp;omega)) _ 1 rfl (.iface 111 (.string S2)) rfl ?_ ?_))
 case _=>first | exact cell_new _ _ _ _ 0 _ rfl | simp []
 intro g3 cap3 W3 hO gr
 try simp only [List.length_nil,List.length_cons,List.nil_append,List.cons_append,Nat.reduceAdd,Nat.zero_add] at hO
 try simp only [List.length_nil,List.length_cons,Nat.reduceAdd,Nat.zero_add]
 have fX:=(((Fr.refl [g2] W2).alloc (.cells #[.int .u8 1,.int .i64 0,.string S2] 46)).alloc (.cells #[.iface 111 (.string S2)] 71)).grown gr (by intro j e;simp [Value.ownBlock] at e;left;simp [e])
 have h:=h.fr fX (by simp;omega)
 have F:=F.after fX (by simp;omega)
 have hWs:w.heap.size≤W3.heap.size:=F.size
 have ho3:=(hO.own g3 rfl).1
 clear k0 k1 k2 gr fX
 go_wp2_with fail
 rw [rounds_succ]
 go_wp2_with fail
 go_ret2
 exact⟨g3,cap3,rfl,World.ownsRow.cells hO rfl 0 _ rfl,World.ownsRow.cells hO rfl 1 _ rfl,World.ownsRow.cells hO rfl 2 _ rfl,F⟩
end Go.Proofs.YtcmndpjemdjalaaGreatDoor
namespace Go.Proofs.YtcmndpjemdjalaaGreatDoor
open Go.RowKit
theorem text_up (w:World) (b cap:Nat) (h:UpAt b w) :
  Calls Tryz.prog 24 #[apiPlan (.slice (some ⟨b,0,none⟩) 3 cap) 8 3 3] w fun x w'=>x=.returned (.tuple #[.string (strL [120,61,123,43,48,56,46,51,102,58,117,112,125,33]),.int .i64 0])∧Fr [] w w':=by
 have hP:=fun W (hf:Fr [] w W)=>parts_up W b cap (h.fr hf (by simp))
 have hS:=fun W (hf:Fr [] w W) g c2 (k:UpAt g W)=>same_up W b g cap c2 (h.fr hf (by simp)) k
 have hWr:=write_up
 have hCo:=compile_up
 unfold apiPlan at *
 generalize (strL [120,61,123,43,48,56,46,51,102,58,117,112,125,33])=S at *
 have F:=(Fr.refl [] w).alloc (.cells #[.slice (some ⟨b,0,none⟩) 3 cap,.int .i64 8,.int .i64 3,.int .u8 3] 37)
 have c0:=cell_new w #[.slice (some ⟨b,0,none⟩) 3 cap,.int .i64 8,.int .i64 3,.int .u8 3] 37 (0,0) 0 _ rfl
 have c1:=cell_new w #[.slice (some ⟨b,0,none⟩) 3 cap,.int .i64 8,.int .i64 3,.int .u8 3] 37 (0,0) 1 _ rfl
 have c2:=cell_new w #[.slice (some ⟨b,0,none⟩) 3 cap,.int .i64 8,.int .i64 3,.int .u8 3] 37 (0,0) 2 _ rfl
 have c3:=cell_new w #[.slice (some ⟨b,0,none⟩) 3 cap,.int .i64 8,.int .i64 3,.int .u8 3] 37 (0,0) 3 _ rfl
 clear h
 go_enter Tryz.func24,Tryz.ntmps24
 generalize hW:w.alloc (.cells #[.slice (some ⟨b,0,none⟩) 3 cap,.int .i64 8,.int .i64 3,.int .u8 3] 37)=W at *
 have hWs:w.heap.size<W.heap.size:=by rw [← hW];simp
 go_wp2_with (first
  | (go_at_call 42;go_loud (refine (hP _ F).mono ?_;rintro x w1 ⟨g,cap1,rfl,hg,hg1,hg2,g1⟩;have c0:=g1.stay c0 (by simp);have c1:=g1.stay c1 (by simp);have c2:=g1.stay c2 (by simp);have c3:=g1.stay c3 (by simp);replace F:=F.then g1))
  | (go_at_call 43;go_loud (refine (hWr _ _ _ _ (World.block_lt_of_cell? _ _ hg) hg hg1 hg2).mono ?_;rintro x w2 ⟨rfl,g2⟩;have c0:=g2.stay c0 (by simp);have c1:=g2.stay c1 (by simp);have c2:=g2.stay c2 (by simp);have c3:=g2.stay c3 (by simp);replace F:=F.then g2;clear hg hg1 hg2))
  | (go_at_call 9;go_loud (refine (hCo _).mono ?_;rintro x w3 ⟨v,rfl,hU,g3⟩;obtain⟨q,cap2,rfl,hq,hA⟩:=hU.at;clear hU;have c0:=g3.stay c0 (by simp);have c1:=g3.stay c1 (by simp);have c2:=g3.stay c2 (by simp);have c3:=g3.stay c3 (by simp);have nlt:w.heap.size<w3.heap.size:=(by have:=World.block_lt_of_cell? _ _ c0;exact this);have fX:=(Fr.refl [] w3).alloc (.cells #[.slice (some ⟨q,0,none⟩) 3 cap2,.int .i64 8,.int .i64 3,.int .u8 3] 37);have c0:=fX.stay c0 (by simp);have c1:=fX.stay c1 (by simp);have c2:=fX.stay c2 (by simp);have c3:=fX.stay c3 (by simp);replace F:=(F.then g3).then fX;have hA:=hA.fr fX (by simp)))
  | (go_at_call 44;go_loud (refine (hS _ F q cap2 hA).mono ?_;rintro x w4 ⟨rfl,g4⟩)))
 go_ret2
 exact⟨rfl,F.then g4⟩
theorem check_up (w:World) (b cap:Nat) (h:UpAt b w) :
  Calls Tryz.prog 12 #[apiPlan (.slice (some ⟨b,0,none⟩) 3 cap) 8 3 3] w fun x w'=>x=.returned (.int .i64 0)∧Fr [] w w':=by
 have hT:=fun W (hf:Fr [] w W)=>text_up W b cap (h.fr hf (by simp))
 unfold apiPlan at *
 have F:=(Fr.refl [] w).alloc (.cells #[.slice (some ⟨b,0,none⟩) 3 cap,.int .i64 8,.int .i64 3,.int .u8 3] 37)
 go_enter Tryz.func12,Tryz.ntmps12
 go_wp2_with (go_at_call 24;go_loud (refine (hT _ F).mono ?_;rintro x w1 ⟨rfl,g1⟩))
 go_ret
 exact⟨rfl,F.then g1⟩
end Go.Proofs.YtcmndpjemdjalaaGreatDoor
namespace Go.Proofs.YtcmndpjemdjalaaGreatDoor
open Go.RowKit
theorem open_up (w:World) (b cap:Nat) (h:UpAt b w) :
  Calls Tryz.prog 19 #[apiPlan (.slice (some ⟨b,0,none⟩) 3 cap) 8 3 3] w fun x w'=>x=.returned (planV (strL [120,61]) (strL [33]) 3 5 ⟨#[]⟩ 8 3)∧Fr [] w w':=by
 have hb:=h.lt
 generalize hS1:strL [120,61]=S1
 generalize hS2:strL [33]=S2
 unfold apiPlan planV
 go_enter Tryz.func19,Tryz.ntmps19
 go_wp2_with fail
 have f1:=(Fr.refl [] w).alloc (.cells #[.slice (some ⟨b,0,none⟩) 3 cap,.int .i64 8,.int .i64 3,.int .u8 3] 37)
 have f2:=(Fr.refl [] (w.alloc (.cells #[.slice (some ⟨b,0,none⟩) 3 cap,.int .i64 8,.int .i64 3,.int .u8 3] 37))).alloc (.cells #[.string ⟨#[]⟩,.string ⟨#[]⟩,.int .u8 0,.int .i64 0,.string ⟨#[]⟩,.int .i64 0,.int .i64 0] 57)
 have f3:=(Fr.refl [] ((w.alloc (.cells #[.slice (some ⟨b,0,none⟩) 3 cap,.int .i64 8,.int .i64 3,.int .u8 3] 37)).alloc (.cells #[.string ⟨#[]⟩,.string ⟨#[]⟩,.int .u8 0,.int .i64 0,.string ⟨#[]⟩,.int .i64 0,.int .i64 0] 57))).alloc (.cells #[.string ⟨#[]⟩,.string ⟨#[]⟩,.int .u8 0,.int .i64 0,.string ⟨#[]⟩,.int .i64 8,.int .i64 3] 57)
 have r2:=f3.row (row_new (w.alloc (.cells #[.slice (some ⟨b,0,none⟩) 3 cap,.int .i64 8,.int .i64 3,.int .u8 3] 37)) (.cells #[.string ⟨#[]⟩,.string ⟨#[]⟩,.int .u8 0,.int .i64 0,.string ⟨#[]⟩,.int .i64 0,.int .i64 0] 57)) (by simp)
 have r3:=row_new ((w.alloc (.cells #[.slice (some ⟨b,0,none⟩) 3 cap,.int .i64 8,.int .i64 3,.int .u8 3] 37)).alloc (.cells #[.string ⟨#[]⟩,.string ⟨#[]⟩,.int .u8 0,.int .i64 0,.string ⟨#[]⟩,.int .i64 0,.int .i64 0] 57)) (.cells #[.string ⟨#[]⟩,.string ⟨#[]⟩,.int .u8 0,.int .i64 0,.string ⟨#[]⟩,.int .i64 8,.int .i64 3] 57)
 have fW:=(f1.then f2).then f3
 generalize hW:((w.alloc (.cells #[.slice (some ⟨b,0,none⟩) 3 cap,.int .i64 8,.int .i64 3,.int .u8 3] 37)).alloc (.cells #[.string ⟨#[]⟩,.string ⟨#[]⟩,.int .u8 0,.int .i64 0,.string ⟨#[]⟩,.int .i64 0,.int .i64 0] 57)).alloc (.cells #[.string ⟨#[]⟩,.string ⟨#[]⟩,.int .u8 0,.int .i64 0,.string ⟨#[]⟩,.int .i64 8,.int .i64 3] 57)=W at *
 have hWs:W.heap.size=w.heap.size+1+1+1:=by rw [← hW];simp
 simp only [World.size_alloc] at r2 r3
 clear hW f1 f2 f3
 have h:=h.fr fW (by simp)
 have n1:¬ b=w.heap.size+1+1+1:=by omega
 have n2:¬ b=w.heap.size+1+1:=by omega
 have n3:¬ b=w.heap.size+1:=by omega
 have hWs':w.heap.size+1+1+1≤W.heap.size:=by omega
 clear hWs
 refine wp_loop_rounds 4 ?_
 have q0:W.cell? ⟨w.heap.size+1+1,0,none⟩=some (.string ⟨#[]⟩):=by rw [cell_of_row _ _ 0 _ _ _ r3];rfl
 have q1:W.cell? ⟨w.heap.size+1+1,1,none⟩=some (.string ⟨#[]⟩):=by rw [cell_of_row _ _ 1 _ _ _ r3];rfl
 have q2:W.cell? ⟨w.heap.size+1+1,2,none⟩=some (.int .u8 0):=by rw [cell_of_row _ _ 2 _ _ _ r3];rfl
 have q3:W.cell? ⟨w.heap.size+1+1,3,none⟩=some (.int .i64 0):=by rw [cell_of_row _ _ 3 _ _ _ r3];rfl
 have q4:W.cell? ⟨w.heap.size+1+1,4,none⟩=some (.string ⟨#[]⟩):=by rw [cell_of_row _ _ 4 _ _ _ r3];rfl
 have q5:W.cell? ⟨w.heap.size+1+1,5,none⟩=some (.int .i64 8):=by rw [cell_of_row _ _ 5 _ _ _ r3];rfl
 have q6:W.cell? ⟨w.heap.size+1+1,6,none⟩=some (.int .i64 3):=by rw [cell_of_row _ _ 6 _ _ _ r3];rfl
 have z3:∀ i,W.frozen? ⟨w.heap.size+1+1,i,none⟩=false:=fun i=>frozen_of_row W _ i _ _ r3
 have k0:=h.c0
 have k1:=h.c1
 have k2:=h.c2
 rw [hS1] at k2
 have m1:¬ w.heap.size+1+1=W.heap.size:=by omega
 have m2:¬ b=W.heap.size:=by have:=h.lt;omega
 have m3:w.heap.size+1+1<W.heap.size:=by omega
 have m4:=h.lt
 rw [rounds_succ]
 go_wp2_with fail
 clear m1 m2 m3 m4
 have fX:=((Fr.refl [w.heap.size+1+1] W).setCell (p:=⟨w.heap.size+1+1,0,none⟩) (.inl (by simp)) (.string S1)).alloc (.cells #[.int .u8 1,.int .i64 0,.string S1] 46)
 have r3:=(heap_setCell_same _ _ 0 _ _ (.string S1) r3)
 have r3:=((Fr.refl [] _).alloc (.cells #[.int .u8 1,.int .i64 0,.string S1] 46)).row r3 (by simp)
 have r2:=fX.row r2 (by simp)
 have h:=h.fr fX (by simp;omega)
 have fW:=fW.after fX (by simp <;> omega)
 have hWs':=Nat.le_trans hWs' fX.size
 clear q0 q1 q2 q3 q4 q5 q6 z3 k0 k1 k2 fX
 generalize ((W.setCell ⟨w.heap.size+1+1,0,none⟩ (.string S1)).alloc (.cells #[.int .u8 1,.int .i64 0,.string S1] 46))=W1 at *
 have q0:W1.cell? ⟨w.heap.size+1+1,0,none⟩=some (.string S1):=by rw [cell_of_row _ _ 0 _ _ _ r3];rfl
 have q1:W1.cell? ⟨w.heap.size+1+1,1,none⟩=some (.string ⟨#[]⟩):=by rw [cell_of_row _ _ 1 _ _ _ r3];rfl
 have q2:W1.cell? ⟨w.heap.size+1+1,2,none⟩=some (.int .u8 0):=by rw [cell_of_row _ _ 2 _ _ _ r3];rfl
 have q3:W1.cell? ⟨w.heap.size+1+1,3,none⟩=some (.int .i64 0):=by rw [cell_of_row _ _ 3 _ _ _ r3];rfl
 have q4:W1.cell? ⟨w.heap.size+1+1,4,none⟩=some (.string ⟨#[]⟩):=by rw [cell_of_row _ _ 4 _ _ _ r3];rfl
 have q5:W1.cell? ⟨w.heap.size+1+1,5,none⟩=some (.int .i64 8):=by rw [cell_of_row _ _ 5 _ _ _ r3];rfl
 have q6:W1.cell? ⟨w.heap.size+1+1,6,none⟩=some (.int .i64 3):=by rw [cell_of_row _ _ 6 _ _ _ r3];rfl
 have z3:∀ i,W1.frozen? ⟨w.heap.size+1+1,i,none⟩=false:=fun i=>frozen_of_row W1 _ i _ _ r3
 have k0:=h.c3
 have k1:=h.c4
 have k2:=h.c5
 have m1:¬ w.heap.size+1+1=W1.heap.size:=by omega
 have m2:¬ b=W1.heap.size:=by have:=h.lt;omega
 have m3:w.heap.size+1+1<W1.heap.size:=by omega
 have m4:=h.lt
 rw [rounds_succ]
 go_wp2_with fail
 clear m1 m2 m3 m4
 have fX:=((((Fr.refl [w.heap.size+1+1] W1).setCell (p:=⟨w.heap.size+1+1,2,none⟩) (.inl (by simp)) (.int .u8 3)).setCell (p:=⟨w.heap.size+1+1,3,none⟩) (.inl (by simp)) (.int .i64 5)).setCell (p:=⟨w.heap.size+1+1,4,none⟩) (.inl (by simp)) (.string ⟨#[]⟩)).alloc (.cells #[.int .u8 3,.int .i64 5,.string ⟨#[]⟩] 46)
 have r3:=(heap_setCell_same _ _ 4 _ _ (.string ⟨#[]⟩) (heap_setCell_same _ _ 3 _ _ (.int .i64 5) (heap_setCell_same _ _ 2 _ _ (.int .u8 3) r3)))
 have r3:=((Fr.refl [] _).alloc (.cells #[.int .u8 3,.int .i64 5,.string ⟨#[]⟩] 46)).row r3 (by simp)
 have r2:=fX.row r2 (by simp)
 have h:=h.fr fX (by simp;omega)
 have fW:=fW.after fX (by simp <;> omega)
 have hWs':=Nat.le_trans hWs' fX.size
 clear q0 q1 q2 q3 q4 q5 q6 z3 k0 k1 k2 fX
 generalize ((((W1.setCell ⟨w.heap.size+1+1,2,none⟩ (.int .u8 3)).setCell ⟨w.heap.size+1+1,3,none⟩ (.int .i64 5)).setCell ⟨w.heap.size+1+1,4,none⟩ (.string ⟨#[]⟩)).alloc (.cells #[.int .u8 3,.int .i64 5,.string ⟨#[]⟩] 46))=W2 at *
 have q0:W2.cell? ⟨w.heap.size+1+1,0,none⟩=some (.string S1):=by rw [cell_of_row _ _ 0 _ _ _ r3];rfl
 have q1:W2.cell? ⟨w.heap.size+1+1,1,none⟩=some (.string ⟨#[]⟩):=by rw [cell_of_row _ _ 1 _ _ _ r3];rfl
 have q2:W2.cell? ⟨w.heap.size+1+1,2,none⟩=some (.int .u8 3):=by rw [cell_of_row _ _ 2 _ _ _ r3];rfl
 have q3:W2.cell? ⟨w.heap.size+1+1,3,none⟩=some (.int .i64 5):=by rw [cell_of_row _ _ 3 _ _ _ r3];rfl
 have q4:W2.cell? ⟨w.heap.size+1+1,4,none⟩=some (.string ⟨#[]⟩):=by rw [cell_of_row _ _ 4 _ _ _ r3];rfl
 have q5:W2.cell? ⟨w.heap.size+1+1,5,none⟩=some (.int .i64 8):=by rw [cell_of_row _ _ 5 _ _ _ r3];rfl
 have q6:W2.cell? ⟨w.heap.size+1+1,6,none⟩=some (.int .i64 3):=by rw [cell_of_row _ _ 6 _ _ _ r3];rfl
 have z3:∀ i,W2.frozen? ⟨w.heap.size+1+1,i,none⟩=false:=fun i=>frozen_of_row W2 _ i _ _ r3
 have k0:=h.c6
 have k1:=h.c7
 have k2:=h.c8
 rw [hS2] at k2
 have m1:¬ w.heap.size+1+1=W2.heap.size:=by omega
 have m2:¬ b=W2.heap.size:=by have:=h.lt;omega
 have m3:w.heap.size+1+1<W2.heap.size:=by omega
 have m4:=h.lt
 rw [rounds_succ]
 go_wp2_with fail
 clear m1 m2 m3 m4
 have fX:=((Fr.refl [w.heap.size+1+1] W2).setCell (p:=⟨w.heap.size+1+1,1,none⟩) (.inl (by simp)) (.string S2)).alloc (.cells #[.int .u8 1,.int .i64 0,.string S2] 46)
 have r3:=(heap_setCell_same _ _ 1 _ _ (.string S2) r3)
 have r3:=((Fr.refl [] _).alloc (.cells #[.int .u8 1,.int .i64 0,.string S2] 46)).row r3 (by simp)
 have r2:=fX.row r2 (by simp)
 have h:=h.fr fX (by simp;omega)
 have fW:=fW.after fX (by simp <;> omega)
 have hWs':=Nat.le_trans hWs' fX.size
 clear q0 q1 q2 q3 q4 q5 q6 z3 k0 k1 k2 fX
 generalize ((W2.setCell ⟨w.heap.size+1+1,1,none⟩ (.string S2)).alloc (.cells #[.int .u8 1,.int .i64 0,.string S2] 46))=W3 at *
 rw [rounds_succ]
 go_wp2_with (first
  | ((with_reducible show wpList _ _ _ (⟨some 36,.load 57 (.tmp 3),_,_,_,_⟩ :: _) _ _);go_loud (refine wpList_load_row rfl 57 (.tmp 3) rfl (w.heap.size+1+1) rfl _ _ _ _ r3 Tryz.underlying57 rfl (by kernel_rfl) ?_))
  | ((with_reducible show wpList _ _ _ (⟨none,.store 57 (.tmp 2) (.tmp 36),_,_,_,_⟩ :: _) _ _);go_loud (refine wpList_store_whole rfl 57 (.tmp 2) (.tmp 36) rfl (w.heap.size+1) #[.string S1,.string S2,.int .u8 3,.int .i64 5,.string ⟨#[]⟩,.int .i64 8,.int .i64 3] rfl rfl _ _ r2 (by kernel_rfl) rfl (by simp [Value.oneCell']) ?_;intro w3 hn3 g3)))
 (try simp only [Exit.inBlock,Exit.then])
 refine bodyPost_ret (v:=_) (results_cell_row rfl _ _ (w.heap.size+1) _ _ _ _ rfl hn3 Tryz.underlying57 rfl (by kernel_rfl)) rfl ?_
 exact⟨rfl,fW.after g3 (by simp <;> omega)⟩
end Go.Proofs.YtcmndpjemdjalaaGreatDoor
namespace Go.Proofs.YtcmndpjemdjalaaGreatDoor
open Go.RowKit
theorem tab_fr {w W:World} (h:TabAt 7 Lib.deBruijn32tab w) (hf:Fr [] w W):TabAt 7 Lib.deBruijn32tab W:=fun j hj=>hf.stay (h j hj) (by simp)
def UpC (g _cap:Nat) (w:World):Prop:=UpAt g w
theorem UpC.lasts:∀ g cap W W',UpC g cap W→Fr [] W W'→UpC g cap W':=fun _ _ _ _ h hf=>UpAt.fr h hf (by simp)
theorem compile_upC (W:World):Calls Tryz.prog 9 #[.string (strL [120,61,123,43,48,56,46,51,102,58,117,112,125,33])] W fun x w'=>∃ g cap:Nat,x=.returned (.tuple #[apiPlan (.slice (some ⟨g,0,none⟩) 3 cap) 8 3 3,.nilIface])∧UpC g cap w'∧Fr [] W w':=by
 refine (compile_up W).mono ?_
 rintro x w' ⟨v,h1,h2,h3⟩
 obtain⟨g,cap,e,-,k⟩:=h2.at
 subst e
 exact⟨g,cap,h1,k,h3⟩
def OneC (d:Nat) (N:Int) (g _cap:Nat) (w:World):Prop:=w.cell? ⟨g,0,none⟩=some (.int .u8 d)∧w.cell? ⟨g,1,none⟩=some (.int .i64 N)∧w.cell? ⟨g,2,none⟩=some (.string ⟨#[]⟩)
theorem OneC.lasts (d:Nat) (N:Int):∀ g cap W W',OneC d N g cap W→Fr [] W W'→OneC d N g cap W':=fun _ _ _ _ ⟨h1,h2,h3⟩ hf=>⟨hf.stay h1 (by simp),hf.stay h2 (by simp),hf.stay h3 (by simp)⟩
theorem compile_oneC {d mode:Nat} {N wd pl:Int} {S:ByteArray} (h:CompileIs d mode N wd pl S) (W:World):Calls Tryz.prog 9 #[.string S] W fun x w'=>∃ g cap:Nat,x=.returned (.tuple #[apiPlan (.slice (some ⟨g,0,none⟩) 1 cap) wd pl mode,.nilIface])∧OneC d N g cap w'∧Fr [] W w':=by
 refine (h W).mono ?_
 rintro x w' ⟨v,h1,⟨g,cap,e,-,k1,k2,k3⟩,h3⟩
 subst e
 exact⟨g,cap,h1,⟨k1,k2,k3⟩,h3⟩
theorem by_up1 (w:World) (hTab:TabAt 7 Lib.deBruijn32tab w):Calls Tryz.prog 5 #[.string (strL [120,61,123,43,48,56,46,51,102,58,117,112,125,33]),.string (strL [120,61,43,48,48,49,46,53,48,48,33])] w fun x w'=>x=.returned (toldV 4609434218613702656 0 0 0)∧Fr [] w w':=by
 refine by_yes w _ _ 8 3 _ _ 3 3 UpC UpC.lasts (fun W _=>compile_upC W) ?_
 rintro g cap W hA hf
 have hv:txtV 11 52 false 0 (.dec [49] [53,48,48] true none)=(4609434218613702656,0):=by decide +kernel
 have hT:∀ Y:World,Calls Tryz.prog 29 #[planV (strL [120,61]) (strL [33]) 3 5 ⟨#[]⟩ 8 3,.string (strL [43,48,48,49,46,53,48,48])] Y fun x w'=>x=.returned (.tuple #[.string (strL [49,46,53,48,48]),.bool true])∧Fr [] Y w':=by
  intro Y
  have h:=take_z2 Y (strL [120,61]) (strL [33]) ⟨#[]⟩ 3 3 [43,48,48,49,46,53,48,48] [48,48,49,46,53,48,48] (by decide) rfl (by decide) (by decide) (by decide) (by decide) (by decide) (by decide) (by decide) (by decide) (fun _=>by kernel_rfl) (fun _=>by kernel_rfl) (by decide) (by decide)
  have e1:finOk true 2 8 (strL [43,48,48,49,46,53,48,48]).size=true:=by rw [strL_size];decide
  rw [e1] at h
  exact h
 have h:=matchReadG_yes W 11 52 (.slice (some ⟨g,0,none⟩) 3 cap) (planV (strL [120,61]) (strL [33]) 3 5 ⟨#[]⟩ 8 3) 3 8 3 [120,61,43,48,48,49,46,53,48,48,33] 0 (fun X hX=>check_up X g cap (UpAt.fr hA hX (by simp))) (by decide) (by decide) (by decide) (fun X hX=>open_up X g cap (UpAt.fr hA hX (by simp)))
  [49,46,53,48,48] (fun X=>taken_up1 X _ _ hT) (by decide) false (.dec [49] [53,48,48] true none) ⟨by decide,by unfold TenL;decide,by unfold TenL;decide,by decide,by intro x hx;cases hx⟩ rfl (tab_fr hTab hf)
 rw [hv] at h
 exact h
theorem by_up2 (w:World) (hg:ErrTy w):Calls Tryz.prog 5 #[.string (strL [120,61,123,43,48,56,46,51,102,58,117,112,125,33]),.string (strL [120,61,43,48,48,48,49,46,53,48,48,33])] w fun x w'=>x=.returned (toldV 0 0 220 2)∧Fr [] w w':=by
 refine by_no w _ _ 8 3 220 2 3 3 UpC UpC.lasts hg (by decide) (fun W _=>compile_upC W) ?_
 rintro g cap W hA hf
 have hT:∀ Y:World,Calls Tryz.prog 29 #[planV (strL [120,61]) (strL [33]) 3 5 ⟨#[]⟩ 8 3,.string (strL [43,48,48,48,49,46,53,48,48])] Y fun x w'=>∃ n:List UInt8,x=.returned (.tuple #[.string (strL n),.bool false])∧Fr [] Y w':=by
  intro Y
  have h:=take_z3 Y (strL [120,61]) (strL [33]) ⟨#[]⟩ 3 3 [43,48,48,48,49,46,53,48,48] [48,48,48,49,46,53,48,48] (by decide) rfl (by decide) (by decide) (by decide) (by decide) (by decide) (by decide) (by decide) (by decide) (by decide) (fun _=>by kernel_rfl) (fun _=>by kernel_rfl) (fun _=>by kernel_rfl) (by decide) (by decide)
  have e1:finOk true 3 8 (strL [43,48,48,48,49,46,53,48,48]).size=false:=by rw [strL_size];decide
  rw [e1] at h
  exact h.mono (fun _ _ ⟨h1,h2⟩=>⟨_,h1,h2⟩)
 exact matchReadG_no W 11 52 (.slice (some ⟨g,0,none⟩) 3 cap) (planV (strL [120,61]) (strL [33]) 3 5 ⟨#[]⟩ 8 3) 3 8 3 [120,61,43,48,48,48,49,46,53,48,48,33] 0 (fun X hX=>check_up X g cap (UpAt.fr hA hX (by simp))) (by decide) (by decide) (by decide) (fun X hX=>open_up X g cap (UpAt.fr hA hX (by simp)))
  2 (fun X=>taken_up2 X _ hT)
theorem by_up3 (w:World) (hg:ErrTy w):Calls Tryz.prog 5 #[.string (strL [120,61,123,43,48,56,46,51,102,58,117,112,125,33]),.string (strL [120,61,43,48,48,49,46,53,48,48])] w fun x w'=>x=.returned (toldV 0 0 220 10)∧Fr [] w w':=by
 refine by_no w _ _ 8 3 220 10 3 3 UpC UpC.lasts hg (by decide) (fun W _=>compile_upC W) ?_
 rintro g cap W hA hf
 exact matchReadG_no W 11 52 (.slice (some ⟨g,0,none⟩) 3 cap) (planV (strL [120,61]) (strL [33]) 3 5 ⟨#[]⟩ 8 3) 3 8 3 [120,61,43,48,48,49,46,53,48,48] 0 (fun X hX=>check_up X g cap (UpAt.fr hA hX (by simp))) (by decide) (by decide) (by decide) (fun X hX=>open_up X g cap (UpAt.fr hA hX (by simp)))
  10 (fun X=>taken_up3 X _)
theorem by_back:∃ fl:Int,∀ w:World,TabAt 7 Lib.deBruijn32tab w→Calls Tryz.prog 5 #[.string (strL [123,45,54,115,125]),.string (strL [48,46,49,32,32,32])] w fun x w'=>x=.returned (toldV 4591870180066957722 fl 0 0)∧Fr [] w w':=by
 obtain⟨fl,hv⟩:∃ fl,txtV 11 52 false 0 (.dec [48] [49] true none)=(4591870180066957722,fl):=⟨_,Prod.ext (by decide +kernel) rfl⟩
 refine⟨fl,fun w hTab=>?_⟩
 refine by_yes w _ _ 6 (-1) _ _ 0 1 (OneC 2 8) (OneC.lasts _ _) (fun W _=>compile_oneC compileIs_6s W) ?_
 rintro g cap W ⟨k0,k1,k2⟩ hf
 have hT:∀ Y:World,Calls Tryz.prog 29 #[planV ⟨#[]⟩ ⟨#[]⟩ (2:Nat) 8 ⟨#[]⟩ 6 (-1),.string (strL [48,46,49,32,32,32])] Y fun x w'=>x=.returned (.tuple #[.string (strL [48,46,49]),.bool true])∧Fr [] Y w':=by
  intro Y
  have e0:Lib.trimRightS [48,46,49,32,32,32] [32]=[48,46,49]:=by decide
  have h:=take_back Y ⟨#[]⟩ ⟨#[]⟩ ⟨#[]⟩ 2 (-1) [48,46,49,32,32,32] (by decide) (by rw [e0];decide) (by rw [e0,ByteArray.toList_eq,strL_data];decide)
  rw [e0] at h
  have e1:finOk (bodyB 2 (-1) [48,46,49]) ((strL [48,46,49,32,32,32]).size - (strL [48,46,49]).size:Int) 6 (strL [48,46,49,32,32,32]).size=true:=by rw [strL_size,strL_size];decide
  rw [e1] at h
  exact h
 have h:=matchReadG_yes W 11 52 (.slice (some ⟨g,0,none⟩) 1 cap) (planV ⟨#[]⟩ ⟨#[]⟩ 2 8 ⟨#[]⟩ 6 (-1)) 0 6 (-1) [48,46,49,32,32,32] 0
  (fun X hX=>check_one X g cap 2 0 8 6 (-1) _ (by omega) (by simp) (hX.stay k0 (by simp)) (hX.stay k1 (by simp)) (hX.stay k2 (by simp)) writeIs_6s compileIs_6s) (by decide) (by decide) (by decide)
  (fun X hX=>open_one X g cap 2 0 8 6 (-1) ⟨#[]⟩ (by decide) (hX.stay k0 (by simp)) (hX.stay k1 (by simp)) (hX.stay k2 (by simp)))
  [48,46,49] (fun X=>takenG_yes X _ _ _ _ _ [48,46,49,32,32,32] _ (by decide) hT) (by decide) false (.dec [48] [49] true none) ⟨by decide,by unfold TenL;decide,by unfold TenL;decide,by decide,by intro x hx;cases hx⟩ rfl (tab_fr hTab hf)
 rw [hv] at h
 exact h
theorem by_exp (w:World) (hg:ErrTy w):Calls Tryz.prog 5 #[.string (strL [123,46,50,101,125]),.string (strL [49,50,46,51,101,50])] w fun x w'=>x=.returned (toldV 0 0 220 0)∧Fr [] w w':=by
 refine by_no w _ _ 0 2 220 0 0 1 (OneC 4 0) (OneC.lasts _ _) hg (by decide) (fun W _=>compile_oneC (compileIs_ep 2 (by decide)) W) ?_
 rintro g cap W ⟨k0,k1,k2⟩ hf
 exact matchReadG_no W 11 52 (.slice (some ⟨g,0,none⟩) 1 cap) (planV ⟨#[]⟩ ⟨#[]⟩ 4 0 ⟨#[]⟩ 0 2) 0 0 2 [49,50,46,51,101,50] 0
  (fun X hX=>check_look X g cap 4 2 (by unfold LookOk;omega) (hX.stay k0 (by simp)) (hX.stay k1 (by simp)) (hX.stay k2 (by simp))) (by decide) (by decide) (by decide)
  (fun X hX=>open_one X g cap 4 0 0 0 2 ⟨#[]⟩ (by decide) (hX.stay k0 (by simp)) (hX.stay k1 (by simp)) (hX.stay k2 (by simp)))
  0 (fun X=>taken_no X _ _ _ [49,50,46,51,101,50] (by decide) (by decide))
end Go.Proofs.YtcmndpjemdjalaaGreatDoor
namespace Go.Proofs.YtcmndpjemdjalaaGreatDoor
open Go.RowKit
theorem alive_any (w:World) (hg:ErrTy w) (hTab:TabAt 7 Lib.deBruijn32tab w):Calls Tryz.prog 11 #[] w fun x w'=>x=.returned (.bool true)∧Fr [] w w':=by
 obtain⟨fl,hfl⟩:=by_back
 have h0:∀ W,Fr [] w W→Calls Tryz.prog 5 #[.string ⟨#[120,61,123,43,48,56,46,51,102,58,117,112,125,33]⟩,.string ⟨#[120,61,43,48,48,49,46,53,48,48,33]⟩] W fun x w'=>x=.returned (.agg #[.int .u64 4609434218613702656,.int .u8 0,.int .i64 0,.int .i64 0,.bool true])∧Fr [] W w':=fun W hf=>by_up1 W (tab_fr hTab hf)
 have h1:∀ W,Fr [] w W→Calls Tryz.prog 5 #[.string ⟨#[120,61,123,43,48,56,46,51,102,58,117,112,125,33]⟩,.string ⟨#[120,61,43,48,48,48,49,46,53,48,48,33]⟩] W fun x w'=>x=.returned (.agg #[.int .u64 0,.int .u8 0,.int .i64 220,.int .i64 2,.bool true])∧Fr [] W w':=fun W hf=>by_up2 W (hg.fr hf)
 have h2:∀ W,Fr [] w W→Calls Tryz.prog 5 #[.string ⟨#[120,61,123,43,48,56,46,51,102,58,117,112,125,33]⟩,.string ⟨#[120,61,43,48,48,49,46,53,48,48]⟩] W fun x w'=>x=.returned (.agg #[.int .u64 0,.int .u8 0,.int .i64 220,.int .i64 10,.bool true])∧Fr [] W w':=fun W hf=>by_up3 W (hg.fr hf)
 have h3:∀ W,Fr [] w W→Calls Tryz.prog 5 #[.string ⟨#[123,45,54,115,125]⟩,.string ⟨#[48,46,49,32,32,32]⟩] W fun x w'=>x=.returned (.agg #[.int .u64 4591870180066957722,.int .u8 fl,.int .i64 0,.int .i64 0,.bool true])∧Fr [] W w':=fun W hf=>hfl W (tab_fr hTab hf)
 have h4:∀ W,Fr [] w W→Calls Tryz.prog 5 #[.string ⟨#[123,46,50,101,125]⟩,.string ⟨#[49,50,46,51,101,50]⟩] W fun x w'=>x=.returned (.agg #[.int .u64 0,.int .u8 0,.int .i64 220,.int .i64 0,.bool true])∧Fr [] W w':=fun W hf=>by_exp W (hg.fr hf)
 have n2:∀ W,Calls Tryz.prog 6 #[.int .i64 2] W fun x w'=>x=.returned (.agg #[.int .u64 0,.int .u8 0,.int .i64 220,.int .i64 2,.bool true])∧Fr [] W w':=fun W=>lawNo W 2
 have n10:∀ W,Calls Tryz.prog 6 #[.int .i64 10] W fun x w'=>x=.returned (.agg #[.int .u64 0,.int .u8 0,.int .i64 220,.int .i64 10,.bool true])∧Fr [] W w':=fun W=>lawNo W 10
 have n0:∀ W,Calls Tryz.prog 6 #[.int .i64 0] W fun x w'=>x=.returned (.agg #[.int .u64 0,.int .u8 0,.int .i64 220,.int .i64 0,.bool true])∧Fr [] W w':=fun W=>lawNo W 0
 have hfd:∀ W,(Instr.field 27 (.agg #[.int .u64 4591870180066957722,.int .u8 fl,.int .i64 0,.int .i64 0,.bool true]) 0).run Tryz.prog W=.ok (.int .u64 4591870180066957722) W:=fun _=>by kernel_rfl
 clear hfl hg hTab
 have F:=Fr.refl [] w
 go_enter Tryz.func11,Tryz.ntmps11
 go_wp2_with (first
  | (go_at_call 5;(with_reducible show Calls _ _ #[.string ⟨#[120,61,123,43,48,56,46,51,102,58,117,112,125,33]⟩,.string ⟨#[120,61,43,48,48,49,46,53,48,48,33]⟩] _ _);go_loud (refine (h0 _ F).mono ?_;rintro x w1 ⟨rfl,f⟩;replace F:=F.then f;clear f))
  | (go_at_call 5;(with_reducible show Calls _ _ #[.string ⟨#[120,61,123,43,48,56,46,51,102,58,117,112,125,33]⟩,.string ⟨#[120,61,43,48,48,48,49,46,53,48,48,33]⟩] _ _);go_loud (refine (h1 _ F).mono ?_;rintro x w1 ⟨rfl,f⟩;replace F:=F.then f;clear f))
  | (go_at_call 5;(with_reducible show Calls _ _ #[.string ⟨#[120,61,123,43,48,56,46,51,102,58,117,112,125,33]⟩,.string ⟨#[120,61,43,48,48,49,46,53,48,48]⟩] _ _);go_loud (refine (h2 _ F).mono ?_;rintro x w1 ⟨rfl,f⟩;replace F:=F.then f;clear f))
  | (go_at_call 5;(with_reducible show Calls _ _ #[.string ⟨#[123,45,54,115,125]⟩,.string ⟨#[48,46,49,32,32,32]⟩] _ _);go_loud (refine (h3 _ F).mono ?_;rintro x w1 ⟨rfl,f⟩;replace F:=F.then f;clear f))
  | (go_at_call 5;(with_reducible show Calls _ _ #[.string ⟨#[123,46,50,101,125]⟩,.string ⟨#[49,50,46,51,101,50]⟩] _ _);go_loud (refine (h4 _ F).mono ?_;rintro x w1 ⟨rfl,f⟩;replace F:=F.then f;clear f))
  | (go_at_call 6;(with_reducible show Calls _ _ #[.int .i64 2] _ _);go_loud (refine (n2 _).mono ?_;rintro x w1 ⟨rfl,f⟩;replace F:=F.then f;clear f))
  | (go_at_call 6;(with_reducible show Calls _ _ #[.int .i64 10] _ _);go_loud (refine (n10 _).mono ?_;rintro x w1 ⟨rfl,f⟩;replace F:=F.then f;clear f))
  | (go_at_call 6;(with_reducible show Calls _ _ #[.int .i64 0] _ _);go_loud (refine (n0 _).mono ?_;rintro x w1 ⟨rfl,f⟩;replace F:=F.then f;clear f)))
 go_ret
 exact⟨rfl,F⟩
end Go.Proofs.YtcmndpjemdjalaaGreatDoor
