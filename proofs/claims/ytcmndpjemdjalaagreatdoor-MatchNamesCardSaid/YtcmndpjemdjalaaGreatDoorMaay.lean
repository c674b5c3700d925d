/- Laws that the claimed theorem leans on: no condition of their own beyond their hypotheses. -/
import Derived.LaidEql
import Derived.Stop.Asserts
import Derived.RowKitTokens
import Derived.Recover
import Derived.Test.YtcmndpjemdjalaaGreatDoorMaau
import Derived.Test.YtcmndpjemdjalaaGreatDoorMaaw
import Derived.Test.YtcmndpjemdjalaaGreatDoorMaax
set_option maxRecDepth 100000
set_option maxHeartbeats 16000000
namespace Go.Proofs.YtcmndpjemdjalaaGreatDoor
open Go.RowKit Go.Extern.Stop Go.Stop Go.Extern
theorem asValueOfPP (t:Addr) (w:World):(ReflectliteValue.unpack (.iface 62 (.pointer (some t)))).run Tryz.prog w
  = .ok (.agg #[.pointer (some ⟨9,62,none⟩),.pointer (some ⟨w.heap.size,0,none⟩),.int .u64 150]) (w.alloc (.cells #[.pointer (some t)] 62)):=by kernel_rfl
theorem asTypePP (a:Addr) (w:World):(ReflectliteValue.methodAny (ReflectliteValue.valueError "reflectlite.Value.Type" 0) (fun t _ _ _=>ReflectliteType.toType t) #[.agg #[.pointer (some ⟨9,62,none⟩),.pointer (some a),.int .u64 150]]).run Tryz.prog w
  = .ok (.iface 137 (.agg #[.pointer (some ⟨9,62,none⟩)])) w:=by kernel_rfl
theorem asKindPP (w:World):((ReflectliteType.abiMethod fun t=>(fun a:Nat=>Value.int IntKind.u8 (a:Int)) <$> Rtype.kind t) #[.pointer (some ⟨9,62,none⟩)]).run Tryz.prog w=.ok (.int .u8 22) w:=by kernel_rfl
theorem asKindP (w:World):((ReflectliteType.abiMethod fun t=>(fun a:Nat=>Value.int IntKind.u8 (a:Int)) <$> Rtype.kind t) #[.pointer (some ⟨9,60,none⟩)]).run Tryz.prog w=.ok (.int .u8 22) w:=by kernel_rfl
theorem asRlm (z:Sem Value) (f:TypeId→Addr→Nat→Nat→Sem Value) (v:Value) :
  ReflectliteValue.method z f #[v]=(do match ← ReflectliteValue.parts v with | none=>z | some (t,a,fl)=>f t a fl (fl % 32)):=rfl
theorem asPartsPP (a:Addr) (w:World):(ReflectliteValue.parts (.agg #[.pointer (some ⟨9,62,none⟩),.pointer (some a),.int .u64 150])).run Tryz.prog w=.ok (some (62,a,150)) w:=by kernel_rfl
theorem asIsNilPP (a p:Addr) (W:World) (ha:W.cell? a=some (.pointer (some p))) :
  (ReflectliteValue.method (ReflectliteValue.valueError "reflectlite.Value.IsNil" 0) ReflectliteValue.isNil #[.agg #[.pointer (some ⟨9,62,none⟩),.pointer (some a),.int .u64 150]]).run Tryz.prog W=.ok (.bool false) W:=by
 rw [asRlm]
 simp only [Sem.run_bind,asPartsPP,Result.andThen]
 simp [ReflectliteValue.isNil,loadVar,isAgg,underlying,Tryz.underlying62,ha,Result.andThen]
theorem asElemPP (w:World):(ReflectliteType.method ReflectliteType.elem #[.agg #[.pointer (some ⟨9,62,none⟩)]]).run Tryz.prog w=.ok (.iface 137 (.agg #[.pointer (some ⟨9,60,none⟩)])) w:=by kernel_rfl
theorem asImplementsP (w:World):(ReflectliteType.relation "Implements" ReflectliteType.implements_ #[.agg #[.pointer (some ⟨9,60,none⟩)],.iface 137 (.agg #[.pointer (some ⟨9,32,none⟩)])]).run Tryz.prog w=.ok (.bool true) w:=by kernel_rfl
theorem asTypeOfP (v:Value) (w:World):(ReflectliteType.typeOf #[.iface 60 v]).run Tryz.prog w=.ok (.iface 137 (.agg #[.pointer (some ⟨9,60,none⟩)])) w:=by kernel_rfl
theorem asAssignableP (w:World):(ReflectliteType.relation "AssignableTo" ReflectliteType.assignableTo #[.agg #[.pointer (some ⟨9,60,none⟩)],.iface 137 (.agg #[.pointer (some ⟨9,60,none⟩)])]).run Tryz.prog w=.ok (.bool true) w:=by kernel_rfl
theorem asValueOfP (e:Addr) (w:World):(ReflectliteValue.unpack (.iface 60 (.pointer (some e)))).run Tryz.prog w
  = .ok (.agg #[.pointer (some ⟨9,60,none⟩),.pointer (some ⟨w.heap.size,0,none⟩),.int .u64 150]) (w.alloc (.cells #[.pointer (some e)] 60)):=by kernel_rfl
theorem asElemOfPP (w:World):(Rtype.elem? 62).run Tryz.prog w=.ok (some 60) w:=by kernel_rfl
theorem asMkP (p:Addr) (w:World):(ReflectliteValue.mk 60 p ReflectliteValue.flagAddr).run Tryz.prog w=.ok (.agg #[.pointer (some ⟨9,60,none⟩),.pointer (some p),.int .u64 406]) w:=by kernel_rfl
theorem asElemVPP (a p:Addr) (W:World) (ha:W.cell? a=some (.pointer (some p))) :
  (ReflectliteValue.method (ReflectliteValue.valueError "reflectlite.Value.Elem" 0) ReflectliteValue.elem #[.agg #[.pointer (some ⟨9,62,none⟩),.pointer (some a),.int .u64 150]]).run Tryz.prog W
   = .ok (.agg #[.pointer (some ⟨9,60,none⟩),.pointer (some p),.int .u64 406]) W:=by
 rw [asRlm]
 simp only [Sem.run_bind,asPartsPP,Result.andThen]
 simp [ReflectliteValue.elem,loadVar,isAgg,underlying,Tryz.underlying62,ha,Result.andThen,asElemOfPP,asMkP]
theorem asRls (v x:Value):ReflectliteValue.set #[v,x]=(do
  let (some (dst,a,fl),some (src,b,_)):=(← ReflectliteValue.parts v,← ReflectliteValue.parts x)
   | unsupported (.noEntry "extern/(internal/reflectlite.Value).Set.zeroValue")
  if fl / ReflectliteValue.flagAddr % 2==0 then unsupported (.noEntry "extern/(internal/reflectlite.Value).Set.unaddressable")
  let val ← loadVar src b
  if ← Rtype.directlyAssignable dst src then storeVar dst a val
  else if ← Rtype.implements dst src then
   if (← Rtype.kind src)==20 then
    match val with
    | .nilIface=>unsupported (.noEntry "extern/reflectlite: a nil value of one interface type handed on as a value of another")
    | _=>storeVar dst a val
   else storeVar dst a (.iface src val)
  else panicString ("reflectlite.Set: value of type " ++ (← Rtype.spelt src) ++ " is not assignable to type " ++ (← Rtype.spelt dst))
  pure (.tuple #[])):=rfl
theorem asPartsPa (a:Addr) (w:World):(ReflectliteValue.parts (.agg #[.pointer (some ⟨9,60,none⟩),.pointer (some a),.int .u64 406])).run Tryz.prog w=.ok (some (60,a,406)) w:=by kernel_rfl
theorem asPartsP (a:Addr) (w:World):(ReflectliteValue.parts (.agg #[.pointer (some ⟨9,60,none⟩),.pointer (some a),.int .u64 150])).run Tryz.prog w=.ok (some (60,a,150)) w:=by kernel_rfl
theorem asDirectP (w:World):(Rtype.directlyAssignable 60 60).run Tryz.prog w=.ok true w:=by kernel_rfl
theorem asSetP (ta b e:Addr) (old:Value) (W:World) (hb:W.cell? b=some (.pointer (some e))) (ht:W.cell? ta=some old) (hf:W.frozen? ta=false) :
  (ReflectliteValue.set #[.agg #[.pointer (some ⟨9,60,none⟩),.pointer (some ta),.int .u64 406],.agg #[.pointer (some ⟨9,60,none⟩),.pointer (some b),.int .u64 150]]).run Tryz.prog W
   = .ok (.tuple #[]) (W.setCell ta (.pointer (some e))):=by
 rw [asRls]
 simp only [Sem.run_bind,asPartsPa,asPartsP,Result.andThen]
 simp [ReflectliteValue.flagAddr,loadVar,isAgg,underlying,Tryz.underlying60,hb,Result.andThen,asDirectP,storeVar,Value.cells,storeCells,Addr.add]
 rw [run_store Tryz.prog W ta _ _ (by rfl)]
 simp [ht,hf]
theorem asTypeOfM (v:Value) (w:World):(ReflectliteType.typeOf #[.iface 88 v]).run Tryz.prog w=.ok (.iface 137 (.agg #[.pointer (some ⟨9,88,none⟩)])) w:=by kernel_rfl
theorem asAssignableM (w:World):(ReflectliteType.relation "AssignableTo" ReflectliteType.assignableTo #[.agg #[.pointer (some ⟨9,88,none⟩)],.iface 137 (.agg #[.pointer (some ⟨9,60,none⟩)])]).run Tryz.prog w=.ok (.bool false) w:=by kernel_rfl
end Go.Proofs.YtcmndpjemdjalaaGreatDoor
namespace Go.Proofs.YtcmndpjemdjalaaGreatDoor
open Go.RowKit
theorem fieldOp (w:World) (d:Nat) (N:Int):Calls Tryz.prog 317 #[.agg #[.int .u8 d,.int .i64 N]] w fun x w'=>x=.returned (.agg #[.int .u8 d,.int .i64 N,.string ⟨#[]⟩])∧Fr [] w w':=by
 go_enter Tryz.func317,Tryz.ntmps317
 go_wp2_with fail
 have fA:=(Fr.refl [] w).alloc (.cells #[.int .u8 d,.int .i64 N] 117)
 have fB:=(Fr.refl [] (w.alloc (.cells #[.int .u8 d,.int .i64 N] 117))).alloc (.cells #[.int .u8 d,.int .i64 N,.string ⟨#[]⟩] 46)
 have r:=row_new (w.alloc (.cells #[.int .u8 d,.int .i64 N] 117)) (.cells #[.int .u8 d,.int .i64 N,.string ⟨#[]⟩] 46)
 rw [World.size_alloc] at r
 refine bodyPost_ret (v:=_) (results_cell_row rfl _ _ (w.heap.size+1) _ _ _ _ rfl r Tryz.underlying46 rfl (by kernel_rfl)) rfl ?_
 exact⟨rfl,fA.then fB⟩
theorem catch_idle (a b:Addr) (w:World) :
  CallsD Tryz.prog 22 #[.pointer (some a),.pointer (some b)] .returning w fun e u' w'=>e=.returned (.tuple #[])∧u'=.returning∧w'=w:=by
 refine callsD_of_wpS Tryz.func22 rfl fun c₀ cs hu=>?_
 apply wpS_seq
 apply wpS_region
 simp [wpOpsS,go_sem,recoverD,hu,Tryz.ntmps22,Exit.thenS]
 refine wpS_of_wp ?_
 have e:(#[Value.pointer (some a),Value.pointer (some b)]++((Array.replicate 17 undef).setIfInBounds 3 Value.nilIface).setIfInBounds 0 Value.nilIface)=#[.pointer (some a),.pointer (some b),.nilIface,undef,undef,.nilIface,undef,undef,undef,undef,undef,undef,undef,undef,undef,undef,undef,undef,undef]:=by kernel_rfl
 rw [e]
 go_wp2_with fail
 clear e
 cases c₀
 simp_all [bodyPostS,results,Tryz.results22]
theorem rdAt_row {W:World} {b:Nat} {s:ByteArray} {at_:Int} {ops:Value} {wd pl:Int} {md:Nat} (h:W.heap[b]?=some (.cells #[.string s,.int .i64 at_,ops,.int .i64 wd,.int .i64 pl,.int .u8 md] 67 (0,0))):RdAt W b s at_ ops wd pl md :=
 ⟨by rw [cell_of_row _ b 0 _ _ _ h];rfl,by rw [cell_of_row _ b 1 _ _ _ h];rfl,by rw [cell_of_row _ b 2 _ _ _ h];rfl,by rw [cell_of_row _ b 3 _ _ _ h];rfl,by rw [cell_of_row _ b 4 _ _ _ h];rfl,by rw [cell_of_row _ b 5 _ _ _ h];rfl,fun i _=>frozen_of_row W b i _ _ h⟩
theorem load_error {W:World} {b:Nat} {v:Value} (h:Var W b v):(loadVar 32 ⟨b,0,none⟩).run Tryz.prog W=.ok v W:=by
 have:=h.cell
 simp [loadVar,isAgg,underlying,Tryz.underlying32,this,Result.andThen]
def OneOp (lo:Nat) (d:Nat) (N:Int) (v:Value) (w:World):Prop:=∃ g cap:Nat,v=.slice (some ⟨g,0,none⟩) 1 cap∧lo≤g∧w.cell? ⟨g,0,none⟩=some (.int .u8 d)∧w.cell? ⟨g,1,none⟩=some (.int .i64 N)∧w.cell? ⟨g,2,none⟩=some (.string ⟨#[]⟩)
theorem OneOp.lasts (lo d:Nat) (N:Int):Lasts [] (OneOp lo d N):=fun _ _ _ ⟨g,cap,h,hl,h1,h2,h3⟩ hf=>⟨g,cap,h,hl,hf.stay h1 (by simp),hf.stay h2 (by simp),hf.stay h3 (by simp)⟩
def BuiltOp (d:Nat) (N:Int) (v:Value) (w:World):Prop:=∃ g:Nat,v=.slice (some ⟨g,0,none⟩) 1 1∧w.cell? ⟨g,0,none⟩=some (.int .u8 d)∧w.cell? ⟨g,1,none⟩=some (.int .i64 N)∧w.cell? ⟨g,2,none⟩=some (.string ⟨#[]⟩)
theorem BuiltOp.lasts (d:Nat) (N:Int):Lasts [] (BuiltOp d N):=fun _ _ _ ⟨g,h,h1,h2,h3⟩ hf=>⟨g,h,hf.stay h1 (by simp),hf.stay h2 (by simp),hf.stay h3 (by simp)⟩
theorem compile_one (w:World) (c:UInt8) (l:List UInt8) (d:Nat) (N wd pl:Int) (md:Nat) (hl:l.length≤1000) (hc:c ≠ 123)
  (hF:∀ W b,RdAt W b (strL (123 :: c :: l)) ((1:Nat):Int) (.slice none 0 0) 0 0 0→Calls Tryz.prog 41 #[.pointer (some ⟨b,0,none⟩)] W fun x w'=>x=.returned (.agg #[.int .u8 d,.int .i64 N])∧RdAt w' b (strL (123 :: c :: l)) (((strL (123 :: c :: l)).size:Nat):Int) (.slice none 0 0) wd pl md∧Fr [b] W w') :
  Calls Tryz.prog 9 #[.string (strL (123 :: c :: l))] w fun x w'=>∃ v,x=.returned (.tuple #[apiPlan v wd pl md,.nilIface])∧OneOp w.heap.size d N v w'∧Fr [] w w':=by
 have hmf:∀ (fn:Fn) (first cap:Array Value) (w:World),(Instr.makeFunc fn first cap).run Tryz.prog w=.ok (.func fn first cap) w:=fun _ _ _ _=>rfl
 have hsz:¬ (65536:Int)<((strL (123 :: c :: l)).size:Int):=by rw [strL_size];simp;omega
 have hP:=fun W b h=>pieces_one W b c l (.slice none 0 0) (.agg #[.int .u8 d,.int .i64 N]) wd pl md hl hc h (fun X hX=>hF X b hX)
 generalize strL (123 :: c :: l)=S at *
 have fA:=(Fr.refl [] w).alloc (.cells #[.slice none 0 0,.int .i64 0,.int .i64 0,.int .u8 0] 37)
 have fB:=(Fr.refl [] (w.alloc (.cells #[.slice none 0 0,.int .i64 0,.int .i64 0,.int .u8 0] 37))).alloc (.cells #[.nilIface] 32)
 have rP:=fB.row (row_new w (.cells #[.slice none 0 0,.int .i64 0,.int .i64 0,.int .u8 0] 37)) (by simp)
 have rE:=row_new (w.alloc (.cells #[.slice none 0 0,.int .i64 0,.int .i64 0,.int .u8 0] 37)) (.cells #[.nilIface] 32)
 rw [World.size_alloc] at rE
 have F:=fA.then fB
 clear fA fB
 go_enter_defers Tryz.func9,Tryz.ntmps9
 generalize hW:(w.alloc (.cells #[.slice none 0 0,.int .i64 0,.int .i64 0,.int .u8 0] 37)).alloc (.cells #[.nilIface] 32)=W at *
 have hWs:W.heap.size=w.heap.size+1+1:=by rw [← hW];simp
 go_wp2_with fail
 have fR:=(Fr.refl [] W).alloc (.cells #[.string S,.int .i64 0,.slice none 0 0,.int .i64 0,.int .i64 0,.int .u8 0] 67)
 have rR:=row_new W (.cells #[.string S,.int .i64 0,.slice none 0 0,.int .i64 0,.int .i64 0,.int .u8 0] 67)
 rw [hWs] at rR
 have rP:=fR.row rP (by simp)
 have rE:=fR.row rE (by simp)
 have F:=F.then fR
 refine (hP _ (w.heap.size+1+1) (rdAt_row rR)).mono ?_
 rintro x w1 ⟨g,cap,rfl,hgc,h,g1⟩
 have hsz1:w.heap.size+1+1+1≤w1.heap.size:=by have:=g1.size;simp at this;omega
 have rP:=g1.row rP (by simp <;> omega)
 have rE:=g1.row rE (by simp <;> omega)
 have F:=F.after g1 (by simp <;> omega)
 clear fR rR g1 hP hF hW
 have c2:=h.c2
 go_wp2_with fail
 refine wp_loop_rounds 2 ?_
 rw [rounds_succ]
 go_wp2_with fail
 refine region_mono [] 9 [[],[0],[1],[],[3],[4],[2,5],[],[7]] [none,none,none,none,none,some (BuiltOp d N),some (OneOp (w.heap.size+1+1+1) d N),none,none] (by kernel_rfl) (by kernel_rfl) ?_
 simp only [Chain,fill,Act.put,List.nil_append,List.cons_append,List.take_succ_cons,List.take_zero,List.drop_succ_cons,List.drop_zero,List.setIfInBounds_toArray,List.set_cons_zero,List.set_cons_succ,Nat.reduceAdd]
 iterate 4 (apply Exists.intro;apply And.intro;·intro vs w2 hf hh K hK;have c2:=hf.stayd c2;simp only [Held,List.getD_cons_zero,List.getD_cons_succ,Just,and_true] at hh;(try simp only [hh] at hK ⊢);go_simp;exact hK _ _ ⟨rfl,Fr.refl _ _⟩)
 apply Exists.intro;apply And.intro
 ·intro vs w2 hf hh K hK;have c2:=hf.stayd c2;simp only [Held,List.getD_cons_zero,List.getD_cons_succ,Just,and_true] at hh;(try simp only [hh] at hK ⊢);go_simp;refine (fieldOp _ d N).mono ?_;rintro e w6 ⟨rfl,f6⟩;exact hK _ _ ⟨rfl,f6⟩
 refine⟨BuiltOp.lasts _ _,?_,?_⟩
 ·intro vs w2 hf hh K hK;have c2:=hf.stayd c2;simp only [Held,List.getD_cons_zero,List.getD_cons_succ,Just,and_true] at hh;(try simp only [hh] at hK ⊢);go_simp;exact hK _ _ ⟨⟨w2.heap.size,rfl,cell_new w2 _ _ _ 0 _ rfl,cell_new w2 _ _ _ 1 _ rfl,cell_new w2 _ _ _ 2 _ rfl⟩,(Fr.refl [] w2).alloc _⟩
 refine⟨OneOp.lasts _ _ _,?_,?_⟩
 ·intro vs w2 hf hh K hK;have c2:=hf.stayd c2;simp only [Held,List.getD_cons_zero,List.getD_cons_succ,Just,and_true] at hh;(try simp only [hh] at hK ⊢);obtain⟨h0,g5,hg5,k0,k1,k2⟩:=hh;simp only [hg5] at hK ⊢;refine wp_append_op _ _ _ rfl rfl _ _ rfl _ _ _ rfl rfl rfl k0 k1 k2 ?_;intro g9 cap9 w9 j0 j1 j2 f9 hge;exact hK _ _ ⟨⟨g9,cap9,rfl,(by have:=hf.size;simp at this;omega),j0,j1,j2⟩,f9⟩
 iterate 2 (apply Exists.intro;apply And.intro;·intro vs w2 hf hh K hK;simp only [Held,List.getD_cons_zero,List.getD_cons_succ,Just,and_true] at hh;(try simp only [hh] at hK ⊢);go_simp;exact hK _ _ ⟨rfl,Fr.refl _ _⟩)
 intro vs w2 hf hh
 simp only [HeldAll,Just,and_true,Nat.reduceAdd] at hh
 obtain⟨e0,e1,e2,e3,e4,e5,e6,e7,e8⟩:=hh
 simp only [e0,e1,e2,e3,e4,e7,e8]
 clear e0 e1 e2 e3 e4 e7 e8
 generalize vs 5=v5 at e5 ⊢
 generalize vs 6=v6 at e6 ⊢
 clear vs
 have c2:=hf.stayd c2
 clear e5
 obtain⟨g9,cap9,rfl,hge,k0,k1,k2⟩:=e6
 have h:=h.drew.fr hf (by simp)
 have rP:=hf.row (w:=w1.drew) rP (by simp)
 have rE:=hf.row (w:=w1.drew) rE (by simp)
 have F:=F.drew.then hf
 have c2:=h.c2
 have z2:=h.z 2 (by omega)
 clear hf
 go_wp2_with fail
 have gS:=(Fr.refl [w.heap.size+1+1] w2).setCell (p:=⟨w.heap.size+1+1,2,none⟩) (.inl (by simp)) (.slice (some ⟨g9,0,none⟩) 1 cap9)
 have h:=h.set2 (.slice (some ⟨g9,0,none⟩) 1 cap9)
 have rP:=gS.row rP (by simp <;> omega)
 have rE:=gS.row rE (by simp <;> omega)
 have k0:=gS.stay k0 (by simp;omega)
 have k1:=gS.stay k1 (by simp;omega)
 have k2:=gS.stay k2 (by simp;omega)
 have F:=F.after gS (by simp <;> omega)
 clear gS c2 z2
 generalize w2.setCell ⟨w.heap.size+1+1,2,none⟩ (.slice (some ⟨g9,0,none⟩) 1 cap9)=V at *
 have c2:=h.c2
 have c3:=h.c3
 have c4:=h.c4
 have c5:=h.c5
 have p0:V.cell? ⟨w.heap.size,0,none⟩=some (.slice none 0 0):=by rw [cell_of_row _ _ 0 _ _ _ rP];rfl
 have p1:V.cell? ⟨w.heap.size,1,none⟩=some (.int .i64 0):=by rw [cell_of_row _ _ 1 _ _ _ rP];rfl
 have p2:V.cell? ⟨w.heap.size,2,none⟩=some (.int .i64 0):=by rw [cell_of_row _ _ 2 _ _ _ rP];rfl
 have p3:V.cell? ⟨w.heap.size,3,none⟩=some (.int .u8 0):=by rw [cell_of_row _ _ 3 _ _ _ rP];rfl
 have pz:∀ i,V.frozen? ⟨w.heap.size,i,none⟩=false:=fun i=>frozen_of_row V _ i _ _ rP
 have ve:=var_row rE
 have q0:=ve.cell
 have qz:=ve.frozen
 rw [rounds_succ]
 go_wp2_with fail
 have rP:=heap_setCell_same _ _ 3 _ _ (.int .u8 md) (heap_setCell_same _ _ 2 _ _ (.int .i64 pl) (heap_setCell_same _ _ 1 _ _ (.int .i64 wd) (heap_setCell_same _ _ 0 _ _ (.slice (some ⟨g9,0,none⟩) 1 cap9) rP)))
 have gP:=((((Fr.refl [w.heap.size] V).setCell (p:=⟨w.heap.size,0,none⟩) (.inl (by simp)) (.slice (some ⟨g9,0,none⟩) 1 cap9)).setCell (p:=⟨w.heap.size,1,none⟩) (.inl (by simp)) (.int .i64 wd)).setCell (p:=⟨w.heap.size,2,none⟩) (.inl (by simp)) (.int .i64 pl)).setCell (p:=⟨w.heap.size,3,none⟩) (.inl (by simp)) (.int .u8 md)
 have ve:=ve.fr gP (by simp)
 have k0:=gP.stay k0 (by simp;omega)
 have k1:=gP.stay k1 (by simp;omega)
 have k2:=gP.stay k2 (by simp;omega)
 have F:=F.after gP (by simp)
 clear gP p0 p1 p2 p3 pz q0 qz c2 c3 c4 c5 h rE
 generalize (((V.setCell ⟨w.heap.size,0,none⟩ (.slice (some ⟨g9,0,none⟩) 1 cap9)).setCell ⟨w.heap.size,1,none⟩ (.int .i64 wd)).setCell ⟨w.heap.size,2,none⟩ (.int .i64 pl)).setCell ⟨w.heap.size,3,none⟩ (.int .u8 md)=U at *
 have gE:=(Fr.refl [w.heap.size+1] U).setCell (p:=⟨w.heap.size+1,0,none⟩) (.inl (by simp)) .nilIface
 have ve:=ve.set .nilIface
 have rP:=gE.row rP (by simp)
 have k0:=gE.stay k0 (by simp;omega)
 have k1:=gE.stay k1 (by simp;omega)
 have k2:=gE.stay k2 (by simp;omega)
 have F:=F.after gE (by simp)
 refine leaves_cons (f:=22) (args:=#[.pointer (some ⟨w.heap.size,0,none⟩),.pointer (some ⟨w.heap.size+1,0,none⟩)]) (by simp) (by simp [go_sem]) ?_
 refine (catch_idle ⟨w.heap.size,0,none⟩ ⟨w.heap.size+1,0,none⟩ _).mono ?_
 rintro e u' w9 ⟨rfl,rfl,rfl⟩
 refine⟨_,results_two rfl _ _ ⟨w.heap.size,0,none⟩ ⟨w.heap.size+1,0,none⟩ _ _ rfl rfl (run_loadVar_row _ _ _ _ _ _ _ rP Tryz.underlying37 rfl (by kernel_rfl)) (load_error ve),?_⟩
 exact⟨_,rfl,⟨g9,cap9,rfl,by omega,k0,k1,k2⟩,F⟩
end Go.Proofs.YtcmndpjemdjalaaGreatDoor
namespace Go.Proofs.YtcmndpjemdjalaaGreatDoor
open Go.RowKit
theorem parts_one (w:World) (b cap d mode:Nat) (N width places:Int) (txt:ByteArray) (hd:2≤d∧d≤6) (hN:N=0∨N=8∨N=2∨N=4∨N=5)
  (h0:w.cell? ⟨b,0,none⟩=some (.int .u8 d)) (h1:w.cell? ⟨b,1,none⟩=some (.int .i64 N)) (h2:w.cell? ⟨b,2,none⟩=some (.string txt)) :
  Calls Tryz.prog 42 #[apiPlan (.slice (some ⟨b,0,none⟩) 1 cap) width places mode] w fun x w'=>∃ g cap',x=.returned (.tuple #[.slice (some ⟨g,0,none⟩) 1 cap',.bool true])∧w'.cell? ⟨g,0,none⟩=some (.iface 117 (.agg #[.int .u8 d,.int .i64 N]))∧Fr [] w w':=by
 have hb:b<w.heap.size:=World.block_lt_of_cell? _ _ h0
 have q1:((d:Int)==1)=false:=beq_eq_false_iff_ne.2 (by omega)
 have q2:(2:Int)≤(d:Int):=by omega
 have q3:(d:Int)≤6:=by omega
 unfold apiPlan
 have fA:=(Fr.refl [] w).alloc (.cells #[.slice (some ⟨b,0,none⟩) 1 cap,.int .i64 width,.int .i64 places,.int .u8 mode] 37)
 have c0:=cell_new w #[.slice (some ⟨b,0,none⟩) 1 cap,.int .i64 width,.int .i64 places,.int .u8 mode] 37 (0,0) 0 _ rfl
 have h0:=fA.stay h0 (by simp)
 have h1:=fA.stay h1 (by simp)
 have h2:=fA.stay h2 (by simp)
 go_enter Tryz.func42,Tryz.ntmps42
 generalize hW:w.alloc (.cells #[.slice (some ⟨b,0,none⟩) 1 cap,.int .i64 width,.int .i64 places,.int .u8 mode] 37)=W at *
 have hWs:W.heap.size=w.heap.size+1:=by rw [← hW];simp
 have nb:¬ b=W.heap.size:=by omega
 go_wp2_with fail
 refine wp_loop_rounds 2 ?_
 rcases hN with rfl | rfl | rfl | rfl | rfl
 all_goals
  rw [rounds_succ]
  go_wp2_with fail
  rw [rounds_succ]
  go_wp2_with fail
  go_ret2
  refine⟨_,_,rfl,?_,((((fA).alloc _).alloc _).alloc _).drew⟩
  refine Eq.trans (b:=(World.cell? (World.alloc _ _) _)) rfl ?_
  rw [cell_of_row _ _ 0 _ _ _ (by rw [← hWs,← World.size_alloc W _,← World.size_alloc (W.alloc _) _];exact row_new _ _)]
  rw [Array.getElem?_append_left (by simp)]
  rfl
theorem equal_one (w:World) (a b c1 c2 d:Nat) (N:Int) (txt:ByteArray)
  (h0:w.cell? ⟨a,0,none⟩=some (.int .u8 d)) (h1:w.cell? ⟨a,1,none⟩=some (.int .i64 N)) (h2:w.cell? ⟨a,2,none⟩=some (.string txt))
  (k0:w.cell? ⟨b,0,none⟩=some (.int .u8 d)) (k1:w.cell? ⟨b,1,none⟩=some (.int .i64 N)) (k2:w.cell? ⟨b,2,none⟩=some (.string txt)) :
  Calls Tryz.prog 73 #[.slice (some ⟨a,0,none⟩) 1 c1,.slice (some ⟨b,0,none⟩) 1 c2] w fun x w'=>x=.returned (.bool true)∧Fr [] w w':=by
 go_enter Tryz.func73,Tryz.ntmps73
 go_wp2_with fail
 refine wp_loop_rounds 2 ?_
 rw [rounds_succ]
 go_wp2_with fail
 go_region
 simp only [Exit.then]
 go_wp2_with fail
 rw [rounds_succ]
 go_wp2_with fail
 go_ret
 exact⟨rfl,(Fr.refl _ _).drew⟩
theorem same_one (w:World) (a b c1 c2 d mode:Nat) (N width places:Int) (txt:ByteArray)
  (h0:w.cell? ⟨a,0,none⟩=some (.int .u8 d)) (h1:w.cell? ⟨a,1,none⟩=some (.int .i64 N)) (h2:w.cell? ⟨a,2,none⟩=some (.string txt))
  (k0:w.cell? ⟨b,0,none⟩=some (.int .u8 d)) (k1:w.cell? ⟨b,1,none⟩=some (.int .i64 N)) (k2:w.cell? ⟨b,2,none⟩=some (.string txt)) :
  Calls Tryz.prog 44 #[apiPlan (.slice (some ⟨a,0,none⟩) 1 c1) width places mode,apiPlan (.slice (some ⟨b,0,none⟩) 1 c2) width places mode] w fun x w'=>x=.returned (.bool true)∧Fr [] w w':=by
 unfold apiPlan
 have f1:=(Fr.refl [] w).alloc (.cells #[.slice (some ⟨a,0,none⟩) 1 c1,.int .i64 width,.int .i64 places,.int .u8 mode] 37)
 have f2:=(Fr.refl [] (w.alloc (.cells #[.slice (some ⟨a,0,none⟩) 1 c1,.int .i64 width,.int .i64 places,.int .u8 mode] 37))).alloc (.cells #[.slice (some ⟨b,0,none⟩) 1 c2,.int .i64 width,.int .i64 places,.int .u8 mode] 37)
 have F:=f1.then f2
 have hE:=fun W (hf:Fr [] w W)=>equal_one W a b c1 c2 d N txt (hf.stay h0 (by simp)) (hf.stay h1 (by simp)) (hf.stay h2 (by simp)) (hf.stay k0 (by simp)) (hf.stay k1 (by simp)) (hf.stay k2 (by simp))
 go_enter Tryz.func44,Tryz.ntmps44
 go_wp2_with (go_at_call 73;go_loud (refine (hE _ F).mono ?_;rintro x w1 ⟨rfl,g1⟩))
 go_ret
 exact⟨rfl,F.then g1⟩
end Go.Proofs.YtcmndpjemdjalaaGreatDoor
namespace Go.Proofs.YtcmndpjemdjalaaGreatDoor
open Go.RowKit
def WriteIs (d mode:Nat) (N width places:Int) (S:ByteArray):Prop:=∀ (w:World) (o:Value) (b cap:Nat),b<w.heap.size→w.cell? ⟨b,0,none⟩=some (.iface 117 (.agg #[.int .u8 d,.int .i64 N])) →
  Calls Tryz.prog 43 #[apiPlan o width places mode,.slice (some ⟨b,0,none⟩) 1 cap] w fun x w'=>x=.returned (.string S)∧Fr [] w w'
def CompileIs (d mode:Nat) (N width places:Int) (S:ByteArray):Prop:=∀ w:World,Calls Tryz.prog 9 #[.string S] w fun x w'=>∃ v,x=.returned (.tuple #[apiPlan v width places mode,.nilIface])∧OneOp w.heap.size d N v w'∧Fr [] w w'
theorem text_one (w:World) (b cap d mode:Nat) (N width places:Int) (S:ByteArray) (hd:2≤d∧d≤6) (hN:N=0∨N=8∨N=2∨N=4∨N=5)
  (h0:w.cell? ⟨b,0,none⟩=some (.int .u8 d)) (h1:w.cell? ⟨b,1,none⟩=some (.int .i64 N)) (h2:w.cell? ⟨b,2,none⟩=some (.string ⟨#[]⟩))
  (hWr:WriteIs d mode N width places S) (hCo:CompileIs d mode N width places S) :
  Calls Tryz.prog 24 #[apiPlan (.slice (some ⟨b,0,none⟩) 1 cap) width places mode] w fun x w'=>x=.returned (.tuple #[.string S,.int .i64 0])∧Fr [] w w':=by
 have hP:=fun W (hf:Fr [] w W)=>parts_one W b cap d mode N width places ⟨#[]⟩ hd hN (hf.stay h0 (by simp)) (hf.stay h1 (by simp)) (hf.stay h2 (by simp))
 have hS:=fun W (hf:Fr [] w W) g c2=>same_one W b g cap c2 d mode N width places ⟨#[]⟩ (hf.stay h0 (by simp)) (hf.stay h1 (by simp)) (hf.stay h2 (by simp))
 unfold WriteIs at hWr
 unfold CompileIs at hCo
 unfold apiPlan at *
 have F:=(Fr.refl [] w).alloc (.cells #[.slice (some ⟨b,0,none⟩) 1 cap,.int .i64 width,.int .i64 places,.int .u8 mode] 37)
 have c0:=cell_new w #[.slice (some ⟨b,0,none⟩) 1 cap,.int .i64 width,.int .i64 places,.int .u8 mode] 37 (0,0) 0 _ rfl
 have c1:=cell_new w #[.slice (some ⟨b,0,none⟩) 1 cap,.int .i64 width,.int .i64 places,.int .u8 mode] 37 (0,0) 1 _ rfl
 have c2:=cell_new w #[.slice (some ⟨b,0,none⟩) 1 cap,.int .i64 width,.int .i64 places,.int .u8 mode] 37 (0,0) 2 _ rfl
 have c3:=cell_new w #[.slice (some ⟨b,0,none⟩) 1 cap,.int .i64 width,.int .i64 places,.int .u8 mode] 37 (0,0) 3 _ rfl
 clear h0 h1 h2 hN hd
 go_enter Tryz.func24,Tryz.ntmps24
 generalize hW:w.alloc (.cells #[.slice (some ⟨b,0,none⟩) 1 cap,.int .i64 width,.int .i64 places,.int .u8 mode] 37)=W at *
 have hWs:w.heap.size<W.heap.size:=by rw [← hW];simp
 go_wp2_with (first
  | (go_at_call 42;go_loud (refine (hP _ F).mono ?_;rintro x w1 ⟨g,cap1,rfl,hg,g1⟩;have c0:=g1.stay c0 (by simp);have c1:=g1.stay c1 (by simp);have c2:=g1.stay c2 (by simp);have c3:=g1.stay c3 (by simp);replace F:=F.then g1))
  | (go_at_call 43;go_loud (refine (hWr _ _ _ _ (World.block_lt_of_cell? _ _ hg) hg).mono ?_;rintro x w2 ⟨rfl,g2⟩;have c0:=g2.stay c0 (by simp);have c1:=g2.stay c1 (by simp);have c2:=g2.stay c2 (by simp);have c3:=g2.stay c3 (by simp);replace F:=F.then g2))
  | (go_at_call 9;go_loud (refine (hCo _).mono ?_;rintro x w3 ⟨v,rfl,⟨q,cap2,rfl,hq,k0,k1,k2⟩,g3⟩;have c0:=g3.stay c0 (by simp);have c1:=g3.stay c1 (by simp);have c2:=g3.stay c2 (by simp);have c3:=g3.stay c3 (by simp);have nlt:w.heap.size<w3.heap.size:=(by have:=World.block_lt_of_cell? _ _ c0;exact this);have fX:=(Fr.refl [] w3).alloc (.cells #[.slice (some ⟨q,0,none⟩) 1 cap2,.int .i64 width,.int .i64 places,.int .u8 mode] 37);have c0:=fX.stay c0 (by simp);have c1:=fX.stay c1 (by simp);have c2:=fX.stay c2 (by simp);have c3:=fX.stay c3 (by simp);have k0:=fX.stay k0 (by simp);have k1:=fX.stay k1 (by simp);have k2:=fX.stay k2 (by simp);replace F:=(F.then g3).then fX))
  | (go_at_call 44;go_loud (refine (hS _ F q cap2 k0 k1 k2).mono ?_;rintro x w4 ⟨rfl,g4⟩)))
 go_ret2
 exact⟨rfl,F.then g4⟩
theorem check_one (w:World) (b cap d mode:Nat) (N width places:Int) (S:ByteArray) (hd:2≤d∧d≤6) (hN:N=0∨N=8∨N=2∨N=4∨N=5)
  (h0:w.cell? ⟨b,0,none⟩=some (.int .u8 d)) (h1:w.cell? ⟨b,1,none⟩=some (.int .i64 N)) (h2:w.cell? ⟨b,2,none⟩=some (.string ⟨#[]⟩))
  (hWr:WriteIs d mode N width places S) (hCo:CompileIs d mode N width places S) :
  Calls Tryz.prog 12 #[apiPlan (.slice (some ⟨b,0,none⟩) 1 cap) width places mode] w fun x w'=>x=.returned (.int .i64 0)∧Fr [] w w':=by
 have hT:=fun W (hf:Fr [] w W)=>text_one W b cap d mode N width places S hd hN (hf.stay h0 (by simp)) (hf.stay h1 (by simp)) (hf.stay h2 (by simp)) hWr hCo
 unfold apiPlan at *
 have F:=(Fr.refl [] w).alloc (.cells #[.slice (some ⟨b,0,none⟩) 1 cap,.int .i64 width,.int .i64 places,.int .u8 mode] 37)
 go_enter Tryz.func12,Tryz.ntmps12
 go_wp2_with (go_at_call 24;go_loud (refine (hT _ F).mono ?_;rintro x w1 ⟨rfl,g1⟩))
 go_ret
 exact⟨rfl,F.then g1⟩
end Go.Proofs.YtcmndpjemdjalaaGreatDoor
namespace Go.Proofs.YtcmndpjemdjalaaGreatDoor
open Go.RowKit
theorem catch_thrown (w:World) (A B:Nat) (code at_:Int) (hAB:A ≠ B)
  (rP:w.heap[A]?=some (.cells #[.slice none 0 0,.int .i64 0,.int .i64 0,.int .u8 0] 37 (0,0))) (ve:Var w B .nilIface) :
  CallsD Tryz.prog 22 #[.pointer (some ⟨A,0,none⟩),.pointer (some ⟨B,0,none⟩)] (.panicking [{ v:=thrown code at_,recovered:=false }]) w fun e u' w' =>
   e=.returned (.tuple #[])∧u'=.panicking [{ v:=thrown code at_,recovered:=true }]∧w'.heap[A]?=some (.cells #[.slice none 0 0,.int .i64 0,.int .i64 0,.int .u8 0] 37 (0,0))∧(∃ p,Var w' B (.iface 60 (.pointer (some p))))∧Fr [A,B] w w':=by
 refine callsD_of_wpS Tryz.func22 rfl fun c₀ cs hu=>?_
 apply wpS_seq
 apply wpS_region
 simp [wpOpsS,go_sem,recoverD,hu,Tryz.ntmps22,Exit.thenS,thrown]
 refine wpS_of_wp ?_
 have e:(#[Value.pointer (some ⟨A,0,none⟩),Value.pointer (some ⟨B,0,none⟩)]++((Array.replicate 17 undef).setIfInBounds 3 (thrown code at_)).setIfInBounds 0 (thrown code at_))=#[.pointer (some ⟨A,0,none⟩),.pointer (some ⟨B,0,none⟩),thrown code at_,undef,undef,thrown code at_,undef,undef,undef,undef,undef,undef,undef,undef,undef,undef,undef,undef,undef]:=by kernel_rfl
 unfold thrown at e
 rw [e]
 have hta:∀ (v:Value) (w:World),(Instr.typeAssert (.iface 64 v) 20 64 true).run Tryz.prog w=.ok (.tuple #[v,.bool true]) w:=fun _ _=>by kernel_rfl
 have fX:=(Fr.refl [A,B] w).alloc (.cells #[.int .i64 0,.int .i64 0] 64)
 have hAw:A<w.heap.size:=(Array.getElem?_eq_some_iff.1 rP).1
 have hBw:B<w.heap.size:=World.block_lt_of_cell? _ _ ve.cell
 have rP:=((Fr.refl [] w).alloc (.cells #[.int .i64 0,.int .i64 0] 64)).row rP (by simp)
 have ve:=ve.fr ((Fr.refl [] w).alloc (.cells #[.int .i64 0,.int .i64 0] 64)) (by simp)
 have rX:=row_new w (.cells #[.int .i64 0,.int .i64 0] 64)
 generalize hW:w.alloc (.cells #[.int .i64 0,.int .i64 0] 64)=W at *
 have x0:W.cell? ⟨w.heap.size,0,none⟩=some (.int .i64 0):=by rw [cell_of_row _ _ 0 _ _ _ rX];rfl
 have x1:W.cell? ⟨w.heap.size,1,none⟩=some (.int .i64 0):=by rw [cell_of_row _ _ 1 _ _ _ rX];rfl
 have xz:∀ i,W.frozen? ⟨w.heap.size,i,none⟩=false:=fun i=>frozen_of_row W _ i _ _ rX
 have p0:W.cell? ⟨A,0,none⟩=some (.slice none 0 0):=by rw [cell_of_row _ _ 0 _ _ _ rP];rfl
 have p1:W.cell? ⟨A,1,none⟩=some (.int .i64 0):=by rw [cell_of_row _ _ 1 _ _ _ rP];rfl
 have p2:W.cell? ⟨A,2,none⟩=some (.int .i64 0):=by rw [cell_of_row _ _ 2 _ _ _ rP];rfl
 have p3:W.cell? ⟨A,3,none⟩=some (.int .u8 0):=by rw [cell_of_row _ _ 3 _ _ _ rP];rfl
 have pz:∀ i,W.frozen? ⟨A,i,none⟩=false:=fun i=>frozen_of_row W _ i _ _ rP
 have q0:=ve.cell
 have qz:=ve.frozen
 have nA1:¬ w.heap.size=A:=by omega
 have nA2:¬ A=w.heap.size:=by omega
 have nB1:¬ w.heap.size=B:=by omega
 have nB2:¬ B=w.heap.size:=by omega
 have nAB:¬ A=B:=hAB
 have nBA:¬ B=A:=fun h=>hAB h.symm
 go_wp2_with fail
 have gF:=((((((fX.setCell (p:=⟨w.heap.size,0,none⟩) (.inr (Nat.le_refl _)) (.int .i64 code)).setCell (p:=⟨w.heap.size,1,none⟩) (.inr (Nat.le_refl _)) (.int .i64 at_)).setCell (p:=⟨A,0,none⟩) (.inl (by simp)) (.slice none 0 0)).setCell (p:=⟨A,1,none⟩) (.inl (by simp)) (.int .i64 0)).setCell (p:=⟨A,2,none⟩) (.inl (by simp)) (.int .i64 0)).setCell (p:=⟨A,3,none⟩) (.inl (by simp)) (.int .u8 0)).setCell (p:=⟨B,0,none⟩) (.inl (by simp)) (.iface 60 (.pointer (some ⟨w.heap.size,0,none⟩)))
 have g1:=((Fr.refl [w.heap.size] W).setCell (p:=⟨w.heap.size,0,none⟩) (.inl (by simp)) (.int .i64 code)).setCell (p:=⟨w.heap.size,1,none⟩) (.inl (by simp)) (.int .i64 at_)
 have rP:=g1.row rP (by simp;omega)
 have ve:=ve.fr g1 (by simp;omega)
 clear g1
 generalize (W.setCell ⟨w.heap.size,0,none⟩ (.int .i64 code)).setCell ⟨w.heap.size,1,none⟩ (.int .i64 at_)=V at *
 have g2:=((((Fr.refl [A] V).setCell (p:=⟨A,0,none⟩) (.inl (by simp)) (.slice none 0 0)).setCell (p:=⟨A,1,none⟩) (.inl (by simp)) (.int .i64 0)).setCell (p:=⟨A,2,none⟩) (.inl (by simp)) (.int .i64 0)).setCell (p:=⟨A,3,none⟩) (.inl (by simp)) (.int .u8 0)
 have rP:=heap_setCell_same _ _ 3 _ _ (.int .u8 0) (heap_setCell_same _ _ 2 _ _ (.int .i64 0) (heap_setCell_same _ _ 1 _ _ (.int .i64 0) (heap_setCell_same _ _ 0 _ _ (.slice none 0 0) rP)))
 have ve:=ve.fr g2 (by simp;omega)
 clear g2
 generalize (((V.setCell ⟨A,0,none⟩ (.slice none 0 0)).setCell ⟨A,1,none⟩ (.int .i64 0)).setCell ⟨A,2,none⟩ (.int .i64 0)).setCell ⟨A,3,none⟩ (.int .u8 0)=U at *
 have rP:=((Fr.refl [B] U).setCell (p:=⟨B,0,none⟩) (.inl (by simp)) (.iface 60 (.pointer (some ⟨w.heap.size,0,none⟩)))).row rP (by simp;omega)
 have ve:=ve.set (.iface 60 (.pointer (some ⟨w.heap.size,0,none⟩)))
 cases c₀
 simp only at hu
 subst hu
 simp [bodyPostS,results,Tryz.results22]
 exact⟨rP,⟨_,ve⟩,gF⟩
theorem compile_thrown (w:World) (S:ByteArray) (code at_:Int) (hsz:¬ (65536:Int)<(S.size:Int))
  (hP:∀ W b,RdAt W b S ((0:Nat):Int) (.slice none 0 0) 0 0 0→Calls Tryz.prog 23 #[.pointer (some ⟨b,0,none⟩)] W fun x w'=>x=.panicked [{ v:=thrown code at_,recovered:=false }]∧Fr [b] W w') :
  Calls Tryz.prog 9 #[.string S] w fun x w'=>∃ p,x=.returned (.tuple #[apiPlan (.slice none 0 0) 0 0 0,.iface 60 (.pointer (some p))])∧Fr [] w w':=by
 have hmf:∀ (fn:Fn) (first cap:Array Value) (w:World),(Instr.makeFunc fn first cap).run Tryz.prog w=.ok (.func fn first cap) w:=fun _ _ _ _=>rfl
 have fA:=(Fr.refl [] w).alloc (.cells #[.slice none 0 0,.int .i64 0,.int .i64 0,.int .u8 0] 37)
 have fB:=(Fr.refl [] (w.alloc (.cells #[.slice none 0 0,.int .i64 0,.int .i64 0,.int .u8 0] 37))).alloc (.cells #[.nilIface] 32)
 have rP:=fB.row (row_new w (.cells #[.slice none 0 0,.int .i64 0,.int .i64 0,.int .u8 0] 37)) (by simp)
 have rE:=row_new (w.alloc (.cells #[.slice none 0 0,.int .i64 0,.int .i64 0,.int .u8 0] 37)) (.cells #[.nilIface] 32)
 rw [World.size_alloc] at rE
 have F:=fA.then fB
 clear fA fB
 go_enter_defers Tryz.func9,Tryz.ntmps9
 generalize hW:(w.alloc (.cells #[.slice none 0 0,.int .i64 0,.int .i64 0,.int .u8 0] 37)).alloc (.cells #[.nilIface] 32)=W at *
 have hWs:W.heap.size=w.heap.size+1+1:=by rw [← hW];simp
 go_wp2_with fail
 have fR:=(Fr.refl [] W).alloc (.cells #[.string S,.int .i64 0,.slice none 0 0,.int .i64 0,.int .i64 0,.int .u8 0] 67)
 have rR:=row_new W (.cells #[.string S,.int .i64 0,.slice none 0 0,.int .i64 0,.int .i64 0,.int .u8 0] 67)
 rw [hWs] at rR
 have rP:=fR.row rP (by simp)
 have rE:=fR.row rE (by simp)
 have F:=F.then fR
 refine (hP _ (w.heap.size+1+1) (rdAt_row rR)).mono ?_
 rintro x w1 ⟨rfl,g1⟩
 have rP:=g1.row rP (by simp <;> omega)
 have rE:=g1.row rE (by simp <;> omega)
 have F:=F.after g1 (by simp <;> omega)
 clear fR rR g1 hP hW
 have ve:=var_row rE
 refine leaves_cons (f:=22) (args:=#[.pointer (some ⟨w.heap.size,0,none⟩),.pointer (some ⟨w.heap.size+1,0,none⟩)]) (by simp) (by simp [go_sem]) ?_
 refine (catch_thrown _ w.heap.size (w.heap.size+1) code at_ (by omega) rP ve).mono ?_
 rintro e u' w9 ⟨rfl,rfl,rP,⟨p,ve⟩,g9⟩
 have F:=F.after g9 (by simp <;> omega)
 refine⟨_,results_two rfl _ _ ⟨w.heap.size,0,none⟩ ⟨w.heap.size+1,0,none⟩ _ _ rfl rfl (run_loadVar_row _ _ _ _ _ _ _ rP Tryz.underlying37 rfl (by kernel_rfl)) (load_error ve),?_⟩
 exact⟨p,rfl,F⟩
end Go.Proofs.YtcmndpjemdjalaaGreatDoor
namespace Go.Proofs.YtcmndpjemdjalaaGreatDoor
open Go.RowKit
theorem wordsOp (w:World) (s:ByteArray):Calls Tryz.prog 316 #[.string s] w fun x w'=>x=.returned (.agg #[.int .u8 1,.int .i64 0,.string s])∧Fr [] w w':=by
 go_enter Tryz.func316,Tryz.ntmps316
 go_wp2_with fail
 have fA:=(Fr.refl [] w).alloc (.cells #[.int .u8 1,.int .i64 0,.string s] 46)
 have r:=row_new w (.cells #[.int .u8 1,.int .i64 0,.string s] 46)
 refine bodyPost_ret (v:=_) (results_cell_row rfl _ _ w.heap.size _ _ _ _ rfl r Tryz.underlying46 rfl (by kernel_rfl)) rfl ?_
 exact⟨rfl,fA⟩
def Ops (lo n:Nat) (xs:List Value) (v:Value) (w:World):Prop:=w.ownsRow lo 46 3 v n xs
theorem Ops.nil (lo:Nat) (w:World):Ops lo 0 [] (.slice none 0 0) w:=World.ownsRow_nil _ _ _ _
theorem Ops.fr {lo n:Nat} {xs:List Value} {v:Value} {w w':World} {S:List Nat} (h:Ops lo n xs v w) (hf:Fr S w w') (hS:∀ b∈S,b<lo):Ops lo n xs v w':=by
 obtain⟨hl,h⟩:=h
 refine⟨hl,?_⟩
 rcases h with h | ⟨g,cap,cur,rfl,hb,hh,h2⟩
 ·exact .inl h
 ·refine .inr ⟨g,cap,cur,rfl,hb,?_,h2⟩
  rw [hf.block g (Array.getElem?_eq_some_iff.1 hh).1 (fun hg=>by have:=hS g hg;omega)];exact hh
theorem wp_append_ops (w:World) {o:Oper} {a:Act} {K:Act→World→Prop} {Q:Exit→Act→World→Prop} (s t:Operand)
  (ho:o.op=.call { callee:=.builtin .append,args:=#[s,t],argTypes:=#[35,35] }) (lo n:Nat) (v:Value) (xs:List Value) (hs:a.eval s=v) (hp:Ops lo n xs v w) (hn:n≤100) (hlo:lo≤w.heap.size)
  (ad:Addr) (c:Nat) (ht:a.eval t=.slice (some ad) 1 c) (x y z:Value) (h1:x.oneCell'=true) (h2:y.oneCell'=true) (h3:z.oneCell'=true) (hx:w.cell? ad=some x) (hy:w.cell? (ad.add 1)=some y) (hz:w.cell? (ad.add 2)=some z)
  (h:∀ (g:Nat) (cap:Nat) w',Ops lo (n+1) (xs++[x,y,z]) (.slice (some ⟨g,0,none⟩) (n+1) cap) w'→w.grownBy w' v.ownBlock→K (a.put o.dst (.slice (some ⟨g,0,none⟩) (n+1) cap)) w'):o.wp Tryz.prog a w K Q:=by
 have hib:(Tryz.prog.info? 46).map (fun i=>(i.zero,i.size,i.bytes))=some (some (.agg #[.int .u8 0,.int .i64 0,.string ⟨#[]⟩]),3,32):=by kernel_rfl
 obtain⟨i0,hi,hz0,hz1,hz2⟩:=info_parts hib
 refine wp_append_own w s t 35 ho lo 46 i0 (.agg #[.int .u8 0,.int .i64 0,.string ⟨#[]⟩]) 3 32 Tryz.underlying35 hi hz0 hz1 hz2 rfl (by decide) v n xs hs hp ad 1 c [x,y,z] ht rfl
  (by
    intro j u hj
    match j,hj with
    | 0,hj=>simp at hj;subst hj;simpa [Addr.add] using hx
    | 1,hj=>simp at hj;subst hj;exact hy
    | 2,hj=>simp at hj;subst hj;exact hz)
  (by intro u hu;simp at hu;rcases hu with rfl | rfl | rfl <;> assumption) (by unfold maxLen;omega) (by omega) hlo ?_
 intro v' w' hown hg _
 rcases hown.2 with ⟨-,h0⟩ | ⟨g,cap,cur,rfl,hge,hr,h3⟩
 ·omega
 ·exact h g cap w' hown hg
def BuiltOf (q:Nat) (x y z:Value) (v:Value) (w:World):Prop:=∃ g:Nat,v=.slice (some ⟨g,0,none⟩) 1 1∧g ≠ q∧w.cell? ⟨g,0,none⟩=some x∧w.cell? ⟨g,1,none⟩=some y∧w.cell? ⟨g,2,none⟩=some z
theorem BuiltOf.lasts (q:Nat) (x y z:Value):Lasts [] (BuiltOf q x y z):=fun _ _ _ ⟨g,h,hq,h1,h2,h3⟩ hf=>⟨g,h,hq,hf.stay h1 (by simp),hf.stay h2 (by simp),hf.stay h3 (by simp)⟩
theorem BuiltOf.lastsX (q:Nat) (x y z:Value):∀ v w w',BuiltOf q x y z v w→Fr [q] w w'→BuiltOf q x y z v w':=fun _ _ _ ⟨g,h,hq,h1,h2,h3⟩ hf=>⟨g,h,hq,hf.stay h1 (by simpa using hq),hf.stay h2 (by simpa using hq),hf.stay h3 (by simpa using hq)⟩
def OpsTo (lo n:Nat) (xs:List Value):PropD:=fun _ v w=>∃ g cap:Nat,v=.slice (some ⟨g,0,none⟩) n cap∧Ops lo n xs v w
theorem OpsTo.lasts (lo n:Nat) (xs:List Value):LastsD [] (OpsTo lo n xs):=fun _ _ _ _ ⟨g,cap,h,ho⟩ hf=>⟨g,cap,h,ho.fr hf (by simp)⟩
theorem OpsTo.looks (lo n:Nat) (xs:List Value) (d:List Nat):LooksD d (OpsTo lo n xs):=fun _ _ _ _ _ h=>h
def UpOps (lo:Nat) (v:Value) (w:World):Prop:=∃ g cap:Nat,v=.slice (some ⟨g,0,none⟩) 3 cap∧lo≤g∧(w.cell? ⟨g,0,none⟩=some (.int .u8 1)∧w.cell? ⟨g,1,none⟩=some (.int .i64 0)∧w.cell? ⟨g,2,none⟩=some (.string (strL [120,61]))) ∧
 (w.cell? ⟨g,3,none⟩=some (.int .u8 3)∧w.cell? ⟨g,4,none⟩=some (.int .i64 5)∧w.cell? ⟨g,5,none⟩=some (.string ⟨#[]⟩))∧(w.cell? ⟨g,6,none⟩=some (.int .u8 1)∧w.cell? ⟨g,7,none⟩=some (.int .i64 0)∧w.cell? ⟨g,8,none⟩=some (.string (strL [33])))
theorem compile_up (w:World) :
  Calls Tryz.prog 9 #[.string (strL [120,61,123,43,48,56,46,51,102,58,117,112,125,33])] w fun x w'=>∃ v,x=.returned (.tuple #[apiPlan v 8 3 3,.nilIface])∧UpOps w.heap.size v w'∧Fr [] w w':=by
 have hmf:∀ (fn:Fn) (first cap:Array Value) (w:World),(Instr.makeFunc fn first cap).run Tryz.prog w=.ok (.func fn first cap) w:=fun _ _ _ _=>rfl
 have hsz:¬ (65536:Int)<(((strL [120,61,123,43,48,56,46,51,102,58,117,112,125,33])).size:Int):=by rw [strL_size];simp
 have hP:=fun W b h=>pieces_up W b (.slice none 0 0) h
 generalize (strL [120,61,123,43,48,56,46,51,102,58,117,112,125,33])=S at *
 have fA:=(Fr.refl [] w).alloc (.cells #[.slice none 0 0,.int .i64 0,.int .i64 0,.int .u8 0] 37)
 have fB:=(Fr.refl [] (w.alloc (.cells #[.slice none 0 0,.int .i64 0,.int .i64 0,.int .u8 0] 37))).alloc (.cells #[.nilIface] 32)
 have rP:=fB.row (row_new w (.cells #[.slice none 0 0,.int .i64 0,.int .i64 0,.int .u8 0] 37)) (by simp)
 have rE:=row_new (w.alloc (.cells #[.slice none 0 0,.int .i64 0,.int .i64 0,.int .u8 0] 37)) (.cells #[.nilIface] 32)
 rw [World.size_alloc] at rE
 have F:=fA.then fB
 clear fA fB
 go_enter_defers Tryz.func9,Tryz.ntmps9
 generalize hW:(w.alloc (.cells #[.slice none 0 0,.int .i64 0,.int .i64 0,.int .u8 0] 37)).alloc (.cells #[.nilIface] 32)=W at *
 have hWs:W.heap.size=w.heap.size+1+1:=by rw [← hW];simp
 go_wp2_with fail
 have fR:=(Fr.refl [] W).alloc (.cells #[.string S,.int .i64 0,.slice none 0 0,.int .i64 0,.int .i64 0,.int .u8 0] 67)
 have rR:=row_new W (.cells #[.string S,.int .i64 0,.slice none 0 0,.int .i64 0,.int .i64 0,.int .u8 0] 67)
 rw [hWs] at rR
 have rP:=fR.row rP (by simp)
 have rE:=fR.row rE (by simp)
 have F:=F.then fR
 refine (hP _ (w.heap.size+1+1) (rdAt_row rR)).mono ?_
 rintro x w1 ⟨g,cap,rfl,hgs,hg0,hg1,hg2,h,f1⟩
 have hsz1:w.heap.size+1+1+1≤w1.heap.size:=by have:=f1.size;simp at this;omega
 have rP:=f1.row rP (by simp <;> omega)
 have rE:=f1.row rE (by simp <;> omega)
 have F:=F.after f1 (by simp <;> omega)
 have hgs:w.heap.size+1+1+1≤g:=by have:=fR.size;simp at this;simp at hgs;omega
 clear fR rR f1 hP hW
 have hO:=Ops.nil (w1.heap.size) w1
 have hlo:w1.heap.size≤w1.heap.size:=Nat.le_refl _
 have hgl:g<w1.heap.size:=World.block_lt_of_cell? _ _ hg0
 generalize hLO:w1.heap.size=lo at hO hlo hgl hsz1
 have hlo:lo≤w1.heap.size:=by omega
 clear hLO
 have c2:=h.c2
 go_wp2_with fail
 refine wp_loop_rounds 4 ?_
 rw [rounds_succ]
 go_wp2_with fail
 refine region_mono_x [] (fun w w'=>Fr [] w w') (fun W=>Ops lo 0 [] (.slice none 0 0) W) 6 [0,1,2,3,4,5] 9 [[],[0],[1],[],[3],[4],[2,5],[],[7]] [none,none,none,none,none,some (Sole (BuiltOf 0 (.int .u8 1) (.int .i64 0) (.string (strL [120,61])))),some (OpsTo lo 1 [.int .u8 1,.int .i64 0,.string (strL [120,61])]),none,none] (by kernel_rfl) (by kernel_rfl) (fun _ _ h=>h) (fun _ _ h hf=>h.fr hf (by simp)) (hO.fr (Fr.refl [] w1).drew (by simp)) ?_
 simp only [ChainX,fill,Act.put,List.nil_append,List.cons_append,List.take_succ_cons,List.take_zero,List.drop_succ_cons,List.drop_zero,List.setIfInBounds_toArray,List.set_cons_zero,List.set_cons_succ,Nat.reduceAdd]
 iterate 4 (apply Exists.intro;apply And.intro;·intro vs w2 hf hr hh K hK;have hK:=fun v w9 h=>hK v w9 (Eff.and (by decide) h);have c2:=Fr.staydx hf c2 (by simp <;> omega);simp only [HeldD,Sole,List.getD_cons_zero,List.getD_cons_succ,Just,and_true] at hh;(try simp only [hh] at hK ⊢);go_simp;exact hK _ _ ⟨rfl,Fr.refl _ _⟩)
 apply Exists.intro;apply And.intro
 ·intro vs w2 hf hr hh K hK;have hK:=fun v w9 h=>hK v w9 (Eff.and (by decide) h);have c2:=Fr.staydx hf c2 (by simp <;> omega);simp only [HeldD,Sole,List.getD_cons_zero,List.getD_cons_succ,Just,and_true] at hh;(try simp only [hh] at hK ⊢);go_simp;refine (wordsOp _ _).mono ?_;rintro e w6 ⟨rfl,f6⟩;exact hK _ _ ⟨rfl,f6⟩
 refine⟨⟨Sole.lasts (BuiltOf.lasts _ _ _ _),(by first | exact fun _=>Sole.lastsX ((fun v w w' h hf=>BuiltOf.lasts _ _ _ _ v w w' h hf)) | exact Sole.lastsX ((fun v w w' h hf=>BuiltOf.lasts _ _ _ _ v w w' h hf))),Sole.looks _ _⟩,?_,?_⟩
 ·intro vs w2 hf hr hh K hK;have hK:=fun v w9 h=>hK v w9 (Eff.and (by decide) h);have c2:=Fr.staydx hf c2 (by simp <;> omega);simp only [HeldD,Sole,List.getD_cons_zero,List.getD_cons_succ,Just,and_true] at hh;(try simp only [hh] at hK ⊢);go_simp;exact hK _ _ ⟨⟨w2.heap.size,rfl,(by have:=hf.size;simp at this;omega),cell_new w2 _ _ _ 0 _ rfl,cell_new w2 _ _ _ 1 _ rfl,cell_new w2 _ _ _ 2 _ rfl⟩,(Fr.refl [] w2).alloc _⟩
 refine⟨⟨OpsTo.lasts _ _ _,(by first | exact fun _=>by contradiction | exact by contradiction | simp),OpsTo.looks _ _ _ _⟩,?_,?_⟩
 ·intro vs w2 hf hr hh K hK;have c2:=Fr.staydx hf c2 (by simp <;> omega);simp only [HeldD,Sole,List.getD_cons_zero,List.getD_cons_succ,Just,and_true] at hh;(try simp only [hh] at hK ⊢);obtain⟨h0,g5,hg5,-,k0,k1,k2⟩:=hh;simp only [hg5] at hK ⊢;refine wp_append_ops _ _ _ rfl lo 0 (.slice none 0 0) [] rfl (hr.out (by decide)) (by omega) (by have:=hf.size;simp at this;omega) _ _ rfl _ _ _ rfl rfl rfl k0 k1 k2 ?_;intro g9 cap9 w9 hO9 gr9;exact hK _ _ ⟨⟨g9,cap9,rfl,hO9⟩,Eff.loud ((Fr.refl [] w2).grown gr9 (by intro k hk;simp [Value.ownBlock] at hk <;> simp [hk]))⟩
 iterate 2 (apply Exists.intro;apply And.intro;·intro vs w2 hf hr hh K hK;have hK:=fun v w9 h=>hK v w9 (Eff.and (by decide) h);simp only [HeldD,Sole,List.getD_cons_zero,List.getD_cons_succ,Just,and_true] at hh;(try simp only [hh] at hK ⊢);go_simp;exact hK _ _ ⟨rfl,Fr.refl _ _⟩)
 intro vs w2 hf hh
 simp only [HeldAllD,Sole,Just,and_true,Nat.reduceAdd] at hh
 obtain⟨e0,e1,e2,e3,e4,e5,e6,e7,e8⟩:=hh
 simp only [e0,e1,e2,e3,e4,e7,e8]
 clear e0 e1 e2 e3 e4 e7 e8
 generalize vs 5=v5 at e5 e6 ⊢
 generalize vs 6=v6 at e5 e6 ⊢
 try clear vs
 have c2:=Fr.staydx hf c2 (by simp <;> omega)
 clear e5
 obtain⟨q1,r1,rfl,hO⟩:=e6
 have h:=h.drew.fr hf (by simp <;> omega)
 have rP:=hf.row (w:=w1.drew) rP (by simp <;> omega)
 have rE:=hf.row (w:=w1.drew) rE (by simp <;> omega)
 have hg0:=hf.stay (w:=w1.drew) hg0 (by simp <;> omega)
 have hg1:=hf.stay (w:=w1.drew) hg1 (by simp <;> omega)
 have hg2:=hf.stay (w:=w1.drew) hg2 (by simp <;> omega)
 have F:=F.drew.after hf (by simp <;> omega)
 have hlo:lo≤w2.heap.size:=by have:=hf.size;simp at this;omega
 have c2:=h.c2
 have z2:=h.z 2 (by omega)
 clear hf
 go_wp2_with fail
 have gS:=(Fr.refl [w.heap.size+1+1] w2).setCell (p:=⟨w.heap.size+1+1,2,none⟩) (.inl (by simp)) (.slice (some ⟨q1,0,none⟩) 1 r1)
 have h:=h.set2 (.slice (some ⟨q1,0,none⟩) 1 r1)
 have rP:=gS.row rP (by simp <;> omega)
 have rE:=gS.row rE (by simp <;> omega)
 have hO:=hO.fr gS (by simp;omega)
 have hg0:=gS.stay hg0 (by simp;omega)
 have hg1:=gS.stay hg1 (by simp;omega)
 have hg2:=gS.stay hg2 (by simp;omega)
 have F:=F.after gS (by simp <;> omega)
 have hlo:lo≤(w2.setCell ⟨w.heap.size+1+1,2,none⟩ (.slice (some ⟨q1,0,none⟩) 1 r1)).heap.size:=by rw [World.size_setCell];exact hlo
 clear gS c2 z2
 generalize w2.setCell ⟨w.heap.size+1+1,2,none⟩ (.slice (some ⟨q1,0,none⟩) 1 r1)=V1 at *
 have c2:=h.c2
 rw [rounds_succ]
 go_wp2_with fail
 have hql:lo≤q1:=(World.ownsRow.lt hO q1 rfl).1
 refine region_mono_x [q1] (fun w w'=>Fr [q1] w w') (fun W=>Ops lo 1 [.int .u8 1,.int .i64 0,.string (strL [120,61])] (.slice (some ⟨q1,0,none⟩) 1 r1) W) 6 [0,1,2,3,4,5] 9 [[],[0],[1],[],[3],[4],[2,5],[],[7]] [none,none,none,none,none,some (Sole (BuiltOf q1 (.int .u8 3) (.int .i64 5) (.string ⟨#[]⟩))),some (OpsTo lo 2 [.int .u8 1,.int .i64 0,.string (strL [120,61]),.int .u8 3,.int .i64 5,.string ⟨#[]⟩]),none,none] (by kernel_rfl) (by kernel_rfl) (fun _ _ h=>h) (fun _ _ h hf=>h.fr hf (by simp)) (hO.fr (Fr.refl [] V1).drew (by simp)) ?_
 simp only [ChainX,fill,Act.put,List.nil_append,List.cons_append,List.take_succ_cons,List.take_zero,List.drop_succ_cons,List.drop_zero,List.setIfInBounds_toArray,List.set_cons_zero,List.set_cons_succ,Nat.reduceAdd]
 iterate 4 (apply Exists.intro;apply And.intro;·intro vs w2 hf hr hh K hK;have hK:=fun v w9 h=>hK v w9 (Eff.and (by decide) h);have c2:=Fr.staydx hf c2 (by simp <;> omega);simp only [HeldD,Sole,List.getD_cons_zero,List.getD_cons_succ,Just,and_true] at hh;(try simp only [hh] at hK ⊢);go_simp;exact hK _ _ ⟨rfl,Fr.refl _ _⟩)
 apply Exists.intro;apply And.intro
 ·intro vs w2 hf hr hh K hK;have hK:=fun v w9 h=>hK v w9 (Eff.and (by decide) h);have c2:=Fr.staydx hf c2 (by simp <;> omega);simp only [HeldD,Sole,List.getD_cons_zero,List.getD_cons_succ,Just,and_true] at hh;(try simp only [hh] at hK ⊢);go_simp;refine (fieldOp _ 3 5).mono ?_;rintro e w6 ⟨rfl,f6⟩;exact hK _ _ ⟨rfl,f6⟩
 refine⟨⟨Sole.lasts (BuiltOf.lasts _ _ _ _),(by first | exact fun _=>Sole.lastsX (BuiltOf.lastsX _ _ _ _) | exact Sole.lastsX (BuiltOf.lastsX _ _ _ _)),Sole.looks _ _⟩,?_,?_⟩
 ·intro vs w2 hf hr hh K hK;have hK:=fun v w9 h=>hK v w9 (Eff.and (by decide) h);have c2:=Fr.staydx hf c2 (by simp <;> omega);simp only [HeldD,Sole,List.getD_cons_zero,List.getD_cons_succ,Just,and_true] at hh;(try simp only [hh] at hK ⊢);go_simp;exact hK _ _ ⟨⟨w2.heap.size,rfl,(by have:=hf.size;simp at this;have:=(World.ownsRow.lt hO q1 rfl).2;omega),cell_new w2 _ _ _ 0 _ rfl,cell_new w2 _ _ _ 1 _ rfl,cell_new w2 _ _ _ 2 _ rfl⟩,(Fr.refl [] w2).alloc _⟩
 refine⟨⟨OpsTo.lasts _ _ _,(by first | exact fun _=>by contradiction | exact by contradiction | simp),OpsTo.looks _ _ _ _⟩,?_,?_⟩
 ·intro vs w2 hf hr hh K hK;have c2:=Fr.staydx hf c2 (by simp <;> omega);simp only [HeldD,Sole,List.getD_cons_zero,List.getD_cons_succ,Just,and_true] at hh;(try simp only [hh] at hK ⊢);obtain⟨h0,g5,hg5,-,k0,k1,k2⟩:=hh;simp only [hg5] at hK ⊢;refine wp_append_ops _ _ _ rfl lo 1 (.slice (some ⟨q1,0,none⟩) 1 r1) [.int .u8 1,.int .i64 0,.string (strL [120,61])] rfl (hr.out (by decide)) (by omega) (by have:=hf.size;simp at this;omega) _ _ rfl _ _ _ rfl rfl rfl k0 k1 k2 ?_;intro g9 cap9 w9 hO9 gr9;exact hK _ _ ⟨⟨g9,cap9,rfl,hO9⟩,Eff.loud ((Fr.refl [q1] w2).grown gr9 (by intro k hk;simp [Value.ownBlock] at hk <;> simp [hk]))⟩
 iterate 2 (apply Exists.intro;apply And.intro;·intro vs w2 hf hr hh K hK;have hK:=fun v w9 h=>hK v w9 (Eff.and (by decide) h);simp only [HeldD,Sole,List.getD_cons_zero,List.getD_cons_succ,Just,and_true] at hh;(try simp only [hh] at hK ⊢);go_simp;exact hK _ _ ⟨rfl,Fr.refl _ _⟩)
 intro vs w2 hf hh
 simp only [HeldAllD,Sole,Just,and_true,Nat.reduceAdd] at hh
 obtain⟨e0,e1,e2,e3,e4,e5,e6,e7,e8⟩:=hh
 simp only [e0,e1,e2,e3,e4,e7,e8]
 clear e0 e1 e2 e3 e4 e7 e8
 generalize vs 5=v5 at e5 e6 ⊢
 generalize vs 6=v6 at e5 e6 ⊢
 try clear vs
 have c2:=Fr.staydx hf c2 (by simp <;> omega)
 clear e5
 obtain⟨q2,r2,rfl,hO⟩:=e6
 have h:=h.drew.fr hf (by simp <;> omega)
 have rP:=hf.row (w:=V1.drew) rP (by simp <;> omega)
 have rE:=hf.row (w:=V1.drew) rE (by simp <;> omega)
 have hg0:=hf.stay (w:=V1.drew) hg0 (by simp <;> omega)
 have hg1:=hf.stay (w:=V1.drew) hg1 (by simp <;> omega)
 have hg2:=hf.stay (w:=V1.drew) hg2 (by simp <;> omega)
 have F:=F.drew.after hf (by simp <;> omega)
 have hlo:lo≤w2.heap.size:=by have:=hf.size;simp at this;omega
 have c2:=h.c2
 have z2:=h.z 2 (by omega)
 clear hf
 go_wp2_with fail
 have gS:=(Fr.refl [w.heap.size+1+1] w2).setCell (p:=⟨w.heap.size+1+1,2,none⟩) (.inl (by simp)) (.slice (some ⟨q2,0,none⟩) 2 r2)
 have h:=h.set2 (.slice (some ⟨q2,0,none⟩) 2 r2)
 have rP:=gS.row rP (by simp <;> omega)
 have rE:=gS.row rE (by simp <;> omega)
 have hO:=hO.fr gS (by simp;omega)
 have hg0:=gS.stay hg0 (by simp;omega)
 have hg1:=gS.stay hg1 (by simp;omega)
 have hg2:=gS.stay hg2 (by simp;omega)
 have F:=F.after gS (by simp <;> omega)
 have hlo:lo≤(w2.setCell ⟨w.heap.size+1+1,2,none⟩ (.slice (some ⟨q2,0,none⟩) 2 r2)).heap.size:=by rw [World.size_setCell];exact hlo
 clear gS c2 z2
 generalize w2.setCell ⟨w.heap.size+1+1,2,none⟩ (.slice (some ⟨q2,0,none⟩) 2 r2)=V2 at *
 have c2:=h.c2
 rw [rounds_succ]
 go_wp2_with fail
 have hql:lo≤q2:=(World.ownsRow.lt hO q2 rfl).1
 refine region_mono_x [q2] (fun w w'=>Fr [q2] w w') (fun W=>Ops lo 2 [.int .u8 1,.int .i64 0,.string (strL [120,61]),.int .u8 3,.int .i64 5,.string ⟨#[]⟩] (.slice (some ⟨q2,0,none⟩) 2 r2) W) 6 [0,1,2,3,4,5] 9 [[],[0],[1],[],[3],[4],[2,5],[],[7]] [none,none,none,none,none,some (Sole (BuiltOf q2 (.int .u8 1) (.int .i64 0) (.string (strL [33])))),some (OpsTo lo 3 [.int .u8 1,.int .i64 0,.string (strL [120,61]),.int .u8 3,.int .i64 5,.string ⟨#[]⟩,.int .u8 1,.int .i64 0,.string (strL [33])]),none,none] (by kernel_rfl) (by kernel_rfl) (fun _ _ h=>h) (fun _ _ h hf=>h.fr hf (by simp)) (hO.fr (Fr.refl [] V2).drew (by simp)) ?_
 simp only [ChainX,fill,Act.put,List.nil_append,List.cons_append,List.take_succ_cons,List.take_zero,List.drop_succ_cons,List.drop_zero,List.setIfInBounds_toArray,List.set_cons_zero,List.set_cons_succ,Nat.reduceAdd]
 iterate 4 (apply Exists.intro;apply And.intro;·intro vs w2 hf hr hh K hK;have hK:=fun v w9 h=>hK v w9 (Eff.and (by decide) h);have c2:=Fr.staydx hf c2 (by simp <;> omega);simp only [HeldD,Sole,List.getD_cons_zero,List.getD_cons_succ,Just,and_true] at hh;(try simp only [hh] at hK ⊢);go_simp;exact hK _ _ ⟨rfl,Fr.refl _ _⟩)
 apply Exists.intro;apply And.intro
 ·intro vs w2 hf hr hh K hK;have hK:=fun v w9 h=>hK v w9 (Eff.and (by decide) h);have c2:=Fr.staydx hf c2 (by simp <;> omega);simp only [HeldD,Sole,List.getD_cons_zero,List.getD_cons_succ,Just,and_true] at hh;(try simp only [hh] at hK ⊢);go_simp;refine (wordsOp _ _).mono ?_;rintro e w6 ⟨rfl,f6⟩;exact hK _ _ ⟨rfl,f6⟩
 refine⟨⟨Sole.lasts (BuiltOf.lasts _ _ _ _),(by first | exact fun _=>Sole.lastsX (BuiltOf.lastsX _ _ _ _) | exact Sole.lastsX (BuiltOf.lastsX _ _ _ _)),Sole.looks _ _⟩,?_,?_⟩
 ·intro vs w2 hf hr hh K hK;have hK:=fun v w9 h=>hK v w9 (Eff.and (by decide) h);have c2:=Fr.staydx hf c2 (by simp <;> omega);simp only [HeldD,Sole,List.getD_cons_zero,List.getD_cons_succ,Just,and_true] at hh;(try simp only [hh] at hK ⊢);go_simp;exact hK _ _ ⟨⟨w2.heap.size,rfl,(by have:=hf.size;simp at this;have:=(World.ownsRow.lt hO q2 rfl).2;omega),cell_new w2 _ _ _ 0 _ rfl,cell_new w2 _ _ _ 1 _ rfl,cell_new w2 _ _ _ 2 _ rfl⟩,(Fr.refl [] w2).alloc _⟩
 refine⟨⟨OpsTo.lasts _ _ _,(by first | exact fun _=>by contradiction | exact by contradiction | simp),OpsTo.looks _ _ _ _⟩,?_,?_⟩
 ·intro vs w2 hf hr hh K hK;have c2:=Fr.staydx hf c2 (by simp <;> omega);simp only [HeldD,Sole,List.getD_cons_zero,List.getD_cons_succ,Just,and_true] at hh;(try simp only [hh] at hK ⊢);obtain⟨h0,g5,hg5,-,k0,k1,k2⟩:=hh;simp only [hg5] at hK ⊢;refine wp_append_ops _ _ _ rfl lo 2 (.slice (some ⟨q2,0,none⟩) 2 r2) [.int .u8 1,.int .i64 0,.string (strL [120,61]),.int .u8 3,.int .i64 5,.string ⟨#[]⟩] rfl (hr.out (by decide)) (by omega) (by have:=hf.size;simp at this;omega) _ _ rfl _ _ _ rfl rfl rfl k0 k1 k2 ?_;intro g9 cap9 w9 hO9 gr9;exact hK _ _ ⟨⟨g9,cap9,rfl,hO9⟩,Eff.loud ((Fr.refl [q2] w2).grown gr9 (by intro k hk;simp [Value.ownBlock] at hk <;> simp [hk]))⟩
 iterate 2 (apply Exists.intro;apply And.intro;·intro vs w2 hf hr hh K hK;have hK:=fun v w9 h=>hK v w9 (Eff.and (by decide) h);simp only [HeldD,Sole,List.getD_cons_zero,List.getD_cons_succ,Just,and_true] at hh;(try simp only [hh] at hK ⊢);go_simp;exact hK _ _ ⟨rfl,Fr.refl _ _⟩)
 intro vs w2 hf hh
 simp only [HeldAllD,Sole,Just,and_true,Nat.reduceAdd] at hh
 obtain⟨e0,e1,e2,e3,e4,e5,e6,e7,e8⟩:=hh
 simp only [e0,e1,e2,e3,e4,e7,e8]
 clear e0 e1 e2 e3 e4 e7 e8
 generalize vs 5=v5 at e5 e6 ⊢
 generalize vs 6=v6 at e5 e6 ⊢
 try clear vs
 have c2:=Fr.staydx hf c2 (by simp <;> omega)
 clear e5
 obtain⟨q3,r3,rfl,hO⟩:=e6
 have h:=h.drew.fr hf (by simp <;> omega)
 have rP:=hf.row (w:=V2.drew) rP (by simp <;> omega)
 have rE:=hf.row (w:=V2.drew) rE (by simp <;> omega)
 have hg0:=hf.stay (w:=V2.drew) hg0 (by simp <;> omega)
 have hg1:=hf.stay (w:=V2.drew) hg1 (by simp <;> omega)
 have hg2:=hf.stay (w:=V2.drew) hg2 (by simp <;> omega)
 have F:=F.drew.after hf (by simp <;> omega)
 have hlo:lo≤w2.heap.size:=by have:=hf.size;simp at this;omega
 have c2:=h.c2
 have z2:=h.z 2 (by omega)
 clear hf
 go_wp2_with fail
 have gS:=(Fr.refl [w.heap.size+1+1] w2).setCell (p:=⟨w.heap.size+1+1,2,none⟩) (.inl (by simp)) (.slice (some ⟨q3,0,none⟩) 3 r3)
 have h:=h.set2 (.slice (some ⟨q3,0,none⟩) 3 r3)
 have rP:=gS.row rP (by simp <;> omega)
 have rE:=gS.row rE (by simp <;> omega)
 have hO:=hO.fr gS (by simp;omega)
 have hg0:=gS.stay hg0 (by simp;omega)
 have hg1:=gS.stay hg1 (by simp;omega)
 have hg2:=gS.stay hg2 (by simp;omega)
 have F:=F.after gS (by simp <;> omega)
 have hlo:lo≤(w2.setCell ⟨w.heap.size+1+1,2,none⟩ (.slice (some ⟨q3,0,none⟩) 3 r3)).heap.size:=by rw [World.size_setCell];exact hlo
 clear gS c2 z2
 generalize w2.setCell ⟨w.heap.size+1+1,2,none⟩ (.slice (some ⟨q3,0,none⟩) 3 r3)=V3 at *
 have c2:=h.c2
 have c3:=h.c3
 have c4:=h.c4
 have c5:=h.c5
 have p0:V3.cell? ⟨w.heap.size,0,none⟩=some (.slice none 0 0):=by rw [cell_of_row _ _ 0 _ _ _ rP];rfl
 have p1:V3.cell? ⟨w.heap.size,1,none⟩=some (.int .i64 0):=by rw [cell_of_row _ _ 1 _ _ _ rP];rfl
 have p2:V3.cell? ⟨w.heap.size,2,none⟩=some (.int .i64 0):=by rw [cell_of_row _ _ 2 _ _ _ rP];rfl
 have p3:V3.cell? ⟨w.heap.size,3,none⟩=some (.int .u8 0):=by rw [cell_of_row _ _ 3 _ _ _ rP];rfl
 have pz:∀ i,V3.frozen? ⟨w.heap.size,i,none⟩=false:=fun i=>frozen_of_row V3 _ i _ _ rP
 have ve:=var_row rE
 have q0:=ve.cell
 have qz:=ve.frozen
 rw [rounds_succ]
 go_wp2_with fail
 have rP:=heap_setCell_same _ _ 3 _ _ (.int .u8 3) (heap_setCell_same _ _ 2 _ _ (.int .i64 3) (heap_setCell_same _ _ 1 _ _ (.int .i64 8) (heap_setCell_same _ _ 0 _ _ (.slice (some ⟨q3,0,none⟩) 3 r3) rP)))
 have gP:=((((Fr.refl [w.heap.size] V3).setCell (p:=⟨w.heap.size,0,none⟩) (.inl (by simp)) (.slice (some ⟨q3,0,none⟩) 3 r3)).setCell (p:=⟨w.heap.size,1,none⟩) (.inl (by simp)) (.int .i64 8)).setCell (p:=⟨w.heap.size,2,none⟩) (.inl (by simp)) (.int .i64 3)).setCell (p:=⟨w.heap.size,3,none⟩) (.inl (by simp)) (.int .u8 3)
 have ve:=ve.fr gP (by simp)
 have hO:=hO.fr gP (by simp;omega)
 have F:=F.after gP (by simp)
 clear gP p0 p1 p2 p3 pz q0 qz c2 c3 c4 c5 h rE
 generalize (((V3.setCell ⟨w.heap.size,0,none⟩ (.slice (some ⟨q3,0,none⟩) 3 r3)).setCell ⟨w.heap.size,1,none⟩ (.int .i64 8)).setCell ⟨w.heap.size,2,none⟩ (.int .i64 3)).setCell ⟨w.heap.size,3,none⟩ (.int .u8 3)=U at *
 have gE:=(Fr.refl [w.heap.size+1] U).setCell (p:=⟨w.heap.size+1,0,none⟩) (.inl (by simp)) .nilIface
 have ve:=ve.set .nilIface
 have rP:=gE.row rP (by simp)
 have hO:=hO.fr gE (by simp;omega)
 have F:=F.after gE (by simp)
 refine leaves_cons (f:=22) (args:=#[.pointer (some ⟨w.heap.size,0,none⟩),.pointer (some ⟨w.heap.size+1,0,none⟩)]) (by simp) (by simp [go_sem]) ?_
 refine (catch_idle ⟨w.heap.size,0,none⟩ ⟨w.heap.size+1,0,none⟩ _).mono ?_
 rintro e u' w9 ⟨rfl,rfl,rfl⟩
 refine⟨_,results_two rfl _ _ ⟨w.heap.size,0,none⟩ ⟨w.heap.size+1,0,none⟩ _ _ rfl rfl (run_loadVar_row _ _ _ _ _ _ _ rP Tryz.underlying37 rfl (by kernel_rfl)) (load_error ve),?_⟩
 have hq:=(World.ownsRow.lt hO q3 rfl).1
 exact⟨_,rfl,⟨q3,r3,rfl,by omega,⟨World.ownsRow.cells hO rfl 0 _ rfl,World.ownsRow.cells hO rfl 1 _ rfl,World.ownsRow.cells hO rfl 2 _ rfl⟩,⟨World.ownsRow.cells hO rfl 3 _ rfl,World.ownsRow.cells hO rfl 4 _ rfl,World.ownsRow.cells hO rfl 5 _ rfl⟩,⟨World.ownsRow.cells hO rfl 6 _ rfl,World.ownsRow.cells hO rfl 7 _ rfl,World.ownsRow.cells hO rfl 8 _ rfl⟩⟩,F⟩
end Go.Proofs.YtcmndpjemdjalaaGreatDoor
