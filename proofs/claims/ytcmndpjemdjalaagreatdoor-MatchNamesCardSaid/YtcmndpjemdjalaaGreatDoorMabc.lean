/- Laws that the claimed theorem leans on: no condition of their own beyond their hypotheses. -/
import Derived.Test.YtcmndpjemdjalaaGreatDoorRows
import Derived.ProofKit
import Derived.LaidMore
import Derived.LaidHandle
import Derived.OpenShut
import Derived.Stop.Joined
import Derived.Lay
import Derived.Lib.LaidTab
import Derived.Lib.SmallJoins
import Derived.Test.YtcmndpjemdjalaaGreatDoorMabb
set_option maxRecDepth 100000
set_option maxHeartbeats 16000000
namespace Go.Proofs.YtcmndpjemdjalaaGreatDoor
open Go.ChangeShapes Go.WideShapes Go.ChangeAt Go.RowKit Go.Joins
theorem own:ownKnob Tryz.prog.godebug=none:=by kernel_rfl
theorem gErr:Tryz.prog.globalNamed "errors.errorType"=some 0:=by kernel_rfl
theorem gTab:Tryz.prog.globalNamed "math/bits.deBruijn32tab"=some 7:=by kernel_rfl
theorem tTab:(Tryz.prog.globals[7]?).map (·.type)=some 383:=by kernel_rfl
theorem cutRtype:(Tryz.prog.cutTypes.find? (·.1 == "internal/reflectlite.rtype")).map (·.2)=some 137:=by kernel_rfl
theorem oneError:((List.range 439).filter fun t=>Tryz.prog.rowNamed t [101,114,114,111,114])=[32]:=by kernel_rfl
theorem sizeTypes:Tryz.prog.types.size=439:=by kernel_rfl
def laidL:List (String × DataW Unit):=Rows.matchOneRow.laid
def plainL:List (String × DataW Unit):=laidL.filter fun x=>x.2.handleName?.isNone
def handleL:List (String × DataW Unit):=laidL.filter fun x=>x.2.handleName?.isSome
theorem handleL_one:handleL=[("errors.errorType",Rows.laid_errors_errorType)]:=by kernel_rfl
theorem laid_split {W:World} (h:laidMetH Tryz.prog laidL W):laidMet Tryz.prog plainL W∧handlesMet Tryz.prog handleL W:=by
 unfold laidMetH at h
 rw [show (laidL.filter fun x=>x.2.handleName?.isSome)=[("errors.errorType",Rows.laid_errors_errorType)] from handleL_one] at h
 rw [handleL_one]
 exact h
def tabZ:List Int:=List.map Int.ofNat Lib.deBruijn32tab
theorem plainL_head:plainL=("math/bits.deBruijn32tab",Lib.tabData .u8 tabZ) :: plainL.tail:=by kernel_rfl
theorem tabZ_len:tabZ.length=Lib.deBruijn32tab.length:=by unfold tabZ;rw [List.length_map]
theorem tabZ_at (j:Nat):tabZ.getD j 0=((Lib.deBruijn32tab.getD j 0:Nat):Int):=by
 unfold tabZ
 rw [List.getD_eq_getElem?_getD,List.getD_eq_getElem?_getD,List.getElem?_map]
 cases Lib.deBruijn32tab[j]? <;> rfl
theorem errTy_of_laid {W:World} (h:laidMetH Tryz.prog laidL W):ErrTy W:=by
 have h':=(laid_split h).2
 rw [handleL_one] at h'
 obtain⟨name,u,ty,e1,e2,e3,e4,e5⟩:=h' _ (List.mem_singleton.2 rfl)
 have en:name=[101,114,114,111,114]:=(Option.some.inj e1).symm
 subst en
 obtain rfl:=Option.some.inj (cutRtype.symm.trans e2)
 have hm:ty∈(List.range 439).filter fun t=>Tryz.prog.rowNamed t [101,114,114,111,114]:=List.mem_filter.2 ⟨List.mem_range.2 (by rw [← sizeTypes];exact e3),e4⟩
 rw [oneError] at hm
 obtain rfl:=List.mem_singleton.1 hm
 have hh:typeHandle Tryz.prog 32=.pointer (some ⟨9,32,none⟩):=by kernel_rfl
 rw [hh] at e5
 simpa [ErrTy] using World.var?_cell gErr e5 0
theorem tabAt_of_laid {W:World} (h:laidMetH Tryz.prog laidL W):TabAt 7 Lib.deBruijn32tab W:=by
 have h':=(laid_split h).1
 rw [plainL_head] at h'
 have hT:=Lib.tabIs_of_head gTab tTab Tryz.underlying383 Tryz.underlying5 (by kernel_rfl) (by kernel_rfl) h'
 intro j hj
 rw [hT.cell gTab j (by rw [tabZ_len];exact hj),tabZ_at]
noncomputable def wit0 (os:Os):World :=
 let w0:=World.holding Tryz.prog os ⟨#[],#[],[]⟩
 { w0 with heap:=w0.heap.modify 0 fun
   | .cells _ t frozen=>.cells #[.iface 137 (.agg #[.pointer (some ⟨9,32,none⟩)])] t frozen
   | o=>o }
noncomputable def wit (os:Os):World:=(wit0 os).layVars Tryz.prog plainL
theorem wit_os (os:Os):(wit os).os=os:=World.layVars_os _ _ _
theorem plain_all:(plainL.filter fun x=>(plainL.map (·.1)).contains x.1)=plainL:=List.filter_eq_self.2 fun x hx=>List.contains_iff_mem.2 (List.mem_map.2 ⟨x,hx,rfl⟩)
theorem plain_none:(plainL.filter fun x=>!(plainL.map (·.1)).contains x.1)=[]:=List.filter_eq_nil_iff.2 fun x hx=>by rw [List.contains_iff_mem.2 (List.mem_map.2 ⟨x,hx,rfl⟩)];simp
theorem wit_fits (os:Os):(wit0 os).layFits Tryz.prog plainL []=true:=by kernel_rfl
theorem wit_ifaces (os:Os):(wit0 os).layIfaces Tryz.prog plainL (wit os)=true:=by kernel_rfl
theorem wit_plain (os:Os):laidMet Tryz.prog plainL (wit os) :=
 laidMet_layVars (w0:=wit0 os) (plainL.map (·.1)) [] (by rw [plain_all];rfl) (by rw [plain_all];exact wit_fits os) (by rw [plain_all];exact wit_ifaces os) (by rw [plain_none];exact LaidIn.none)
theorem wit_met (os:Os) (args:Array Value):laidMetH Tryz.prog laidL ((wit os).forCall (fun _ _=>0) ⟨#[],args,[]⟩).memory :=
 laidMetH_of_parts ((wit_plain os).of_heap (by simp [World.memory,World.forCall,Input.heap])) (by kernel_rfl)
end Go.Proofs.YtcmndpjemdjalaaGreatDoor
