/- MatchOne (numerallaw22): for every input it answers true, and each argument reads behind the call as before it; where the listed package-level variables hold what the program's own text lays in them (tied). -/
import Derived.Test.YtcmndpjemdjalaaGreatDoorTie
import Derived.Test.YtcmndpjemdjalaaGreatDoorCards
import Derived.SevenTiedAt
import Derived.Test.YtcmndpjemdjalaaGreatDoorMabb
import Derived.Test.YtcmndpjemdjalaaGreatDoorMabc
import Derived.Test.YtcmndpjemdjalaaGreatDoorMoaa
import Derived.Test.YtcmndpjemdjalaaGreatDoorMoad
set_option maxRecDepth 100000
set_option maxHeartbeats 16000000
namespace Go.Proofs.YtcmndpjemdjalaaGreatDoor
open Go.RowKit
def NilR (e:Value) (_:World):Prop:=e=.nilIface
theorem NilR.lasts:Lasts [] NilR:=fun _ _ _ h _=>h
def ErrM (c a:Int) (e:Value) (w:World):Prop:=ErrAt w 88 e c a
theorem ErrM.lasts (c a:Int):Lasts [] (ErrM c a):=fun _ _ _ h hf=>ErrAt.fr h hf
def ErrR (c a:Int) (e:Value) (w:World):Prop:=ErrAt w 123 e c a
theorem ErrR.lasts (c a:Int):Lasts [] (ErrR c a):=fun _ _ _ h hf=>ErrAt.fr h hf
structure Outcome (w:World) (d:Nat) (P E F:Int) (l:List UInt8) (mode:Nat) (b fl c at_:Int) (R R2:Value→World→Prop) (tk:Bool):Prop where
 hR:Lasts [] R
 hR2:Lasts [] R2
 hRd:∀ g W,OneI d g W→Fr [] w W→Calls Tryz.prog 8 #[apiPlan (.slice (some ⟨g,0,none⟩) 1 1) 0 P 0,formV E F,.string (strL l),.int .u8 mode] W fun x w'=>∃ e,x=.returned (.tuple #[.int .u64 b,.int .u8 fl,e])∧R e w'∧Fr [] W w'
 hOf:∀ e W,R e W→Fr [] w W→Calls Tryz.prog 7 #[.int .u64 b,.int .u8 fl,e] W fun x w'=>x=.returned (toldV b fl c at_)∧Fr [] W w'
 hTk:∀ g W,OneI d g W→Fr [] w W→Calls Tryz.prog 13 #[apiPlan (.slice (some ⟨g,0,none⟩) 1 1) 0 P 0,.string (strL l)] W fun x w'=>x=.returned (.bool tk)∧Fr [] W w'
 hc:tk=false→(c != 0)=true
 hBt:tk=true→∀ W,Fr [] w W→Calls Tryz.prog 14 #[formV E F,.string (strL l),.int .u8 mode] W fun x w'=>∃ e,x=.returned (.tuple #[.int .u64 b,.int .u8 fl,e])∧R2 e w'∧Fr [] W w'
 hOf2:tk=true→∀ e W,R2 e W→Fr [] w W→Calls Tryz.prog 7 #[.int .u64 b,.int .u8 fl,e] W fun x w'=>x=.returned (toldV b fl c at_)∧Fr [] W w'
theorem lookOk_ne {d:Nat} {P:Int} (hL:LookOk d P):((d:Int) != 1)=true:=by
 unfold LookOk at hL
 simp only [bne_iff_ne,ne_eq];omega
theorem check_I {d:Nat} {P:Int} (hL:LookOk d P) (g:Nat) (W:World) (h:OneI d g W):∀ X,Fr [] W X→Calls Tryz.prog 12 #[apiPlan (.slice (some ⟨g,0,none⟩) 1 1) 0 P 0] X fun x w'=>x=.returned (.int .i64 0)∧Fr [] X w' :=
 fun X hX=>check_look X g 1 d P hL (hX.stay h.1 (by simp)) (hX.stay h.2.1 (by simp)) (hX.stay h.2.2 (by simp))
theorem outcome (w:World) (d:Nat) (P:Int) (hL:LookOk d P) (E F:Int) (l:List UInt8) (mode:Nat) (hg:ErrTy w) (hTab:TabAt 7 Lib.deBruijn32tab w) :
  ∃ b fl c at_ R R2 tk,Outcome w d P E F l mode b fl c at_ R R2 tk:=by
 have hd:=lookOk_ne hL
 have hLong:65536<l.length→∀ g W,OneI d g W→Fr [] w W→Calls Tryz.prog 13 #[apiPlan (.slice (some ⟨g,0,none⟩) 1 1) 0 P 0,.string (strL l)] W fun x w'=>x=.returned (.bool false)∧Fr [] W w' :=
  fun hl g W h hf=>takes_long W g 1 d 0 P _ l hd h.1 h.2.1 h.2.2 (check_I hL g W h) hl
 have hShort:l.length≤65536→∀ g W,OneI d g W→Fr [] w W→Calls Tryz.prog 13 #[apiPlan (.slice (some ⟨g,0,none⟩) 1 1) 0 P 0,.string (strL l)] W fun x w'=>x=.returned (.bool (takeOk d P l))∧Fr [] W w':=by
  intro hl g W h hf
  cases hk:takeOk d P l with
  | false=>exact takes_no W g 1 d 0 P _ l hd h.1 h.2.1 h.2.2 (check_I hL g W h) hl hk
  | true=>exact takes_yes W g 1 d 0 P _ l hd h.1 h.2.1 h.2.2 (check_I hL g W h) hl hk
 have hM:∀ c:Int,(c != 0)=true→∀ e W,ErrM c 0 e W→Fr [] w W→Calls Tryz.prog 7 #[.int .u64 0,.int .u8 0,e] W fun x w'=>x=.returned (toldV 0 0 c 0)∧Fr [] W w' :=
  fun c hc e W he hf=>of_M W 0 0 e c 0 (hg.fr hf) he hc
 have hRr:∀ c:Int,(c != 0)=true→∀ e W,ErrR c 0 e W→Fr [] w W→Calls Tryz.prog 7 #[.int .u64 0,.int .u8 0,e] W fun x w'=>x=.returned (toldV 0 0 c 0)∧Fr [] W w' :=
  fun c hc e W he hf=>of_R W 0 0 e c 0 (hg.fr hf) he hc
 by_cases hF:FormOk E F
 ·by_cases hl:l.length≤65536
  ·by_cases hm:mode<5
   ·cases hk:takeOk d P l with
    | false =>
     refine⟨0,0,220,0,ErrM 220 0,ErrR 220 0,false,ErrM.lasts _ _,ErrR.lasts _ _,?_,hM 220 (by decide),?_,fun _=>by decide,by simp,by simp⟩
     ·exact fun g W h hf=>matchRead_no W E F g 1 d 0 P _ l mode hd h.1 h.2.1 h.2.2 (check_I hL g W h) hF hl hm hk
     ·intro g W h hf;have:=hShort hl g W h hf;rwa [hk] at this
    | true =>
     obtain⟨neg,t,hok,hr⟩:=takeOk_text hk
     refine⟨(txtV E F neg mode t).1,(txtV E F neg mode t).2,0,0,NilR,NilR,true,NilR.lasts,NilR.lasts,?_,?_,?_,by simp,fun _=>?_,fun _=>?_⟩
     ·exact fun g W h hf=>(matchRead_yes W E F g 1 d 0 P _ l mode hd h.1 h.2.1 h.2.2 (check_I hL g W h) hF hl hm hk neg t hok hr (tab_fr hTab hf)).mono (fun x w' ⟨h1,h2⟩=>⟨_,h1,rfl,h2⟩)
     ·rintro e W rfl hf;exact of_nil W _ _
     ·intro g W h hf;have:=hShort hl g W h hf;rwa [hk] at this
     ·exact fun W hf=>(readBits_ok W E F (strL l) t neg mode hF hm (by rw [strL_data];exact hr) (by rw [strL_size];exact hl) hok (tab_fr hTab hf)).mono (fun x w' ⟨h1,h2⟩=>⟨_,h1,rfl,h2⟩)
     ·rintro e W rfl hf;exact of_nil W _ _
   ·refine⟨0,0,7,0,ErrM 7 0,ErrR 7 0,takeOk d P l,ErrM.lasts _ _,ErrR.lasts _ _,?_,hM 7 (by decide),hShort hl,fun _=>by decide,fun _=>?_,fun _=>hRr 7 (by decide)⟩
    ·exact fun g W h hf=>matchRead_mode W E F g 1 d 0 P _ l mode hd h.1 h.2.1 h.2.2 (check_I hL g W h) hF hl (by omega)
    ·exact fun W hf=>readBits_mode W E F (strL l) mode hF (by omega)
  ·refine⟨0,0,3,0,ErrM 3 0,ErrR 3 0,false,ErrM.lasts _ _,ErrR.lasts _ _,?_,hM 3 (by decide),hLong (by omega),fun _=>by decide,by simp,by simp⟩
   exact fun g W h hf=>matchRead_long W E F g 1 d 0 P _ l mode hd h.1 h.2.1 h.2.2 (check_I hL g W h) hF (by omega)
 ·have hRd:∀ g W,OneI d g W→Fr [] w W→Calls Tryz.prog 8 #[apiPlan (.slice (some ⟨g,0,none⟩) 1 1) 0 P 0,formV E F,.string (strL l),.int .u8 mode] W fun x w'=>∃ e,x=.returned (.tuple #[.int .u64 0,.int .u8 0,e])∧ErrM 5 0 e w'∧Fr [] W w' :=
   fun g W h hf=>matchRead_form W E F g 1 d 0 P _ l mode hd h.1 h.2.1 h.2.2 (check_I hL g W h) hF
  by_cases hl:l.length≤65536
  ·exact⟨0,0,5,0,ErrM 5 0,ErrR 5 0,takeOk d P l,ErrM.lasts _ _,ErrR.lasts _ _,hRd,hM 5 (by decide),hShort hl,fun _=>by decide,fun _ W hf=>readBits_form W E F (strL l) mode hF,fun _=>hRr 5 (by decide)⟩
  ·exact⟨0,0,5,0,ErrM 5 0,ErrR 5 0,false,ErrM.lasts _ _,ErrR.lasts _ _,hRd,hM 5 (by decide),hLong (by omega),fun _=>by decide,by simp,by simp⟩
theorem matchOne_any (w:World) (look:Nat) (hlook:look<256) (E F:Int) (l:List UInt8) (mode:Nat) (hg:ErrTy w) (hTab:TabAt 7 Lib.deBruijn32tab w) :
  Calls Tryz.prog 4 #[.int .u8 look,formV E F,.string (strL l),.int .u8 mode] w fun x w'=>x=.returned (.bool true)∧Fr [] w w':=by
 have hD:(2+(look:Int) % 5)=((2+look % 5:Nat):Int):=by omega
 have hAl:∀ W,Fr [] w W→Calls Tryz.prog 11 #[] W fun x w'=>x=.returned (.bool true)∧Fr [] W w':=fun W hf=>alive_any W (hg.fr hf) (tab_fr hTab hf)
 have hOne:=one_any w look hlook E F (strL l) mode
 rw [hD] at hOne
 generalize hd:2+look % 5=d at *
 have hNot:∀ (P:Int),((d=3∨d=4∨d=5)∧P=-1∨d=5∧P=0)→∀ g W,OneI d g W→Fr [] w W→Calls Tryz.prog 12 #[apiPlan (.slice (some ⟨g,0,none⟩) 1 1) 0 P 0] W fun x w'=>x=.returned (.int .i64 211)∧Fr [] W w' :=
  fun P hP g W h hf=>check_notlook W g 1 d P hP h.1 h.2.1 h.2.2
 have hYes:∀ (P:Int),LookOk d P→∀ g W,OneI d g W→Fr [] w W→Calls Tryz.prog 12 #[apiPlan (.slice (some ⟨g,0,none⟩) 1 1) 0 P 0] W fun x w'=>x=.returned (.int .i64 0)∧Fr [] W w' :=
  fun P hP g W h hf=>check_I hP g W h W (Fr.refl _ _)
 by_cases h1:d=2∨d=6
 ·have hL:LookOk d (-1):=by unfold LookOk;omega
  obtain⟨b,fl,c,at_,R,R2,tk,o⟩:=outcome w d (-1) hL E F l mode hg hTab
  exact hOne _ b fl c at_ R R2 o.hR o.hR2 tk hAl (.inl ⟨rfl,hYes _ hL⟩) o.hRd o.hOf o.hTk o.hc o.hBt o.hOf2
 ·by_cases h2:d=5∧look % 7=0
  ·have hL:LookOk d 1:=by unfold LookOk;omega
   have hN1:=hNot (-1) (by omega)
   have hN2:=hNot ((look:Int) % 7) (by omega)
   obtain⟨b,fl,c,at_,R,R2,tk,o⟩:=outcome w d 1 hL E F l mode hg hTab
   exact hOne _ b fl c at_ R R2 o.hR o.hR2 tk hAl (.inr (.inr ⟨rfl,hN1,hN2⟩)) o.hRd o.hOf o.hTk o.hc o.hBt o.hOf2
  ·have hL:LookOk d ((look:Int) % 7):=by unfold LookOk;omega
   have hN1:=hNot (-1) (by omega)
   obtain⟨b,fl,c,at_,R,R2,tk,o⟩:=outcome w d ((look:Int) % 7) hL E F l mode hg hTab
   exact hOne _ b fl c at_ R R2 o.hR o.hR2 tk hAl (.inr (.inl ⟨rfl,hN1,hYes _ hL⟩)) o.hRd o.hOf o.hTk o.hc o.hBt o.hOf2
end Go.Proofs.YtcmndpjemdjalaaGreatDoor
namespace Go.Proofs.YtcmndpjemdjalaaGreatDoor
open Go.ChangeShapes Go.WideShapes Go.ChangeAt Go.RowKit Go.Joins
open Go.ChangeMaps (open_string shut_string)
theorem matchOne_lifted (os:Os) (started:os.Started) (H:Type) (enc:TypeId × Value→H) :
  ReturnsInHanded {} Tryz.checked os 4 .any (fun w args=>(Rows.matchOneSpec.pre enc Tryz.prog Tryz.f4 [] false w args∧laidMetH Tryz.prog laidL w)∧sizedMet enc Tryz.prog Tryz.f4 (OpenSpec.ofChange Rows.matchOneSpec) false w args)
   (Rows.matchOneSpec.post enc Tryz.prog Tryz.f4 false true false false):=by
 refine returnsInHanded_of_change_and (C:=Tryz.checked) (X:=fun w _=>laidMetH Tryz.prog laidL w) (fun _ _ _ hh h=>h.of_heap hh) own started (by kernel_rfl) Tryz.func4
  (ChangeSpec.witness_shaped (enc:=enc) (C:=Tryz.checked) (os:=os) (X:=fun w _=>laidMetH Tryz.prog laidL w) false (wit os) #[.int .u8 0,.agg #[.int .i64 0,.int .i64 0],.string ⟨#[]⟩,.int .u8 0] 8 (wit_os os) (World.shaped_of_ZipB (by kernel_rfl) (by kernel_rfl)) (by kernel_rfl) (by kernel_rfl) (by kernel_rfl) (wit_met os _)) ?_
 intro W base args ds gs before hval0 hW _ _ hL _
 have hval:∀ (j:Nat) t v,Tryz.f4.params[j]?=some t→args[j]?=some v→Value.okWide Tryz.prog W .any base t v:=hval0
 have hW':=hW
 obtain⟨p,q,hA0,hV,rfl,hfz,hnd⟩:=hW
 have hA:DataW.TrodAll enc Tryz.prog W 0 (fun _=>true) true Tryz.f4.params.toList args.toList ds p:=hA0
 rw [Tryz.params4] at hA hval
 obtain⟨v0,v1,v2,v3,d0,d1,d2,d3,p0,p1,p2,p3,rfl,rfl,rfl,h0,h1,h2,h3⟩:=trodAll_four hA
 obtain⟨rfl,rfl⟩:=trodVars_none hV
 have c39:Tryz.prog.cellsOf 39=2:=by kernel_rfl
 obtain⟨look,rfl,rfl,rfl,w0⟩:=open_int Tryz.underlying5 (hval 0 5 v0 rfl rfl) h0
 obtain⟨f0,f1,y0,y1,m,rfl,rfl,rfl,hy0,hy1⟩:=open_agg2 Tryz.underlying39 (by kernel_rfl) c39 (hval 1 39 v1 rfl rfl) h1
 obtain⟨E,e0,rfl,wE⟩:=DataW.trod_int Tryz.underlying3 hy0
 obtain⟨F,e1,rfl,wF⟩:=DataW.trod_int Tryz.underlying3 hy1
 simp at e0 e1;subst e0 e1
 obtain⟨s,rfl,rfl,rfl,hs⟩:=open_string Tryz.underlying9 (hval 2 9 v2 rfl rfl) h2
 obtain⟨mode,rfl,rfl,rfl,w3⟩:=open_int Tryz.underlying5 (hval 3 5 v3 rfl rfl) h3
 have b0:=bounds_u8 w0
 have b3:=bounds_u8 w3
 obtain⟨lk,rfl⟩:∃ n:Nat,look=n:=⟨look.toNat,by omega⟩
 obtain⟨md,rfl⟩:∃ n:Nat,mode=n:=⟨mode.toNat,by omega⟩
 have hM:=matchOne_any W lk (by omega) E F s.data.toList md (errTy_of_laid hL) (tabAt_of_laid hL)
 rw [strL_of] at hM
 refine hM.mono fun e W' ⟨he,hf⟩=>?_
 subst he
 have e1:Rows.matchOneSpec.fn H ([.lit (.int .u8 lk),.agg [.lit (.int .i64 E),.lit (.int .i64 F)],.lit (.string s.data.toList),.lit (.int .u8 md)]++[])={ results:=[.lit (.bool true)],args:=[.lit (.int .u8 lk),.agg [.lit (.int .i64 E),.lit (.int .i64 F)],.lit (.string s.data.toList),.lit (.int .u8 md)] }:=by simp [Rows.matchOneSpec]
 refine⟨_,rfl,_,_,_,[],[],[],hW',?_,?_,?_,Below.frame hf.below _,fun h=>by cases h⟩
 ·rw [e1];exact trodAll_mk1 (shut_bool Tryz.underlying4 true)
 ·rw [e1]
  exact trodAll_mk4 (shut_int Tryz.underlying5 w0) (shut_agg2 (y0:=(.lit (.int .i64 E),[])) (y1:=(.lit (.int .i64 F),[])) Tryz.underlying39 (by kernel_rfl) c39 ⟨1,by simp [DataW.trod,Tryz.underlying3,wE]⟩ ⟨1,by simp [DataW.trod,Tryz.underlying3,wF]⟩) (shut_string Tryz.underlying9 hs) (shut_int Tryz.underlying5 w3)
 ·rw [e1];rfl
theorem matchOne_holds:Rows.MatchOneSaid :=
 OpenClaim.holds_of_wide 4 Tryz.f4 rfl rfl rfl rfl rfl rfl rfl ⟨rfl,rfl,rfl,rfl,rfl⟩ rfl rfl rfl rfl rfl (by kernel_rfl) Tryz.func4 matchOne_closed
  (of_decide_eq_true (by kernel_rfl)) (by unfold Func.isWrapper;rw [if_neg (of_decide_eq_false (by kernel_rfl))];exact⟨rfl,rfl⟩)
  (fun os started H enc _=>matchOne_lifted os started H enc)
theorem matchOneCard_holds:Rows.MatchOneCardSaid :=
 Claim7.holds_tied_plain_at .later [] [.data,.data,.data,.data,.handle,.sentinel,.sentinel,.pinned] true (true,"815aa2457ab39d002a4ad3d335f65e58f9fef9fc05b1b11f6e3d08f682a1be46") true
  matchOne_holds (fun _ h=>by cases h) (by kernel_rfl) (fun _ h=>by cases h) matchOne_row_tie rfl ⟨rfl,rfl⟩ (by kernel_rfl) rfl
  (fun f fn hf hfn=>by
   obtain rfl:f=4:=Option.some.inj ((show Tryz.prog.funcNamed "numeral/numerallaw22.MatchOne"=some 4 by kernel_rfl).symm.trans hf) |>.symm
   obtain rfl:fn=Tryz.f4:=(Option.some.inj (Tryz.func4.symm.trans hfn)).symm
   exact⟨by kernel_rfl,fun j t ht=>by
    rw [Tryz.params4] at ht
    have hm:t∈[5,39,9,5]:=by simpa using Array.mem_of_getElem? ht
    have hall:([5,39,9,5].all fun u=>!Tryz.prog.wantsStandIn u)=true:=by kernel_rfl
    exact (show Tryz.prog.wantsStandIn t=false by simpa using List.all_eq_true.1 hall t hm)⟩)
  (by kernel_rfl)
#print axioms matchOneCard_holds
end Go.Proofs.YtcmndpjemdjalaaGreatDoor
