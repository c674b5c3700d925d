/- Laws that the claimed theorem leans on: no condition of their own beyond their hypotheses. -/
import Derived.Lib.IndexMore
import Derived.Lib.SlTrimSet
import Derived.LaidEql
import Derived.Stop.Asserts
import Derived.RowKitTokens
import Derived.Test.YtcmndpjemdjalaaGreatDoorMaar
import Derived.Test.YtcmndpjemdjalaaGreatDoorMaas
import Derived.Test.YtcmndpjemdjalaaGreatDoorMaat
import Derived.Test.YtcmndpjemdjalaaGreatDoorMaau
import Derived.Test.YtcmndpjemdjalaaGreatDoorMaav
import Derived.Test.YtcmndpjemdjalaaGreatDoorMaaw
import Derived.Test.YtcmndpjemdjalaaGreatDoorMaay
import Derived.Test.YtcmndpjemdjalaaGreatDoorMaba
import Derived.Test.YtcmndpjemdjalaaGreatDoorMabb
import Derived.Test.YtcmndpjemdjalaaGreatDoorMoab
import Derived.Test.YtcmndpjemdjalaaGreatDoorMoac
set_option maxRecDepth 100000
set_option maxHeartbeats 16000000
namespace Go.Proofs.YtcmndpjemdjalaaGreatDoor
theorem tens_of {l:List UInt8} (h:∀ x∈l,tensL.contains x=true):TenL l:=by
 intro x hx
 have h1:=h x hx
 have h2:48≤x.toNat∧x.toNat≤57:=by
  have:x∈tensL:=by simpa [List.contains_iff_mem] using h1
  simp only [tensL,List.mem_cons,List.not_mem_nil,or_false] at this
  rcases this with h | h | h | h | h | h | h | h | h | h <;> subst h <;> decide
 unfold tenW
 rw [if_pos h2]
theorem six_of {l:List UInt8} (h:∀ x∈l,sixteensL.contains x=true):HexL l:=by
 intro x hx
 have h1:=h x hx
 have:x∈sixteensL:=by simpa [List.contains_iff_mem] using h1
 simp only [sixteensL,List.mem_cons,List.not_mem_nil,or_false] at this
 unfold HexB
 rcases this with h | h | h | h | h | h | h | h | h | h | h | h | h | h | h | h <;> subst h <;> decide
theorem behind_of {point:Bool} {tail d:List UInt8} {places:Int} (h:behindB point tail d places=true) (h0:point=false→tail=[]):∀ x∈tail,d.contains x=true:=by
 unfold behindB at h
 cases point with
 | false=>rw [h0 rfl];simp
 | true =>
  split at h
  ·simp at h
  ·split at h
   ·simp only [Bool.and_eq_true] at h
    exact (rowB_iff.1 h.2.2).2
   ·simp only [Bool.not_true,Bool.false_or] at h
    exact (rowB_iff.1 h).2
theorem exponent_of {s:List UInt8} (h:exponentB s=true):∃ sgn D,s=signL sgn D∧0<D.length∧TenL D:=by
 unfold exponentB wholeB at h
 rw [Bool.and_eq_true,rowB_iff] at h
 unfold Lib.trimPrefix at h
 by_cases hp:Lib.hasPrefix s [45]=true
 ·rw [if_pos hp] at h
  refine⟨true,s.drop 1,?_,h.1.1,tens_of h.1.2⟩
  unfold Lib.hasPrefix at hp
  rcases s with _ | ⟨a,s⟩
  ·simp at hp
  ·simp [List.isPrefixOf] at hp
   subst hp;rfl
 ·rw [if_neg hp] at h
  exact⟨false,s,rfl,h.1.1,tens_of h.1.2⟩
theorem point_of (s:List UInt8):(((Lib.cut s [46]).2.2=false→(Lib.cut s [46]).2.1=[])∧s=(Lib.cut s [46]).1++pointL (Lib.cut s [46]).2.2 (Lib.cut s [46]).2.1):=by
 rcases cut_one s 46 with ⟨h1,h2⟩ | ⟨h1,h2,h3⟩
 ·refine⟨fun h=>by rw [h1] at h;simp at h,?_⟩
  rw [h1];exact h2
 ·refine⟨fun _=>h3,?_⟩
  rw [h1,h2];simp [pointL]
theorem plain_of {s:List UInt8} {places:Int} (h:plainB s places=true):∃ t:Txt,t.Ok∧s=t.body:=by
 unfold plainB at h
 simp only [Bool.and_eq_true] at h
 obtain⟨h1,h2⟩:=h
 obtain⟨p1,p2⟩:=point_of s
 have h3:=behind_of h2 p1
 unfold wholeB at h1
 rw [Bool.and_eq_true,rowB_iff] at h1
 generalize Lib.cut s [46]=c at *
 refine⟨.dec c.1 c.2.1 c.2.2 none,⟨h1.1.1,tens_of h1.1.2,tens_of h3,p1,fun x hx=>by simp at hx⟩,?_⟩
 show s=c.1++(pointL c.2.2 c.2.1++[])
 rw [List.append_nil]
 exact p2
theorem exp_of {s:List UInt8} {places:Int} (h:expB s places=true):∃ t:Txt,t.Ok∧s=t.body:=by
 unfold expB at h
 simp only [Bool.and_eq_true] at h
 obtain⟨h1,h2,h3,h4,h5⟩:=h
 rcases cut_one s 101 with ⟨-,hs⟩ | ⟨hc,-⟩
 ·obtain⟨p1,p2⟩:=point_of (Lib.cut s [101]).1
  have h6:=behind_of h4 p1
  obtain⟨sgn,D,hD,hD0,hD1⟩:=exponent_of h5
  rw [rowB_iff] at h3
  generalize Lib.cut s [101]=c at *
  generalize Lib.cut c.1 [46]=d at *
  refine⟨.dec d.1 d.2.1 d.2.2 (some (sgn,D)),⟨h3.1,tens_of h3.2,tens_of h6,p1,fun x hx=>by simp at hx;subst hx;exact⟨hD0,hD1⟩⟩,?_⟩
  show s=d.1++(pointL d.2.2 d.2.1++101 :: signL sgn D)
  rw [← List.append_assoc,← p2,← hD]
  exact hs
 ·rw [hc] at h1;simp at h1
theorem hex_of {s:List UInt8} {places:Int} (h:hexB s places=true):∃ t:Txt,t.Ok∧s=t.body:=by
 unfold hexB at h
 simp only [Bool.and_eq_true] at h
 obtain⟨h0,h1,h2,h4,h5⟩:=h
 have hs0:s=48 :: 120 :: Lib.trimPrefix s [48,120]:=by
  unfold Lib.trimPrefix
  rw [if_pos h0]
  unfold Lib.hasPrefix at h0
  rcases s with _ | ⟨a,_ | ⟨b,s⟩⟩
  ·simp at h0
  ·simp [List.isPrefixOf] at h0
  ·simp [List.isPrefixOf] at h0
   obtain⟨rfl,rfl⟩:=h0;rfl
 generalize Lib.trimPrefix s [48,120]=a at *
 rcases cut_one a 112 with ⟨-,hs⟩ | ⟨hc,-⟩
 ·obtain⟨p1,p2⟩:=point_of (Lib.cut a [112]).1
  have h6:=behind_of h4 p1
  obtain⟨sgn,D,hD,hD0,hD1⟩:=exponent_of h5
  generalize Lib.cut a [112]=c at *
  generalize Lib.cut c.1 [46]=d at *
  have hA:0<d.1.length∧HexL d.1:=by
   rw [Bool.or_eq_true] at h2
   rcases h2 with h | h <;> (rw [beq_iff_eq] at h;rw [h];refine⟨by simp,?_⟩;intro x hx;simp at hx;subst hx;unfold HexB;decide)
  refine⟨.hex d.1 d.2.1 d.2.2 (some (sgn,D)),⟨hA.1,hA.2,six_of h6,p1,fun x hx=>by simp at hx;subst hx;exact⟨hD0,hD1⟩⟩,?_⟩
  show s=48 :: 120 :: (d.1++(pointL d.2.2 d.2.1++112 :: signL sgn D))
  rw [← List.append_assoc d.1,← p2,← hD,← hs]
  exact hs0
 ·rw [hc] at h1;simp at h1
theorem named_of {s:List UInt8} (h:namedB s=true):∃ t:Txt,t.Ok∧s=t.body:=by
 unfold namedB at h
 rw [Bool.or_eq_true,beq_iff_eq,beq_iff_eq] at h
 rcases h with h | h
 ·exact⟨.inf,trivial,h⟩
 ·exact⟨.nan,trivial,h⟩
theorem body_of {d:Nat} {places:Int} {s:List UInt8} (h:bodyB d places s=true):∃ t:Txt,t.Ok∧s=t.body:=by
 unfold bodyB at h
 split at h
 ·rw [Bool.or_eq_true] at h;exact h.elim named_of plain_of
 ·split at h
  ·rw [Bool.or_eq_true] at h;exact h.elim named_of exp_of
  ·split at h
   ·rw [Bool.or_eq_true] at h;exact h.elim named_of hex_of
   ·rw [Bool.or_eq_true,Bool.or_eq_true] at h;exact h.elim named_of (fun h=>h.elim plain_of exp_of)
end Go.Proofs.YtcmndpjemdjalaaGreatDoor
namespace Go.Proofs.YtcmndpjemdjalaaGreatDoor
open Go.RowKit
theorem takeOk_text {d:Nat} {places:Int} {l:List UInt8} (h:takeOk d places l=true):∃ (neg:Bool) (t:Txt),t.Ok∧l=signL neg t.body:=by
 unfold takeOk at h
 rw [Bool.and_eq_true] at h
 obtain⟨-,h⟩:=h
 split at h
 ·rename_i S
  rw [Bool.and_eq_true] at h
  obtain⟨t,ht,hS⟩:=body_of h.2
  exact⟨true,t,ht,by rw [hS];rfl⟩
 ·obtain⟨t,ht,hS⟩:=body_of h
  exact⟨false,t,ht,hS⟩
theorem readNo_some (w:World) (code at_:Int) (h:(code==0)=false):Calls Tryz.prog 25 #[.int .i64 code,.int .i64 at_] w fun x w'=>∃ v,x=.returned v∧ErrAt w' 123 v code at_∧Fr [] w w':=by
 go_enter Tryz.func25,Tryz.ntmps25
 go_wp2_with fail
 go_ret
 have f1:=(Fr.refl [] w).alloc (.cells #[.int .i64 code,.int .i64 at_] 25)
 have f2:=(Fr.refl [] (w.alloc (.cells #[.int .i64 code,.int .i64 at_] 25))).alloc (.cells #[.pointer (some ⟨w.heap.size,0,none⟩)] 125)
 refine⟨_,rfl,⟨w.heap.size+1,w.heap.size,rfl,?_,?_,?_⟩,f1.then f2⟩
 ·have:=cell_new (w.alloc (.cells #[.int .i64 code,.int .i64 at_] 25)) #[.pointer (some ⟨w.heap.size,0,none⟩)] 125 (0,0) 0 _ rfl
  rwa [World.size_alloc] at this
 ·exact f2.stay (cell_new w #[.int .i64 code,.int .i64 at_] 25 (0,0) 0 _ rfl) (by simp)
 ·exact f2.stay (cell_new w #[.int .i64 code,.int .i64 at_] 25 (0,0) 1 _ rfl) (by simp)
end Go.Proofs.YtcmndpjemdjalaaGreatDoor
namespace Go.Proofs.YtcmndpjemdjalaaGreatDoor
open Go.RowKit
open Pb
theorem matchRead_form (w:World) (E F:Int) (b cap d pm:Nat) (places:Int) (txt:ByteArray) (l:List UInt8) (mode:Nat) (_hd:((d:Int) != 1)=true)
  (_h0:w.cell? ⟨b,0,none⟩=some (.int .u8 d)) (_h1:w.cell? ⟨b,1,none⟩=some (.int .i64 0)) (_h2:w.cell? ⟨b,2,none⟩=some (.string txt))
  (hCk:∀ W,Fr [] w W→Calls Tryz.prog 12 #[apiPlan (.slice (some ⟨b,0,none⟩) 1 cap) 0 places pm] W fun x w'=>x=.returned (.int .i64 0)∧Fr [] W w') (hF:¬ FormOk E F) :
  Calls Tryz.prog 8 #[apiPlan (.slice (some ⟨b,0,none⟩) 1 cap) 0 places pm,formV E F,.string (strL l),.int .u8 mode] w fun x w'=>∃ v,x=.returned (.tuple #[.int .u64 0,.int .u8 0,v])∧ErrAt w' 88 v 5 0∧Fr [] w w' :=
 matchReadG_form w E F (.slice (some ⟨b,0,none⟩) 1 cap) pm 0 places l mode hCk hF
theorem matchRead_long (w:World) (E F:Int) (b cap d pm:Nat) (places:Int) (txt:ByteArray) (l:List UInt8) (mode:Nat) (_hd:((d:Int) != 1)=true)
  (_h0:w.cell? ⟨b,0,none⟩=some (.int .u8 d)) (_h1:w.cell? ⟨b,1,none⟩=some (.int .i64 0)) (_h2:w.cell? ⟨b,2,none⟩=some (.string txt))
  (hCk:∀ W,Fr [] w W→Calls Tryz.prog 12 #[apiPlan (.slice (some ⟨b,0,none⟩) 1 cap) 0 places pm] W fun x w'=>x=.returned (.int .i64 0)∧Fr [] W w') (hF:FormOk E F) (hl:65536<l.length) :
  Calls Tryz.prog 8 #[apiPlan (.slice (some ⟨b,0,none⟩) 1 cap) 0 places pm,formV E F,.string (strL l),.int .u8 mode] w fun x w'=>∃ v,x=.returned (.tuple #[.int .u64 0,.int .u8 0,v])∧ErrAt w' 88 v 3 0∧Fr [] w w' :=
 matchReadG_long w E F (.slice (some ⟨b,0,none⟩) 1 cap) pm 0 places l mode hCk hF hl
theorem matchRead_mode (w:World) (E F:Int) (b cap d pm:Nat) (places:Int) (txt:ByteArray) (l:List UInt8) (mode:Nat) (_hd:((d:Int) != 1)=true)
  (_h0:w.cell? ⟨b,0,none⟩=some (.int .u8 d)) (_h1:w.cell? ⟨b,1,none⟩=some (.int .i64 0)) (_h2:w.cell? ⟨b,2,none⟩=some (.string txt))
  (hCk:∀ W,Fr [] w W→Calls Tryz.prog 12 #[apiPlan (.slice (some ⟨b,0,none⟩) 1 cap) 0 places pm] W fun x w'=>x=.returned (.int .i64 0)∧Fr [] W w') (hF:FormOk E F) (hl:l.length≤65536) (hm:5≤mode) :
  Calls Tryz.prog 8 #[apiPlan (.slice (some ⟨b,0,none⟩) 1 cap) 0 places pm,formV E F,.string (strL l),.int .u8 mode] w fun x w'=>∃ v,x=.returned (.tuple #[.int .u64 0,.int .u8 0,v])∧ErrAt w' 88 v 7 0∧Fr [] w w' :=
 matchReadG_mode w E F (.slice (some ⟨b,0,none⟩) 1 cap) pm 0 places l mode hCk hF hl hm
theorem matchRead_no (w:World) (E F:Int) (b cap d pm:Nat) (places:Int) (txt:ByteArray) (l:List UInt8) (mode:Nat) (hd:((d:Int) != 1)=true)
  (h0:w.cell? ⟨b,0,none⟩=some (.int .u8 d)) (h1:w.cell? ⟨b,1,none⟩=some (.int .i64 0)) (h2:w.cell? ⟨b,2,none⟩=some (.string txt))
  (hCk:∀ W,Fr [] w W→Calls Tryz.prog 12 #[apiPlan (.slice (some ⟨b,0,none⟩) 1 cap) 0 places pm] W fun x w'=>x=.returned (.int .i64 0)∧Fr [] W w') (hF:FormOk E F) (hl:l.length≤65536) (hm:mode<5) (hk:takeOk d places l=false) :
  Calls Tryz.prog 8 #[apiPlan (.slice (some ⟨b,0,none⟩) 1 cap) 0 places pm,formV E F,.string (strL l),.int .u8 mode] w fun x w'=>∃ v,x=.returned (.tuple #[.int .u64 0,.int .u8 0,v])∧ErrAt w' 88 v 220 0∧Fr [] w w' :=
 matchReadG_no w E F (.slice (some ⟨b,0,none⟩) 1 cap) (planV ⟨#[]⟩ ⟨#[]⟩ d 0 txt 0 places) pm 0 places l mode hCk hF hl hm (fun W hW=>open_one W b cap d pm 0 0 places txt hd (hW.stay h0 (by simp)) (hW.stay h1 (by simp)) (hW.stay h2 (by simp))) 0 (fun W=>taken_no W txt d places l hl hk)
theorem matchRead_yes (w:World) (E F:Int) (b cap d pm:Nat) (places:Int) (txt:ByteArray) (l:List UInt8) (mode:Nat) (hd:((d:Int) != 1)=true)
  (h0:w.cell? ⟨b,0,none⟩=some (.int .u8 d)) (h1:w.cell? ⟨b,1,none⟩=some (.int .i64 0)) (h2:w.cell? ⟨b,2,none⟩=some (.string txt))
  (hCk:∀ W,Fr [] w W→Calls Tryz.prog 12 #[apiPlan (.slice (some ⟨b,0,none⟩) 1 cap) 0 places pm] W fun x w'=>x=.returned (.int .i64 0)∧Fr [] W w') (hF:FormOk E F) (hl:l.length≤65536) (hm:mode<5) (hk:takeOk d places l=true) (neg:Bool) (t:Txt) (hok:t.Ok) (hr:l=signL neg t.body) (hTab:TabAt 7 Lib.deBruijn32tab w) :
  Calls Tryz.prog 8 #[apiPlan (.slice (some ⟨b,0,none⟩) 1 cap) 0 places pm,formV E F,.string (strL l),.int .u8 mode] w fun x w'=>x=.returned (.tuple #[.int .u64 (txtV E F neg mode t).1,.int .u8 (txtV E F neg mode t).2,.nilIface])∧Fr [] w w' :=
 matchReadG_yes w E F (.slice (some ⟨b,0,none⟩) 1 cap) (planV ⟨#[]⟩ ⟨#[]⟩ d 0 txt 0 places) pm 0 places l mode hCk hF hl hm (fun W hW=>open_one W b cap d pm 0 0 places txt hd (hW.stay h0 (by simp)) (hW.stay h1 (by simp)) (hW.stay h2 (by simp))) l (fun W=>taken_yes W txt d places l hl hk) hl neg t hok hr hTab
end Go.Proofs.YtcmndpjemdjalaaGreatDoor
namespace Go.Proofs.YtcmndpjemdjalaaGreatDoor
open Go.RowKit
open Pb
theorem takes_long (w:World) (b cap d pm:Nat) (places:Int) (txt:ByteArray) (l:List UInt8) (_hd:((d:Int) != 1)=true)
  (h0:w.cell? ⟨b,0,none⟩=some (.int .u8 d)) (h1:w.cell? ⟨b,1,none⟩=some (.int .i64 0)) (h2:w.cell? ⟨b,2,none⟩=some (.string txt))
  (hCk:∀ W,Fr [] w W→Calls Tryz.prog 12 #[apiPlan (.slice (some ⟨b,0,none⟩) 1 cap) 0 places pm] W fun x w'=>x=.returned (.int .i64 0)∧Fr [] W w') (hl:65536<l.length) :
  Calls Tryz.prog 13 #[apiPlan (.slice (some ⟨b,0,none⟩) 1 cap) 0 places pm,.string (strL l)] w fun x w'=>x=.returned (.bool false)∧Fr [] w w':=by
 have hlong:(65536:Int)<((strL l).size:Int):=by rw [strL_size];omega
 unfold apiPlan at *
 have fW:=(Fr.refl [] w).alloc (.cells #[.slice (some ⟨b,0,none⟩) 1 cap,.int .i64 0,.int .i64 places,.int .u8 pm] 37)
 have a0:=cell_new w #[.slice (some ⟨b,0,none⟩) 1 cap,.int .i64 0,.int .i64 places,.int .u8 pm] 37 (0,0) 0 _ rfl
 have a1:=cell_new w #[.slice (some ⟨b,0,none⟩) 1 cap,.int .i64 0,.int .i64 places,.int .u8 pm] 37 (0,0) 1 _ rfl
 have a2:=cell_new w #[.slice (some ⟨b,0,none⟩) 1 cap,.int .i64 0,.int .i64 places,.int .u8 pm] 37 (0,0) 2 _ rfl
 have a3:=cell_new w #[.slice (some ⟨b,0,none⟩) 1 cap,.int .i64 0,.int .i64 places,.int .u8 pm] 37 (0,0) 3 _ rfl
 have h0:=fW.stay h0 (by simp)
 have h1:=fW.stay h1 (by simp)
 have h2:=fW.stay h2 (by simp)
 go_enter Tryz.func13,Tryz.ntmps13
 generalize hW:(w.alloc (.cells #[.slice (some ⟨b,0,none⟩) 1 cap,.int .i64 0,.int .i64 places,.int .u8 pm] 37))=W at *
 go_wp2_with (first
  | (go_at_call 12;go_loud (refine (hCk _ fW).mono ?_;rintro x w1 ⟨rfl,g1⟩;have a0:=g1.stay a0 (by simp);have a1:=g1.stay a1 (by simp);have a2:=g1.stay a2 (by simp);have a3:=g1.stay a3 (by simp);have h0:=g1.stay h0 (by simp);have h1:=g1.stay h1 (by simp);have h2:=g1.stay h2 (by simp);have G1:=fW.then g1)))
 go_ret
 exact⟨rfl,G1⟩
theorem takes_no (w:World) (b cap d pm:Nat) (places:Int) (txt:ByteArray) (l:List UInt8) (hd:((d:Int) != 1)=true)
  (h0:w.cell? ⟨b,0,none⟩=some (.int .u8 d)) (h1:w.cell? ⟨b,1,none⟩=some (.int .i64 0)) (h2:w.cell? ⟨b,2,none⟩=some (.string txt))
  (hCk:∀ W,Fr [] w W→Calls Tryz.prog 12 #[apiPlan (.slice (some ⟨b,0,none⟩) 1 cap) 0 places pm] W fun x w'=>x=.returned (.int .i64 0)∧Fr [] W w') (hl:l.length≤65536) (hk:takeOk d places l=false) :
  Calls Tryz.prog 13 #[apiPlan (.slice (some ⟨b,0,none⟩) 1 cap) 0 places pm,.string (strL l)] w fun x w'=>x=.returned (.bool false)∧Fr [] w w':=by
 have hshort:¬ (65536:Int)<((strL l).size:Int):=by rw [strL_size];omega
 unfold apiPlan at *
 have fW:=(Fr.refl [] w).alloc (.cells #[.slice (some ⟨b,0,none⟩) 1 cap,.int .i64 0,.int .i64 places,.int .u8 pm] 37)
 have a0:=cell_new w #[.slice (some ⟨b,0,none⟩) 1 cap,.int .i64 0,.int .i64 places,.int .u8 pm] 37 (0,0) 0 _ rfl
 have a1:=cell_new w #[.slice (some ⟨b,0,none⟩) 1 cap,.int .i64 0,.int .i64 places,.int .u8 pm] 37 (0,0) 1 _ rfl
 have a2:=cell_new w #[.slice (some ⟨b,0,none⟩) 1 cap,.int .i64 0,.int .i64 places,.int .u8 pm] 37 (0,0) 2 _ rfl
 have a3:=cell_new w #[.slice (some ⟨b,0,none⟩) 1 cap,.int .i64 0,.int .i64 places,.int .u8 pm] 37 (0,0) 3 _ rfl
 have h0:=fW.stay h0 (by simp)
 have h1:=fW.stay h1 (by simp)
 have h2:=fW.stay h2 (by simp)
 go_enter Tryz.func13,Tryz.ntmps13
 generalize hW:(w.alloc (.cells #[.slice (some ⟨b,0,none⟩) 1 cap,.int .i64 0,.int .i64 places,.int .u8 pm] 37))=W at *
 go_wp2_with (first
  | (go_at_call 12;go_loud (refine (hCk _ fW).mono ?_;rintro x w1 ⟨rfl,g1⟩;have a0:=g1.stay a0 (by simp);have a1:=g1.stay a1 (by simp);have a2:=g1.stay a2 (by simp);have a3:=g1.stay a3 (by simp);have h0:=g1.stay h0 (by simp);have h1:=g1.stay h1 (by simp);have h2:=g1.stay h2 (by simp);have G1:=fW.then g1))
  | (go_at_call 19;go_loud (refine (open_one w1 b cap d pm 0 0 places txt hd h0 h1 h2).mono ?_;rintro x w4 ⟨rfl,g4⟩;have G4:=G1.then g4))
  | (go_at_call 20;go_loud (refine (taken_no w4 txt d places l hl hk).mono ?_;rintro x w5 ⟨v,rfl,⟨b2,b1,rfl,hv⟩,g5⟩)))
 go_ret
 exact⟨rfl,G4.then g5⟩
theorem takes_yes (w:World) (b cap d pm:Nat) (places:Int) (txt:ByteArray) (l:List UInt8) (hd:((d:Int) != 1)=true)
  (h0:w.cell? ⟨b,0,none⟩=some (.int .u8 d)) (h1:w.cell? ⟨b,1,none⟩=some (.int .i64 0)) (h2:w.cell? ⟨b,2,none⟩=some (.string txt))
  (hCk:∀ W,Fr [] w W→Calls Tryz.prog 12 #[apiPlan (.slice (some ⟨b,0,none⟩) 1 cap) 0 places pm] W fun x w'=>x=.returned (.int .i64 0)∧Fr [] W w') (hl:l.length≤65536) (hk:takeOk d places l=true) :
  Calls Tryz.prog 13 #[apiPlan (.slice (some ⟨b,0,none⟩) 1 cap) 0 places pm,.string (strL l)] w fun x w'=>x=.returned (.bool true)∧Fr [] w w':=by
 have hshort:¬ (65536:Int)<((strL l).size:Int):=by rw [strL_size];omega
 unfold apiPlan at *
 have fW:=(Fr.refl [] w).alloc (.cells #[.slice (some ⟨b,0,none⟩) 1 cap,.int .i64 0,.int .i64 places,.int .u8 pm] 37)
 have a0:=cell_new w #[.slice (some ⟨b,0,none⟩) 1 cap,.int .i64 0,.int .i64 places,.int .u8 pm] 37 (0,0) 0 _ rfl
 have a1:=cell_new w #[.slice (some ⟨b,0,none⟩) 1 cap,.int .i64 0,.int .i64 places,.int .u8 pm] 37 (0,0) 1 _ rfl
 have a2:=cell_new w #[.slice (some ⟨b,0,none⟩) 1 cap,.int .i64 0,.int .i64 places,.int .u8 pm] 37 (0,0) 2 _ rfl
 have a3:=cell_new w #[.slice (some ⟨b,0,none⟩) 1 cap,.int .i64 0,.int .i64 places,.int .u8 pm] 37 (0,0) 3 _ rfl
 have h0:=fW.stay h0 (by simp)
 have h1:=fW.stay h1 (by simp)
 have h2:=fW.stay h2 (by simp)
 go_enter Tryz.func13,Tryz.ntmps13
 generalize hW:(w.alloc (.cells #[.slice (some ⟨b,0,none⟩) 1 cap,.int .i64 0,.int .i64 places,.int .u8 pm] 37))=W at *
 go_wp2_with (first
  | (go_at_call 12;go_loud (refine (hCk _ fW).mono ?_;rintro x w1 ⟨rfl,g1⟩;have a0:=g1.stay a0 (by simp);have a1:=g1.stay a1 (by simp);have a2:=g1.stay a2 (by simp);have a3:=g1.stay a3 (by simp);have h0:=g1.stay h0 (by simp);have h1:=g1.stay h1 (by simp);have h2:=g1.stay h2 (by simp);have G1:=fW.then g1))
  | (go_at_call 19;go_loud (refine (open_one w1 b cap d pm 0 0 places txt hd h0 h1 h2).mono ?_;rintro x w4 ⟨rfl,g4⟩;have G4:=G1.then g4))
  | (go_at_call 20;go_loud (refine (taken_yes w4 txt d places l hl hk).mono ?_;rintro x w5 ⟨rfl,g5⟩)))
 go_ret
 exact⟨rfl,G4.then g5⟩
end Go.Proofs.YtcmndpjemdjalaaGreatDoor
namespace Go.Proofs.YtcmndpjemdjalaaGreatDoor
open Go.RowKit Go.Extern.Stop Go.Stop Go.Extern
theorem asTypeOfR (v:Value) (w:World):(ReflectliteType.typeOf #[.iface 123 v]).run Tryz.prog w=.ok (.iface 137 (.agg #[.pointer (some ⟨9,123,none⟩)])) w:=by kernel_rfl
theorem asAssignableR (w:World):(ReflectliteType.relation "AssignableTo" ReflectliteType.assignableTo #[.agg #[.pointer (some ⟨9,123,none⟩)],.iface 137 (.agg #[.pointer (some ⟨9,60,none⟩)])]).run Tryz.prog w=.ok (.bool false) w:=by kernel_rfl
end Go.Proofs.YtcmndpjemdjalaaGreatDoor
namespace Go.Proofs.YtcmndpjemdjalaaGreatDoor
open Go.RowKit Go.Extern.Stop Go.Stop Go.Extern
theorem asHitR (e2 e t:Addr) (old:Value) (w:World) (hg:w.cell? ⟨0,0,none⟩=some (.iface 137 (.agg #[.pointer (some ⟨9,32,none⟩)]))) (he:w.cell? e2=some (.pointer (some e))) (ht0:w.cell? t=some old) (hf0:w.frozen? t=false) :
  Calls Tryz.prog 21 #[.iface 123 (.pointer (some e2)),.iface 62 (.pointer (some t))] w fun ev w'=>ev=.returned (.bool true)∧w'=((((w.alloc (.cells #[.pointer (some t)] 62)).alloc (.cells #[.pointer (some ⟨9,62,none⟩),.pointer (some ⟨w.heap.size,0,none⟩),.int .u64 150] 97)).alloc (.cells #[.pointer (some ⟨9,62,none⟩),.pointer (some ⟨w.heap.size,0,none⟩),.int .u64 150] 97)).alloc (.cells #[.pointer (some e)] 60)).setCell t (.pointer (some e)):=by
 have h6:=@run_callFunc_extern Tryz.prog 30 _ (fun args=>ReflectliteValue.unpack (args.getD 0 (.tuple #[]))) Tryz.func30 (by kernel_rfl) (by kernel_rfl) (by kernel_rfl) (by kernel_rfl)
 have h7:=@run_callFunc_extern Tryz.prog 31 _ (ReflectliteValue.methodAny (ReflectliteValue.valueError "reflectlite.Value.Type" 0) (fun t _ _ _=>ReflectliteType.toType t)) Tryz.func31 (by kernel_rfl) (by kernel_rfl) (by kernel_rfl) (by kernel_rfl)
 have h8:=@run_callFunc_extern Tryz.prog 32 _ (ReflectliteValue.method (ReflectliteValue.valueError "reflectlite.Value.IsNil" 0) ReflectliteValue.isNil) Tryz.func32 (by kernel_rfl) (by kernel_rfl) (by kernel_rfl) (by kernel_rfl)
 have h27:=@run_callFunc_extern Tryz.prog 306 _ (ReflectliteType.abiMethod fun t=>do pure (.int .u8 (← Rtype.kind t))) Tryz.func306 (by kernel_rfl) (by kernel_rfl) (by kernel_rfl) (by kernel_rfl)
 have h37:=@run_callFunc_extern Tryz.prog 323 _ (ReflectliteType.method ReflectliteType.elem) Tryz.func323 (by kernel_rfl) (by kernel_rfl) (by kernel_rfl) (by kernel_rfl)
 have h38:=@run_callFunc_extern Tryz.prog 324 _ (ReflectliteType.relation "Implements" ReflectliteType.implements_) Tryz.func324 (by kernel_rfl) (by kernel_rfl) (by kernel_rfl) (by kernel_rfl)
 have h10:=@run_callFunc_extern Tryz.prog 58 _ ReflectliteType.typeOf Tryz.func58 (by kernel_rfl) (by kernel_rfl) (by kernel_rfl) (by kernel_rfl)
 have h35:=@run_callFunc_extern Tryz.prog 321 _ (ReflectliteType.relation "AssignableTo" ReflectliteType.assignableTo) Tryz.func321 (by kernel_rfl) (by kernel_rfl) (by kernel_rfl) (by kernel_rfl)
 have h11:=@run_callFunc_extern Tryz.prog 59 _ (ReflectliteValue.method (ReflectliteValue.valueError "reflectlite.Value.Elem" 0) ReflectliteValue.elem) Tryz.func59 (by kernel_rfl) (by kernel_rfl) (by kernel_rfl) (by kernel_rfl)
 have h12:=@run_callFunc_extern Tryz.prog 60 _ ReflectliteValue.set Tryz.func60 (by kernel_rfl) (by kernel_rfl) (by kernel_rfl) (by kernel_rfl)
 have lk:∀ v w,(Instr.typeAssert (.iface 123 v) 32 142 true).run Tryz.prog w=.ok (.tuple #[.nilIface,.bool false]) w:=fun v w=>run_typeAssert_lacksB Tryz.underlying142 (by kernel_rfl) (by kernel_rfl) v _ w
 have hs:∀ v w,(Instr.typeAssert (.iface 123 v) 32 145 true).run Tryz.prog w=.ok (.tuple #[.iface 123 v,.bool true]) w:=fun v w=>run_typeAssert_hasB Tryz.underlying145 (by kernel_rfl) v _ w
 have tO:=asTypeOfP
 have tX:=asTypeOfR
 have aX:=asAssignableR
 have aP:=asAssignableP
 have v25:=asValueOfP
 have f6:=asValueOfPP
 have f7:=asTypePP
 have k27:=asKindPP
 have k25:=asKindP
 have e27:=asElemPP
 have i25:=asImplementsP
 have n8:=asIsNilPP ⟨w.heap.size,0,none⟩ t ((w.alloc (.cells #[.pointer (some t)] 62)).alloc (.cells #[.pointer (some ⟨9,62,none⟩),.pointer (some ⟨w.heap.size,0,none⟩),.int .u64 150] 97)) (by simp)
 have hlt:0<w.heap.size:=World.block_lt_of_cell? w _ hg
 have hg2:((w.alloc (.cells #[.pointer (some t)] 62)).alloc (.cells #[.pointer (some ⟨9,62,none⟩),.pointer (some ⟨w.heap.size,0,none⟩),.int .u64 150] 97)).cell? ⟨0,0,none⟩=some (.iface 137 (.agg #[.pointer (some ⟨9,32,none⟩)])):=by
  rw [World.cell?_alloc_lt _ _ ⟨0,0,none⟩ (by simp),World.cell?_alloc_lt _ _ ⟨0,0,none⟩ hlt];exact hg
 have htl:t.block<w.heap.size:=World.block_lt_of_cell? w _ ht0
 have hel:e2.block<w.heap.size:=World.block_lt_of_cell? w _ he
 have he3:(((w.alloc (.cells #[.pointer (some t)] 62)).alloc (.cells #[.pointer (some ⟨9,62,none⟩),.pointer (some ⟨w.heap.size,0,none⟩),.int .u64 150] 97)).alloc (.cells #[.pointer (some ⟨9,62,none⟩),.pointer (some ⟨w.heap.size,0,none⟩),.int .u64 150] 97)).cell? e2=some (.pointer (some e)):=by rw [World.cell?_alloc_lt _ _ e2 (by simp;omega),World.cell?_alloc_lt _ _ e2 (by simp;omega),World.cell?_alloc_lt _ _ e2 hel];exact he
 have el:=asElemVPP ⟨w.heap.size,0,none⟩ t (((w.alloc (.cells #[.pointer (some t)] 62)).alloc (.cells #[.pointer (some ⟨9,62,none⟩),.pointer (some ⟨w.heap.size,0,none⟩),.int .u64 150] 97)).alloc (.cells #[.pointer (some ⟨9,62,none⟩),.pointer (some ⟨w.heap.size,0,none⟩),.int .u64 150] 97)) (by rw [World.cell?_alloc_lt _ _ ⟨w.heap.size,0,none⟩ (by simp;omega)];simp)
 have st:=asSetP t ⟨w.heap.size+1+1+1,0,none⟩ e old ((((w.alloc (.cells #[.pointer (some t)] 62)).alloc (.cells #[.pointer (some ⟨9,62,none⟩),.pointer (some ⟨w.heap.size,0,none⟩),.int .u64 150] 97)).alloc (.cells #[.pointer (some ⟨9,62,none⟩),.pointer (some ⟨w.heap.size,0,none⟩),.int .u64 150] 97)).alloc (.cells #[.pointer (some e)] 60))
  (by rw [World.cell?_alloc_at _ _ _ _ (by simp)];rfl)
  (by rw [World.cell?_alloc_lt _ _ t (by simp;omega),World.cell?_alloc_lt _ _ t (by simp;omega),World.cell?_alloc_lt _ _ t (by simp;omega),World.cell?_alloc_lt _ _ t htl];exact ht0)
  (by rw [World.frozen?_alloc_old _ _ t (by simp;omega),World.frozen?_alloc_old _ _ t (by simp;omega),World.frozen?_alloc_old _ _ t (by simp;omega),World.frozen?_alloc_old _ _ t (Nat.ne_of_lt htl)];exact hf0)
 go_enter Tryz.func21,Tryz.ntmps21
 go_wp2
 refine wp_loop_rounds 2 ?_
 rw [rounds_succ]
 go_wp2
 rw [rounds_succ]
 go_wp2
 go_ret
 exact⟨rfl,rfl⟩
theorem asErrR (b2 b1:Nat) (code at_:Int) (t:Addr) (old:Value) (w:World) (hg:w.cell? ⟨0,0,none⟩=some (.iface 137 (.agg #[.pointer (some ⟨9,32,none⟩)]))) (h2:w.cell? ⟨b2,0,none⟩=some (.pointer (some ⟨b1,0,none⟩))) (h3:w.cell? ⟨b1,0,none⟩=some (.int .i64 code)) (h4:w.cell? ⟨b1,1,none⟩=some (.int .i64 at_)) (ht0:w.cell? t=some old) (hf0:w.frozen? t=false) (hX:old=.pointer none∧t.off=0∧t.spot=none) :
  Calls Tryz.prog 21 #[.iface 123 (.pointer (some ⟨b2,0,none⟩)),.iface 62 (.pointer (some t))] w fun ev w'=>ev=.returned (.bool true)∧Fr [t.block] w w'∧w'.cell? t=some (.pointer (some ⟨b1,0,none⟩))∧w'.cell? ⟨b1,0,none⟩=some (.int .i64 code)∧w'.cell? ⟨b1,1,none⟩=some (.int .i64 at_):=by
 by_cases hb:b1=t.block
 ·exfalso
  obtain⟨rfl,ho,hs⟩:=hX
  obtain⟨tb,to_,ts⟩:=t
  dsimp only at ho hs hb
  subst ho;subst hs;subst hb
  rw [h3] at ht0
  simp at ht0
 ·refine (asHitR ⟨b2,0,none⟩ ⟨b1,0,none⟩ t old w hg h2 ht0 hf0).mono ?_
  rintro ev w' ⟨rfl,rfl⟩
  have f:=(((((Fr.refl [t.block] w).alloc (.cells #[.pointer (some t)] 62)).alloc (.cells #[.pointer (some ⟨9,62,none⟩),.pointer (some ⟨w.heap.size,0,none⟩),.int .u64 150] 97)).alloc (.cells #[.pointer (some ⟨9,62,none⟩),.pointer (some ⟨w.heap.size,0,none⟩),.int .u64 150] 97)).alloc (.cells #[.pointer (some ⟨b1,0,none⟩)] 60)).setCell (p:=t) (.inl (by simp)) (.pointer (some ⟨b1,0,none⟩))
  have g:=((((Fr.refl [] w).alloc (.cells #[.pointer (some t)] 62)).alloc (.cells #[.pointer (some ⟨9,62,none⟩),.pointer (some ⟨w.heap.size,0,none⟩),.int .u64 150] 97)).alloc (.cells #[.pointer (some ⟨9,62,none⟩),.pointer (some ⟨w.heap.size,0,none⟩),.int .u64 150] 97)).alloc (.cells #[.pointer (some ⟨b1,0,none⟩)] 60)
  exact⟨rfl,f,World.cell?_setCell_same _ _ _ (g.stay ht0 (by simp)),f.stay h3 (by simpa using hb),f.stay h4 (by simpa using hb)⟩
end Go.Proofs.YtcmndpjemdjalaaGreatDoor
namespace Go.Proofs.YtcmndpjemdjalaaGreatDoor
open Go.RowKit
theorem fault_R (w:World) (v:Value) (code at_:Int) (hg:w.cell? ⟨0,0,none⟩=some (.iface 137 (.agg #[.pointer (some ⟨9,32,none⟩)]))) (hv:ErrAt w 123 v code at_) (hc:(code != 0)=true) :
  Calls Tryz.prog 16 #[v] w fun x w'=>x=.returned (.tuple #[.agg #[.int .i64 code,.int .i64 at_],.bool true])∧Fr [] w w':=by
 have fA:=(Fr.refl [] w).alloc (.cells #[.int .i64 0,.int .i64 0] 25)
 have fB:=(Fr.refl [] (w.alloc (.cells #[.int .i64 0,.int .i64 0] 25))).alloc (.cells #[.pointer none] 60)
 have r2:=fB.row (row_new w (.cells #[.int .i64 0,.int .i64 0] 25)) (by simp)
 have r4:=row_new (w.alloc (.cells #[.int .i64 0,.int .i64 0] 25)) (.cells #[.pointer none] 60)
 have fW:=fA.then fB
 generalize hW:(w.alloc (.cells #[.int .i64 0,.int .i64 0] 25)).alloc (.cells #[.pointer none] 60)=W at *
 rw [World.size_alloc] at r4
 clear fA fB
 have hg:=fW.stay hg (by simp)
 obtain⟨b2,b1,rfl,h2,h3,h4⟩:=hv
 have hb:=World.block_lt_of_cell? _ _ h3
 have nb:¬ b1=w.heap.size:=by simp only at hb;omega
 have q4:=var_row r4
 have hA:=asErrR b2 b1 code at_ ⟨w.heap.size+1,0,none⟩ (.pointer none) W hg (fW.stay h2 (by simp)) (fW.stay h3 (by simp)) (fW.stay h4 (by simp)) q4.cell q4.frozen ⟨rfl,rfl,rfl⟩
 clear h2 h3 h4 hb
 go_enter Tryz.func16,Tryz.ntmps16
 go_wp2_with (go_at_call 21;go_loud (refine hA.mono ?_;rintro x w1 ⟨rfl,g1,k0,k1,k2⟩;have r2:=g1.row r2 (by simp);have p0:w1.cell? ⟨w.heap.size,0,none⟩=some (.int .i64 0):=(by rw [cell_of_row _ _ 0 _ _ _ r2];rfl);have p1:w1.cell? ⟨w.heap.size,1,none⟩=some (.int .i64 0):=(by rw [cell_of_row _ _ 1 _ _ _ r2];rfl);have z:∀ i,w1.frozen? ⟨w.heap.size,i,none⟩=false:=fun i=>frozen_of_row w1 _ i _ _ r2))
 go_region
 all_goals
  simp only [Exit.then]
  go_wp2_with fail
  have r2:=((Fr.refl [] _).drew).row (heap_setCell_same _ _ 1 _ _ (.int .i64 at_) (heap_setCell_same _ _ 0 _ _ (.int .i64 code) r2)) (by simp)
  have fE:=(((Fr.refl [w.heap.size] w1).setCell (p:=⟨w.heap.size,0,none⟩) (.inl (by simp)) (.int .i64 code)).setCell (p:=⟨w.heap.size,1,none⟩) (.inl (by simp)) (.int .i64 at_)).drew
  refine bodyPost_ret (v:=_) (results_cell_row_tmp rfl _ _ w.heap.size _ _ _ _ rfl r2 rfl Tryz.underlying25 (by kernel_rfl)) rfl ?_
  exact⟨rfl,(fW.after g1 (by simp)).after fE (by simp)⟩
theorem of_R (w:World) (bits fl:Int) (v:Value) (code at_:Int) (hg:w.cell? ⟨0,0,none⟩=some (.iface 137 (.agg #[.pointer (some ⟨9,32,none⟩)]))) (hv:ErrAt w 123 v code at_) (hc:(code != 0)=true) :
  Calls Tryz.prog 7 #[.int .u64 bits,.int .u8 fl,v] w fun x w'=>x=.returned (.agg #[.int .u64 bits,.int .u8 fl,.int .i64 code,.int .i64 at_,.bool true])∧Fr [] w w':=by
 have fA:=(Fr.refl [] w).alloc (.cells #[.int .u64 0,.int .u8 0,.int .i64 0,.int .i64 0,.bool false] 27)
 have r2:=row_new w (.cells #[.int .u64 0,.int .u8 0,.int .i64 0,.int .i64 0,.bool false] 27)
 go_enter Tryz.func7,Tryz.ntmps7
 generalize hW:w.alloc (.cells #[.int .u64 0,.int .u8 0,.int .i64 0,.int .i64 0,.bool false] 27)=W at *
 have hWs:W.heap.size=w.heap.size+1:=by rw [← hW];simp
 go_wp2_with (first
  | (go_at_call 16;go_loud (refine (fault_R _ v code at_ (fA.stay hg (by simp)) (hv.fr fA) hc).mono ?_;rintro x w1 ⟨rfl,g1⟩;have r2:=g1.row r2 (by simp);have sz:=g1.size;have n1:¬ w.heap.size=w1.heap.size:=(by omega);have r2a:∀ o,(w1.alloc o).heap[w.heap.size]?=some (.cells #[.int .u64 0,.int .u8 0,.int .i64 0,.int .i64 0,.bool false] 27):=fun o=>((Fr.refl [] w1).alloc o).row r2 (by simp)))
  | ((with_reducible show wpList _ _ _ (⟨none,.store 27 (.tmp 6) (.tmp 18),_,_,_,_⟩ :: _) _ _);go_loud (refine wpList_store_whole rfl 27 (.tmp 6) (.tmp 18) rfl w.heap.size #[.int .u64 bits,.int .u8 fl,.int .i64 code,.int .i64 at_,.bool true] rfl rfl _ _ (r2a _) (by kernel_rfl) rfl (by simp [Value.oneCell']) ?_;intro w3 hn3 g3)))
 (try simp only [Exit.inBlock,Exit.then])
 refine bodyPost_ret (v:=_) (results_cell_row rfl _ _ w.heap.size _ _ _ _ rfl hn3 Tryz.underlying27 rfl (by kernel_rfl)) rfl ?_
 exact⟨rfl,((fA.then g1).alloc _).after g3 (by simp)⟩
end Go.Proofs.YtcmndpjemdjalaaGreatDoor
namespace Go.Proofs.YtcmndpjemdjalaaGreatDoor
open Go.RowKit
theorem pieces_fail (w:World) (b:Nat) (c:UInt8) (l:List UInt8) (ops:Value) (th:Value) (hl:l.length≤1000) (hc:c ≠ 123)
  (h:RdAt w b (strL (123 :: c :: l)) ((0:Nat):Int) ops 0 0 0)
  (hF:∀ W,RdAt W b (strL (123 :: c :: l)) ((1:Nat):Int) ops 0 0 0→Calls Tryz.prog 41 #[.pointer (some ⟨b,0,none⟩)] W fun x w'=>x=.panicked [{ v:=th,recovered:=false }]∧Fr [b] W w') :
  Calls Tryz.prog 23 #[.pointer (some ⟨b,0,none⟩)] w fun x w'=>x=.panicked [{ v:=th,recovered:=false }]∧Fr [b] w w':=by
 have hmf:∀ (fn:Fn) (first cap:Array Value) (w:World),(Instr.makeFunc fn first cap).run Tryz.prog w=.ok (.func fn first cap) w:=fun _ _ _ _=>rfl
 have hb:=h.lt
 have hsz:(strL (123 :: c :: l)).size=l.length+2:=by rw [strL_size];simp
 have hsl:=slice_one 123 (c :: l)
 have hat:∀ hp:0<(strL (123 :: c :: l)).size,((strL (123 :: c :: l))[0]'hp).toNat=123:=fun _=>rfl
 generalize hS:strL (123 :: c :: l)=S at *
 have q1:(0:Int)<(S.size:Int):=by omega
 have q2:(0:Int)≤0∧(0:Int)<(S.size:Int):=by omega
 have q1n:0<S.size:=by omega
 have q8:(1:Int)≤(S.size:Int):=by omega
 clear hsz
 have fA:=(Fr.refl [] w).alloc (.cells #[.slice none 0 0] 68)
 have fB:=(Fr.refl [] (w.alloc (.cells #[.slice none 0 0] 68))).alloc (.cells #[.pointer none,.slice none 0 0] 109)
 have v3:=fB.row (row_new w (.cells #[.slice none 0 0] 68)) (by simp)
 have rB:=row_new (w.alloc (.cells #[.slice none 0 0] 68)) (.cells #[.pointer none,.slice none 0 0] 109)
 rw [World.size_alloc] at rB
 have h:=h.fr (fA.then fB) (by simp)
 have F:=(fA.then fB).mono (T:=[b]) (by simp)
 clear fA fB
 go_enter Tryz.func23,Tryz.ntmps23
 generalize hW:(w.alloc (.cells #[.slice none 0 0] 68)).alloc (.cells #[.pointer none,.slice none 0 0] 109)=W at *
 have hWs:W.heap.size=w.heap.size+1+1:=by rw [← hW];simp
 go_wp2_with fail
 refine wp_loop_rounds 2 ?_
 rw [rounds_succ]
 have c0:=h.c0
 have c1:=h.c1
 have z1:=h.z 1 (by omega)
 go_wp2_with fail
 go_region
 simp only [Exit.then]
 go_wp2_with fail
 go_region
 simp only [Exit.then]
 go_wp2_with fail
 have h:=h.drew.drew
 have F:=F.drew.drew
 have v3:W.drew.drew.heap[w.heap.size]?=_:=v3
 have rB:W.drew.drew.heap[w.heap.size+1]?=_:=rB
 have hXs:W.drew.drew.heap.size=w.heap.size+1+1:=hWs
 clear hW z1
 generalize W.drew.drew=X at *
 have c0:=h.c0
 have c1:=h.c1
 have hw1:IntKind.i64.wrap 1=1:=rfl
 have hP:∀ W,Calls Tryz.prog 39 #[.string (strL (c :: l)),.string ⟨#[123]⟩] W fun x w'=>x=.returned (.bool false)∧w'=W:=by
  intro W
  have:=hasPrefix_l W (c :: l) [123]
  have e:Lib.hasPrefix (c :: l) [123]=false:=by unfold Lib.hasPrefix;simp [List.isPrefixOf,Ne.symm hc]
  rw [e] at this
  exact this
 refine region_mono [] 14 [[],[0],[1],[2],[],[4],[5],[6],[7],[3,8],[],[10],[11],[9,12]] [none,none,none,none,none,none,none,none,none,none,none,none,none,none] (by kernel_rfl) (by kernel_rfl) ?_
 simp only [Chain,fill,Act.put,List.nil_append,List.cons_append,List.take_succ_cons,List.take_zero,List.drop_succ_cons,List.drop_zero,List.setIfInBounds_toArray,List.set_cons_zero,List.set_cons_succ,Nat.reduceAdd]
 iterate 13 (apply Exists.intro;apply And.intro;·intro vs w2 hf hh K hK;have c0:=hf.stayd c0;have c1:=hf.stayd c1;simp only [Held,List.getD_cons_zero,List.getD_cons_succ,Just,and_true] at hh;(try simp only [hh] at hK ⊢);go_simp;exact hK _ _ ⟨rfl,Fr.refl _ _⟩)
 apply Exists.intro;apply And.intro
 ·intro vs w2 hf hh K hK;have c0:=hf.stayd c0;have c1:=hf.stayd c1;simp only [Held,List.getD_cons_zero,List.getD_cons_succ,Just,and_true] at hh;(try simp only [hh] at hK ⊢);go_simp;refine (hP _).mono ?_;rintro e w3 ⟨rfl,hx⟩;exact hK _ _ ⟨rfl,by rw [hx];exact Fr.refl _ _⟩
 intro vs w2 hf hh
 simp only [HeldAll,Just,and_true,Nat.reduceAdd] at hh
 obtain⟨e0,e1,e2,e3,e4,e5,e6,e7,e8,e9,e10,e11,e12,e13⟩:=hh
 simp only [e0,e1,e2,e3,e4,e5,e6,e7,e8,e9,e10,e11,e12,e13]
 clear e0 e1 e2 e3 e4 e5 e6 e7 e8 e9 e10 e11 e12 e13
 clear vs
 have c0:=hf.stayd c0
 have c1:=hf.stayd c1
 have h:=h.drew.fr hf (by simp)
 have F:=F.drew.then hf
 have v3:=hf.row (w:=X.drew) v3 (by simp)
 have rB:=hf.row (w:=X.drew) rB (by simp)
 have hXs:w.heap.size+1+1≤w2.heap.size:=by have:=hf.size;simp at this;omega
 have hB:=fresh_row rB
 have c0:=h.c0
 have c1:=h.c1
 have z1:=h.z 1 (by omega)
 clear hf
 go_wp2_with (first
  | (go_at_call 34;go_loud (refine (flush_none _ _ _ hB).mono ?_;rintro x w3 ⟨rfl,hw⟩;subst hw)))
 have h:=h.set1 1
 have F:=F.trans ((Fr.refl [b] w3).setCell (p:=⟨b,1,none⟩) (.inl (by simp)) (.int .i64 1)) (by simp)
 have v3:=((Fr.refl [b] w3).setCell (p:=⟨b,1,none⟩) (.inl (by simp)) (.int .i64 1)).row v3 (by simp;omega)
 have rB:=((Fr.refl [b] w3).setCell (p:=⟨b,1,none⟩) (.inl (by simp)) (.int .i64 1)).row rB (by simp;omega)
 have hXs:w.heap.size+1+1≤(w3.setCell ⟨b,1,none⟩ (.int .i64 1)).heap.size:=by rw [World.size_setCell];exact hXs
 clear hB c0 c1 z1
 generalize w3.setCell ⟨b,1,none⟩ (.int .i64 1)=Y at *
 have o3:Y.cell? ⟨w.heap.size,0,none⟩=some (.slice none 0 0):=by rw [cell_of_row _ _ 0 _ _ _ v3];rfl
 have h:=h.drew
 have F:=F.drew
 have o3:Y.drew.cell? ⟨w.heap.size,0,none⟩=some (.slice none 0 0):=o3
 refine wp_region_any (by kernel_rfl) ?_
 refine wpAny_step [0,1] (by kernel_rfl) (by decide) (forall2 ?_ ?_)
 ·refine wpOp_of rfl rfl ?_
  go_simp
  refine wpAny_step [1] (by kernel_rfl) (by decide) (forall1 ?_)
  refine wpOp_of rfl rfl ?_
  go_simp
  refine wpAny_step [2] (by kernel_rfl) (by decide) (forall1 ?_)
  refine wpOp_of rfl rfl ?_
  go_simp
  refine (hF _ h).mono ?_;rintro x w9 ⟨rfl,f9⟩;exact⟨rfl,rfl,F.trans f9 (by simp)⟩
 ·refine wpOp_of rfl rfl ?_
  go_simp
  refine wpAny_step [0,2] (by kernel_rfl) (by decide) (forall2 ?_ ?_)
  ·refine wpOp_of rfl rfl ?_
   go_simp
   refine wpAny_step [2] (by kernel_rfl) (by decide) (forall1 ?_)
   refine wpOp_of rfl rfl ?_
   go_simp
   refine (hF _ h).mono ?_;rintro x w9 ⟨rfl,f9⟩;exact⟨rfl,rfl,F.trans f9 (by simp)⟩
  ·refine wpOp_of rfl rfl ?_
   go_simp
   refine (hF _ h).mono ?_;rintro x w9 ⟨rfl,f9⟩;exact⟨rfl,rfl,F.trans f9 (by simp)⟩
end Go.Proofs.YtcmndpjemdjalaaGreatDoor
namespace Go.Proofs.YtcmndpjemdjalaaGreatDoor
open Go.RowKit
theorem compile_fail (w:World) (c:UInt8) (l:List UInt8) (code at_:Int) (hl:l.length≤1000) (hc:c ≠ 123)
  (hF:∀ W b,RdAt W b (strL (123 :: c :: l)) ((1:Nat):Int) (.slice none 0 0) 0 0 0→Calls Tryz.prog 41 #[.pointer (some ⟨b,0,none⟩)] W fun x w'=>x=.panicked [{ v:=thrown code at_,recovered:=false }]∧Fr [b] W w') :
  Calls Tryz.prog 9 #[.string (strL (123 :: c :: l))] w fun x w'=>∃ p,x=.returned (.tuple #[apiPlan (.slice none 0 0) 0 0 0,.iface 60 (.pointer (some p))])∧Fr [] w w' :=
 compile_thrown w _ code at_ (by rw [strL_size];simp;omega) fun W b h=>pieces_fail W b c l (.slice none 0 0) (thrown code at_) hl hc h (fun X hX=>hF X b hX)
end Go.Proofs.YtcmndpjemdjalaaGreatDoor
namespace Go.Proofs.YtcmndpjemdjalaaGreatDoor
open Go.RowKit
def CompileFails (S:ByteArray):Prop:=∀ w:World,Calls Tryz.prog 9 #[.string S] w fun x w'=>∃ p,x=.returned (.tuple #[apiPlan (.slice none 0 0) 0 0 0,.iface 60 (.pointer (some p))])∧Fr [] w w'
theorem text_fail (w:World) (b cap d mode:Nat) (N width places:Int) (S:ByteArray) (hd:2≤d∧d≤6) (hN:N=0∨N=8∨N=2∨N=4∨N=5)
  (h0:w.cell? ⟨b,0,none⟩=some (.int .u8 d)) (h1:w.cell? ⟨b,1,none⟩=some (.int .i64 N)) (h2:w.cell? ⟨b,2,none⟩=some (.string ⟨#[]⟩))
  (hWr:WriteIs d mode N width places S) (hCo:CompileFails S) :
  Calls Tryz.prog 24 #[apiPlan (.slice (some ⟨b,0,none⟩) 1 cap) width places mode] w fun x w'=>x=.returned (.tuple #[.string ⟨#[]⟩,.int .i64 211])∧Fr [] w w':=by
 have hP:=fun W (hf:Fr [] w W)=>parts_one W b cap d mode N width places ⟨#[]⟩ hd hN (hf.stay h0 (by simp)) (hf.stay h1 (by simp)) (hf.stay h2 (by simp))
 unfold WriteIs at hWr
 unfold CompileFails at hCo
 unfold apiPlan at *
 have F:=(Fr.refl [] w).alloc (.cells #[.slice (some ⟨b,0,none⟩) 1 cap,.int .i64 width,.int .i64 places,.int .u8 mode] 37)
 have c0:=cell_new w #[.slice (some ⟨b,0,none⟩) 1 cap,.int .i64 width,.int .i64 places,.int .u8 mode] 37 (0,0) 0 _ rfl
 have c1:=cell_new w #[.slice (some ⟨b,0,none⟩) 1 cap,.int .i64 width,.int .i64 places,.int .u8 mode] 37 (0,0) 1 _ rfl
 have c2:=cell_new w #[.slice (some ⟨b,0,none⟩) 1 cap,.int .i64 width,.int .i64 places,.int .u8 mode] 37 (0,0) 2 _ rfl
 have c3:=cell_new w #[.slice (some ⟨b,0,none⟩) 1 cap,.int .i64 width,.int .i64 places,.int .u8 mode] 37 (0,0) 3 _ rfl
 clear h0 h1 h2 hN hd
 go_enter Tryz.func24,Tryz.ntmps24
 generalize hW:w.alloc (.cells #[.slice (some ⟨b,0,none⟩) 1 cap,.int .i64 width,.int .i64 places,.int .u8 mode] 37)=W at *
 have hWs:w.heap.size<W.heap.size:=by rw [← hW];simp
 go_wp2_with (first
  | (go_at_call 42;go_loud (refine (hP _ F).mono ?_;rintro x w1 ⟨g,cap1,rfl,hg,g1⟩;have c0:=g1.stay c0 (by simp);have c1:=g1.stay c1 (by simp);have c2:=g1.stay c2 (by simp);have c3:=g1.stay c3 (by simp);replace F:=F.then g1))
  | (go_at_call 43;go_loud (refine (hWr _ _ _ _ (World.block_lt_of_cell? _ _ hg) hg).mono ?_;rintro x w2 ⟨rfl,g2⟩;have c0:=g2.stay c0 (by simp);have c1:=g2.stay c1 (by simp);have c2:=g2.stay c2 (by simp);have c3:=g2.stay c3 (by simp);replace F:=F.then g2))
  | (go_at_call 9;go_loud (refine (hCo _).mono ?_;rintro x w3 ⟨v,rfl,g3⟩;have fX:=(Fr.refl [] w3).alloc (.cells #[.slice none 0 0,.int .i64 0,.int .i64 0,.int .u8 0] 37);replace F:=(F.then g3).then fX)))
 go_ret2
 exact⟨rfl,F⟩
theorem check_fail (w:World) (b cap d mode:Nat) (N width places:Int) (S:ByteArray) (hd:2≤d∧d≤6) (hN:N=0∨N=8∨N=2∨N=4∨N=5)
  (h0:w.cell? ⟨b,0,none⟩=some (.int .u8 d)) (h1:w.cell? ⟨b,1,none⟩=some (.int .i64 N)) (h2:w.cell? ⟨b,2,none⟩=some (.string ⟨#[]⟩))
  (hWr:WriteIs d mode N width places S) (hCo:CompileFails S) :
  Calls Tryz.prog 12 #[apiPlan (.slice (some ⟨b,0,none⟩) 1 cap) width places mode] w fun x w'=>x=.returned (.int .i64 211)∧Fr [] w w':=by
 have hT:=fun W (hf:Fr [] w W)=>text_fail W b cap d mode N width places S hd hN (hf.stay h0 (by simp)) (hf.stay h1 (by simp)) (hf.stay h2 (by simp)) hWr hCo
 unfold apiPlan at *
 have F:=(Fr.refl [] w).alloc (.cells #[.slice (some ⟨b,0,none⟩) 1 cap,.int .i64 width,.int .i64 places,.int .u8 mode] 37)
 go_enter Tryz.func12,Tryz.ntmps12
 go_wp2_with (go_at_call 24;go_loud (refine (hT _ F).mono ?_;rintro x w1 ⟨rfl,g1⟩))
 go_ret
 exact⟨rfl,F.then g1⟩
theorem fails_f:CompileFails (strL [123,102,125]):=fun w=>compile_fail w 102 [125] 210 1 (by simp) (by decide) (fun W b h=>field_f W b _ h)
theorem fails_e:CompileFails (strL [123,101,125]):=fun w=>compile_fail w 101 [125] 210 1 (by simp) (by decide) (fun W b h=>field_e W b _ h)
theorem fails_g:CompileFails (strL [123,103,125]):=fun w=>compile_fail w 103 [125] 210 1 (by simp) (by decide) (fun W b h=>field_g W b _ h)
theorem fails_g0:CompileFails (strL [123,46,dig 0,103,125]):=fun w=>compile_fail w 46 [dig 0,103,125] 210 3 (by simp) (by decide) (fun W b h=>field_g0 W b 0 _ (by omega) (by omega) h)
theorem check_notlook (w:World) (b cap d:Nat) (places:Int) (hl:(d=3∨d=4∨d=5)∧places=-1∨d=5∧places=0)
  (h0:w.cell? ⟨b,0,none⟩=some (.int .u8 d)) (h1:w.cell? ⟨b,1,none⟩=some (.int .i64 0)) (h2:w.cell? ⟨b,2,none⟩=some (.string ⟨#[]⟩)) :
  Calls Tryz.prog 12 #[apiPlan (.slice (some ⟨b,0,none⟩) 1 cap) 0 places 0] w fun x w'=>x=.returned (.int .i64 211)∧Fr [] w w':=by
 rcases hl with ⟨rfl | rfl | rfl,rfl⟩ | ⟨rfl,rfl⟩
 ·exact check_fail w b cap 3 0 0 0 (-1) _ (by omega) (.inl rfl) h0 h1 h2 (fun w o b cap hb h0=>write_f w o b cap hb h0) fails_f
 ·exact check_fail w b cap 4 0 0 0 (-1) _ (by omega) (.inl rfl) h0 h1 h2 (fun w o b cap hb h0=>write_e w o b cap hb h0) fails_e
 ·exact check_fail w b cap 5 0 0 0 (-1) _ (by omega) (.inl rfl) h0 h1 h2 (fun w o b cap hb h0=>write_g w o b cap hb h0) fails_g
 ·exact check_fail w b cap 5 0 0 0 0 _ (by omega) (.inl rfl) h0 h1 h2 (fun w o b cap hb h0=>write_gp w o b cap 0 (by omega) hb h0) fails_g0
end Go.Proofs.YtcmndpjemdjalaaGreatDoor
namespace Go.Proofs.YtcmndpjemdjalaaGreatDoor
open Go.RowKit
theorem readBits_form (w:World) (E F:Int) (s:ByteArray) (mode:Nat) (hF:¬ FormOk E F) :
  Calls Tryz.prog 14 #[formV E F,.string s,.int .u8 mode] w fun x w'=>∃ v,x=.returned (.tuple #[.int .u64 0,.int .u8 0,v])∧ErrAt w' 123 v 5 0∧Fr [] w w':=by
 have hC:=fun W=>formsCheck_no E F W hF
 have hN:=fun W=>readNo_some W 5 0 rfl
 unfold formV at *
 have fA:=(Fr.refl [] w).alloc (.cells #[.int .i64 E,.int .i64 F] 39)
 have f0:=cell_new w #[.int .i64 E,.int .i64 F] 39 (0,0) 0 _ rfl
 have f1:=cell_new w #[.int .i64 E,.int .i64 F] 39 (0,0) 1 _ rfl
 generalize hW:w.alloc (.cells #[.int .i64 E,.int .i64 F] 39)=W at *
 have hWs:W.heap.size=w.heap.size+1:=by rw [← hW];simp
 go_enter Tryz.func14,Tryz.ntmps14
 go_wp2_with (first
  | (go_at_call 17;go_loud (refine (hC _).mono ?_;rintro x w1 ⟨rfl,g1⟩;have G1:=fA.then g1))
  | (go_at_call 25;go_loud (refine (hN _).mono ?_;rintro x w5 ⟨v,rfl,hv,g5⟩)))
 go_ret3
 exact⟨v,rfl,hv,G1.then g5⟩
theorem readBits_mode (w:World) (E F:Int) (s:ByteArray) (mode:Nat) (hF:FormOk E F) (hm:5≤mode) :
  Calls Tryz.prog 14 #[formV E F,.string s,.int .u8 mode] w fun x w'=>∃ v,x=.returned (.tuple #[.int .u64 0,.int .u8 0,v])∧ErrAt w' 123 v 7 0∧Fr [] w w':=by
 have hC:=fun W=>formsCheck_ok E F W hF
 have hN:=fun W=>readNo_some W 7 0 rfl
 have hmm:(4:Int)<(mode:Int):=by omega
 unfold formV at *
 have fA:=(Fr.refl [] w).alloc (.cells #[.int .i64 E,.int .i64 F] 39)
 have f0:=cell_new w #[.int .i64 E,.int .i64 F] 39 (0,0) 0 _ rfl
 have f1:=cell_new w #[.int .i64 E,.int .i64 F] 39 (0,0) 1 _ rfl
 generalize hW:w.alloc (.cells #[.int .i64 E,.int .i64 F] 39)=W at *
 have hWs:W.heap.size=w.heap.size+1:=by rw [← hW];simp
 go_enter Tryz.func14,Tryz.ntmps14
 go_wp2_with (first
  | (go_at_call 17;go_loud (refine (hC _).mono ?_;rintro x w1 ⟨rfl,g1⟩;have G1:=fA.then g1))
  | (go_at_call 25;go_loud (refine (hN _).mono ?_;rintro x w5 ⟨v,rfl,hv,g5⟩)))
 go_ret3
 exact⟨v,rfl,hv,G1.then g5⟩
end Go.Proofs.YtcmndpjemdjalaaGreatDoor
namespace Go.Proofs.YtcmndpjemdjalaaGreatDoor
open Go.RowKit
def OneI (D:Int) (g:Nat) (w:World):Prop:=w.cell? ⟨g,0,none⟩=some (.int .u8 D)∧w.cell? ⟨g,1,none⟩=some (.int .i64 0)∧w.cell? ⟨g,2,none⟩=some (.string ⟨#[]⟩)
theorem OneI.fr {D:Int} {g:Nat} {w w':World} {S:List Nat} (h:OneI D g w) (hf:Fr S w w') (hg:g ∉ S):OneI D g w':=⟨hf.stay h.1 hg,hf.stay h.2.1 hg,hf.stay h.2.2 hg⟩
def TupR (b fl:Int) (R:Value→World→Prop) (v:Value) (w:World):Prop:=∃ e,v=.tuple #[.int .u64 b,.int .u8 fl,e]∧R e w
theorem TupR.lasts (b fl:Int) {R:Value→World→Prop} (hR:Lasts [] R):Lasts [] (TupR b fl R):=fun _ _ _ ⟨e,h,he⟩ hf=>⟨e,h,hR _ _ _ he hf⟩
def Ck (w:World) (D P code:Int):Prop:=∀ g W,OneI D g W→Fr [] w W→Calls Tryz.prog 12 #[apiPlan (.slice (some ⟨g,0,none⟩) 1 1) 0 P 0] W fun x w'=>x=.returned (.int .i64 code)∧Fr [] W w'
structure PF (X:World) (b g f:Nat) (P E F:Int):Prop where
 rP:X.heap[b]?=some (.cells #[.slice (some ⟨g,0,none⟩) 1 1,.int .i64 0,.int .i64 P,.int .u8 0] 37)
 rF:X.heap[f]?=some (.cells #[.int .i64 E,.int .i64 F] 39)
namespace PF
variable {X Y:World} {b g f:Nat} {P E F:Int}
theorem fr (h:PF X b g f P E F) (hf:Fr [] X Y):PF Y b g f P E F:=⟨hf.row h.rP (by simp),hf.row h.rF (by simp)⟩
theorem p0 (h:PF X b g f P E F):X.cell? ⟨b,0,none⟩=some (.slice (some ⟨g,0,none⟩) 1 1):=by rw [cell_of_row _ _ 0 _ _ _ h.rP];rfl
theorem p1 (h:PF X b g f P E F):X.cell? ⟨b,1,none⟩=some (.int .i64 0):=by rw [cell_of_row _ _ 1 _ _ _ h.rP];rfl
theorem p2 (h:PF X b g f P E F):X.cell? ⟨b,2,none⟩=some (.int .i64 P):=by rw [cell_of_row _ _ 2 _ _ _ h.rP];rfl
theorem p3 (h:PF X b g f P E F):X.cell? ⟨b,3,none⟩=some (.int .u8 0):=by rw [cell_of_row _ _ 3 _ _ _ h.rP];rfl
theorem pz (h:PF X b g f P E F):∀ i,X.frozen? ⟨b,i,none⟩=false:=fun i=>frozen_of_row X _ i _ _ h.rP
theorem b0 (h:PF X b g f P E F):X.cell? ⟨f,0,none⟩=some (.int .i64 E):=by rw [cell_of_row _ _ 0 _ _ _ h.rF];rfl
theorem b1 (h:PF X b g f P E F):X.cell? ⟨f,1,none⟩=some (.int .i64 F):=by rw [cell_of_row _ _ 1 _ _ _ h.rF];rfl
theorem set (h:PF X b g f P E F) (hb:f ≠ b) (Q:Int):PF (X.setCell ⟨b,2,none⟩ (.int .i64 Q)) b g f Q E F :=
 ⟨heap_setCell_same _ _ 2 _ _ (.int .i64 Q) h.rP,((Fr.refl [b] X).setCell (p:=⟨b,2,none⟩) (.inl (by simp)) (.int .i64 Q)).row h.rF (by simp;exact hb)⟩
end PF
theorem one_any (w:World) (look:Nat) (hlook:look<256) (E F:Int) (s:ByteArray) (mode:Nat) (P b fl c at_:Int) (R R2:Value→World→Prop) (_hR:Lasts [] R) (hR2:Lasts [] R2) (tk:Bool)
  (hAl:∀ W,Fr [] w W→Calls Tryz.prog 11 #[] W fun x w'=>x=.returned (.bool true)∧Fr [] W w')
  (hCk:P=-1∧Ck w (2+(look:Int) % 5) (-1) 0∨P=(look:Int) % 7∧Ck w (2+(look:Int) % 5) (-1) 211∧Ck w (2+(look:Int) % 5) ((look:Int) % 7) 0∨P=1∧Ck w (2+(look:Int) % 5) (-1) 211∧Ck w (2+(look:Int) % 5) ((look:Int) % 7) 211)
  (hRd:∀ g W,OneI (2+(look:Int) % 5) g W→Fr [] w W→Calls Tryz.prog 8 #[apiPlan (.slice (some ⟨g,0,none⟩) 1 1) 0 P 0,formV E F,.string s,.int .u8 mode] W fun x w'=>∃ e,x=.returned (.tuple #[.int .u64 b,.int .u8 fl,e])∧R e w'∧Fr [] W w')
  (hOf:∀ e W,R e W→Fr [] w W→Calls Tryz.prog 7 #[.int .u64 b,.int .u8 fl,e] W fun x w'=>x=.returned (toldV b fl c at_)∧Fr [] W w')
  (hTk:∀ g W,OneI (2+(look:Int) % 5) g W→Fr [] w W→Calls Tryz.prog 13 #[apiPlan (.slice (some ⟨g,0,none⟩) 1 1) 0 P 0,.string s] W fun x w'=>x=.returned (.bool tk)∧Fr [] W w')
  (hc:tk=false→(c != 0)=true)
  (hBt:tk=true→∀ W,Fr [] w W→Calls Tryz.prog 14 #[formV E F,.string s,.int .u8 mode] W fun x w'=>∃ e,x=.returned (.tuple #[.int .u64 b,.int .u8 fl,e])∧R2 e w'∧Fr [] W w')
  (hOf2:tk=true→∀ e W,R2 e W→Fr [] w W→Calls Tryz.prog 7 #[.int .u64 b,.int .u8 fl,e] W fun x w'=>x=.returned (toldV b fl c at_)∧Fr [] W w') :
  Calls Tryz.prog 4 #[.int .u8 look,formV E F,.string s,.int .u8 mode] w fun x w'=>x=.returned (.bool true)∧Fr [] w w':=by
 unfold Ck apiPlan formV toldV at *
 have F0:=(Fr.refl [] w).alloc (.cells #[.int .i64 E,.int .i64 F] 39)
 have rF:=row_new w (.cells #[.int .i64 E,.int .i64 F] 39)
 go_enter Tryz.func4,Tryz.ntmps4
 go_wp2_with (go_at_call 11;go_loud (refine (hAl _ F0).mono ?_;rintro x w1 ⟨rfl,f1⟩))
 have G:=F0.then f1
 have hw1:w.heap.size<w1.heap.size:=by have:=f1.size;simp at this;omega
 have fX:=((Fr.refl [] w1).alloc (.cells #[.int .u8 (2+(look:Int) % 5),.int .i64 0,.string ⟨#[]⟩] 46)).alloc (.cells #[.slice (some ⟨w1.heap.size,0,none⟩) 1 1,.int .i64 0,.int .i64 (-1),.int .u8 0] 37)
 have rP:=row_new (w1.alloc (.cells #[.int .u8 (2+(look:Int) % 5),.int .i64 0,.string ⟨#[]⟩] 46)) (.cells #[.slice (some ⟨w1.heap.size,0,none⟩) 1 1,.int .i64 0,.int .i64 (-1),.int .u8 0] 37)
 rw [World.size_alloc] at rP
 have H:PF ((w1.alloc (.cells #[.int .u8 (2+(look:Int) % 5),.int .i64 0,.string ⟨#[]⟩] 46)).alloc (.cells #[.slice (some ⟨w1.heap.size,0,none⟩) 1 1,.int .i64 0,.int .i64 (-1),.int .u8 0] 37)) (w1.heap.size+1) w1.heap.size w.heap.size (-1) E F:=⟨rP,fX.row (f1.row rF (by simp)) (by simp)⟩
 have hO:OneI (2+(look:Int) % 5) w1.heap.size ((w1.alloc (.cells #[.int .u8 (2+(look:Int) % 5),.int .i64 0,.string ⟨#[]⟩] 46)).alloc (.cells #[.slice (some ⟨w1.heap.size,0,none⟩) 1 1,.int .i64 0,.int .i64 (-1),.int .u8 0] 37)):=OneI.fr ⟨cell_new w1 _ _ _ 0 _ rfl,cell_new w1 _ _ _ 1 _ rfl,cell_new w1 _ _ _ 2 _ rfl⟩ ((Fr.refl [] (w1.alloc (.cells #[.int .u8 (2+(look:Int) % 5),.int .i64 0,.string ⟨#[]⟩] 46))).alloc (.cells #[.slice (some ⟨w1.heap.size,0,none⟩) 1 1,.int .i64 0,.int .i64 (-1),.int .u8 0] 37)) (by simp)
 replace G:=G.then fX
 generalize (w1.alloc (.cells #[.int .u8 (2+(look:Int) % 5),.int .i64 0,.string ⟨#[]⟩] 46)).alloc (.cells #[.slice (some ⟨w1.heap.size,0,none⟩) 1 1,.int .i64 0,.int .i64 (-1),.int .u8 0] 37)=X0 at *
 clear f1 fX F0 hAl rF rP
 rcases hCk with ⟨rfl,hCk0⟩ | ⟨rfl,hCk0,hCk1⟩ | ⟨rfl,hCk0,hCk1⟩
 refine (hCk0 _ _ hO G).mono ?_
 rintro x X1 ⟨rfl,g1⟩
 have H:=H.fr g1;have hO:=hO.fr g1 (by simp);replace G:=G.then g1;have p0:=H.p0;have p1:=H.p1;have p2:=H.p2;have p3:=H.p3;have pz:=H.pz;have b0:=H.b0;have b1:=H.b1
 go_wp2_with fail
 clear p0 p1 p2 p3 pz b0 b1
 refine (hCk0 _ _ hO G).mono ?_
 rintro x X2 ⟨rfl,g2⟩
 have H:=H.fr g2;have hO:=hO.fr g2 (by simp);replace G:=G.then g2;have p0:=H.p0;have p1:=H.p1;have p2:=H.p2;have p3:=H.p3;have pz:=H.pz;have b0:=H.b0;have b1:=H.b1
 rotate_left
 refine (hCk0 _ _ hO G).mono ?_
 rintro x X1 ⟨rfl,g1⟩
 have H:=H.fr g1;have hO:=hO.fr g1 (by simp);replace G:=G.then g1;have p0:=H.p0;have p1:=H.p1;have p2:=H.p2;have p3:=H.p3;have pz:=H.pz;have b0:=H.b0;have b1:=H.b1
 go_wp2_with fail
 have fS:=(Fr.refl [w1.heap.size+1] X1).setCell (p:=⟨w1.heap.size+1,2,none⟩) (.inl (by simp)) (.int .i64 ((look:Int) % 7))
 have H:=H.set (by omega) ((look:Int) % 7)
 have hO:=hO.fr fS (by simp)
 replace G:=G.after fS (by simp;omega)
 generalize X1.setCell ⟨w1.heap.size+1,2,none⟩ (.int .i64 ((look:Int) % 7))=Y1 at *
 clear p0 p1 p2 p3 pz b0 b1
 refine (hCk1 _ _ hO G).mono ?_
 rintro x X2 ⟨rfl,g2⟩
 have H:=H.fr g2;have hO:=hO.fr g2 (by simp);replace G:=G.then g2;have p0:=H.p0;have p1:=H.p1;have p2:=H.p2;have p3:=H.p3;have pz:=H.pz;have b0:=H.b0;have b1:=H.b1
 rotate_left
 refine (hCk0 _ _ hO G).mono ?_
 rintro x X1 ⟨rfl,g1⟩
 have H:=H.fr g1;have hO:=hO.fr g1 (by simp);replace G:=G.then g1;have p0:=H.p0;have p1:=H.p1;have p2:=H.p2;have p3:=H.p3;have pz:=H.pz;have b0:=H.b0;have b1:=H.b1
 go_wp2_with fail
 have fS:=(Fr.refl [w1.heap.size+1] X1).setCell (p:=⟨w1.heap.size+1,2,none⟩) (.inl (by simp)) (.int .i64 ((look:Int) % 7))
 have H:=H.set (by omega) ((look:Int) % 7)
 have hO:=hO.fr fS (by simp)
 replace G:=G.after fS (by simp;omega)
 generalize X1.setCell ⟨w1.heap.size+1,2,none⟩ (.int .i64 ((look:Int) % 7))=Y1 at *
 clear p0 p1 p2 p3 pz b0 b1
 refine (hCk1 _ _ hO G).mono ?_
 rintro x X3 ⟨rfl,g2⟩
 have H:=H.fr g2;have hO:=hO.fr g2 (by simp);replace G:=G.then g2;have p0:=H.p0;have p1:=H.p1;have p2:=H.p2;have p3:=H.p3;have pz:=H.pz;have b0:=H.b0;have b1:=H.b1
 go_wp2_with fail
 have fS:=(Fr.refl [w1.heap.size+1] X3).setCell (p:=⟨w1.heap.size+1,2,none⟩) (.inl (by simp)) (.int .i64 1)
 have H:=H.set (by omega) 1
 have hO:=hO.fr fS (by simp)
 replace G:=G.after fS (by simp;omega)
 generalize X3.setCell ⟨w1.heap.size+1,2,none⟩ (.int .i64 1)=X2 at *
 clear p0 p1 p2 p3 pz b0 b1
 have p0:=H.p0;have p1:=H.p1;have p2:=H.p2;have p3:=H.p3;have pz:=H.pz;have b0:=H.b0;have b1:=H.b1
 rotate_left
 all_goals
  go_wp2_with fail
  clear p0 p1 p2 p3 pz b0 b1
  refine (hRd _ _ hO G).mono ?_
  rintro x Y1 ⟨e,rfl,he,g5⟩
  have H:=H.fr g5;have hO:=hO.fr g5 (by simp);replace G:=G.then g5
  go_wp2_with fail
  refine (hOf _ _ he G).mono ?_
  rintro x Y2 ⟨rfl,g6⟩
  have H:=H.fr g6;have hO:=hO.fr g6 (by simp);replace G:=G.then g6
  have fT:=(Fr.refl [] Y2).alloc (.cells #[.int .u64 b,.int .u8 fl,.int .i64 c,.int .i64 at_,.bool true] 27)
  have rT:=row_new Y2 (.cells #[.int .u64 b,.int .u8 fl,.int .i64 c,.int .i64 at_,.bool true] 27)
  have H:=H.fr fT;have hO:=hO.fr fT (by simp);replace G:=G.then fT;have p0:=H.p0;have p1:=H.p1;have p2:=H.p2;have p3:=H.p3;have pz:=H.pz;have b0:=H.b0;have b1:=H.b1
  go_wp2_with fail
  clear p0 p1 p2 p3 pz b0 b1
  generalize Y2.alloc (.cells #[.int .u64 b,.int .u8 fl,.int .i64 c,.int .i64 at_,.bool true] 27)=Y3 at *
  refine (hTk _ _ hO G).mono ?_
  rintro x Y4 ⟨rfl,g7⟩
  have H:=H.fr g7;have hO:=hO.fr g7 (by simp);replace G:=G.then g7;have p0:=H.p0;have p1:=H.p1;have p2:=H.p2;have p3:=H.p3;have pz:=H.pz;have b0:=H.b0;have b1:=H.b1
  have rT:=g7.row rT (by simp)
  have a0:Y4.cell? ⟨Y2.heap.size,0,none⟩=some (.int .u64 b):=by rw [cell_of_row _ _ 0 _ _ _ rT];rfl
  have a1:Y4.cell? ⟨Y2.heap.size,1,none⟩=some (.int .u8 fl):=by rw [cell_of_row _ _ 1 _ _ _ rT];rfl
  have a2:Y4.cell? ⟨Y2.heap.size,2,none⟩=some (.int .i64 c):=by rw [cell_of_row _ _ 2 _ _ _ rT];rfl
  have a3:Y4.cell? ⟨Y2.heap.size,3,none⟩=some (.int .i64 at_):=by rw [cell_of_row _ _ 3 _ _ _ rT];rfl
  have a4:Y4.cell? ⟨Y2.heap.size,4,none⟩=some (.bool true):=by rw [cell_of_row _ _ 4 _ _ _ rT];rfl
  cases tk with
  | false =>
   have hc1:=hc rfl
   clear hBt hOf2 hc
   go_wp2_with fail
   go_ret
   exact⟨rfl,G⟩
  | true =>
   have hBt1:=hBt rfl
   have hOf3:=hOf2 rfl
   clear hBt hOf2 hc
   go_wp2_with fail
   clear rT H hO he hRd hOf hTk
   refine region_mono_g [] 14 [[],[0],[1],[1],[1],[1],[1,3,4,5],[1,6],[1,6],[1,6],[1,7,8,9],[1,2,10],[1,11],[12]] [none,none,none,none,none,none,some (TupR b fl R2),none,none,some (R2),none,none,none,none] (by kernel_rfl) (by kernel_rfl) ?_
   simp only [Chain,fill,Act.put,List.nil_append,List.cons_append,List.take_succ_cons,List.take_zero,List.drop_succ_cons,List.drop_zero,List.setIfInBounds_toArray,List.set_cons_zero,List.set_cons_succ,Nat.reduceAdd]
   iterate 6 (apply Exists.intro;apply And.intro;·intro vs w2 hf hh K hK;have a0:=hf.stayd a0;have a1:=hf.stayd a1;have a2:=hf.stayd a2;have a3:=hf.stayd a3;have a4:=hf.stayd a4;have b0:=hf.stayd b0;have b1:=hf.stayd b1;simp only [Held,List.getD_cons_zero,List.getD_cons_succ,Just,and_true] at hh;(try simp only [hh] at hK ⊢);go_simp;exact hK _ _ ⟨rfl,Fr.refl _ _⟩)
   refine⟨TupR.lasts _ _ hR2,?_,?_⟩
   ·intro vs w2 hf hh K hK;have a0:=hf.stayd a0;have a1:=hf.stayd a1;have a2:=hf.stayd a2;have a3:=hf.stayd a3;have a4:=hf.stayd a4;have b0:=hf.stayd b0;have b1:=hf.stayd b1;simp only [Held,List.getD_cons_zero,List.getD_cons_succ,Just,and_true] at hh;(try simp only [hh] at hK ⊢);go_simp;refine (hBt1 _ (G.drew.then hf)).mono ?_;rintro x w3 ⟨e,rfl,he,f3⟩;exact hK _ _ ⟨⟨e,rfl,he⟩,f3⟩
   apply Exists.intro;apply And.intro
   ·intro vs w2 hf hh K hK;have a0:=hf.stayd a0;have a1:=hf.stayd a1;have a2:=hf.stayd a2;have a3:=hf.stayd a3;have a4:=hf.stayd a4;have b0:=hf.stayd b0;have b1:=hf.stayd b1;simp only [Held,List.getD_cons_zero,List.getD_cons_succ,Just,and_true] at hh;(try simp only [hh] at hK ⊢);obtain⟨hg,⟨e,hv,he⟩⟩:=hh;simp only [hv] at hK ⊢;go_simp;exact hK _ _ ⟨rfl,Fr.refl _ _⟩
   apply Exists.intro;apply And.intro
   ·intro vs w2 hf hh K hK;have a0:=hf.stayd a0;have a1:=hf.stayd a1;have a2:=hf.stayd a2;have a3:=hf.stayd a3;have a4:=hf.stayd a4;have b0:=hf.stayd b0;have b1:=hf.stayd b1;simp only [Held,List.getD_cons_zero,List.getD_cons_succ,Just,and_true] at hh;(try simp only [hh] at hK ⊢);obtain⟨hg,⟨e,hv,he⟩⟩:=hh;simp only [hv] at hK ⊢;go_simp;exact hK _ _ ⟨rfl,Fr.refl _ _⟩
   refine⟨hR2,?_,?_⟩
   ·intro vs w2 hf hh K hK;have a0:=hf.stayd a0;have a1:=hf.stayd a1;have a2:=hf.stayd a2;have a3:=hf.stayd a3;have a4:=hf.stayd a4;have b0:=hf.stayd b0;have b1:=hf.stayd b1;simp only [Held,List.getD_cons_zero,List.getD_cons_succ,Just,and_true] at hh;(try simp only [hh] at hK ⊢);obtain⟨hg,⟨e,hv,he⟩⟩:=hh;simp only [hv] at hK ⊢;go_simp;exact hK _ _ ⟨he,Fr.refl _ _⟩
   apply Exists.intro;apply And.intro
   ·intro vs w2 hf hh K hK;have a0:=hf.stayd a0;have a1:=hf.stayd a1;have a2:=hf.stayd a2;have a3:=hf.stayd a3;have a4:=hf.stayd a4;have b0:=hf.stayd b0;have b1:=hf.stayd b1;simp only [Held,List.getD_cons_zero,List.getD_cons_succ,Just,and_true] at hh;(try simp only [hh] at hK ⊢);obtain⟨h0,h1,h2,h3⟩:=hh;(try simp only [h0,h1,h2] at hK ⊢);go_simp;refine (hOf3 _ _ h3 (G.drew.then hf)).mono ?_;rintro x w3 ⟨rfl,f3⟩;exact hK _ _ ⟨rfl,f3⟩
   iterate 3 (apply Exists.intro;apply And.intro;·intro vs w2 hf hh K hK;simp only [Held,List.getD_cons_zero,List.getD_cons_succ,Just,and_true] at hh;(try simp only [hh] at hK ⊢);go_simp;exact hK _ _ ⟨rfl,Fr.refl _ _⟩)
   intro vs w2 hf hh
   simp only [HeldAll,Just,and_true,Nat.reduceAdd] at hh
   obtain⟨e0,e1,e2,e3,e4,e5,e6,e7,e8,e9,e10,e11,e12,e13⟩:=hh
   simp only [e0,e1,e2,e3,e4,e5,e7,e8,e10,e11,e12,e13]
   clear e0 e1 e2 e3 e4 e5 e7 e8 e10 e11 e12 e13
   generalize vs 6=v6 at e6 ⊢
   generalize vs 9=v9 at e9 ⊢
   clear vs
   have a0:=hf.stayd a0
   have a1:=hf.stayd a1
   have a2:=hf.stayd a2
   have a3:=hf.stayd a3
   have a4:=hf.stayd a4
   have b0:=hf.stayd b0
   have b1:=hf.stayd b1
   go_wp2_with fail
   go_ret
   exact⟨rfl,G.drew.then hf⟩
end Go.Proofs.YtcmndpjemdjalaaGreatDoor
