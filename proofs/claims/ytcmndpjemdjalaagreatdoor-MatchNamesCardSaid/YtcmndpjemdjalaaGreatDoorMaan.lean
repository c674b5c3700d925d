/- Laws that the claimed theorem leans on: no condition of their own beyond their hypotheses. -/
import Derived.Lib.Hide
import Derived.Lib.ConvBytes
import Derived.Lib.Strings
import Derived.Test.YtcmndpjemdjalaaGreatDoorMaab
import Derived.Test.YtcmndpjemdjalaaGreatDoorMaam
set_option maxRecDepth 100000
set_option maxHeartbeats 16000000
namespace Go.Proofs.YtcmndpjemdjalaaGreatDoor
open Go
def blOk (md:Region.Mode) (ops:Array Oper) (loud:Nat) (bl:List Nat) (n:Nat):Bool :=
 bl.all fun k=>decide (k<n) && (Region.waitsFor md ops loud k || bl.any fun m=>decide (k<m) && Region.waitsFor md ops m k)
section
variable {P:Program} {ops:Array Oper} {md:Region.Mode}
theorem bl_listed {n loud:Nat} {bl:List Nat} {listed:Array Bool} (hbl:blOk md ops loud bl n=true) (hinv:HeadInv md ops n listed) (hi:loud∈Region.ready md ops listed):∀ k∈bl,listed.getD k false=true:=by
 have h0:=List.all_eq_true.1 hbl
 have key:∀ f k,n - k≤f→k∈bl→listed.getD k false=true:=by
  intro f
  induction f with
  | zero =>
   intro k hk hkb
   have:=h0 k hkb
   simp only [Bool.and_eq_true,decide_eq_true_eq] at this
   omega
  | succ f ih =>
   intro k hk hkb
   have h1:=h0 k hkb
   simp only [Bool.and_eq_true,Bool.or_eq_true,decide_eq_true_eq] at h1
   rcases h1.2 with h | h
   ·exact waits_listed hi h
   ·obtain⟨m,hm,hm2⟩:=List.any_eq_true.1 h
    simp only [Bool.and_eq_true,decide_eq_true_eq] at hm2
    have hl:=ih m (by omega) hm
    obtain⟨ok,hok,e,he,hb,hon⟩:=Region.waitsFor_spec hm2.2
    have:=hinv.closed m ok hok hl e he hb
    rwa [hon] at this
 exact fun k hk=>key _ k (Nat.le_refl _) hk
theorem wpAny_mono_x {Q:Exit→Act→World→Prop} {a:Act} (n:Nat) (R:Nat→(Nat→Value)→Value→World→Prop) (pre:Nat→World→Prop) (E:Nat→World→World→Prop) (G:World→Prop)
  (hB:monoB md ops n=true) (loud:Nat) (bl:List Nat) (hbl:blOk md ops loud bl n=true)
  (hpre:∀ i j,i<n→j<n→i ≠ j→(j=loud→i ∉ bl)→∀ w w',pre i w→E j w w'→pre i w')
  (hR:∀ i j,i<n→j<n→i ≠ j→Region.waitsFor md ops i j=false→∀ vs v w w',R i vs v w→E j w w'→R i vs v w')
  (hdep':∀ i,i<n→∀ vs vs' v w,(∀ j,j<n→Region.waitsFor md ops i j=true→vs j=vs' j)→R i vs v w→R i vs' v w)
  (hG:∀ j,j<n→∀ w w',G w→E j w w'→G w')
  (hstep:∀ i o,i<n→ops[i]?=some o→∀ vs w,G w→pre i w→(∀ j,j<n→Region.waitsFor md ops i j=true→R j vs (vs j) w)→Gives P ops o (fill vs (ops.toList.take n) 0 a) w (fun v w'=>R i vs v w'∧E i w w'))
  (hfin:∀ vs w,G w→(∀ j,j<n→R j vs (vs j) w)→wpList P ops Q (ops.toList.drop n) (fill vs (ops.toList.take n) 0 a) w) :
  ∀ (f:Nat) (listed:Array Bool) (vs:Nat→Value) (b:Act) (w:World),HeadInv md ops n listed→Mid ops n a listed vs b→G w →
   (∀ i,i<n→listed.getD i false=false→pre i w)→(∀ i,i<n→listed.getD i false=true→R i vs (vs i) w)→left n listed=f →
   wpAny P md ops Q (f+(ops.size - n)) listed b w:=by
 simp only [monoB,Bool.and_eq_true,decide_eq_true_eq,Bool.or_eq_true] at hB
 obtain⟨⟨⟨⟨⟨hsel,hn⟩,htail⟩,hdep⟩,hdst⟩,hseq⟩:=hB
 intro f
 induction f with
 | zero =>
  intro listed vs b w hinv hmid hg _ hRs hf
  have hall:=left_zero hf
  have hl:=headDone_eq hn hinv hall
  have hb:b=fill vs (ops.toList.take n) 0 a:=by
   have hd:b.defers=(fill vs (ops.toList.take n) 0 a).defers:=hmid.defers.trans (fill_defers _ _ _ _).symm
   have ht:b.tmps=(fill vs (ops.toList.take n) 0 a).tmps:=by
    apply Array.ext_getElem?
    intro t
    by_cases hex:∃ j oj,j<n∧ops[j]?=some oj∧oj.dst=some t
    ·obtain⟨j,oj,hj,hoj,hd⟩:=hex
     by_cases hts:t<a.tmps.size
     ·rw [hmid.done j oj t hj hoj (hall j hj) hd hts]
      have:=fill_at vs (ops.toList.take n) 0 a j t oj (by simp [hj,hoj]) hd hts (fun k ok hk hdk=>by
       have hkn:k<n:=by
        have:=(List.getElem?_eq_some_iff.1 hk).1
        simp at this;omega
       have hok:ops[k]?=some ok:=by simpa [List.getElem?_take,hkn] using hk
       exact dsts_spec hdst hkn hj hok hoj hdk hd)
      rw [this,Nat.zero_add]
     ·rw [Array.getElem?_eq_none (show b.tmps.size≤t by have:=hmid.size;omega),Array.getElem?_eq_none (show (fill vs (ops.toList.take n) 0 a).tmps.size≤t by have:=fill_size vs (ops.toList.take n) 0 a;omega)]
    ·rw [hmid.other t (fun j oj hj hoj hd=>absurd ⟨j,oj,hj,hoj,hd⟩ hex),fill_other]
     intro o' ho' hd
     obtain⟨k,hk,he⟩:=List.getElem_of_mem ho'
     have hkn:k<n:=by simp at hk;omega
     exact hex ⟨k,o',hkn,by
      have:(ops.toList.take n)[k]?=some o':=by rw [List.getElem?_eq_getElem hk,he]
      simpa [List.getElem?_take,hkn] using this,hd⟩
   cases b;cases hfl:fill vs (ops.toList.take n) 0 a
   rw [hfl] at hd ht
   simp only at hd ht
   rw [hd,ht]
  subst hb
  have h1:=hfin vs w hg (fun j hj=>hRs j hj (hall j hj))
  have h2:=wpAny_of_seq (md:=md) (Q':=Q) (ops.toList.drop n) n listed _ w (fun j=>by simp [List.getElem?_drop]) (by rw [hl];simpa using hseq) h1
  rw [Nat.zero_add]
  simpa using h2
 | succ f ih =>
  intro listed vs b w hinv hmid hg hps hRs hf
  obtain⟨i0,hi0,hun0,hmin⟩:=left_pos (show left n listed ≠ 0 by omega)
  have hready0:i0∈Region.ready md ops listed:=by
   obtain⟨o0,ho0⟩:∃ o0,ops[i0]?=some o0:=⟨ops[i0],by simp [show i0<ops.size by omega]⟩
   exact mem_ready.2 ⟨getD_in (by have:=hinv.size;omega) hun0,o0,ho0,fun e he hb=>hmin _ (deps_lt hdep hi0 ho0 e he hb)⟩
  rw [show f+1+(ops.size - n)=(f+(ops.size - n))+1 by omega]
  refine⟨fun h=>(by rw [h] at hready0;cases hready0),fun i hi=>?_⟩
  have hin:i<n:=by
   rcases htail with h | ⟨hs,hc⟩
   ·obtain⟨_,o,ho,_⟩:=mem_ready.1 hi
    have:=(Array.getElem?_eq_some_iff.1 ho).1
    omega
   ·rcases Nat.lt_or_ge i n with h | h
    ·exact h
    ·have hnl:n<ops.size:=by
      obtain⟨_,o,ho,_⟩:=mem_ready.1 hi
      have:=(Array.getElem?_eq_some_iff.1 ho).1
      omega
     exact absurd hi (tail_waits hs hc hnl hinv _ i0 rfl hi0 (getD_in (by have:=hinv.size;omega) hun0) i h)
  obtain⟨hun,o,ho,hall⟩:=mem_ready.1 hi
  have hunf:=getD_both hun
  have hsame:=hmid.same hdep hdst hn hin ho hi
  have hst:=hstep i o hin ho vs w hg (hps i hin hunf) (fun j hj hw=>hRs j hj (waits_listed hi hw))
  have hsz:i<listed.size:=by have:=hinv.size;omega
  refine hst.step ho (execOp_congr o (fun cs b=>Region.noSelect_spec hsel i o cs b ho) (eval_same hsame)) (wanted_same hsame) ?_
  rintro v w' ⟨v',⟨hr,he⟩,hput⟩
  refine ih _ (fun k=>if k=i then v' else vs k) _ w' (hinv.set hi hin) (hmid.next hdst hin ho hunf hsz (fun t hd hts=>put_inj hput t hd (by rw [fill_size];exact hts))) (hG i hin w w' hg he) ?_ ?_ (by have:=left_set hsz hunf hin;omega)
  ·intro k hk hku
   by_cases hki:k=i
   ·subst hki;simp [hsz] at hku
   ·have hkl:listed.getD k false=false:=by rwa [Go.getD_set_ne false (Ne.symm hki)] at hku
    exact hpre k i hk hin hki (fun hil hkb=>by subst hil;rw [bl_listed hbl hinv hi k hkb] at hkl;cases hkl) w w' (hps k hk hkl) he
  ·intro k hk hkl
   by_cases hki:k=i
   ·subst hki
    have:=hdep' k hk vs (fun j=>if j=k then v' else vs j) v' w' (fun j hj hw=>by
     obtain⟨ok,hok,e,he',hb',hon⟩:=Region.waitsFor_spec hw
     have hlt:=deps_lt hdep hk hok e he' hb'
     rw [if_neg (by omega)]) hr
    simpa using this
   ·rw [Go.getD_set_ne false (Ne.symm hki)] at hkl
    simp only [if_neg hki]
    have hnw:∀ j,Region.waitsFor md ops k j=true→j ≠ i:=by
     rintro j hw rfl
     obtain⟨ok,hok,e,he',hb',hon⟩:=Region.waitsFor_spec hw
     have:=hinv.closed k ok hok hkl e he' hb'
     rw [hon,hunf] at this
     cases this
    refine hdep' k hk vs _ _ _ (fun j _ hw=>by rw [if_neg (hnw j hw)]) ?_
    refine hR k i hk hin hki ?_ vs _ w w' (hRs k hk hkl) he
    cases hw:Region.waitsFor md ops k i with
    | false=>rfl
    | true=>exact absurd rfl (hnw i hw)
end
def LastsX (X:World→World→Prop) (r:PropD):Prop:=∀ vs v w w',r vs v w→X w w'→r vs v w'
theorem Sole.lastsX {X:World→World→Prop} {r:Value→World→Prop} (h:∀ v w w',r v w→X w w'→r v w'):LastsX X (Sole r):=fun _ v w w' hr hx=>h v w w' hr hx
def Eff (X:World→World→Prop) (loud i:Nat) (w w':World):Prop:=if i=loud then X w w' else Fr [] w w'
def ChainX (S:List Nat) (X:World→World→Prop) (Rd:World→Prop) (loud:Nat) (bl:List Nat) (Y:Oper→Act→World→(Value→World→Prop)→Prop) (w0:World) (A:(Nat→Value)→Act) (F:List PropD→Prop):Nat→List Oper→List (List Nat)→List (Option PropD)→List PropD→Prop
 | k,o :: l,d :: ds,none :: rs,acc=>∃ c,(∀ vs w,Fr S w0 w→Go.RowKit.Hid (k∈loud :: bl→Rd w)→HeldD acc vs w d→Y o (A vs) w (fun v w'=>v=c∧Eff X loud k w w'))∧ChainX S X Rd loud bl Y w0 A F (k+1) l ds rs (acc++[Sole (Just c)])
 | k,o :: l,d :: ds,some r :: rs,acc=>(LastsD [] r∧(k ≠ loud→LastsX X r)∧LooksD d r)∧(∀ vs w,Fr S w0 w→Go.RowKit.Hid (k∈loud :: bl→Rd w)→HeldD acc vs w d→Y o (A vs) w (fun v w'=>r vs v w'∧Eff X loud k w w'))∧ChainX S X Rd loud bl Y w0 A F (k+1) l ds rs (acc++[r])
 | _,[],_,_,acc=>F acc
 | _,_,_,_,_=>False
theorem ChainX.out {S:List Nat} {X:World→World→Prop} {Rd:World→Prop} {loud:Nat} {bl:List Nat} {Y:Oper→Act→World→(Value→World→Prop)→Prop} {w0:World} {A:(Nat→Value)→Act} {F:List PropD→Prop} :
  ∀ (k:Nat) (l:List Oper) (ds:List (List Nat)) (os:List (Option PropD)) (acc:List PropD),ChainX S X Rd loud bl Y w0 A F k l ds os acc →
   (∀ i,∀ j∈ds.getD i [],j<acc.length+i) →
   ∃ Rs:List PropD,Rs.length=l.length∧(∀ i,LastsD [] (Rs.getD i AnyD))∧(∀ i,i+k ≠ loud→LastsX X (Rs.getD i AnyD))∧(∀ i,LooksD (ds.getD i []) (Rs.getD i AnyD))∧F (acc++Rs) ∧
    ∀ i o,l[i]?=some o→∀ vs w,Fr S w0 w→Go.RowKit.Hid (i+k∈loud :: bl→Rd w)→HeldD (acc++Rs) vs w (ds.getD i [])→Y o (A vs) w (fun v w'=>(Rs.getD i AnyD) vs v w'∧Eff X loud (i+k) w w')
 | k,[],_,_,acc,h,_=>⟨[],rfl,(fun i _ _ _ _ _ _=>by simp [AnyD]),(fun i _ _ _ _ _ _ _=>by simp [AnyD]),(fun i _ _ _ _ _ _=>by simp [AnyD]),(by rw [List.append_nil];simpa [ChainX] using h),(fun i o ho=>by simp at ho)⟩
 | k,o :: l,[],os,acc,h,_=>by simp [ChainX] at h
 | k,o :: l,d :: ds,[],acc,h,_=>by simp [ChainX] at h
 | k,o :: l,d :: ds,none :: os,acc,h,hd=>by
  obtain⟨c,h1,h2⟩:=h
  obtain⟨Rs,e1,e2,e6,e5,e3,e4⟩:=ChainX.out (k+1) l ds os _ h2 (fun i j hj=>by have:=hd (i+1) j (by simpa using hj);simp;omega)
  refine⟨Sole (Just c) :: Rs,by simp [e1],?_,?_,?_,by simpa using e3,?_⟩
  ·intro i
   cases i with
   | zero=>exact Sole.lasts (Just.lasts _ _)
   | succ i=>simpa using e2 i
  ·intro i hi
   cases i with
   | zero=>exact fun _ _ _ _ h _=>h
   | succ i=>simpa using e6 i (by omega)
  ·intro i
   cases i with
   | zero=>exact Sole.looks _ _
   | succ i=>simpa using e5 i
  ·intro i o' ho vs w hf hr hh
   cases i with
   | zero =>
    have:o=o':=by simpa using ho
    subst this
    rw [Nat.zero_add] at hr ⊢
    simpa [Sole,Just] using h1 vs w hf hr (HeldD.weaken d (fun j hj=>by have:=hd 0 j (by simpa using hj);omega) hh)
   | succ i =>
    have:=e4 i o' (by simpa using ho) vs w hf (by rwa [show i+(k+1)=i+1+k by omega]) (by simpa using hh)
    rw [show i+(k+1)=i+1+k by omega] at this
    simpa using this
 | k,o :: l,d :: ds,some r :: os,acc,h,hd=>by
  obtain⟨⟨h0,h0x,h0'⟩,h1,h2⟩:=h
  obtain⟨Rs,e1,e2,e6,e5,e3,e4⟩:=ChainX.out (k+1) l ds os _ h2 (fun i j hj=>by have:=hd (i+1) j (by simpa using hj);simp;omega)
  refine⟨r :: Rs,by simp [e1],?_,?_,?_,by simpa using e3,?_⟩
  ·intro i
   cases i with
   | zero=>exact h0
   | succ i=>simpa using e2 i
  ·intro i hi
   cases i with
   | zero=>exact h0x (by omega)
   | succ i=>simpa using e6 i (by omega)
  ·intro i
   cases i with
   | zero=>simpa using h0'
   | succ i=>simpa using e5 i
  ·intro i o' ho vs w hf hr hh
   cases i with
   | zero =>
    have:o=o':=by simpa using ho
    subst this
    rw [Nat.zero_add] at hr ⊢
    simpa using h1 vs w hf hr (HeldD.weaken d (fun j hj=>by have:=hd 0 j (by simpa using hj);omega) hh)
   | succ i =>
    have:=e4 i o' (by simpa using ho) vs w hf (by rwa [show i+(k+1)=i+1+k by omega]) (by simpa using hh)
    rw [show i+(k+1)=i+1+k by omega] at this
    simpa using this
theorem Eff.fr {S:List Nat} {X:World→World→Prop} {loud i:Nat} {w w':World} (hX:∀ w w',X w w'→Fr S w w') (h:Eff X loud i w w'):Fr S w w':=by
 unfold Eff at h
 split at h
 ·exact hX _ _ h
 ·exact h.mono (by simp)
theorem Eff.and {p:Prop} {X:World→World→Prop} {loud i:Nat} {w w':World} (hi:i ≠ loud) (h:p∧Fr [] w w'):p∧Eff X loud i w w':=⟨h.1,by unfold Eff;rw [if_neg hi];exact h.2⟩
theorem Eff.loud {X:World→World→Prop} {i:Nat} {w w':World} (h:X w w'):Eff X i i w w':=by unfold Eff;rw [if_pos rfl];exact h
theorem Fr.staydx {S:List Nat} {w w':World} (hf:Fr S w.drew w') {p:Addr} {v:Value} (h:w.cell? p=some v) (hs:p.block ∉ S):w'.cell? p=some v:=hf.stay (w:=w.drew) h hs
theorem region_mono_x {P:Program} {id:Nat} {Q:Exit→Act→World→Prop} {a:Act} {w:World} {l:List Oper} (S:List Nat) (X:World→World→Prop) (Rd:World→Prop) (loud:Nat) (bl:List Nat) (n:Nat) (ds:List (List Nat)) (os:List (Option PropD))
  (hm:P.follows .mixedOrders=true) (hB:(monoB .any l.toArray n && depsOk .any l.toArray n ds && blOk .any l.toArray loud bl n && decide (ds.length=n) && decide (n≤l.length) && unguarded (l.take n))=true)
  (hX:∀ w w',X w w'→Fr S w w') (hRdl:∀ w w',Rd w→Fr [] w w'→Rd w') (hRd0:Rd w.drew)
  (hs:ChainX S X Rd loud bl (Yield P) w.drew (fun vs=>fill vs (l.take n) 0 a)
   (fun Rs=>∀ vs w',Fr S w.drew w'→HeldAllD vs w' Rs 0→wpList P l.toArray Q (l.drop n) (fill vs (l.take n) 0 a) w') 0 (l.take n) ds os []) :
  (Code.region id l.toArray true).wp P Q a w:=by
 simp only [Bool.and_eq_true,decide_eq_true_eq] at hB
 obtain⟨⟨⟨⟨⟨hB,hD⟩,hbl⟩,hds⟩,hl⟩,hung⟩:=hB
 have htl:(l.take n).length=n:=by simp;omega
 have hD':∀ i,∀ j∈ds.getD i [],j<i∧Region.waitsFor .any l.toArray i j=true:=fun i j hj=>by
  rcases Nat.lt_or_ge i n with hi | hi
  ·have h1:=List.all_eq_true.1 (List.all_eq_true.1 hD i (List.mem_range.2 hi)) j hj
   simpa using h1
  ·have:ds.getD i []=[]:=by simp [List.getD,show ds.length≤i by omega]
   rw [this] at hj;cases hj
 obtain⟨Rs,e1,e2,e6,e5,hf,e4⟩:=ChainX.out _ _ _ _ _ hs (fun i j hj=>by have:=(hD' i j hj).1;simpa using this)
 rw [List.nil_append] at hf e4
 rw [htl] at e1
 refine wp_region_any hm ?_
 have:=wpAny_mono_x (P:=P) (ops:=l.toArray) (md:=.any) (Q:=Q) (a:=a) n (fun i=>Rs.getD i AnyD) (fun i w=>i∈loud :: bl→Rd w) (Eff X loud) (fun w'=>Fr S w.drew w') hB loud bl hbl
  (fun i j _ _ hij hb w1 w2 hp he hib=>by
   unfold Eff at he
   split at he
   ·next h=>exact absurd ((List.mem_cons.1 hib).resolve_left (by omega)) (hb h)
   ·exact hRdl _ _ (hp hib) he)
  (fun i j _ _ hij _ vs v w1 w2 h he=>by
   unfold Eff at he
   split at he
   ·next hjl=>exact e6 i (by omega) vs v w1 w2 h he
   ·exact e2 i vs v w1 w2 h he)
  (fun i hi vs vs' v w1 hj hr=>e5 i vs vs' v w1 (fun j hjd=>hj j (by have:=(hD' i j hjd).1;omega) (hD' i j hjd).2) hr)
  (fun j _ w1 w2 hg he=>hg.trans (he.fr hX) (fun t ht=>.inl ht))
  (fun i o hi ho vs w1 hg hp hj=>by
   have hoi:(l.take n)[i]?=some o:=by
    have:l[i]?=some o:=by simpa using ho
    simp [hi,this]
   have hog:o.guard=none:=by
    have:=List.all_eq_true.1 hung o (List.mem_of_getElem? hoi)
    simpa using this
   refine Yield.gives hog (e4 i o hoi vs w1 hg (by rw [Nat.add_zero];exact hp) (HeldD.mk _ (fun j hjd=>?_)))
   have h1:=hD' i j hjd
   exact hj j (by omega) h1.2)
  (fun vs w1 hg hj=>hf vs w1 hg (HeldAllD.mk Rs 0 (fun j hjl=>by rw [Nat.zero_add];exact hj j (by omega))))
  n (Array.replicate l.toArray.size false) (fun _=>undef) a { w with drawn:=w.drawn+1 }
  ⟨by simp,fun j oj _ hl=>(by rw [getD_replicate_false] at hl;cases hl),fun t _ ht=>getD_in (by simpa using ht) (getD_replicate_false _ _)⟩
  ⟨rfl,rfl,fun _ _=>rfl,fun j o t _ _ hl=>by rw [getD_replicate_false] at hl;cases hl⟩
  (Fr.refl S _) (fun _ _ _ _=>hRd0) (fun i _ hl=>by rw [getD_replicate_false] at hl;cases hl) (left_replicate _ _)
 have hsz:n+(l.toArray.size - n)=l.toArray.size:=by simp;omega
 rw [hsz] at this
 exact this
end Go.Proofs.YtcmndpjemdjalaaGreatDoor
namespace Go.Proofs.YtcmndpjemdjalaaGreatDoor
open Go.RowKit
open Pb
theorem exactNone_any (w:World) (ao:Option Addr) (n cap:Nat) (_hc:n≤cap) :
  Calls Tryz.prog 120 #[.agg #[.slice ao n cap]] w fun e w'=>e=.returned (.bool (decide (n=0)))∧Fr [] w w':=by
 go_enter Tryz.func120,Tryz.ntmps120
 go_wp2
 go_ret
 exact⟨by rw [show ((n:Int)==0)=decide (n=0) from by simp [BEq.beq]];rfl,(Fr.refl [] w).alloc _⟩
theorem exactFar_any (w:World) (e:Int) (h1:-1073741824≤e) (h2:e≤1073741824) :
  Calls Tryz.prog 121 #[.int .i64 e] w fun x w'=>x=.returned (.bool false)∧Fr [] w w':=by
 have h3:¬ e < -1073741824:=by omega
 have h4:¬ 1073741824<e:=by omega
 go_enter Tryz.func121,Tryz.ntmps121
 go_wp2
 go_ret
 exact⟨rfl,Fr.refl [] w⟩
def dyadicV (neg:Bool) (v:Value) (e:Int):Value:=.agg #[.bool neg,v,.int .i64 e]
def DyOk (N:Nat) (neg:Bool) (e:Int):Prop:=(N=0→neg=false∧e=0)∧(N ≠ 0→N % 2=1)∧-1073741824≤e∧e≤1073741824
theorem exactCheck_nil (w:World) (v:Value) (hv:U32 w 0 v []) :
  Calls Tryz.prog 77 #[dyadicV false v 0] w fun x w'=>x=.returned (.int .i64 0)∧Fr [] w w':=by
 have hc:=fun w' (hf:Fr [] w w')=>natCheck_ok w' 0 v [] 0 (hv.fr0 hf) Is.nil (by simp)
 obtain⟨ao,cap,rfl,hcap,-⟩:=hv.shape
 have hn:=fun w'=>exactNone_any w' ao 0 cap (by omega)
 simp only [List.length_nil] at hc
 have fA:=(Fr.refl [] w).alloc (.cells #[.bool false,.slice ao 0 cap,.int .i64 0] 81)
 have c0:=cell_new w #[.bool false,.slice ao 0 cap,.int .i64 0] 81 (0,0) 0 (.bool false) rfl
 have c1:=cell_new w #[.bool false,.slice ao 0 cap,.int .i64 0] 81 (0,0) 1 (.slice ao 0 cap) rfl
 have c2:=cell_new w #[.bool false,.slice ao 0 cap,.int .i64 0] 81 (0,0) 2 (.int .i64 0) rfl
 clear hv
 unfold dyadicV
 simp only [List.length_nil]
 go_enter Tryz.func77,Tryz.ntmps77
 generalize hW:w.alloc (.cells #[.bool false,.slice ao 0 cap,.int .i64 0] 81)=W at fA c0 c1 c2
 go_wp2_with fail
 refine (hc W fA).mono ?_
 rintro e w1 ⟨rfl,f1⟩
 have c0:=f1.stay c0 (by simp)
 have c1:=f1.stay c1 (by simp)
 have c2:=f1.stay c2 (by simp)
 have g1:=fA.then f1
 go_wp2_with fail
 refine (hn _).mono ?_
 rintro e w2 ⟨rfl,f2⟩
 have c0:=f2.stay c0 (by simp)
 have c1:=f2.stay c1 (by simp)
 have c2:=f2.stay c2 (by simp)
 have g2:=g1.then f2
 rw [decide_eq_true True.intro]
 go_wp2_with fail
 refine (hn _).mono ?_
 rintro e w3 ⟨rfl,f3⟩
 have g3:=g2.then f3
 rw [decide_eq_true True.intro]
 go_wp2
 go_ret
 exact⟨rfl,g3⟩
theorem exactCheck_odd (w:World) (v:Value) (l:List Nat) (N:Nat) (neg:Bool) (x:Int) (hv:U32 w 0 v l) (hi:Is l N) (hl:l.length≤16384) (hN:N % 2=1) (h1:-1073741824≤x) (h2:x≤1073741824) :
  Calls Tryz.prog 77 #[dyadicV neg v x] w fun x w'=>x=.returned (.int .i64 0)∧Fr [] w w':=by
 have hc:=fun w' (hf:Fr [] w w')=>natCheck_ok w' 0 v l N (hv.fr0 hf) hi hl
 have hpos:l.length ≠ 0:=by
  intro h
  have:=hi.val
  rw [List.length_eq_zero_iff.1 h] at this
  simp [val] at this;omega
 have hd0:dg l 0 % 2=1:=by
  have h3:=val_drop l 0 (by omega)
  rw [List.drop_zero,hi.val] at h3
  omega
 have hdl:=dg_lt hv.digs 0
 obtain⟨ao,cap,rfl,hcap,hcell⟩:=hv.shape
 obtain⟨b,o,rfl,hb,hcell⟩:=hcell 0 (by omega)
 rw [Nat.add_zero] at hcell
 have hn:=fun w'=>exactNone_any w' (some ⟨b,o,none⟩) l.length cap (by omega)
 rw [decide_eq_false hpos] at hn
 have hlp:(0:Int)<l.length:=by omega
 generalize l.length=n at *
 generalize dg l 0=d at *
 have hand:bits .and .u32 (d:Int) 1=1:=by
  have h:=u32_and_nat d 1 (by omega) (by omega)
  rw [show ((1:Nat):Int)=1 from rfl] at h
  rw [h,Nat.and_one_is_mod,hd0];rfl
 have fA:=(Fr.refl [] w).alloc (.cells #[.bool neg,.slice (some ⟨b,o,none⟩) n cap,.int .i64 x] 81)
 have c0:=cell_new w #[.bool neg,.slice (some ⟨b,o,none⟩) n cap,.int .i64 x] 81 (0,0) 0 (.bool neg) rfl
 have c1:=cell_new w #[.bool neg,.slice (some ⟨b,o,none⟩) n cap,.int .i64 x] 81 (0,0) 1 (.slice (some ⟨b,o,none⟩) n cap) rfl
 have c2:=cell_new w #[.bool neg,.slice (some ⟨b,o,none⟩) n cap,.int .i64 x] 81 (0,0) 2 (.int .i64 x) rfl
 have c3:=fA.stay hcell (by simp)
 have hfar:=fun w'=>exactFar_any w' x h1 h2
 clear hv hcell hi
 unfold dyadicV
 go_enter Tryz.func77,Tryz.ntmps77
 generalize hW:w.alloc (.cells #[.bool neg,.slice (some ⟨b,o,none⟩) n cap,.int .i64 x] 81)=W at fA c0 c1 c2 c3
 go_wp2_with fail
 refine (hc W fA).mono ?_
 rintro e w1 ⟨rfl,f1⟩
 have c0:=f1.stay c0 (by simp)
 have c1:=f1.stay c1 (by simp)
 have c2:=f1.stay c2 (by simp)
 have c3:=f1.stay c3 (by simp)
 have g1:=fA.then f1
 go_wp2_with fail
 refine (hn _).mono ?_
 rintro e w2 ⟨rfl,f2⟩
 have c0:=f2.stay c0 (by simp)
 have c1:=f2.stay c1 (by simp)
 have c2:=f2.stay c2 (by simp)
 have c3:=f2.stay c3 (by simp)
 have g2:=g1.then f2
 go_wp2_with fail
 refine (hn _).mono ?_
 rintro e w3 ⟨rfl,f3⟩
 have c0:=f3.stay c0 (by simp)
 have c1:=f3.stay c1 (by simp)
 have c2:=f3.stay c2 (by simp)
 have c3:=f3.stay c3 (by simp)
 have g3:=g2.then f3
 go_wp2_with fail
 refine (hfar _).mono ?_
 rintro e w4 ⟨rfl,f4⟩
 have g4:=g3.then f4
 go_wp2
 go_ret
 exact⟨rfl,g4⟩
theorem exactCheck_ok (w:World) (v:Value) (l:List Nat) (N:Nat) (neg:Bool) (x:Int) (hv:U32 w 0 v l) (hi:Is l N) (hl:l.length≤16384) (hd:DyOk N neg x) :
  Calls Tryz.prog 77 #[dyadicV neg v x] w fun x w'=>x=.returned (.int .i64 0)∧Fr [] w w':=by
 obtain⟨h1,h2,h3,h4⟩:=hd
 by_cases h:N=0
 ·obtain⟨rfl,rfl⟩:=h1 h
  subst h
  obtain rfl:=hi.eq Is.nil
  exact exactCheck_nil w v hv
 ·exact exactCheck_odd w v l N neg x hv hi hl (h2 h) h3 h4
def dynearV (N:Nat) (x:Int):Int:=max (-((bitLen N:Nat):Int) - 1200) (min x (((bitLen N:Nat):Int)+1200))
def dyadicBits (N:Nat) (x E F:Int) (below neg:Bool) (mode:Nat):Int × Int:=signedV (tnum N (dynearV N x)) (tden 1 (dynearV N x)) E F below neg mode
theorem tnum_bits (N A:Nat) (e:Int) (K:Nat) (h:N<2 ^ A) (he:e≤K):tnum N e<2 ^ (A+K):=by
 unfold tnum
 by_cases h0:0≤e
 ·rw [if_pos h0,Nat.pow_add]
  exact Nat.mul_lt_mul_of_lt_of_le h (Nat.pow_le_pow_right (by omega) (by omega)) (Nat.pow_pos (by omega))
 ·rw [if_neg h0]
  exact Nat.lt_of_lt_of_le h (Nat.pow_le_pow_right (by omega) (by omega))
theorem tden_bits (D A:Nat) (e:Int) (K:Nat) (h:D<2 ^ A) (he:-e≤K):tden D e<2 ^ (A+K):=by
 unfold tden
 by_cases h0:0≤e
 ·rw [if_pos h0]
  exact Nat.lt_of_lt_of_le h (Nat.pow_le_pow_right (by omega) (by omega))
 ·rw [if_neg h0,Nat.pow_add]
  exact Nat.mul_lt_mul_of_lt_of_le h (Nat.pow_le_pow_right (by omega) (by omega)) (Nat.pow_pos (by omega))
def NumRow (bx p q:Nat):World→Prop:=fun w=>w.heap[bx]?=some (.cells #[.pointer (some ⟨p,0,none⟩),.pointer (some ⟨q,0,none⟩)] 184)
def LoudX (bx:Nat):World→World→Prop:=fun w w'=>Fr [bx] w w'∧NoWord [bx] w
theorem NumRow.ne {bx p q a:Nat} {n:Int} {w:World} (h:NumRow bx p q w) (hi:IntAt w a 0 n):a ≠ bx:=by
 rintro rfl
 obtain⟨cur,t,_,_,hh,_,h1,_⟩:=hi
 unfold NumRow at h
 rw [h] at hh;simp at hh;obtain⟨rfl,rfl⟩:=hh;simp at h1
def TwoIntsX (bx:Nat) (m n:Int):Value→World→Prop:=fun v w=>∃ a b,v=.tuple #[.pointer (some ⟨a,0,none⟩),.pointer (some ⟨b,0,none⟩)]∧IntAt w a 0 m∧IntAt w b 0 n∧a ≠ bx∧b ≠ bx
theorem TwoIntsX.lasts (bx:Nat) (m n:Int):Lasts [] (TwoIntsX bx m n):=fun _ _ _ ⟨a,b,h,h1,h2,h3⟩ hf=>⟨a,b,h,h1.fr0 hf,h2.fr0 hf,h3⟩
theorem TwoIntsX.lastsX (bx:Nat) (m n:Int):∀ v w w',TwoIntsX bx m n v w→LoudX bx w w'→TwoIntsX bx m n v w':=fun _ _ _ ⟨a,b,h,h1,h2,h3,h4⟩ hx=>⟨a,b,h,h1.fr hx.1 hx.2 (by simpa using h3),h2.fr hx.1 hx.2 (by simpa using h4),h3,h4⟩
def OneIntX (bx:Nat) (m:Int):Value→World→Prop:=fun v w=>∃ a,v=.pointer (some ⟨a,0,none⟩)∧IntAt w a 0 m∧a ≠ bx
theorem OneIntX.lasts (bx:Nat) (m:Int):Lasts [] (OneIntX bx m):=fun _ _ _ ⟨a,h,h1,h3⟩ hf=>⟨a,h,h1.fr0 hf,h3⟩
theorem OneIntX.lastsX (bx:Nat) (m:Int):∀ v w w',OneIntX bx m v w→LoudX bx w w'→OneIntX bx m v w':=fun _ _ _ ⟨a,h,h1,h3⟩ hx=>⟨a,h,h1.fr hx.1 hx.2 (by simpa using h3),h3⟩
def StoredX (bx q j:Nat):PropD:=fun vs _ w=>w.heap[bx]?=some (.cells #[vs j,.pointer (some ⟨q,0,none⟩)] 184)
theorem StoredX.lasts (bx q j:Nat):LastsD [] (StoredX bx q j):=fun _ _ _ _ h hf=>hf.row h (by simp)
theorem StoredX.looks (bx q j:Nat) {d:List Nat} (hd:j∈d):LooksD d (StoredX bx q j):=fun _ _ _ _ hj h=>by unfold StoredX at *;rw [← hj j hd];exact h
theorem dyadic_any (w:World) (E F:Int) (below:Bool) (v:Value) (l:List Nat) (N A:Nat) (x:Int) (neg:Bool) (mode:Nat) (hF:FormOk E F) (hv:U32 w 0 v l) (hi:Is l N) (hd:DyOk N below x) (hA:A≤262144) (hA1:1≤A) (hb:N<2 ^ A)
  (hm:mode<5) :
  Calls Tryz.prog 48 #[formV E F,dyadicV below v x,.bool neg,.int .u8 mode] w fun e w' =>
   e=.returned (.tuple #[.int .u64 (dyadicBits N x E F below neg mode).1,.int .u8 (dyadicBits N x E F below neg mode).2,.int .i64 0])∧Fr [] w w':=by
 have hl:l.length≤16384:=len_bits hi hb (by omega)
 have hx1:=hd.2.2.1
 have hx2:=hd.2.2.2
 have hcheck:=fun w' (hf:Fr [] w w')=>formsCheck_ok E F w' hF
 have hexact:=fun w' (hf:Fr [] w w')=>exactCheck_ok w' v l N below x (hv.fr0 hf) hi hl hd
 have hlarge:=fun w' (hf:Fr [] w w')=>large_any w' 0 v l (hv.fr0 hf) (by omega)
 rw [hi.val] at hlarge
 obtain⟨ao,cap,rfl,hcap,-⟩:=hv.shape
 have Hb:=Go.Lib.hid hb;clear hb
 clear hv hd
 unfold formV dyadicV at *
 have hmm:¬ ((4:Int)<(mode:Int)):=by omega
 generalize l.length=n at *
 generalize hW:(w.alloc (.cells #[.int .i64 E,.int .i64 F] 39)).alloc (.cells #[.bool below,.slice ao n cap,.int .i64 x] 81)=W
 have fW:Fr [] w W:=by rw [← hW];exact ((Fr.refl [] w).alloc _).alloc _
 have c0:W.cell? ⟨w.heap.size,0,none⟩=some (.int .i64 E):=by rw [← hW];exact ((Fr.refl [] _).alloc _).stay (cell_new w _ _ _ 0 _ rfl) (by simp)
 have c1:W.cell? ⟨w.heap.size,1,none⟩=some (.int .i64 F):=by rw [← hW];exact ((Fr.refl [] _).alloc _).stay (cell_new w _ _ _ 1 _ rfl) (by simp)
 have d0:W.cell? ⟨w.heap.size+1,0,none⟩=some (.bool below):=by rw [← hW];have:=cell_new (w.alloc (.cells #[.int .i64 E,.int .i64 F] 39)) #[.bool below,.slice ao n cap,.int .i64 x] 81 (0,0) 0 _ rfl;rwa [World.size_alloc] at this
 have d1:W.cell? ⟨w.heap.size+1,1,none⟩=some (.slice ao n cap):=by rw [← hW];have:=cell_new (w.alloc (.cells #[.int .i64 E,.int .i64 F] 39)) #[.bool below,.slice ao n cap,.int .i64 x] 81 (0,0) 1 _ rfl;rwa [World.size_alloc] at this
 have d2:W.cell? ⟨w.heap.size+1,2,none⟩=some (.int .i64 x):=by rw [← hW];have:=cell_new (w.alloc (.cells #[.int .i64 E,.int .i64 F] 39)) #[.bool below,.slice ao n cap,.int .i64 x] 81 (0,0) 2 _ rfl;rwa [World.size_alloc] at this
 have hsz:w.heap.size+1<W.heap.size:=World.block_lt_of_cell? _ _ d0
 go_enter Tryz.func48,Tryz.ntmps48
 go_wp2_with fail
 clear hW
 refine (hcheck _ fW).mono ?_
 rintro e w1 ⟨rfl,f1⟩
 have c0:=f1.stay c0 (by simp)
 have c1:=f1.stay c1 (by simp)
 have d0:=f1.stay d0 (by simp)
 have d1:=f1.stay d1 (by simp)
 have d2:=f1.stay d2 (by simp)
 have g1:=fW.then f1
 go_wp2_with fail
 refine (hexact _ g1).mono ?_
 rintro e w2 ⟨rfl,f2⟩
 have c0:=f2.stay c0 (by simp)
 have c1:=f2.stay c1 (by simp)
 have d0:=f2.stay d0 (by simp)
 have d1:=f2.stay d1 (by simp)
 have d2:=f2.stay d2 (by simp)
 have g2:=g1.then f2
 have hsz2:w.heap.size+1<w2.heap.size:=World.block_lt_of_cell? _ _ d0
 clear hcheck hexact f1 f2 fW g1
 go_wp2_with fail
 refine (hlarge _ g2).mono ?_
 rintro e w3 ⟨x3,rfl,⟨p,rfl,hlp,hp⟩,f3⟩
 have c0:=f3.stay c0 (by simp)
 have c1:=f3.stay c1 (by simp)
 have d0:=f3.stay d0 (by simp)
 have d1:=f3.stay d1 (by simp)
 have d2:=f3.stay d2 (by simp)
 have g3:=g2.then f3
 go_wp2_with fail
 refine (newInt_nat _ 1 (by omega)).mono ?_
 rintro e w4 ⟨rfl,hq,f4⟩
 have c0:=f4.stay c0 (by simp)
 have c1:=f4.stay c1 (by simp)
 have d0:=f4.stay d0 (by simp)
 have d1:=f4.stay d1 (by simp)
 have d2:=f4.stay d2 (by simp)
 have hp4:=hp.fr0 f4
 have g4:=g3.then f4
 have hsz3:=f3.size
 have hsz4:=f4.size
 have hpq:p ≠ w3.heap.size:=Nat.ne_of_lt hp.lt
 have hlq:w.heap.size+1<w3.heap.size:=by omega
 generalize w3.heap.size=q at *
 clear hlarge f3 f4 g3 g2
 go_wp2_with fail
 have fx:=(Fr.refl [] w4).alloc (.cells #[.pointer (some ⟨p,0,none⟩),.pointer (some ⟨q,0,none⟩)] 184)
 have y0:=cell_new w4 #[.pointer (some ⟨p,0,none⟩),.pointer (some ⟨q,0,none⟩)] 184 (0,0) 0 (.pointer (some ⟨p,0,none⟩)) rfl
 have y1:=cell_new w4 #[.pointer (some ⟨p,0,none⟩),.pointer (some ⟨q,0,none⟩)] 184 (0,0) 1 (.pointer (some ⟨q,0,none⟩)) rfl
 have hrow:=row_new w4 (.cells #[.pointer (some ⟨p,0,none⟩),.pointer (some ⟨q,0,none⟩)] 184)
 have hbp:p ≠ w4.heap.size:=Nat.ne_of_lt hp4.lt
 have hbq:q ≠ w4.heap.size:=Nat.ne_of_lt hq.lt
 have hbw:w.heap.size+1<w4.heap.size:=by omega
 generalize hW5:w4.alloc (.cells #[.pointer (some ⟨p,0,none⟩),.pointer (some ⟨q,0,none⟩)] 184)=W5 at fx y0 y1 hrow ⊢
 generalize w4.heap.size=bx at *
 have c0:=fx.stay c0 (by simp)
 have c1:=fx.stay c1 (by simp)
 have d0:=fx.stay d0 (by simp)
 have d2:=fx.stay d2 (by simp)
 have g5:=g4.then fx
 have hp5:=hp4.fr0 fx
 have hq5:=hq.fr0 fx
 have hB:=bitLen_le Hb.out
 have hfN:Fits N:=Fits.of_bits Hb.out (by omega)
 obtain⟨m,hm1⟩:∃ m,m=dynearV N x:=⟨_,rfl⟩
 have hmb1:-263400≤m:=by rw [hm1];unfold dynearV;omega
 have hmb2:m≤263400:=by rw [hm1];unfold dynearV;omega
 have hm2:=hm1
 unfold dynearV at hm2
 have Hm1:=Go.Lib.hid hm1;clear hm1
 obtain⟨K,hK⟩:∃ K,K=263400:=⟨_,rfl⟩
 have tN:=tnum_bits N A m K Hb.out (by omega)
 have tD:=tden_bits 1 1 m K (by simp) (by omega)
 have tP:=tden_pos (D:=1) (by omega) m
 have hfTN:Hid (Fits (tnum N m)):=Go.Lib.hid (Fits.of_bits tN (by omega))
 have hfTD:Hid (Fits (tden 1 m)):=Go.Lib.hid (Fits.of_bits tD (by omega))
 obtain⟨A',hA'⟩:∃ A',A'=A+K:=⟨_,rfl⟩
 have tN':Hid (tnum N m<2 ^ A'):=Go.Lib.hid (by rw [hA'];exact tN)
 have tD':Hid (tden 1 m<2 ^ A'):=Go.Lib.hid (Nat.lt_of_lt_of_le tD (Nat.pow_le_pow_right (by omega) (by omega)))
 have hA2:Hid (A'≤4194304):=Go.Lib.hid (by omega)
 have hend:Hid (dyadicBits N x E F below neg mode=signedV (tnum N m) (tden 1 m) E F below neg mode):=Go.Lib.hid (by unfold dyadicBits;rw [← Hm1.out])
 generalize hBB:bitLen N=B at hB hm2
 have hB1:(0:Int)≤(B:Int):=by omega
 have hB2:(B:Int)≤4611686018427387904:=by omega
 have HBB:=Go.Lib.hid hBB;clear hBB
 have Hm2:=Go.Lib.hid hm2;clear hm2
 have HP:=Go.Lib.hid tP
 clear tN tD tP hA' hW5 fx
 generalize hTN:tnum N m=TN at *
 generalize hTD:tden 1 m=TD at *
 have HTN:=Go.Lib.hid hTN;clear hTN
 have HTD:=Go.Lib.hid hTD;clear hTD
 have hnw:NoWord [bx] W5.drew:=NoWord.of_type hrow (by decide)
 have hp6:∀ w',Fr [bx] W5.drew w'→IntAt w' p 0 N:=fun w' hf=>IntAt.fr (w:=W5.drew) hp5 hf hnw (by simpa using hbp)
 have hq6:∀ w',Fr [bx] W5.drew w'→IntAt w' q 0 (1:Nat):=fun w' hf=>IntAt.fr (w:=W5.drew) hq5 hf hnw (by simpa using hbq)
 refine region_mono_x [bx] (LoudX bx) (NumRow bx p q) 12 [0,1,2,3,4,5,6,7,8,9,11] 14 [[],[],[1],[],[3],[4],[2,5],[0,6],[7],[8],[8],[],[9,11],[]] [none,none,none,none,none,none,none,some (Sole (TwoIntsX bx TN TD)),some (Sole (TwoIntsX bx TN TD)),some (Sole (OneIntX bx TN)),some (Sole (OneIntX bx TD)),none,some (StoredX bx q 9),none] (by kernel_rfl) (by kernel_rfl) (fun _ _ h=>h.1) (fun _ _ h hf=>hf.row h (by simp)) (hrow) ?_
 simp only [ChainX,fill,Act.put,List.nil_append,List.cons_append,List.take_succ_cons,List.take_zero,List.drop_succ_cons,List.drop_zero,List.setIfInBounds_toArray,List.set_cons_zero,List.set_cons_succ,Nat.reduceAdd]
 apply Exists.intro;apply And.intro
 ·intro vs w2 hf hr hh K hK;have hK:=fun v w9 h=>hK v w9 (Eff.and (by decide) h);have d2:=Fr.staydx hf d2 (by simp <;> omega);simp only [HeldD] at hh;(try simp only [] at hK ⊢);have hrow2:=hr.out (by decide);have y0:w2.cell? ⟨bx,0,none⟩=some (.pointer (some ⟨p,0,none⟩)):=(by rw [cell_of_row _ _ _ _ _ _ hrow2];rfl);have y1:w2.cell? ⟨bx,1,none⟩=some (.pointer (some ⟨q,0,none⟩)):=(by rw [cell_of_row _ _ _ _ _ _ hrow2];rfl);go_simp;exact hK _ _ ⟨rfl,Fr.refl _ _⟩
 iterate 3 (apply Exists.intro;apply And.intro;·intro vs w2 hf hr hh K hK;have hK:=fun v w9 h=>hK v w9 (Eff.and (by decide) h);have d2:=Fr.staydx hf d2 (by simp <;> omega);simp only [HeldD,Sole,List.getD_cons_zero,List.getD_cons_succ,Just,and_true] at hh;(try simp only [hh] at hK ⊢);go_simp;exact hK _ _ ⟨rfl,Fr.refl _ _⟩)
 apply Exists.intro;apply And.intro
 ·intro vs w2 hf hr hh K hK;have hK:=fun v w9 h=>hK v w9 (Eff.and (by decide) h);have d2:=Fr.staydx hf d2 (by simp <;> omega);simp only [HeldD,Sole,List.getD_cons_zero,List.getD_cons_succ,Just,and_true] at hh;(try simp only [hh] at hK ⊢);have hrow2:=hr.out (by decide);have y0:w2.cell? ⟨bx,0,none⟩=some (.pointer (some ⟨p,0,none⟩)):=(by rw [cell_of_row _ _ _ _ _ _ hrow2];rfl);go_simp;exact hK _ _ ⟨rfl,Fr.refl _ _⟩
 apply Exists.intro;apply And.intro
 ·intro vs w2 hf hr hh K hK;have hK:=fun v w9 h=>hK v w9 (Eff.and (by decide) h);have d2:=Fr.staydx hf d2 (by simp <;> omega);simp only [HeldD,Sole,List.getD_cons_zero,List.getD_cons_succ,Just,and_true] at hh;(try simp only [hh] at hK ⊢);go_simp;refine (intBitLen_any _ p 0 N (hp6 _ hf) (by rw [Int.natAbs_natCast];exact hfN)).mono ?_;rintro e w6 ⟨rfl,rfl⟩;rw [Int.natAbs_natCast,HBB.out];exact hK _ _ ⟨rfl,Fr.refl _ _⟩
 apply Exists.intro;apply And.intro
 ·intro vs w2 hf hr hh K hK;have hK:=fun v w9 h=>hK v w9 (Eff.and (by decide) h);have d2:=Fr.staydx hf d2 (by simp <;> omega);simp only [HeldD,Sole,List.getD_cons_zero,List.getD_cons_succ,Just,and_true] at hh;(try simp only [hh] at hK ⊢);go_simp;refine (near_any _ x B (by omega) (by omega) hB1 hB2).mono ?_;rintro e w6 ⟨rfl,rfl⟩;rw [← Hm2.out];exact hK _ _ ⟨rfl,Fr.refl _ _⟩
 refine⟨⟨Sole.lasts (TwoIntsX.lasts _ _ _),(by first | exact fun _=>Sole.lastsX (TwoIntsX.lastsX _ _ _) | exact Sole.lastsX (TwoIntsX.lastsX _ _ _)),Sole.looks _ _⟩,?_,?_⟩
 ·intro vs w2 hf hr hh K hK;have hK:=fun v w9 h=>hK v w9 (Eff.and (by decide) h);have d2:=Fr.staydx hf d2 (by simp <;> omega);simp only [HeldD,Sole,List.getD_cons_zero,List.getD_cons_succ,Just,and_true] at hh;(try simp only [hh] at hK ⊢);go_simp;refine (times_any _ p q N 1 m (hp6 _ hf) (hq6 _ hf) (by omega) (by omega) hfN (Fits.of_bits (k:=1) (by omega) (by omega)) (by rw [HTN.out];exact hfTN.out) (by rw [HTD.out];exact hfTD.out)).mono ?_;rintro e w6 ⟨v6,rfl,⟨p9,q9,rfl,hp9,hq9⟩,f6⟩;rw [HTN.out] at hp9;rw [HTD.out] at hq9;have hrow6:NumRow bx p q w6:=f6.row (hr.out (by decide)) (by simp);exact hK _ _ ⟨⟨p9,q9,rfl,hp9,hq9,hrow6.ne hp9,hrow6.ne hq9⟩,f6⟩
 refine⟨⟨Sole.lasts (TwoIntsX.lasts _ _ _),(by first | exact fun _=>Sole.lastsX (TwoIntsX.lastsX _ _ _) | exact Sole.lastsX (TwoIntsX.lastsX _ _ _)),Sole.looks _ _⟩,?_,?_⟩
 ·intro vs w2 hf hr hh K hK;have hK:=fun v w9 h=>hK v w9 (Eff.and (by decide) h);have d2:=Fr.staydx hf d2 (by simp <;> omega);simp only [HeldD,Sole,List.getD_cons_zero,List.getD_cons_succ,and_true] at hh;(try simp only [] at hK ⊢);obtain⟨p9,q9,hv9,hp9,hq9,hn9,hm9⟩:=hh;simp only [hv9] at hK ⊢;go_simp;exact hK _ _ ⟨⟨p9,q9,rfl,hp9,hq9,hn9,hm9⟩,Fr.refl _ _⟩
 refine⟨⟨Sole.lasts (OneIntX.lasts _ _),(by first | exact fun _=>Sole.lastsX (OneIntX.lastsX _ _) | exact Sole.lastsX (OneIntX.lastsX _ _)),Sole.looks _ _⟩,?_,?_⟩
 ·intro vs w2 hf hr hh K hK;have hK:=fun v w9 h=>hK v w9 (Eff.and (by decide) h);have d2:=Fr.staydx hf d2 (by simp <;> omega);simp only [HeldD,Sole,List.getD_cons_zero,List.getD_cons_succ,and_true] at hh;(try simp only [] at hK ⊢);obtain⟨p9,q9,hv9,hp9,hq9,hn9,hm9⟩:=hh;simp only [hv9] at hK ⊢;go_simp;exact hK _ _ ⟨⟨p9,rfl,hp9,hn9⟩,Fr.refl _ _⟩
 refine⟨⟨Sole.lasts (OneIntX.lasts _ _),(by first | exact fun _=>Sole.lastsX (OneIntX.lastsX _ _) | exact Sole.lastsX (OneIntX.lastsX _ _)),Sole.looks _ _⟩,?_,?_⟩
 ·intro vs w2 hf hr hh K hK;have hK:=fun v w9 h=>hK v w9 (Eff.and (by decide) h);have d2:=Fr.staydx hf d2 (by simp <;> omega);simp only [HeldD,Sole,List.getD_cons_zero,List.getD_cons_succ,and_true] at hh;(try simp only [] at hK ⊢);obtain⟨p9,q9,hv9,hp9,hq9,hn9,hm9⟩:=hh;simp only [hv9] at hK ⊢;go_simp;exact hK _ _ ⟨⟨q9,rfl,hq9,hm9⟩,Fr.refl _ _⟩
 apply Exists.intro;apply And.intro
 ·intro vs w2 hf hr hh K hK;have hK:=fun v w9 h=>hK v w9 (Eff.and (by decide) h);simp only [HeldD] at hh;(try simp only [] at hK ⊢);go_simp;exact hK _ _ ⟨rfl,Fr.refl _ _⟩
 refine⟨⟨StoredX.lasts _ _ _,(by first | exact fun _=>by contradiction | exact by contradiction | simp),StoredX.looks _ _ _ (by simp)⟩,?_,?_⟩
 ·intro vs w2 hf hr hh K hK;have d2:=Fr.staydx hf d2 (by simp <;> omega);simp only [HeldD,Sole,List.getD_cons_zero,List.getD_cons_succ,Just,and_true] at hh;(try simp only [hh] at hK ⊢);go_simp;obtain⟨⟨p9,hv9,hp9,hn9⟩,-⟩:=hh;have hrow2:=hr.out (by decide);have y0:w2.cell? ⟨bx,0,none⟩=some (.pointer (some ⟨p,0,none⟩)):=(by rw [cell_of_row _ _ _ _ _ _ hrow2];rfl);have z0:=frozen_of_row w2 bx 0 _ _ hrow2;have r1:=heap_setCell_same w2 bx 0 _ _ (.pointer (some ⟨p9,0,none⟩)) hrow2;simp only [hv9] at hK ⊢;go_simp;exact hK undef _ ⟨by unfold StoredX;rw [hv9];exact r1,Eff.loud ⟨(Fr.refl [bx] w2).setCell (.inl (by simp)) _,NoWord.of_type hrow2 (by decide)⟩⟩
 apply Exists.intro;apply And.intro
 ·intro vs w2 hf hr hh K hK;have hK:=fun v w9 h=>hK v w9 (Eff.and (by decide) h);simp only [HeldD] at hh;(try simp only [] at hK ⊢);go_simp;exact hK _ _ ⟨rfl,Fr.refl _ _⟩
 intro vs w2 hf hh
 simp only [HeldAllD,Sole,Just,and_true,Nat.reduceAdd] at hh
 obtain⟨e0,e1,e2,e3,e4,e5,e6,e7,e8,e9,e10,e11,e12,e13⟩:=hh
 simp only [e0,e1,e2,e3,e4,e5,e6,e11,e13]
 clear e0 e1 e2 e3 e4 e5 e6 e11 e13
 unfold StoredX at e12
 generalize vs 7=v7 at e7 e8 e9 e10 e12 ⊢
 generalize vs 8=v8 at e7 e8 e9 e10 e12 ⊢
 generalize vs 9=v9 at e7 e8 e9 e10 e12 ⊢
 generalize vs 10=v10 at e7 e8 e9 e10 e12 ⊢
 generalize vs 12=v12 at e7 e8 e9 e10 e12 ⊢
 try clear vs
 have d2:=Fr.staydx hf d2 (by simp <;> omega)
 clear e7 e8
 obtain⟨p9,rfl,hp9,hn9⟩:=e9
 obtain⟨q9,rfl,hq9,hm9⟩:=e10
 have y0:w2.cell? ⟨bx,0,none⟩=some (.pointer (some ⟨p9,0,none⟩)):=by rw [cell_of_row _ _ _ _ _ _ e12];rfl
 have y1:w2.cell? ⟨bx,1,none⟩=some (.pointer (some ⟨q,0,none⟩)):=by rw [cell_of_row _ _ _ _ _ _ e12];rfl
 have z1:=frozen_of_row w2 bx 1 _ _ e12
 have r2:=heap_setCell_same w2 bx 1 _ _ (.pointer (some ⟨q9,0,none⟩)) e12
 have hnw2:NoWord [bx] w2:=NoWord.of_type e12 (by decide)
 have fs:Fr [bx] w2 (w2.setCell ⟨bx,1,none⟩ (.pointer (some ⟨q9,0,none⟩))):=(Fr.refl [bx] w2).setCell (.inl (by simp)) _
 have hp10:=hp9.fr fs hnw2 (by simpa using hn9)
 have hq10:=hq9.fr fs hnw2 (by simpa using hm9)
 have c0:=fs.stay (Fr.staydx hf c0 (by simp;omega)) (by simp;omega)
 have c1:=fs.stay (Fr.staydx hf c1 (by simp;omega)) (by simp;omega)
 have d0:=fs.stay (Fr.staydx hf d0 (by simp;omega)) (by simp;omega)
 have g6:=((g5.drew).after hf (by simp;omega)).after fs (by simp;omega)
 go_wp2_with fail
 refine (signed_any _ p9 q9 TN TD A' E F below neg mode hp10 hq10 hA2.out tN'.out tD'.out HP.out hF hm).mono ?_
 rintro e w7 ⟨rfl,f7⟩
 go_wp2
 go_ret3
 exact⟨by rw [hend.out];rfl,g6.then f7⟩
end Go.Proofs.YtcmndpjemdjalaaGreatDoor
namespace Go.Proofs.YtcmndpjemdjalaaGreatDoor
open Go.RowKit
open Pb
theorem trimmed_some (b o cap:Nat) (l:List Nat) (w:World) (hn:l.length≤1099511627776) (hcap:l.length≤cap)
  (hc:∀ i,i<l.length→w.cell? ⟨b,o+i,none⟩=some (.int .u32 (dg l i:Nat))) :
  Calls Tryz.prog 122 #[.slice (some ⟨b,o,none⟩) l.length cap] w fun e w' =>
   ∃ n,((n=0∧e=.returned (.agg #[.slice none 0 0]))∨e=.returned (.agg #[.slice (some ⟨b,o,none⟩) n n]))∧n≤l.length∧Norm (l.take n)∧val (l.take n)=val l∧Fr [] w w':=by
 have fA:=(Fr.refl [] w).alloc (.cells #[.slice none 0 0] 79)
 have hc1:∀ i,i<l.length→(w.alloc (.cells #[.slice none 0 0] 79)).cell? ⟨b,o+i,none⟩=some (.int .u32 (dg l i:Nat)):=fun i hi=>fA.stay (hc i hi) (by simp)
 have hrow:=row_new w (.cells #[.slice none 0 0] 79)
 clear hc
 go_enter Tryz.func122,Tryz.ntmps122
 go_wp2
 generalize hW:w.alloc (.cells #[.slice none 0 0] 79)=W at *
 have y0:W.cell? ⟨w.heap.size,0,none⟩=some (.slice none 0 0):=by rw [cell_of_row _ _ _ _ _ _ hrow];rfl
 have z0:=frozen_of_row W w.heap.size 0 _ _ hrow
 have fs:∀ v,Fr [w.heap.size] W (W.setCell ⟨w.heap.size,0,none⟩ v):=fun v=>(Fr.refl _ W).setCell (.inl (by simp)) _
 have gs:∀ v,Fr [] w (W.setCell ⟨w.heap.size,0,none⟩ v):=fun v=>fA.after (fs v) (by simp)
 have rs:=fun v=>heap_setCell_same W w.heap.size 0 _ _ v hrow
 have ys:∀ v,(W.setCell ⟨w.heap.size,0,none⟩ v).cell? ⟨w.heap.size,0,none⟩=some v:=fun v=>by rw [cell_of_row _ _ _ _ _ _ (rs v)];rfl
 have GS:=Go.Lib.hid gs
 have RS:=Go.Lib.hid rs
 clear hW fA gs fs rs
 go_loop [3] (fun i=>∃ n:Nat,i=.int .i64 n∧n≤l.length∧∀ j,n≤j→j<l.length→dg l j=0) (fun i=>(intOf i).toNat)
 case atStart=>exact⟨_,rfl,Nat.le_refl _,fun j h1 h2=>by omega⟩
 case round =>
  obtain⟨n,rfl,hnl,hz⟩:=hrel
  have HZ:=Go.Lib.hid hz;clear hz
  by_cases h0:n=0
  ·subst h0
   clear hc1
   go_wp2
   (try simp only [Exit.inBlock,Exit.then])
   refine bodyPost_ret (v:=.agg #[.slice none 0 0]) (by simp [results,Tryz.results122,go_sem,ys]) rfl ?_
   exact⟨0,.inl ⟨rfl,rfl⟩,Nat.zero_le _,by simp [Norm.nil],val_take_of_zero l 0 (Nat.zero_le _) HZ.out,GS.out _⟩
  ·have hlt:n - 1<l.length:=by omega
   have hcn:=hc1 _ hlt
   obtain⟨m,rfl⟩:∃ m,n=m+1:=⟨n - 1,by omega⟩
   simp only [Nat.add_sub_cancel] at hcn
   clear hc1
   go_wp2
   ·have hm:((dg l m:Nat):Int)==0:=by assumption
    have hm0:dg l m=0:=by simpa using hm
    go_round
    case rel=>exact⟨m,rfl,by omega,fun j h1 h2=>by rcases Nat.eq_or_lt_of_le h1 with rfl | h;exact hm0;exact HZ.out j (by omega) h2⟩
    case measure=>simp [intOf]
   ·have hm:(((dg l m:Nat):Int)==0)=false:=by assumption
    have hm0:dg l m ≠ 0:=by simpa using hm
    (try simp only [Exit.inBlock,Exit.then])
    refine bodyPost_ret (v:=.agg #[.slice (some ⟨b,o,none⟩) (m+1) (m+1)]) (by simp [results,Tryz.results122,go_sem,ys]) rfl ?_
    refine⟨m+1,.inr rfl,hnl,Norm.of_last (.inr ?_),val_take_of_zero l _ hnl HZ.out,GS.out _⟩
    have:(l.take (m+1)).length=m+1:=by simp;omega
    rw [this,Nat.add_sub_cancel,← dg_def,dg_take l _ _ (by omega)]
    exact hm0
theorem U32.upto {w:World} {lo b o cap:Nat} {l:List Nat} {n:Nat} (h:U32 w lo (.slice (some ⟨b,o,none⟩) l.length cap) l) (hn:n≤l.length):U32 w lo (.slice (some ⟨b,o,none⟩) n n) (l.take n):=by
 refine⟨h.digs.take n,.inr ?_⟩
 rcases h.2 with ⟨h,_⟩ | ⟨b2,o2,cap2,cur,fr,hv,hc,hlo,hh,hcell⟩
 ·simp at h
 ·simp at hv
  obtain⟨⟨rfl,rfl⟩,rfl⟩:=hv
  have hl:(l.take n).length=n:=by simp;omega
  exact⟨b,o,n,cur,fr,by rw [hl],by omega,hlo,hh,fun i hi=>by rw [hcell i (by omega),dg_take l _ _ (by omega)]⟩
theorem trimmed_nil (w:World):Calls Tryz.prog 122 #[.slice none 0 0] w fun e w'=>e=.returned (.agg #[.slice none 0 0])∧Fr [] w w':=by
 have fA:=(Fr.refl [] w).alloc (.cells #[.slice none 0 0] 79)
 have hrow:=row_new w (.cells #[.slice none 0 0] 79)
 go_enter Tryz.func122,Tryz.ntmps122
 go_wp2
 generalize hW:w.alloc (.cells #[.slice none 0 0] 79)=W at *
 have y0:W.cell? ⟨w.heap.size,0,none⟩=some (.slice none 0 0):=by rw [cell_of_row _ _ _ _ _ _ hrow];rfl
 have z0:=frozen_of_row W w.heap.size 0 _ _ hrow
 have gs:∀ v,Fr [] w (W.setCell ⟨w.heap.size,0,none⟩ v):=fun v=>fA.after (T:=[w.heap.size]) ((Fr.refl [w.heap.size] W).setCell (.inl (by simp)) _) (by simp)
 have rs:=fun v=>heap_setCell_same W w.heap.size 0 _ _ v hrow
 have ys:∀ v,(W.setCell ⟨w.heap.size,0,none⟩ v).cell? ⟨w.heap.size,0,none⟩=some v:=fun v=>by rw [cell_of_row _ _ _ _ _ _ (rs v)];rfl
 have GS:=Go.Lib.hid gs
 clear hW fA gs rs
 go_rounds 1
 go_wp2
 (try simp only [Exit.inBlock,Exit.then])
 refine bodyPost_ret (v:=.agg #[.slice none 0 0]) (by simp [results,Tryz.results122,go_sem,ys]) rfl ?_
 exact⟨rfl,GS.out _⟩
theorem trimmed_any (w:World) (lo:Nat) (v:Value) (l:List Nat) (h:U32 w lo v l) (hn:l.length≤1099511627776) :
  Calls Tryz.prog 122 #[v] w fun e w'=>∃ v' l',e=.returned (.agg #[v'])∧U32 w' lo v' l'∧Is l' (val l)∧l'.length≤l.length∧Fr [] w w':=by
 rcases h.cases with ⟨rfl,rfl⟩ | ⟨b,o,cap,rfl,hcap,_,hc⟩
 ·refine (trimmed_nil w).mono ?_
  rintro e w' ⟨rfl,hf⟩
  exact⟨_,[],rfl,U32.nil _ _,Is.nil,Nat.le_refl _,hf⟩
 ·refine (trimmed_some b o cap l w hn hcap hc).mono ?_
  rintro e w' ⟨n,he,hnl,hN,hv,hf⟩
  rcases he with ⟨rfl,rfl⟩ | rfl
  ·exact⟨_,[],rfl,U32.nil _ _,by rw [← hv];exact Is.nil,Nat.zero_le _,hf⟩
  ·exact⟨_,l.take n,rfl,(h.fr0 hf).upto hnl,⟨h.digs.take n,hN,hv⟩,by simp;omega,hf⟩
end Go.Proofs.YtcmndpjemdjalaaGreatDoor
namespace Go.Proofs.YtcmndpjemdjalaaGreatDoor
open Go.RowKit
open Pb
def decL (l:List UInt8):Nat:=l.foldl (fun a b=>10 * a+(b.toNat - 48)) 0
def DigitsL (l:List UInt8):Prop:=∀ b∈l,48≤b.toNat∧b.toNat≤57
theorem decL_from (l:List UInt8):∀ a,l.foldl (fun a b=>10 * a+(b.toNat - 48)) a=a * 10 ^ l.length+decL l:=by
 induction l with
 | nil=>intro a;simp [decL]
 | cons b l ih =>
  intro a
  simp only [List.foldl_cons,List.length_cons,decL]
  rw [ih,ih (10 * 0+(b.toNat - 48)),Nat.pow_succ]
  grind
theorem decL_append (k l:List UInt8):decL (k++l)=decL k * 10 ^ l.length+decL l:=by
 unfold decL
 rw [List.foldl_append,decL_from]
 rfl
theorem decL_snoc (k:List UInt8) (b:UInt8):decL (k++[b])=10 * decL k+(b.toNat - 48):=by
 unfold decL
 rw [List.foldl_append]
 rfl
theorem decL_cons (b:UInt8) (l:List UInt8):decL (b :: l)=(b.toNat - 48) * 10 ^ l.length+decL l:=by
 show l.foldl (fun a b=>10 * a+(b.toNat - 48)) (10 * 0+(b.toNat - 48))=_
 rw [decL_from,Nat.mul_zero,Nat.zero_add]
theorem decL_lt:∀ (l:List UInt8),DigitsL l→decL l<10 ^ l.length
 | [],_=>by simp [decL]
 | b :: l,h=>by
  have h1:=decL_lt l (fun b hb=>h b (by simp [hb]))
  have h2:=h b (by simp)
  rw [decL_cons,List.length_cons,Nat.pow_succ]
  have h3:(b.toNat - 48) * 10 ^ l.length≤9 * 10 ^ l.length:=Nat.mul_le_mul_right _ (by omega)
  omega
theorem muladd_step (L x:List Nat) (k c f c0:Nat) (hk:k<x.length) (hkl:k<L.length)
  (hv:val (L.take k)+c * 4294967296 ^ k=val (x.take k) * f+c0) (t:Nat) (ht:t=c+dg x k * f) :
  val ((L.set k (t % 4294967296)).take (k+1))+t / 4294967296 * 4294967296 ^ (k+1)=val (x.take (k+1)) * f+c0:=by
 rw [val_take_dg _ k (by simpa using hkl),val_take_dg x k hk]
 have h1:(L.set k (t % 4294967296)).take k=L.take k:=by rw [List.take_set_of_le (by omega)]
 have h2:dg (L.set k (t % 4294967296)) k=t % 4294967296:=by simp [dg,List.getD,hkl]
 rw [h1,h2,Nat.pow_succ]
 have h3:=Nat.div_add_mod t 4294967296
 generalize 4294967296 ^ k=B at *
 generalize t % 4294967296=r at *
 generalize t / 4294967296=s at *
 grind
theorem carry_lt {c d f:Nat} (hc:c<f) (hd:d<4294967296):(c+d * f) / 4294967296<f:=by
 rw [Nat.div_lt_iff_lt_mul (by omega)]
 have:d * f≤4294967295 * f:=Nat.mul_le_mul_right _ (by omega)
 omega
theorem fr_bytes (w:World) (e:TypeId) (s:ByteArray):Fr [] w (Go.Lib.bytesWorld w e s) where
 os:=rfl
 tape:=rfl
 output:=rfl
 size:=by simp [Go.Lib.bytesWorld,World.freeze,World.alloc,World.drew,-World.alloc_eq,-World.drew_eq]
 block:=fun k hk _=>Go.Lib.bytesWorld_at_old w e s k hk
end Go.Proofs.YtcmndpjemdjalaaGreatDoor
namespace Go.Proofs.YtcmndpjemdjalaaGreatDoor
open Go.RowKit
open Pb
def OwnS (w:World) (base:Nat) (v:Value) (L:List Nat):Prop:=Digs L∧w.ownsRow base 208 1 v L.length (L.map fun x:Nat=>Value.int .u32 (x:Int))
theorem OwnS.nil (w:World) (base:Nat):OwnS w base (.slice none 0 0) []:=⟨Digs.nil,World.ownsRow_nil _ _ _ _⟩
theorem OwnS.shape {w:World} {base:Nat} {v:Value} {L:List Nat} (h:OwnS w base v L) :
  (v=.slice none 0 0∧L=[])∨∃ g cap cur,v=.slice (some ⟨g,0,none⟩) L.length cap∧base≤g∧w.heap[g]?=some (.cells cur 208 (0,0))∧L.length≤cap∧cap≤maxLen∧cur.size=cap∧∀ i,i<L.length→cur[i]?=some (.int .u32 (dg L i:Nat)):=by
 obtain⟨hd,hl,h⟩:=h
 rcases h with ⟨hv,h0⟩ | ⟨g,cap,cur,hv,hb,hh,hn,hc,hs,ht⟩
 ·exact .inl ⟨hv,List.length_eq_zero_iff.1 h0⟩
 ·refine .inr ⟨g,cap,cur,hv,hb,hh,hn,hc,by omega,fun i hi=>?_⟩
  have h1:(cur.toList.take (L.length * 1))[i]?=(L.map fun x:Nat=>Value.int .u32 (x:Int))[i]?:=by rw [ht]
  rw [List.getElem?_take_of_lt (by omega),List.getElem?_map,Array.getElem?_toList,List.getElem?_eq_getElem hi] at h1
  rw [h1,dg_get L i hi];rfl
theorem OwnS.u32 {w:World} {base:Nat} {v:Value} {L:List Nat} (h:OwnS w base v L):U32 w base v L:=by
 refine⟨h.1,?_⟩
 rcases h.shape with h | ⟨g,cap,cur,hv,hb,hh,hn,_,_,hc⟩
 ·exact .inl h
 ·exact .inr ⟨g,0,cap,cur,_,hv,hn,hb,hh,fun i hi=>by rw [Nat.zero_add];exact hc i hi⟩
theorem OwnS.kept {w w':World} {base:Nat} {v:Value} {L:List Nat} {S:List Nat} (h:OwnS w base v L) (hf:Fr S w w') (hS:∀ b∈S,some b ≠ v.ownBlock):OwnS w' base v L:=by
 obtain⟨hd,hl,h⟩:=h
 refine⟨hd,hl,?_⟩
 rcases h with h | ⟨g,cap,cur,rfl,hb,hh,h2⟩
 ·exact .inl h
 ·refine .inr ⟨g,cap,cur,rfl,hb,?_,h2⟩
  rw [hf.block g (Array.getElem?_eq_some_iff.1 hh).1 (fun hg=>hS g hg rfl)];exact hh
theorem OwnS.kept0 {w w':World} {base:Nat} {v:Value} {L:List Nat} (h:OwnS w base v L) (hf:Fr [] w w'):OwnS w' base v L:=h.kept hf (by simp)
theorem OwnS.set {w:World} {base g n cap:Nat} {L:List Nat} (h:OwnS w base (.slice (some ⟨g,0,none⟩) n cap) L) (k x:Nat) (_hk:k<L.length) (hx:x<4294967296) :
  OwnS (w.setCell ⟨g,k,none⟩ (.int .u32 (x:Int))) base (.slice (some ⟨g,0,none⟩) n cap) (L.set k x):=by
 obtain⟨hd,hl,h⟩:=h
 refine⟨hd.set k x hx,by simp,?_⟩
 rcases h with ⟨h,_⟩ | ⟨g',cap',cur,hv,hb,hh,hn,hc,hs,ht⟩
 ·simp at h
 ·simp at hv
  obtain⟨rfl,hn',rfl⟩:=hv
  refine .inr ⟨g,cap,cur.setIfInBounds k (.int .u32 x),by simp [hn'],hb,heap_setCell_same w g k _ _ _ hh,by simpa using hn,hc,by simpa using hs,?_⟩
  rw [Array.toList_setIfInBounds,List.length_set,List.take_set,ht,List.map_set]
theorem append_u32 (w:World) {ops:Array Oper} {rest:List Oper} {o:Oper} {a:Act} {Q:Exit→Act→World→Prop} (hgd:o.guard=none) (s x:Operand)
  (ho:o.op=.call { callee:=.builtin .append,args:=#[s,x],argTypes:=#[77,77] }) (base:Nat) (v:Value) (L:List Nat) (hs:a.eval s=v) (hown:OwnS w base v L)
  (b c y:Nat) (hx:a.eval x=.slice (some ⟨b,0,none⟩) 1 c) (hy:y<4294967296) (hcell:w.cell? ⟨b,0,none⟩=some (.int .u32 (y:Int))) (hl:L.length≤1099511627776) (hbase:base≤w.heap.size)
  (h:∀ v' w',OwnS w' base v' (L++[y])→(∀ S,(∀ g,v.ownBlock=some g→g∈S)→Fr S w w')→wpList Tryz.prog ops Q rest (a.put o.dst v') w'):wpList Tryz.prog ops Q (o :: rest) a w:=by
 obtain⟨i0,hi,hz0,hz1,hz2⟩:=info_parts info_u32
 refine wpList_append_own w hgd s x 77 ho base 208 i0 (.int .u32 0) 1 4 und_u32s hi hz0 hz1 hz2 rfl (by decide) v L.length _ hs hown.2 ⟨b,0,none⟩ 1 c [.int .u32 (y:Int)] hx rfl ?_ ?_ (by unfold maxLen;omega) (by omega) hbase ?_
 ·intro j u hj
  match j,hj with
  | 0,hj=>simp at hj;subst hj;simpa [Addr.add] using hcell
 ·intro u hu;simp at hu;subst hu;rfl
 ·intro v' w' h1 h2 _
  refine h v' w' ⟨?_,by simpa using h1⟩ (fun S hS=>⟨h2.os,h2.tape,h2.output,h2.size,fun k hk hkS=>h2.block k hk (fun he=>hkS (hS k he.symm))⟩)
  intro d hd
  rcases List.mem_append.1 hd with hd | hd
  ·exact hown.1 d hd
  ·simp at hd;omega
end Go.Proofs.YtcmndpjemdjalaaGreatDoor
