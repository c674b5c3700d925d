/- Laws that the claimed theorem leans on: no condition of their own beyond their hypotheses. -/
import Derived.Shelf.Small.Utf8
import Derived.Shelf.Small.Bits
import Derived.Shelf.Small.Strs
import Derived.Shelf.Small.Wraps
import Derived.Shelf.Strconv.Itoa0
import Derived.Shelf.Strings.Search1
import Derived.Shelf.Strings.Search2
import Derived.Shelf.Strings.Search3
import Derived.Shelf.Strings.Cut
import Derived.Shelf.Strings.Count
import Derived.Shelf.LaysM
import Derived.Shelf.Strings.Shaped
import Derived.Shelf.Strings.Prefix
import Derived.Shelf.Strings.Runes
import Derived.Shelf.Strings.AsciiSet
import Derived.Shelf.Unicode.DecodeSlow
import Derived.Test.YtcmndpjemdjalaaGreatDoorProg
import Derived.StillTail
import Derived.Tactics
import Derived.Test.YtcmndpjemdjalaaGreatDoorMaaa
set_option maxRecDepth 100000
set_option maxHeartbeats 16000000
namespace Go.Proofs
open Go.Shelf
def Tryz.lays128_ren:Go.Shelf.Ren:=⟨fun | 128=>174 | n=>n,fun | 51=>208 | 3=>3 | 4=>4 | 46=>233 | 5=>5 | 9=>9 | n=>n,fun | n=>n⟩
theorem Tryz.lays128:Go.Proofs.Lays.n128 Tryz.prog Tryz.lays128_ren:={
 mixed:=by kernel_rfl
 f128:=Tryz.func174.trans (congrArg some (by kernel_rfl))
 t3:=Tryz.underlying3
 a3:=Tryz.isAgg3
 z3:=Tryz.sizeOf3
 v3:=Tryz.zeroValue3
 t4:=Tryz.underlying4
 a4:=Tryz.isAgg4
 z4:=Tryz.sizeOf4
 v4:=Tryz.zeroValue4
 t5:=Tryz.underlying5
 a5:=Tryz.isAgg5
 z5:=Tryz.sizeOf5
 v5:=Tryz.zeroValue5
 t9:=Tryz.underlying9
 a9:=Tryz.isAgg9
 z9:=Tryz.sizeOf9
 v9:=Tryz.zeroValue9
 t46:=Tryz.underlying233
 a46:=Tryz.isAgg233
 z46:=Tryz.sizeOf233
 v46:=Tryz.zeroValue233
 t51:=Tryz.underlying208
 a51:=Tryz.isAgg208
 z51:=Tryz.sizeOf208
 v51:=Tryz.zeroValue208 }
theorem Tryz.bits_Len32 (x:Int) (w:World) (h0:0≤x) (h1:x≤4294967295) :
  Calls Tryz.prog 174 #[.int .u32 x] w fun e w'=>e=.returned (.int .i64 (Lib.bitLen x.toNat))∧w'=w:=Any.bits_Len32 Tryz.lays128 x w h0 h1
def Tryz.lays133_ren:Go.Shelf.Ren:=⟨fun | 133=>279 | 128=>174 | n=>n,fun | 51=>208 | 3=>3 | 4=>4 | 46=>233 | 5=>5 | 9=>9 | n=>n,fun | n=>n⟩
theorem Tryz.lays133:Go.Proofs.Lays.n133 Tryz.prog Tryz.lays133_ren:={
 mixed:=by kernel_rfl
 f128:=Tryz.func174.trans (congrArg some (by kernel_rfl))
 f133:=Tryz.func279.trans (congrArg some (by kernel_rfl))
 t3:=Tryz.underlying3
 a3:=Tryz.isAgg3
 z3:=Tryz.sizeOf3
 v3:=Tryz.zeroValue3
 t4:=Tryz.underlying4
 a4:=Tryz.isAgg4
 z4:=Tryz.sizeOf4
 v4:=Tryz.zeroValue4
 t5:=Tryz.underlying5
 a5:=Tryz.isAgg5
 z5:=Tryz.sizeOf5
 v5:=Tryz.zeroValue5
 t9:=Tryz.underlying9
 a9:=Tryz.isAgg9
 z9:=Tryz.sizeOf9
 v9:=Tryz.zeroValue9
 t46:=Tryz.underlying233
 a46:=Tryz.isAgg233
 z46:=Tryz.sizeOf233
 v46:=Tryz.zeroValue233
 t51:=Tryz.underlying208
 a51:=Tryz.isAgg208
 z51:=Tryz.sizeOf208
 v51:=Tryz.zeroValue208 }
theorem Tryz.bits_LeadingZeros32 (x:Int) (w:World) (h0:0≤x) (h1:x≤4294967295) :
  Calls Tryz.prog 279 #[.int .u32 x] w fun e w'=>e=.returned (.int .i64 (32 - (Lib.bitLen x.toNat:Int)))∧w'=w:=Any.bits_LeadingZeros32 Tryz.lays133 x w h0 h1
end Go.Proofs
namespace Go.Proofs.YtcmndpjemdjalaaGreatDoor
open Go
section
variable {P:Program} {ops:Array Oper} {md:Region.Mode}
def fill (vs:Nat→Value):List Oper→Nat→Act→Act
 | [],_,a=>a
 | o :: l,k,a=>fill vs l (k+1) (a.put o.dst (vs k))
def depsB (md:Region.Mode) (ops:Array Oper) (n:Nat):Bool :=
 (List.range n).all fun i=>match ops[i]? with
  | none=>false
  | some o =>
   (o.after.all fun e=>!Region.binds md e || decide (e.on<i)) &&
   ((o.looksAt ops).all fun t=>(List.range n).all fun j=>match ops[j]? with
    | some oj=>!(oj.dst==some t) || Region.waitsFor md ops i j
    | none=>true)
def dstsB (ops:Array Oper) (n:Nat):Bool :=
 (List.range n).all fun i=>(List.range n).all fun j=>decide (i=j) || match ops[i]?,ops[j]? with
  | some oi,some oj=>oi.dst.isNone || !(oi.dst==oj.dst)
  | _,_=>true
def headDone (n m:Nat):Array Bool:=((List.replicate n true)++(List.replicate m false)).toArray
def monoB (md:Region.Mode) (ops:Array Oper) (n:Nat):Bool :=
 Region.noSelect ops && decide (n≤ops.size) && (decide (n=ops.size) || (Region.sinkB md ops n && Region.chainB md ops n)) && depsB md ops n && dstsB ops n &&
  Region.seqB md ops (ops.size - n) n (headDone n (ops.size - n))
theorem put_tmps (a:Act) (d:Option Tmp) (v:Value) (t:Nat):(a.put d v).tmps[t]?=if d=some t∧t<a.tmps.size then some v else a.tmps[t]?:=by
 cases d with
 | none=>simp [Act.put]
 | some d =>
  simp only [Act.put]
  by_cases h:d=t
  ·subst h
   by_cases h2:d<a.tmps.size
   ·simp [h2]
   ·simp [h2]
  ·rw [Array.getElem?_setIfInBounds_ne h];simp [h]
theorem put_size (a:Act) (d:Option Tmp) (v:Value):(a.put d v).tmps.size=a.tmps.size:=by cases d <;> simp [Act.put]
theorem put_defers (a:Act) (d:Option Tmp) (v:Value):(a.put d v).defers=a.defers:=by cases d <;> rfl
theorem fill_size (vs:Nat→Value):∀ (l:List Oper) (k:Nat) (a:Act),(fill vs l k a).tmps.size=a.tmps.size
 | [],_,_=>rfl
 | o :: l,k,a=>by rw [fill,fill_size vs l,put_size]
theorem fill_defers (vs:Nat→Value):∀ (l:List Oper) (k:Nat) (a:Act),(fill vs l k a).defers=a.defers
 | [],_,_=>rfl
 | o :: l,k,a=>by rw [fill,fill_defers vs l,put_defers]
theorem fill_other (vs:Nat→Value):∀ (l:List Oper) (k:Nat) (a:Act) (t:Nat),(∀ o∈l,o.dst ≠ some t)→(fill vs l k a).tmps[t]?=a.tmps[t]?
 | [],_,_,_,_=>rfl
 | o :: l,k,a,t,h=>by
  rw [fill,fill_other vs l _ _ _ (fun o' ho'=>h o' (by simp [ho'])),put_tmps]
  simp [h o (by simp)]
theorem fill_at (vs:Nat→Value):∀ (l:List Oper) (k:Nat) (a:Act) (j t:Nat) (o:Oper),l[j]?=some o→o.dst=some t→t<a.tmps.size →
  (∀ i oi,l[i]?=some oi→oi.dst=some t→i=j)→(fill vs l k a).tmps[t]?=some (vs (k+j))
 | [],_,_,_,_,_,h,_,_,_=>by simp at h
 | x :: l,k,a,j,t,o,h,hd,ht,hu=>by
  rw [fill]
  cases j with
  | zero =>
   have hx:x=o:=by simpa using h
   subst hx
   rw [fill_other vs l _ _ _ ?_,put_tmps]
   ·simp [hd,ht]
   ·intro o' ho' hc
    obtain⟨i,hi,he⟩:=List.getElem_of_mem ho'
    have:=hu (i+1) o' (by simp [hi,he]) hc
    omega
  | succ j =>
   rw [fill_at vs l (k+1) _ j t o (by simpa using h) hd (by rw [put_size];exact ht) ?_]
   ·congr 1;congr 1;omega
   ·intro i oi hi hc
    have:=hu (i+1) oi (by simpa using hi) hc
    omega
structure Mid (ops:Array Oper) (n:Nat) (a:Act) (listed:Array Bool) (vs:Nat→Value) (b:Act):Prop where
 defers:b.defers=a.defers
 size:b.tmps.size=a.tmps.size
 other:∀ t,(∀ j o,j<n→ops[j]?=some o→o.dst=some t→listed.getD j false=false)→b.tmps[t]?=a.tmps[t]?
 done:∀ j o t,j<n→ops[j]?=some o→listed.getD j false=true→o.dst=some t→t<a.tmps.size→b.tmps[t]?=some (vs j)
theorem dsts_spec {n:Nat} (h:dstsB ops n=true) {i j:Nat} {oi oj:Oper} {t:Nat} (hi:i<n) (hj:j<n) (hoi:ops[i]?=some oi) (hoj:ops[j]?=some oj) (hdi:oi.dst=some t) (hdj:oj.dst=some t):i=j:=by
 have h1:=List.all_eq_true.1 (List.all_eq_true.1 h i (List.mem_range.2 hi)) j (List.mem_range.2 hj)
 simp [hoi,hoj,hdi,hdj] at h1
 exact h1
theorem deps_lt {n:Nat} (h:depsB md ops n=true) {i:Nat} {o:Oper} (hi:i<n) (ho:ops[i]?=some o):∀ e∈o.after,Region.binds md e=true→e.on<i:=by
 have h1:=List.all_eq_true.1 h i (List.mem_range.2 hi)
 simp only [ho,Bool.and_eq_true] at h1
 intro e he hb
 have h2:=(Array.all_eq_true_iff_forall_mem.1 h1.1) e he
 simpa [hb] using h2
theorem deps_waits {n:Nat} (h:depsB md ops n=true) {i j:Nat} {o oj:Oper} {t:Nat} (hi:i<n) (hj:j<n) (ho:ops[i]?=some o) (hoj:ops[j]?=some oj) (ht:t∈o.looksAt ops) (hd:oj.dst=some t):Region.waitsFor md ops i j=true:=by
 have h1:=List.all_eq_true.1 h i (List.mem_range.2 hi)
 simp only [ho,Bool.and_eq_true] at h1
 have h2:=List.all_eq_true.1 (List.all_eq_true.1 h1.2 t ht) j (List.mem_range.2 hj)
 simpa [hoj,hd] using h2
theorem waits_listed {i j:Nat} {listed:Array Bool} (hr:i∈Region.ready md ops listed) (h:Region.waitsFor md ops i j=true):listed.getD j false=true:=by
 obtain⟨_,o,ho,hall⟩:=mem_ready.1 hr
 obtain⟨o',ho',e,he,hb,hon⟩:=Region.waitsFor_spec h
 have:o=o':=Option.some.inj (ho.symm.trans ho')
 subst this
 rw [← hon];exact hall e he hb
theorem Mid.same {n:Nat} {a b:Act} {listed:Array Bool} {vs:Nat→Value} (m:Mid ops n a listed vs b) (hdep:depsB md ops n=true) (hdst:dstsB ops n=true) (hn:n≤ops.size)
  {i:Nat} {o:Oper} (hi:i<n) (ho:ops[i]?=some o) (hr:i∈Region.ready md ops listed) :
  ∀ t∈o.looksAt ops,b.tmps[t]?=(fill vs (ops.toList.take n) 0 a).tmps[t]?:=by
 intro t ht
 by_cases hex:∃ j oj,j<n∧ops[j]?=some oj∧oj.dst=some t
 ·obtain⟨j,oj,hj,hoj,hd⟩:=hex
  have hl:=waits_listed hr (deps_waits hdep hi hj ho hoj ht hd)
  by_cases hts:t<a.tmps.size
  ·rw [m.done j oj t hj hoj hl hd hts]
   have:=fill_at vs (ops.toList.take n) 0 a j t oj (by simp [hj,hoj]) hd hts (fun k ok hk hdk=>by
    have hkn:k<n:=by
     have:=(List.getElem?_eq_some_iff.1 hk).1
     simp at this;omega
    have hok:ops[k]?=some ok:=by simpa [List.getElem?_take,hkn] using hk
    exact dsts_spec hdst hkn hj hok hoj hdk hd)
   rw [this,Nat.zero_add]
  ·rw [Array.getElem?_eq_none (show b.tmps.size≤t from m.size ▸ Nat.le_of_not_lt hts),Array.getElem?_eq_none (show (fill vs (ops.toList.take n) 0 a).tmps.size≤t from (fill_size vs (ops.toList.take n) 0 a).symm ▸ Nat.le_of_not_lt hts)]
 ·rw [m.other t (fun j oj hj hoj hd=>absurd ⟨j,oj,hj,hoj,hd⟩ hex),fill_other]
  intro o' ho' hd
  obtain⟨k,hk,he⟩:=List.getElem_of_mem ho'
  have hkn:k<n:=by simp at hk;omega
  exact hex ⟨k,o',hkn,by
   have:(ops.toList.take n)[k]?=some o':=by rw [List.getElem?_eq_getElem hk,he]
   simpa [List.getElem?_take,hkn] using this,hd⟩
theorem eval_same {a b:Act} {o:Oper} (h:∀ t∈o.looksAt ops,b.tmps[t]?=a.tmps[t]?):∀ x∈o.op.operands,b.eval x=a.eval x:=by
 intro x hx
 cases x with
 | tmp t =>
  have:t∈o.looksAt ops:=List.mem_append_left _ (List.mem_filterMap.2 ⟨.tmp t,by simpa using hx,rfl⟩)
  simp [Act.eval,h t this]
 | _=>rfl
theorem wanted_same {a b:Act} {o:Oper} (h:∀ t∈o.looksAt ops,b.tmps[t]?=a.tmps[t]?):Region.wanted o (yielded ops b.tmps)=Region.wanted o (yielded ops a.tmps):=by
 unfold Region.wanted
 cases hg:o.guard with
 | none=>rfl
 | some gw =>
  obtain⟨g,want⟩:=gw
  have hy:yielded ops b.tmps g=yielded ops a.tmps g:=by
   unfold yielded
   cases ht:(ops[g]?).bind (·.dst) with
   | none=>rfl
   | some t =>
    have hm:t∈o.looksAt ops:=by simp [Oper.looksAt,hg,ht]
    simp [h t hm]
  simp only [hy]
theorem Mid.next {n:Nat} {a b:Act} {listed:Array Bool} {vs:Nat→Value} (m:Mid ops n a listed vs b) (hdst:dstsB ops n=true)
  {i:Nat} {o:Oper} (hi:i<n) (ho:ops[i]?=some o) (hun:listed.getD i false=false) (hsz:i<listed.size) {v v':Value} (hv:∀ t,o.dst=some t→t<a.tmps.size→v=v') :
  Mid ops n a (listed.setIfInBounds i true) (fun k=>if k=i then v' else vs k) (b.put o.dst v):=by
 refine⟨(put_defers _ _ _).trans m.defers,(put_size _ _ _).trans m.size,fun t ht=>?_,fun j oj t hj hoj hl hd hts=>?_⟩
 ·rw [put_tmps]
  have hne:o.dst ≠ some t:=fun hd=>by
   have:=ht i o hi ho hd
   simp [hsz] at this
  simp only [hne,false_and,if_false]
  refine m.other t (fun j oj hj hoj hd=>?_)
  have:=ht j oj hj hoj hd
  by_cases hij:i=j
  ·subst hij;exact hun
  ·rwa [Go.getD_set_ne false hij] at this
 ·rw [put_tmps]
  by_cases hij:i=j
  ·subst hij
   have:o=oj:=Option.some.inj (ho.symm.trans hoj)
   subst this
   simp [hd,m.size,hts,hv t hd hts]
  ·have hne:o.dst ≠ some t:=fun hdi=>hij (dsts_spec hdst hi hj ho hoj hdi hd)
   simp only [hne,false_and,if_false,if_neg (fun h:j=i=>hij h.symm)]
   rw [Go.getD_set_ne false hij] at hl
   exact m.done j oj t hj hoj hl hd hts
def Gives (P:Program) (ops:Array Oper) (o:Oper) (A:Act) (w:World) (G:Value→World→Prop):Prop :=
 ∀ K:Act→World→Prop,(∀ v w',G v w'→K (A.put o.dst v) w') →
  if Region.wanted o (yielded ops A.tmps)=true then Oper.wp P o A w K (fun _ _ _=>False) else K (A.put o.dst undef) w
theorem Gives.step {o:Oper} {A b:Act} {w:World} {G:Value→World→Prop} {Q:Exit→Act→World→Prop} {K':Act→World→Prop} {i:Nat} (h:Gives P ops o A w G) (hi:ops[i]?=some o)
  (he:execOp b.eval o=execOp A.eval o) (hw:Region.wanted o (yielded ops b.tmps)=Region.wanted o (yielded ops A.tmps))
  (hK:∀ v w',(∃ v',G v' w'∧A.put o.dst v=A.put o.dst v')→K' (b.put o.dst v) w'):wpOp P ops Q i K' b w:=by
 have h1:=h (fun a' w'=>∃ v,a'=A.put o.dst v∧G v w') (fun v w' hg=>⟨v,rfl,hg⟩)
 unfold wpOp
 simp only [hi]
 rw [hw]
 split
 ·rename_i hwd
  simp only [hwd,if_true] at h1
  refine .inl ?_
  unfold Oper.wp at *
  rw [he]
  generalize (execOp A.eval o).run P w=r at *
  cases r with
  | ok x w' =>
   cases x <;> simp only [Oper.upon] at h1 ⊢
   case value v=>obtain⟨v',h2,h3⟩:=h1;exact hK _ _ ⟨v',h3,h2⟩
   case skip=>obtain⟨v',h2,h3⟩:=h1;exact hK _ _ ⟨v',h3,h2⟩
   case defer d =>
    obtain⟨v',h2,h3⟩:=h1
    have h4:=congrArg Act.defers h2
    rw [put_defers,put_defers] at h4
    exact absurd (congrArg List.length h4) (by simp)
   case enter f args =>
    refine Calls.mono h1 fun e w'' h2=>?_
    cases e with
    | returned v=>obtain⟨v',h3,h4⟩:=h2;exact hK _ _ ⟨v',h4,h3⟩
    | panicked c=>exact h2.elim
    | outgrown=>obtain⟨_,_,h3⟩:=h2;exact h3.elim
   case row row args=>exact Rows.mono h1 fun v w'' h2=>by obtain⟨v',h3,h4⟩:=h2;exact hK _ _ ⟨v',h4,h3⟩
  | halt x w'=>cases x <;> simp only [Oper.upon] at h1
 ·rename_i hwd
  simp only [hwd] at h1
  obtain⟨v',h2,h3⟩:=h1
  exact hK _ _ ⟨v',h3,h2⟩
theorem put_inj {A:Act} {d:Option Tmp} {v v':Value} (h:A.put d v=A.put d v'):∀ t,d=some t→t<A.tmps.size→v=v':=by
 intro t hd ht
 have h1:=congrArg (fun a:Act=>a.tmps[t]?) h
 simp only [put_tmps,hd,ht,and_self,if_true] at h1
 exact Option.some.inj h1
def left:Nat→Array Bool→Nat
 | 0,_=>0
 | n+1,l=>left n l+(if l.getD n false then 0 else 1)
theorem left_set_ge {i:Nat} {l:Array Bool}:∀ {n:Nat},n≤i→left n (l.setIfInBounds i true)=left n l
 | 0,_=>rfl
 | n+1,h=>by simp only [left];rw [left_set_ge (by omega),Go.getD_set_ne false (by omega)]
theorem left_set {i:Nat} {l:Array Bool} (hs:i<l.size) (hun:l.getD i false=false):∀ {n:Nat},i<n→left n l=left n (l.setIfInBounds i true)+1
 | 0,h=>by omega
 | n+1,h=>by
  simp only [left]
  by_cases hin:i=n
  ·subst hin
   rw [left_set_ge (Nat.le_refl _)]
   have:(l.setIfInBounds i true).getD i false=true:=by simp [hs]
   simp [hun,this]
  ·rw [left_set hs hun (show i<n by omega),Go.getD_set_ne false hin];omega
theorem left_zero {l:Array Bool}:∀ {n:Nat},left n l=0→∀ i,i<n→l.getD i false=true
 | 0,_,i,h=>by omega
 | n+1,h0,i,h=>by
  simp only [left] at h0
  by_cases hin:i=n
  ·subst hin
   cases hl:l.getD i false with
   | true=>rfl
   | false=>rw [hl] at h0;simp at h0
  ·exact left_zero (Nat.add_eq_zero_iff.1 h0).1 i (by omega)
theorem left_pos {l:Array Bool}:∀ {n:Nat},left n l ≠ 0→∃ i,i<n∧l.getD i false=false∧∀ k,k<i→l.getD k false=true
 | 0,h=>by simp [left] at h
 | n+1,h=>by
  by_cases h0:left n l=0
  ·refine⟨n,by omega,?_,left_zero h0⟩
   simp only [left,h0] at h
   cases hl:l.getD n false with
   | false=>rfl
   | true=>rw [hl] at h;simp at h
  ·obtain⟨i,h1,h2⟩:=left_pos h0
   exact⟨i,by omega,h2⟩
theorem left_replicate (m:Nat):∀ n,left n (Array.replicate m false)=n
 | 0=>rfl
 | n+1=>by simp only [left];rw [left_replicate m n,getD_replicate_false];simp
theorem headDone_eq {n:Nat} {listed:Array Bool} (hn:n≤ops.size) (hinv:HeadInv md ops n listed) (h:∀ i,i<n→listed.getD i false=true):listed=headDone n (ops.size - n):=by
 apply Array.ext
 ·simp [headDone,hinv.size];omega
 ·intro i h1 h2
  have hsz:=hinv.size
  by_cases hi:i<n
  ·have h3:=h i hi
   simp [h1] at h3
   simp [headDone,h3,hi]
  ·have h3:=hinv.tail i (by omega) (by omega)
   simp [h1] at h3
   simp [headDone,h3,List.getElem_append,hi]
theorem wpAny_mono {Q:Exit→Act→World→Prop} {a:Act} (n:Nat) (R:Nat→Value→World→Prop) (pre:Nat→World→Prop) (E:Nat→World→World→Prop) (G:World→Prop)
  (hB:monoB md ops n=true)
  (hpre:∀ i j,i<n→j<n→i ≠ j→∀ w w',pre i w→E j w w'→pre i w')
  (hR:∀ i j,i<n→j<n→i ≠ j→Region.waitsFor md ops i j=false→∀ v w w',R i v w→E j w w'→R i v w')
  (hG:∀ j,j<n→∀ w w',G w→E j w w'→G w')
  (hstep:∀ i o,i<n→ops[i]?=some o→∀ vs w,G w→pre i w→(∀ j,j<n→Region.waitsFor md ops i j=true→R j (vs j) w)→Gives P ops o (fill vs (ops.toList.take n) 0 a) w (fun v w'=>R i v w'∧E i w w'))
  (hfin:∀ vs w,G w→(∀ j,j<n→R j (vs j) w)→wpList P ops Q (ops.toList.drop n) (fill vs (ops.toList.take n) 0 a) w) :
  ∀ (f:Nat) (listed:Array Bool) (vs:Nat→Value) (b:Act) (w:World),HeadInv md ops n listed→Mid ops n a listed vs b→G w →
   (∀ i,i<n→listed.getD i false=false→pre i w)→(∀ i,i<n→listed.getD i false=true→R i (vs i) w)→left n listed=f →
   wpAny P md ops Q (f+(ops.size - n)) listed b w:=by
 simp only [monoB,Bool.and_eq_true,decide_eq_true_eq,Bool.or_eq_true] at hB
 obtain⟨⟨⟨⟨⟨hsel,hn⟩,htail⟩,hdep⟩,hdst⟩,hseq⟩:=hB
 intro f
 induction f with
 | zero =>
  intro listed vs b w hinv hmid hg _ hRs hf
  have hall:=left_zero hf
  have hl:=headDone_eq hn hinv hall
  have hb:b=fill vs (ops.toList.take n) 0 a:=by
   have hd:b.defers=(fill vs (ops.toList.take n) 0 a).defers:=hmid.defers.trans (fill_defers _ _ _ _).symm
   have ht:b.tmps=(fill vs (ops.toList.take n) 0 a).tmps:=by
    apply Array.ext_getElem?
    intro t
    by_cases hex:∃ j oj,j<n∧ops[j]?=some oj∧oj.dst=some t
    ·obtain⟨j,oj,hj,hoj,hd⟩:=hex
     by_cases hts:t<a.tmps.size
     ·rw [hmid.done j oj t hj hoj (hall j hj) hd hts]
      have:=fill_at vs (ops.toList.take n) 0 a j t oj (by simp [hj,hoj]) hd hts (fun k ok hk hdk=>by
       have hkn:k<n:=by
        have:=(List.getElem?_eq_some_iff.1 hk).1
        simp at this;omega
       have hok:ops[k]?=some ok:=by simpa [List.getElem?_take,hkn] using hk
       exact dsts_spec hdst hkn hj hok hoj hdk hd)
      rw [this,Nat.zero_add]
     ·rw [Array.getElem?_eq_none (show b.tmps.size≤t by have:=hmid.size;omega),Array.getElem?_eq_none (show (fill vs (ops.toList.take n) 0 a).tmps.size≤t by have:=fill_size vs (ops.toList.take n) 0 a;omega)]
    ·rw [hmid.other t (fun j oj hj hoj hd=>absurd ⟨j,oj,hj,hoj,hd⟩ hex),fill_other]
     intro o' ho' hd
     obtain⟨k,hk,he⟩:=List.getElem_of_mem ho'
     have hkn:k<n:=by simp at hk;omega
     exact hex ⟨k,o',hkn,by
      have:(ops.toList.take n)[k]?=some o':=by rw [List.getElem?_eq_getElem hk,he]
      simpa [List.getElem?_take,hkn] using this,hd⟩
   cases b;cases hfl:fill vs (ops.toList.take n) 0 a
   rw [hfl] at hd ht
   simp only at hd ht
   rw [hd,ht]
  subst hb
  have h1:=hfin vs w hg (fun j hj=>hRs j hj (hall j hj))
  have h2:=wpAny_of_seq (md:=md) (Q':=Q) (ops.toList.drop n) n listed _ w (fun j=>by simp [List.getElem?_drop]) (by rw [hl];simpa using hseq) h1
  rw [Nat.zero_add]
  simpa using h2
 | succ f ih =>
  intro listed vs b w hinv hmid hg hps hRs hf
  obtain⟨i0,hi0,hun0,hmin⟩:=left_pos (show left n listed ≠ 0 by omega)
  have hready0:i0∈Region.ready md ops listed:=by
   obtain⟨o0,ho0⟩:∃ o0,ops[i0]?=some o0:=⟨ops[i0],by simp [show i0<ops.size by omega]⟩
   exact mem_ready.2 ⟨getD_in (by have:=hinv.size;omega) hun0,o0,ho0,fun e he hb=>hmin _ (deps_lt hdep hi0 ho0 e he hb)⟩
  rw [show f+1+(ops.size - n)=(f+(ops.size - n))+1 by omega]
  refine⟨fun h=>(by rw [h] at hready0;cases hready0),fun i hi=>?_⟩
  have hin:i<n:=by
   rcases htail with h | ⟨hs,hc⟩
   ·obtain⟨_,o,ho,_⟩:=mem_ready.1 hi
    have:=(Array.getElem?_eq_some_iff.1 ho).1
    omega
   ·rcases Nat.lt_or_ge i n with h | h
    ·exact h
    ·have hnl:n<ops.size:=by
      obtain⟨_,o,ho,_⟩:=mem_ready.1 hi
      have:=(Array.getElem?_eq_some_iff.1 ho).1
      omega
     exact absurd hi (tail_waits hs hc hnl hinv _ i0 rfl hi0 (getD_in (by have:=hinv.size;omega) hun0) i h)
  obtain⟨hun,o,ho,hall⟩:=mem_ready.1 hi
  have hunf:=getD_both hun
  have hsame:=hmid.same hdep hdst hn hin ho hi
  have hst:=hstep i o hin ho vs w hg (hps i hin hunf) (fun j hj hw=>hRs j hj (waits_listed hi hw))
  have hsz:i<listed.size:=by have:=hinv.size;omega
  refine hst.step ho (execOp_congr o (fun cs b=>Region.noSelect_spec hsel i o cs b ho) (eval_same hsame)) (wanted_same hsame) ?_
  rintro v w' ⟨v',⟨hr,he⟩,hput⟩
  refine ih _ (fun k=>if k=i then v' else vs k) _ w' (hinv.set hi hin) (hmid.next hdst hin ho hunf hsz (fun t hd hts=>put_inj hput t hd (by rw [fill_size];exact hts))) (hG i hin w w' hg he) ?_ ?_ (by have:=left_set hsz hunf hin;omega)
  ·intro k hk hku
   by_cases hki:k=i
   ·subst hki;simp [hsz] at hku
   ·exact hpre k i hk hin hki w w' (hps k hk (by rwa [Go.getD_set_ne false (Ne.symm hki)] at hku)) he
  ·intro k hk hkl
   by_cases hki:k=i
   ·subst hki;simpa using hr
   ·rw [Go.getD_set_ne false (Ne.symm hki)] at hkl
    simp only [if_neg hki]
    refine hR k i hk hin hki ?_ _ w w' (hRs k hk hkl) he
    cases hw:Region.waitsFor md ops k i with
    | false=>rfl
    | true =>
     obtain⟨ok,hok,e,he',hb',hon⟩:=Region.waitsFor_spec hw
     have:=hinv.closed k ok hok hkl e he' hb'
     rw [hon,hunf] at this
     cases this
end
end Go.Proofs.YtcmndpjemdjalaaGreatDoor
namespace Go.Proofs.YtcmndpjemdjalaaGreatDoor
open Go
def Lasts (S:List Nat) (r:Value→World→Prop):Prop:=∀ v w w',r v w→Fr S w w'→r v w'
def Just (c:Value):Value→World→Prop:=fun v _=>v=c
theorem Just.lasts (S:List Nat) (c:Value):Lasts S (Just c):=fun _ _ _ h _=>h
def IsW (n:Nat):Value→World→Prop:=fun v w=>∃ l,U32 w 0 v l∧Is l n
theorem IsW.lasts (n:Nat):Lasts [] (IsW n):=fun _ _ _ ⟨l,h,hi⟩ hf=>⟨l,h.fr0 hf,hi⟩
def Any:Value→World→Prop:=fun _ _=>True
theorem Any.lasts (S:List Nat):Lasts S Any:=fun _ _ _ _ _=>trivial
theorem Fr.stay {S:List Nat} {w w':World} (hf:Fr S w w') {p:Addr} {v:Value} (h:w.cell? p=some v) (hs:p.block ∉ S):w'.cell? p=some v :=
 (hf.cell (World.block_lt_of_cell? w p h) hs).trans h
theorem Fr.stayd {w w':World} (hf:Fr [] w.drew w') {p:Addr} {v:Value} (h:w.cell? p=some v):w'.cell? p=some v :=
 hf.stay (w:=w.drew) h (by simp)
theorem Fr.row {S:List Nat} {w w':World} (hf:Fr S w w') {b:Nat} {o:Obj} (h:w.heap[b]?=some o) (hs:b ∉ S):w'.heap[b]?=some o :=
 (hf.block b (Array.getElem?_eq_some_iff.1 h).1 hs).trans h
theorem row_new (w:World) (o:Obj):(w.alloc o).heap[w.heap.size]?=some o:=by unfold World.alloc;simp
theorem cell_new (w:World) (cs:Array Value) (t:TypeId) (f:Nat × Nat) (i:Nat) (v:Value) (h:cs[i]?=some v):(w.alloc (.cells cs t f)).cell? ⟨w.heap.size,i,none⟩=some v:=by
 rw [cell_of_row _ w.heap.size i cs t f (row_new w _)];exact h
def Held (Rs:List (Value→World→Prop)) (vs:Nat→Value) (w:World):List Nat→Prop
 | []=>True
 | j :: js=>Rs.getD j Any (vs j) w∧Held Rs vs w js
def HeldAll (vs:Nat→Value) (w:World):List (Value→World→Prop)→Nat→Prop
 | [],_=>True
 | r :: rs,k=>r (vs k) w∧HeldAll vs w rs (k+1)
def Yield (P:Program) (o:Oper) (A:Act) (w:World) (G:Value→World→Prop):Prop :=
 ∀ K:Act→World→Prop,(∀ v w',G v w'→K (A.put o.dst v) w')→Oper.wp P o A w K (fun _ _ _=>False)
theorem Yield.gives {P:Program} {ops:Array Oper} {o:Oper} {A:Act} {w:World} {G:Value→World→Prop} (hg:o.guard=none) (h:Yield P o A w G):Gives P ops o A w G:=fun K hK=>by
 have:Region.wanted o (yielded ops A.tmps)=true:=by simp [Region.wanted,hg]
 simp only [this,if_true]
 exact h K hK
def unguarded (l:List Oper):Bool:=l.all fun o=>o.guard.isNone
def Chain (S:List Nat) (Y:Oper→Act→World→(Value→World→Prop)→Prop) (w0:World) (A:(Nat→Value)→Act) (F:List (Value→World→Prop)→Prop):List Oper→List (List Nat)→List (Option (Value→World→Prop))→List (Value→World→Prop)→Prop
 | o :: l,d :: ds,none :: rs,acc=>∃ c,(∀ vs w,Fr S w0 w→Held acc vs w d→Y o (A vs) w (fun v w'=>v=c∧Fr S w w'))∧Chain S Y w0 A F l ds rs (acc++[Just c])
 | o :: l,d :: ds,some r :: rs,acc=>Lasts S r∧(∀ vs w,Fr S w0 w→Held acc vs w d→Y o (A vs) w (fun v w'=>r v w'∧Fr S w w'))∧Chain S Y w0 A F l ds rs (acc++[r])
 | [],_,_,acc=>F acc
 | _,_,_,_=>False
def depsOk (md:Region.Mode) (ops:Array Oper) (n:Nat) (ds:List (List Nat)):Bool :=
 (List.range n).all fun i=>(ds.getD i []).all fun j=>decide (j<i) && Region.waitsFor md ops i j
theorem HeldAll.mk {vs:Nat→Value} {w:World}:∀ (rs:List (Value→World→Prop)) (k:Nat),(∀ j,j<rs.length→rs.getD j Any (vs (k+j)) w)→HeldAll vs w rs k
 | [],_,_=>trivial
 | r :: rs,k,h=>⟨by simpa using h 0 (by simp),HeldAll.mk rs (k+1) (fun j hj=>by have:=h (j+1) (by simpa using hj);simpa [Nat.add_assoc,Nat.add_comm 1 j] using this)⟩
theorem Held.mk {Rs:List (Value→World→Prop)} {vs:Nat→Value} {w:World}:∀ (d:List Nat),(∀ j∈d,Rs.getD j Any (vs j) w)→Held Rs vs w d
 | [],_=>trivial
 | j :: d,h=>⟨h j (by simp),Held.mk d (fun k hk=>h k (by simp [hk]))⟩
theorem getD_append_left' (a b:List (Value→World→Prop)) (i:Nat) (h:i<a.length):(a++b).getD i Any=a.getD i Any:=by
 simp [List.getD,List.getElem?_append_left h]
theorem Held.weaken {acc more:List (Value→World→Prop)} {vs:Nat→Value} {w:World}:∀ (d:List Nat),(∀ j∈d,j<acc.length)→Held (acc++more) vs w d→Held acc vs w d
 | [],_,_=>trivial
 | j :: d,h,hh=>⟨by have:=hh.1;rwa [getD_append_left' _ _ _ (h j (by simp))] at this,Held.weaken d (fun k hk=>h k (by simp [hk])) hh.2⟩
theorem Chain.out {S:List Nat} {Y:Oper→Act→World→(Value→World→Prop)→Prop} {w0:World} {A:(Nat→Value)→Act} {F:List (Value→World→Prop)→Prop} :
  ∀ (l:List Oper) (ds:List (List Nat)) (os:List (Option (Value→World→Prop))) (acc:List (Value→World→Prop)),Chain S Y w0 A F l ds os acc →
   (∀ i,∀ j∈ds.getD i [],j<acc.length+i) →
   ∃ Rs:List (Value→World→Prop),Rs.length=l.length∧(∀ r∈Rs,Lasts S r)∧F (acc++Rs) ∧
    ∀ i o,l[i]?=some o→∀ vs w,Fr S w0 w→Held (acc++Rs) vs w (ds.getD i [])→Y o (A vs) w (fun v w'=>(Rs.getD i Any) v w'∧Fr S w w')
 | [],_,_,acc,h,_=>⟨[],rfl,(fun _ h=>by cases h),(by rw [List.append_nil];exact h),(fun i o ho=>by simp at ho)⟩
 | o :: l,[],os,acc,h,_=>by simp [Chain] at h
 | o :: l,d :: ds,[],acc,h,_=>by simp [Chain] at h
 | o :: l,d :: ds,none :: os,acc,h,hd=>by
  obtain⟨c,h1,h2⟩:=h
  obtain⟨Rs,e1,e2,e3,e4⟩:=Chain.out l ds os _ h2 (fun i j hj=>by have:=hd (i+1) j (by simpa using hj);simp;omega)
  refine⟨Just c :: Rs,by simp [e1],?_,by simpa using e3,?_⟩
  ·intro r hr
   rcases List.mem_cons.1 hr with rfl | hr
   ·exact Just.lasts _ _
   ·exact e2 r hr
  ·intro i o' ho vs w hf hh
   cases i with
   | zero =>
    have:o=o':=by simpa using ho
    subst this
    simpa [Just] using h1 vs w hf (Held.weaken d (fun j hj=>by have:=hd 0 j (by simpa using hj);omega) hh)
   | succ i =>
    have:=e4 i o' (by simpa using ho) vs w hf (by simpa using hh)
    simpa using this
 | o :: l,d :: ds,some r :: os,acc,h,hd=>by
  obtain⟨h0,h1,h2⟩:=h
  obtain⟨Rs,e1,e2,e3,e4⟩:=Chain.out l ds os _ h2 (fun i j hj=>by have:=hd (i+1) j (by simpa using hj);simp;omega)
  refine⟨r :: Rs,by simp [e1],?_,by simpa using e3,?_⟩
  ·intro r' hr
   rcases List.mem_cons.1 hr with rfl | hr
   ·exact h0
   ·exact e2 r' hr
  ·intro i o' ho vs w hf hh
   cases i with
   | zero =>
    have:o=o':=by simpa using ho
    subst this
    simpa using h1 vs w hf (Held.weaken d (fun j hj=>by have:=hd 0 j (by simpa using hj);omega) hh)
   | succ i =>
    have:=e4 i o' (by simpa using ho) vs w hf (by simpa using hh)
    simpa using this
theorem region_mono {P:Program} {id:Nat} {Q:Exit→Act→World→Prop} {a:Act} {w:World} {l:List Oper} (S:List Nat) (n:Nat) (ds:List (List Nat)) (os:List (Option (Value→World→Prop)))
  (hm:P.follows .mixedOrders=true) (hB:(monoB .any l.toArray n && depsOk .any l.toArray n ds && decide (ds.length=n) && decide (n≤l.length) && unguarded (l.take n))=true)
  (hs:Chain S (Yield P) w.drew (fun vs=>fill vs (l.take n) 0 a)
   (fun Rs=>∀ vs w',Fr S w.drew w'→HeldAll vs w' Rs 0→wpList P l.toArray Q (l.drop n) (fill vs (l.take n) 0 a) w') (l.take n) ds os []) :
  (Code.region id l.toArray true).wp P Q a w:=by
 simp only [Bool.and_eq_true,decide_eq_true_eq] at hB
 obtain⟨⟨⟨⟨hB,hD⟩,hds⟩,hl⟩,hung⟩:=hB
 have htl:(l.take n).length=n:=by simp;omega
 have hD':∀ i,∀ j∈ds.getD i [],j<i∧Region.waitsFor .any l.toArray i j=true:=fun i j hj=>by
  rcases Nat.lt_or_ge i n with hi | hi
  ·have h1:=List.all_eq_true.1 (List.all_eq_true.1 hD i (List.mem_range.2 hi)) j hj
   simpa using h1
  ·have:ds.getD i []=[]:=by simp [List.getD,show ds.length≤i by omega]
   rw [this] at hj;cases hj
 obtain⟨Rs,e1,e2,hf,e4⟩:=Chain.out _ _ _ _ hs (fun i j hj=>by have:=(hD' i j hj).1;simpa using this)
 rw [List.nil_append] at hf e4
 rw [htl] at e1
 have hlast:∀ i,Lasts S (Rs.getD i Any):=fun i=>by
  rcases Nat.lt_or_ge i Rs.length with h | h
  ·have:Rs.getD i Any=Rs[i]:=by simp [List.getD,h]
   rw [this];exact e2 _ (List.getElem_mem h)
  ·have:Rs.getD i Any=Any:=by simp [List.getD,h]
   rw [this];exact Any.lasts S
 refine wp_region_any hm ?_
 have:=wpAny_mono (P:=P) (ops:=l.toArray) (md:=.any) (Q:=Q) (a:=a) n (fun i=>Rs.getD i Any) (fun _ _=>True) (fun _=>Fr S) (fun w'=>Fr S w.drew w') hB (fun _ _ _ _ _ _ _ h _=>h)
  (fun i j _ _ _ _ v w1 w2 h he=>hlast i v w1 w2 h he) (fun j _ w1 w2 hg he=>hg.trans he (fun t ht=>.inl ht))
  (fun i o hi ho vs w1 hg _ hj=>by
   have hoi:(l.take n)[i]?=some o:=by
    have:l[i]?=some o:=by simpa using ho
    simp [hi,this]
   have hog:o.guard=none:=by
    have:=List.all_eq_true.1 hung o (List.mem_of_getElem? hoi)
    simpa using this
   refine Yield.gives hog (e4 i o hoi vs w1 hg (Held.mk _ (fun j hjd=>?_)))
   have h1:=hD' i j hjd
   exact hj j (by omega) h1.2)
  (fun vs w1 hg hj=>hf vs w1 hg (HeldAll.mk Rs 0 (fun j hjl=>by rw [Nat.zero_add];exact hj j (by omega))))
  n (Array.replicate l.toArray.size false) (fun _=>undef) a { w with drawn:=w.drawn+1 }
  ⟨by simp,fun j oj _ hl=>(by rw [getD_replicate_false] at hl;cases hl),fun t _ ht=>getD_in (by simpa using ht) (getD_replicate_false _ _)⟩
  ⟨rfl,rfl,fun _ _=>rfl,fun j o t _ _ hl=>by rw [getD_replicate_false] at hl;cases hl⟩
  (Fr.refl S _) (fun _ _ _=>trivial) (fun i _ hl=>by rw [getD_replicate_false] at hl;cases hl) (left_replicate _ _)
 have hsz:n+(l.toArray.size - n)=l.toArray.size:=by simp;omega
 rw [hsz] at this
 exact this
theorem region_mono_g {P:Program} {id:Nat} {Q:Exit→Act→World→Prop} {a:Act} {w:World} {l:List Oper} (S:List Nat) (n:Nat) (ds:List (List Nat)) (os:List (Option (Value→World→Prop)))
  (hm:P.follows .mixedOrders=true) (hB:(monoB .any l.toArray n && depsOk .any l.toArray n ds && decide (ds.length=n) && decide (n≤l.length))=true)
  (hs:Chain S (Gives P l.toArray) w.drew (fun vs=>fill vs (l.take n) 0 a)
   (fun Rs=>∀ vs w',Fr S w.drew w'→HeldAll vs w' Rs 0→wpList P l.toArray Q (l.drop n) (fill vs (l.take n) 0 a) w') (l.take n) ds os []) :
  (Code.region id l.toArray true).wp P Q a w:=by
 simp only [Bool.and_eq_true,decide_eq_true_eq] at hB
 obtain⟨⟨⟨hB,hD⟩,hds⟩,hl⟩:=hB
 have htl:(l.take n).length=n:=by simp;omega
 have hD':∀ i,∀ j∈ds.getD i [],j<i∧Region.waitsFor .any l.toArray i j=true:=fun i j hj=>by
  rcases Nat.lt_or_ge i n with hi | hi
  ·have h1:=List.all_eq_true.1 (List.all_eq_true.1 hD i (List.mem_range.2 hi)) j hj
   simpa using h1
  ·have:ds.getD i []=[]:=by simp [List.getD,show ds.length≤i by omega]
   rw [this] at hj;cases hj
 obtain⟨Rs,e1,e2,hf,e4⟩:=Chain.out _ _ _ _ hs (fun i j hj=>by have:=(hD' i j hj).1;simpa using this)
 rw [List.nil_append] at hf e4
 rw [htl] at e1
 have hlast:∀ i,Lasts S (Rs.getD i Any):=fun i=>by
  rcases Nat.lt_or_ge i Rs.length with h | h
  ·have:Rs.getD i Any=Rs[i]:=by simp [List.getD,h]
   rw [this];exact e2 _ (List.getElem_mem h)
  ·have:Rs.getD i Any=Any:=by simp [List.getD,h]
   rw [this];exact Any.lasts S
 refine wp_region_any hm ?_
 have:=wpAny_mono (P:=P) (ops:=l.toArray) (md:=.any) (Q:=Q) (a:=a) n (fun i=>Rs.getD i Any) (fun _ _=>True) (fun _=>Fr S) (fun w'=>Fr S w.drew w') hB (fun _ _ _ _ _ _ _ h _=>h)
  (fun i j _ _ _ _ v w1 w2 h he=>hlast i v w1 w2 h he) (fun j _ w1 w2 hg he=>hg.trans he (fun t ht=>.inl ht))
  (fun i o hi ho vs w1 hg _ hj=>by
   have hoi:(l.take n)[i]?=some o:=by
    have:l[i]?=some o:=by simpa using ho
    simp [hi,this]
   refine e4 i o hoi vs w1 hg (Held.mk _ (fun j hjd=>?_))
   have h1:=hD' i j hjd
   exact hj j (by omega) h1.2)
  (fun vs w1 hg hj=>hf vs w1 hg (HeldAll.mk Rs 0 (fun j hjl=>by rw [Nat.zero_add];exact hj j (by omega))))
  n (Array.replicate l.toArray.size false) (fun _=>undef) a { w with drawn:=w.drawn+1 }
  ⟨by simp,fun j oj _ hl=>(by rw [getD_replicate_false] at hl;cases hl),fun t _ ht=>getD_in (by simpa using ht) (getD_replicate_false _ _)⟩
  ⟨rfl,rfl,fun _ _=>rfl,fun j o t _ _ hl=>by rw [getD_replicate_false] at hl;cases hl⟩
  (Fr.refl S _) (fun _ _ _=>trivial) (fun i _ hl=>by rw [getD_replicate_false] at hl;cases hl) (left_replicate _ _)
 have hsz:n+(l.toArray.size - n)=l.toArray.size:=by simp;omega
 rw [hsz] at this
 exact this
end Go.Proofs.YtcmndpjemdjalaaGreatDoor
namespace Go.Proofs.YtcmndpjemdjalaaGreatDoor
open Go.RowKit
def Byts (l:List Nat):Prop:=∀ x∈l,x<256
theorem Byts.nil:Byts []:=fun _ h=>by cases h
theorem Byts.get {l:List Nat} (h:Byts l) (i:Nat):l.getD i 0<256:=by
 simp only [List.getD]
 rcases Nat.lt_or_ge i l.length with hi | hi
 ·simp [hi];exact h _ (List.getElem_mem hi)
 ·simp [hi]
theorem byt_lt {l:List Nat} (h:Byts l) (i:Nat):dg l i<256:=h.get i
theorem Byts.append {a b:List Nat} (ha:Byts a) (hb:Byts b):Byts (a++b):=fun x hx=>by rcases List.mem_append.1 hx with h | h;exact ha x h;exact hb x h
theorem Byts.take {l:List Nat} (h:Byts l) (n:Nat):Byts (l.take n):=fun x hx=>h x (List.mem_of_mem_take hx)
theorem Byts.drop {l:List Nat} (h:Byts l) (n:Nat):Byts (l.drop n):=fun x hx=>h x (List.mem_of_mem_drop hx)
theorem Byts.replicate (n:Nat):Byts (List.replicate n 0):=fun x hx=>by have:=List.eq_of_mem_replicate hx;omega
theorem Byts.set {l:List Nat} (h:Byts l) (i x:Nat) (hx:x<256):Byts (l.set i x):=fun y hy=>by
 rcases List.mem_or_eq_of_mem_set hy with h' | h'
 ·exact h y h'
 ·omega
def u8s (l:List Nat):Array Value:=(l.map fun x:Nat=>Value.int .u8 (x:Int)).toArray
theorem u8s_get (l:List Nat) (i:Nat) (h:i<l.length):(u8s l)[i]?=some (.int .u8 (dg l i:Nat)):=by
 simp [u8s,dg,List.getD,h]
theorem u8s_set (l:List Nat) (i:Nat) (z:Int) (hz:0≤z):(u8s l).setIfInBounds i (.int .u8 z)=u8s (l.set i z.toNat):=by
 unfold u8s
 rw [List.map_set,List.setIfInBounds_toArray,Int.toNat_of_nonneg hz]
def U8 (w:World) (lo:Nat) (v:Value) (l:List Nat):Prop :=
 Byts l∧((v=.slice none 0 0∧l=[]) ∨
  ∃ b o cap cur fr,v=.slice (some ⟨b,o,none⟩) l.length cap∧l.length≤cap∧lo≤b∧w.heap[b]?=some (.cells cur 5 fr)∧∀ i,i<l.length→cur[o+i]?=some (.int .u8 (dg l i:Nat)))
theorem U8.digs {w:World} {lo:Nat} {v:Value} {l:List Nat} (h:U8 w lo v l):Byts l:=h.1
theorem U8.nil (w:World) (lo:Nat):U8 w lo (.slice none 0 0) []:=⟨Byts.nil,.inl ⟨rfl,rfl⟩⟩
theorem U8.cases {w:World} {lo:Nat} {v:Value} {l:List Nat} (h:U8 w lo v l) :
  (v=.slice none 0 0∧l=[])∨∃ b o cap,v=.slice (some ⟨b,o,none⟩) l.length cap∧l.length≤cap∧b<w.heap.size∧∀ i,i<l.length→w.cell? ⟨b,o+i,none⟩=some (.int .u8 (dg l i:Nat)):=by
 rcases h.2 with h | ⟨b,o,cap,cur,fr,hv,hc,hlo,hh,hcell⟩
 ·exact .inl h
 ·exact .inr ⟨b,o,cap,hv,hc,(Array.getElem?_eq_some_iff.1 hh).1,fun i hi=>by rw [cell_of_row w b (o+i) cur 5 fr hh];exact hcell i hi⟩
theorem U8.shape {w:World} {lo:Nat} {v:Value} {l:List Nat} (h:U8 w lo v l) :
  ∃ ao cap,v=.slice ao l.length cap∧l.length≤cap∧∀ i,i<l.length→∃ b o,ao=some ⟨b,o,none⟩∧b<w.heap.size∧w.cell? ⟨b,o+i,none⟩=some (.int .u8 (dg l i:Nat)):=by
 rcases h.cases with ⟨rfl,rfl⟩ | ⟨b,o,cap,rfl,hc,hb,hcell⟩
 ·exact⟨none,0,rfl,Nat.le_refl _,fun i hi=>by simp at hi⟩
 ·exact⟨some ⟨b,o,none⟩,cap,rfl,hc,fun i hi=>⟨b,o,rfl,hb,hcell i hi⟩⟩
theorem U8.mono {w:World} {lo lo':Nat} {v:Value} {l:List Nat} (h:U8 w lo v l) (hl:lo'≤lo):U8 w lo' v l:=by
 refine⟨h.1,h.2.imp id ?_⟩
 rintro ⟨b,o,cap,cur,fr,hv,hc,hlo,r⟩
 exact⟨b,o,cap,cur,fr,hv,hc,Nat.le_trans hl hlo,r⟩
def NoByte (S:List Nat) (w:World):Prop:=∀ s∈S,∀ c f,w.heap[s]? ≠ some (.cells c 5 f)
theorem NoByte.nil (w:World):NoByte [] w:=fun _ h=>by cases h
theorem NoByte.of_type {w:World} {p:Nat} {c:Array Value} {t:TypeId} {f:Nat × Nat} (h:w.heap[p]?=some (.cells c t f)) (ht:t ≠ 5):NoByte [p] w:=by
 intro s hs c' f' he
 simp at hs;subst hs
 rw [h] at he;simp at he;exact ht he.2.1
theorem U8.fr {w w':World} {lo:Nat} {v:Value} {l:List Nat} {S:List Nat} (h:U8 w lo v l) (hf:Fr S w w') (hS:NoByte S w):U8 w' lo v l:=by
 refine⟨h.1,h.2.imp id ?_⟩
 rintro ⟨b,o,cap,cur,fr,hv,hc,hlo,hh,r⟩
 exact⟨b,o,cap,cur,fr,hv,hc,hlo,(hf.block b (Array.getElem?_eq_some_iff.1 hh).1 (fun hb=>hS b hb _ _ hh)).trans hh,r⟩
theorem U8.fr0 {w w':World} {lo:Nat} {v:Value} {l:List Nat} (h:U8 w lo v l) (hf:Fr [] w w'):U8 w' lo v l:=h.fr hf (NoByte.nil _)
theorem U8.grown {w w':World} {lo g:Nat} {v:Value} {l:List Nat} (h:U8 w lo v l) (hf:Fr [g] w w') (hg:g<lo):U8 w' lo v l:=by
 refine⟨h.1,h.2.imp id ?_⟩
 rintro ⟨b,o,cap,cur,fr,hv,hc,hlo,hh,r⟩
 exact⟨b,o,cap,cur,fr,hv,hc,hlo,(hf.block b (Array.getElem?_eq_some_iff.1 hh).1 (by simp;omega)).trans hh,r⟩
def OwnB (w:World) (g:Nat) (l:List Nat):Prop:=w.heap[g]?=some (.cells (u8s l) 5 (0,0))
theorem OwnB.lt {w:World} {g:Nat} {l:List Nat} (h:OwnB w g l):g<w.heap.size:=(Array.getElem?_eq_some_iff.1 h).1
theorem OwnB.cell {w:World} {g:Nat} {l:List Nat} (h:OwnB w g l) (i:Nat) (hi:i<l.length):w.cell? ⟨g,i,none⟩=some (.int .u8 (dg l i:Nat)):=by
 rw [cell_of_row w g i _ _ _ h];exact u8s_get l i hi
theorem OwnB.free {w:World} {g:Nat} {l:List Nat} (h:OwnB w g l) (i:Nat):w.frozen? ⟨g,i,none⟩=false:=frozen_of_row w g i _ _ h
theorem OwnB.set {w:World} {g:Nat} {l:List Nat} (h:OwnB w g l) (i:Nat) (z:Int) (hz:0≤z):OwnB (w.setCell ⟨g,i,none⟩ (.int .u8 z)) g (l.set i z.toNat):=by
 unfold OwnB
 rw [heap_setCell_same w g i _ _ _ h,u8s_set l i z hz]
theorem OwnB.fr {w w':World} {g:Nat} {l:List Nat} {S:List Nat} (h:OwnB w g l) (hf:Fr S w w') (hg:g ∉ S):OwnB w' g l:=(hf.block g h.lt hg).trans h
theorem OwnB.u8 {w:World} {g lo:Nat} {l:List Nat} (h:OwnB w g l) (hd:Byts l) (hl:lo≤g) (n:Nat) (hn:n≤l.length):U8 w lo (.slice (some ⟨g,0,none⟩) n l.length) (l.take n):=by
 have e:(l.take n).length=n:=by simp;omega
 refine⟨hd.take n,.inr ⟨g,0,l.length,_,_,by rw [e],by omega,hl,h,fun i hi=>?_⟩⟩
 rw [e] at hi
 rw [Nat.zero_add,u8s_get l i (by omega),dg_take l n i hi]
theorem OwnB.all {w:World} {g lo:Nat} {l:List Nat} (h:OwnB w g l) (hd:Byts l) (hl:lo≤g):U8 w lo (.slice (some ⟨g,0,none⟩) l.length l.length) l:=by
 have:=h.u8 hd hl l.length (Nat.le_refl _)
 rwa [List.take_of_length_le (Nat.le_refl _)] at this
theorem OwnB.made {w':World} {g n:Nat} (h:w'.ownsRow g 5 1 (.slice (some ⟨g,0,none⟩) n n) n (madeCells (Value.cells (.int .u8 0)) (n * 1)).toList):OwnB w' g (List.replicate n 0):=by
 rcases h.2 with ⟨h',_⟩ | ⟨g',cap',cur,h',_,hg,_,_,hsz,htake⟩
 ·simp at h'
 ·simp only [Value.slice.injEq,Option.some.injEq,Addr.mk.injEq,and_true,true_and] at h'
  obtain⟨rfl,rfl⟩:=h'
  unfold OwnB
  rw [hg]
  have e:cur.toList=(madeCells (Value.cells (.int .u8 0)) (n * 1)).toList:=by
   rw [← htake];symm;apply List.take_of_length_le;simp;omega
  have e2:cur=u8s (List.replicate n 0):=by
   apply Array.toList_inj.1
   rw [e]
   show (madeCells #[Value.int .u8 0] (n * 1)).toList=_
   rw [toList_madeCells_one]
   simp [u8s]
  rw [e2]
theorem info_u8:(Tryz.prog.info? 5).map (fun i=>(i.zero,i.size,i.bytes))=some (some (.int .u8 0),1,1):=by kernel_rfl
theorem und_u8s:Tryz.prog.underlying 40=some (.slice 5):=by kernel_rfl
theorem make_u8 (w:World) {ops:Array Oper} {rest:List Oper} {o:Oper} {a:Act} {Q:Exit→Act→World→Prop}
  (hg:o.guard=none) (s c:Operand) (hop:o.op=Op.makeSlice 40 s c) (L C:Int) (n:Nat) (hl:a.eval s=.int .i64 L) (hc:a.eval c=.int .i64 C)
  (hL:L=(n:Int)) (hC:C=(n:Int)) (hn:n≤70368744177664)
  (hK:∀ w',OwnB w' w.heap.size (List.replicate n 0)→Fr [] w w'→wpList Tryz.prog ops Q rest (a.put o.dst (.slice (some ⟨w.heap.size,0,none⟩) n n)) w') :
  wpList Tryz.prog ops Q (o :: rest) a w:=by
 obtain⟨i0,hi,hz0,hz1,hz2⟩:=info_parts info_u8
 refine wpList_make_full w hg s c 40 hop w.heap.size 5 i0 (.int .u8 0) 1 und_u8s hi hz0 hz1 .i64 .i64 L C n hl hc hL hC (by rw [hz2];omega) (by unfold maxLen;omega) (Nat.le_refl _) ?_
 intro w' r1 r2
 exact hK w' (OwnB.made r1) ((Fr.refl [] w).grown r2 (by simp))
end Go.Proofs.YtcmndpjemdjalaaGreatDoor
namespace Go.Proofs.YtcmndpjemdjalaaGreatDoor
open Go.RowKit
def maskV (n:Int):Int:=bits BinOp.andNot IntKind.u64 18446744073709551615 (IntKind.u64.wrap (18446744073709551615 * 2 ^ n.toNat))
theorem formsMask_any (n:Int) (w:World) (h0:0≤n) (h1:n≤64) :
  Calls Tryz.prog 89 #[.int .i64 n] w fun e w'=>e=.returned (.int .u64 (maskV n))∧w'=w:=by
 go_enter Tryz.func89,Tryz.ntmps89
 go_wp2
 go_ret
 exact⟨rfl,rfl⟩
def putV (at_ size b field:Int):Int:=bits .or .u64 (bits .andNot .u64 b (IntKind.u64.wrap (maskV size * 2 ^ at_.toNat))) (IntKind.u64.wrap (field * 2 ^ at_.toNat))
theorem formsPut_any (p n b f:Int) (w:World) (h0:0≤n) (h1:n≤64) (h2:0≤p) (h3:p≤64) :
  Calls Tryz.prog 133 #[.agg #[.int .i64 p,.int .i64 n],.int .u64 b,.int .u64 f] w fun e w'=>e=.returned (.int .u64 (putV p n b f))∧Fr [] w w':=by
 go_enter Tryz.func133,Tryz.ntmps133
 go_wp2
 go_quiet ((go_at_call 89;exact Calls.quiet_of_same (formsMask_any _ _ h0 h1)))
 go_wp2
 go_ret
 exact⟨rfl,(((Fr.refl [] w).alloc _).drewN _)⟩
theorem formsLayout_any (E F:Int) (w:World) (h:FormOk E F) :
  Calls Tryz.prog 132 #[formV E F] w fun e w'=>e=.returned (.agg #[.int .i64 0,.int .i64 F,.int .i64 F,.int .i64 E,.int .i64 (F+E),.int .i64 1])∧Fr [] w w':=by
 obtain⟨h1,h2,h3,h4⟩:=h
 unfold formV
 go_enter Tryz.func132,Tryz.ntmps132
 go_wp2
 exact bodyPost_ret (v:=.agg #[.int .i64 0,.int .i64 F,.int .i64 F,.int .i64 E,.int .i64 (F+E),.int .i64 1]) (by simp [results,Tryz.results132,go_sem]) rfl ⟨rfl,((Fr.refl [] w).alloc _).alloc _⟩
end Go.Proofs.YtcmndpjemdjalaaGreatDoor
namespace Go.Proofs.YtcmndpjemdjalaaGreatDoor
open Go.RowKit
def joinV (E F:Int) (neg:Bool) (x f:Int):Int :=
 let b:=putV F E (putV 0 F 0 f) x
 if neg then putV (F+E) 1 b 1 else b
theorem formsJoin_any (E F:Int) (neg:Bool) (x f:Int) (w:World) (h:FormOk E F) :
  Calls Tryz.prog 90 #[formV E F,.bool neg,.int .u64 x,.int .u64 f] w fun e w'=>e=.returned (.int .u64 (joinV E F neg x f))∧Fr [] w w':=by
 have hh:=h
 obtain⟨h1,h2,h3,h4⟩:=hh
 have hform:formV E F=.agg #[.int .i64 E,.int .i64 F]:=rfl
 rw [hform]
 go_enter Tryz.func90,Tryz.ntmps90
 go_wp2_with (go_at_call 132;refine (formsLayout_any E F _ h).mono ?_;rintro e w1 ⟨rfl,f1⟩)
 generalize hW:(w1.alloc (Obj.cells #[Value.int .i64 0,Value.int .i64 F,Value.int .i64 F,Value.int .i64 E,Value.int .i64 (F+E),Value.int .i64 1] 246))=W
 have c0:W.cell? ⟨w1.heap.size,0,none⟩=some (.int .i64 0):=by rw [← hW];exact cell_new _ _ _ _ _ _ rfl
 have c1:W.cell? ⟨w1.heap.size,1,none⟩=some (.int .i64 F):=by rw [← hW];exact cell_new _ _ _ _ _ _ rfl
 have c2:W.cell? ⟨w1.heap.size,2,none⟩=some (.int .i64 F):=by rw [← hW];exact cell_new _ _ _ _ _ _ rfl
 have c3:W.cell? ⟨w1.heap.size,3,none⟩=some (.int .i64 E):=by rw [← hW];exact cell_new _ _ _ _ _ _ rfl
 have c4:W.cell? ⟨w1.heap.size,4,none⟩=some (.int .i64 (F+E)):=by rw [← hW];exact cell_new _ _ _ _ _ _ rfl
 have c5:W.cell? ⟨w1.heap.size,5,none⟩=some (.int .i64 1):=by rw [← hW];exact cell_new _ _ _ _ _ _ rfl
 have fW:Fr [] w W:=by rw [← hW];exact (((Fr.refl [] w).alloc _).then f1).alloc _
 have HW:=Go.Lib.hid hW;clear hW
 refine region_mono [] 8 [[],[0],[],[2],[],[3,4],[],[1,5,6]] [none,none,none,none,none,none,none,none] (by kernel_rfl) (by kernel_rfl) ?_
 simp only [Chain,fill,Act.put,List.nil_append,List.cons_append,List.take_succ_cons,List.take_zero,List.drop_succ_cons,List.drop_zero,List.setIfInBounds_toArray,List.set_cons_zero,List.set_cons_succ,Nat.reduceAdd]
 iterate 5 (apply Exists.intro;apply And.intro;·intro vs w2 hf hh K hK;have c0:=hf.stayd c0;have c1:=hf.stayd c1;have c2:=hf.stayd c2;have c3:=hf.stayd c3;have c4:=hf.stayd c4;have c5:=hf.stayd c5;simp only [Held,List.getD_cons_zero,List.getD_cons_succ,Just,and_true] at hh;(try simp only [hh] at hK ⊢);go_simp;exact hK _ _ ⟨rfl,Fr.refl _ _⟩)
 apply Exists.intro;apply And.intro
 ·intro vs w2 hf hh K hK;have c0:=hf.stayd c0;have c1:=hf.stayd c1;have c2:=hf.stayd c2;have c3:=hf.stayd c3;have c4:=hf.stayd c4;have c5:=hf.stayd c5;simp only [Held,List.getD_cons_zero,List.getD_cons_succ,Just,and_true] at hh;(try simp only [hh] at hK ⊢);go_simp;refine (formsPut_any _ _ _ _ _ (by omega) (by omega) (by omega) (by omega)).mono ?_;rintro e w3 ⟨rfl,f3⟩;exact hK _ _ ⟨rfl,f3⟩
 apply Exists.intro;apply And.intro
 ·intro vs w2 hf hh K hK;simp only [Held] at hh;(try simp only [] at hK ⊢);go_simp;exact hK _ _ ⟨rfl,Fr.refl _ _⟩
 apply Exists.intro;apply And.intro
 ·intro vs w2 hf hh K hK;have c0:=hf.stayd c0;have c1:=hf.stayd c1;have c2:=hf.stayd c2;have c3:=hf.stayd c3;have c4:=hf.stayd c4;have c5:=hf.stayd c5;simp only [Held,List.getD_cons_zero,List.getD_cons_succ,Just,and_true] at hh;(try simp only [hh] at hK ⊢);go_simp;refine (formsPut_any _ _ _ _ _ (by omega) (by omega) (by omega) (by omega)).mono ?_;rintro e w3 ⟨rfl,f3⟩;exact hK _ _ ⟨rfl,f3⟩
 intro vs w2 hf hh
 simp only [HeldAll,Just,and_true,Nat.reduceAdd] at hh
 obtain⟨e0,e1,e2,e3,e4,e5,e6,e7⟩:=hh
 simp only [e0,e1,e2,e3,e4,e5,e6,e7]
 clear e0 e1 e2 e3 e4 e5 e6 e7
 clear vs
 have c0:=hf.stayd c0
 have c1:=hf.stayd c1
 have c2:=hf.stayd c2
 have c3:=hf.stayd c3
 have c4:=hf.stayd c4
 have c5:=hf.stayd c5
 clear c0 c1 c2 c3
 cases neg
 ·go_wp2
  go_ret
  exact⟨rfl,(fW.drew).then hf⟩
 ·go_wp2_with (go_at_call 133;refine (formsPut_any _ _ _ _ _ (by omega) (by omega) (by omega) (by omega)).mono ?_;rintro e w3 ⟨rfl,f3⟩)
  go_ret
  exact⟨rfl,((fW.drew).then hf).then f3⟩
end Go.Proofs.YtcmndpjemdjalaaGreatDoor
namespace Go.Proofs.YtcmndpjemdjalaaGreatDoor
open Go
section
variable {P:Program} {ops:Array Oper} {md:Region.Mode}
theorem wpAny_mono_d {Q:Exit→Act→World→Prop} {a:Act} (n:Nat) (R:Nat→(Nat→Value)→Value→World→Prop) (pre:Nat→World→Prop) (E:Nat→World→World→Prop) (G:World→Prop)
  (hB:monoB md ops n=true)
  (hpre:∀ i j,i<n→j<n→i ≠ j→∀ w w',pre i w→E j w w'→pre i w')
  (hR:∀ i j,i<n→j<n→i ≠ j→Region.waitsFor md ops i j=false→∀ vs v w w',R i vs v w→E j w w'→R i vs v w')
  (hdep':∀ i,i<n→∀ vs vs' v w,(∀ j,j<n→Region.waitsFor md ops i j=true→vs j=vs' j)→R i vs v w→R i vs' v w)
  (hG:∀ j,j<n→∀ w w',G w→E j w w'→G w')
  (hstep:∀ i o,i<n→ops[i]?=some o→∀ vs w,G w→pre i w→(∀ j,j<n→Region.waitsFor md ops i j=true→R j vs (vs j) w)→Gives P ops o (fill vs (ops.toList.take n) 0 a) w (fun v w'=>R i vs v w'∧E i w w'))
  (hfin:∀ vs w,G w→(∀ j,j<n→R j vs (vs j) w)→wpList P ops Q (ops.toList.drop n) (fill vs (ops.toList.take n) 0 a) w) :
  ∀ (f:Nat) (listed:Array Bool) (vs:Nat→Value) (b:Act) (w:World),HeadInv md ops n listed→Mid ops n a listed vs b→G w →
   (∀ i,i<n→listed.getD i false=false→pre i w)→(∀ i,i<n→listed.getD i false=true→R i vs (vs i) w)→left n listed=f →
   wpAny P md ops Q (f+(ops.size - n)) listed b w:=by
 simp only [monoB,Bool.and_eq_true,decide_eq_true_eq,Bool.or_eq_true] at hB
 obtain⟨⟨⟨⟨⟨hsel,hn⟩,htail⟩,hdep⟩,hdst⟩,hseq⟩:=hB
 intro f
 induction f with
 | zero =>
  intro listed vs b w hinv hmid hg _ hRs hf
  have hall:=left_zero hf
  have hl:=headDone_eq hn hinv hall
  have hb:b=fill vs (ops.toList.take n) 0 a:=by
   have hd:b.defers=(fill vs (ops.toList.take n) 0 a).defers:=hmid.defers.trans (fill_defers _ _ _ _).symm
   have ht:b.tmps=(fill vs (ops.toList.take n) 0 a).tmps:=by
    apply Array.ext_getElem?
    intro t
    by_cases hex:∃ j oj,j<n∧ops[j]?=some oj∧oj.dst=some t
    ·obtain⟨j,oj,hj,hoj,hd⟩:=hex
     by_cases hts:t<a.tmps.size
     ·rw [hmid.done j oj t hj hoj (hall j hj) hd hts]
      have:=fill_at vs (ops.toList.take n) 0 a j t oj (by simp [hj,hoj]) hd hts (fun k ok hk hdk=>by
       have hkn:k<n:=by
        have:=(List.getElem?_eq_some_iff.1 hk).1
        simp at this;omega
       have hok:ops[k]?=some ok:=by simpa [List.getElem?_take,hkn] using hk
       exact dsts_spec hdst hkn hj hok hoj hdk hd)
      rw [this,Nat.zero_add]
     ·rw [Array.getElem?_eq_none (show b.tmps.size≤t by have:=hmid.size;omega),Array.getElem?_eq_none (show (fill vs (ops.toList.take n) 0 a).tmps.size≤t by have:=fill_size vs (ops.toList.take n) 0 a;omega)]
    ·rw [hmid.other t (fun j oj hj hoj hd=>absurd ⟨j,oj,hj,hoj,hd⟩ hex),fill_other]
     intro o' ho' hd
     obtain⟨k,hk,he⟩:=List.getElem_of_mem ho'
     have hkn:k<n:=by simp at hk;omega
     exact hex ⟨k,o',hkn,by
      have:(ops.toList.take n)[k]?=some o':=by rw [List.getElem?_eq_getElem hk,he]
      simpa [List.getElem?_take,hkn] using this,hd⟩
   cases b;cases hfl:fill vs (ops.toList.take n) 0 a
   rw [hfl] at hd ht
   simp only at hd ht
   rw [hd,ht]
  subst hb
  have h1:=hfin vs w hg (fun j hj=>hRs j hj (hall j hj))
  have h2:=wpAny_of_seq (md:=md) (Q':=Q) (ops.toList.drop n) n listed _ w (fun j=>by simp [List.getElem?_drop]) (by rw [hl];simpa using hseq) h1
  rw [Nat.zero_add]
  simpa using h2
 | succ f ih =>
  intro listed vs b w hinv hmid hg hps hRs hf
  obtain⟨i0,hi0,hun0,hmin⟩:=left_pos (show left n listed ≠ 0 by omega)
  have hready0:i0∈Region.ready md ops listed:=by
   obtain⟨o0,ho0⟩:∃ o0,ops[i0]?=some o0:=⟨ops[i0],by simp [show i0<ops.size by omega]⟩
   exact mem_ready.2 ⟨getD_in (by have:=hinv.size;omega) hun0,o0,ho0,fun e he hb=>hmin _ (deps_lt hdep hi0 ho0 e he hb)⟩
  rw [show f+1+(ops.size - n)=(f+(ops.size - n))+1 by omega]
  refine⟨fun h=>(by rw [h] at hready0;cases hready0),fun i hi=>?_⟩
  have hin:i<n:=by
   rcases htail with h | ⟨hs,hc⟩
   ·obtain⟨_,o,ho,_⟩:=mem_ready.1 hi
    have:=(Array.getElem?_eq_some_iff.1 ho).1
    omega
   ·rcases Nat.lt_or_ge i n with h | h
    ·exact h
    ·have hnl:n<ops.size:=by
      obtain⟨_,o,ho,_⟩:=mem_ready.1 hi
      have:=(Array.getElem?_eq_some_iff.1 ho).1
      omega
     exact absurd hi (tail_waits hs hc hnl hinv _ i0 rfl hi0 (getD_in (by have:=hinv.size;omega) hun0) i h)
  obtain⟨hun,o,ho,hall⟩:=mem_ready.1 hi
  have hunf:=getD_both hun
  have hsame:=hmid.same hdep hdst hn hin ho hi
  have hst:=hstep i o hin ho vs w hg (hps i hin hunf) (fun j hj hw=>hRs j hj (waits_listed hi hw))
  have hsz:i<listed.size:=by have:=hinv.size;omega
  refine hst.step ho (execOp_congr o (fun cs b=>Region.noSelect_spec hsel i o cs b ho) (eval_same hsame)) (wanted_same hsame) ?_
  rintro v w' ⟨v',⟨hr,he⟩,hput⟩
  refine ih _ (fun k=>if k=i then v' else vs k) _ w' (hinv.set hi hin) (hmid.next hdst hin ho hunf hsz (fun t hd hts=>put_inj hput t hd (by rw [fill_size];exact hts))) (hG i hin w w' hg he) ?_ ?_ (by have:=left_set hsz hunf hin;omega)
  ·intro k hk hku
   by_cases hki:k=i
   ·subst hki;simp [hsz] at hku
   ·exact hpre k i hk hin hki w w' (hps k hk (by rwa [Go.getD_set_ne false (Ne.symm hki)] at hku)) he
  ·intro k hk hkl
   by_cases hki:k=i
   ·subst hki
    have:=hdep' k hk vs (fun j=>if j=k then v' else vs j) v' w' (fun j hj hw=>by
     obtain⟨ok,hok,e,he',hb',hon⟩:=Region.waitsFor_spec hw
     have hlt:=deps_lt hdep hk hok e he' hb'
     rw [if_neg (by omega)]) hr
    simpa using this
   ·rw [Go.getD_set_ne false (Ne.symm hki)] at hkl
    simp only [if_neg hki]
    have hnw:∀ j,Region.waitsFor md ops k j=true→j ≠ i:=by
     rintro j hw rfl
     obtain⟨ok,hok,e,he',hb',hon⟩:=Region.waitsFor_spec hw
     have:=hinv.closed k ok hok hkl e he' hb'
     rw [hon,hunf] at this
     cases this
    refine hdep' k hk vs _ _ _ (fun j _ hw=>by rw [if_neg (hnw j hw)]) ?_
    refine hR k i hk hin hki ?_ vs _ w w' (hRs k hk hkl) he
    cases hw:Region.waitsFor md ops k i with
    | false=>rfl
    | true=>exact absurd rfl (hnw i hw)
end
abbrev PropD:=(Nat→Value)→Value→World→Prop
def AnyD:PropD:=fun _ _ _=>True
def HeldD (Rs:List PropD) (vs:Nat→Value) (w:World):List Nat→Prop
 | []=>True
 | j :: js=>Rs.getD j AnyD vs (vs j) w∧HeldD Rs vs w js
def HeldAllD (vs:Nat→Value) (w:World):List PropD→Nat→Prop
 | [],_=>True
 | r :: rs,k=>r vs (vs k) w∧HeldAllD vs w rs (k+1)
def LastsD (S:List Nat) (r:PropD):Prop:=∀ vs v w w',r vs v w→Fr S w w'→r vs v w'
def LooksD (d:List Nat) (r:PropD):Prop:=∀ vs vs' v w,(∀ j∈d,vs j=vs' j)→r vs v w→r vs' v w
def Sole (r:Value→World→Prop):PropD:=fun _ v w=>r v w
theorem Sole.lasts {S:List Nat} {r:Value→World→Prop} (h:Lasts S r):LastsD S (Sole r):=fun _ v w w' hr hf=>h v w w' hr hf
theorem Sole.looks (d:List Nat) (r:Value→World→Prop):LooksD d (Sole r):=fun _ _ _ _ _ h=>h
def ChainD (S:List Nat) (Y:Oper→Act→World→(Value→World→Prop)→Prop) (w0:World) (A:(Nat→Value)→Act) (F:List PropD→Prop):List Oper→List (List Nat)→List (Option PropD)→List PropD→Prop
 | o :: l,d :: ds,none :: rs,acc=>∃ c,(∀ vs w,Fr S w0 w→HeldD acc vs w d→Y o (A vs) w (fun v w'=>v=c∧Fr S w w'))∧ChainD S Y w0 A F l ds rs (acc++[Sole (Just c)])
 | o :: l,d :: ds,some r :: rs,acc=>(LastsD S r∧LooksD d r)∧(∀ vs w,Fr S w0 w→HeldD acc vs w d→Y o (A vs) w (fun v w'=>r vs v w'∧Fr S w w'))∧ChainD S Y w0 A F l ds rs (acc++[r])
 | [],_,_,acc=>F acc
 | _,_,_,_=>False
theorem HeldAllD.mk {vs:Nat→Value} {w:World}:∀ (rs:List PropD) (k:Nat),(∀ j,j<rs.length→rs.getD j AnyD vs (vs (k+j)) w)→HeldAllD vs w rs k
 | [],_,_=>trivial
 | r :: rs,k,h=>⟨by simpa using h 0 (by simp),HeldAllD.mk rs (k+1) (fun j hj=>by have:=h (j+1) (by simpa using hj);simpa [Nat.add_assoc,Nat.add_comm 1 j] using this)⟩
theorem HeldD.mk {Rs:List PropD} {vs:Nat→Value} {w:World}:∀ (d:List Nat),(∀ j∈d,Rs.getD j AnyD vs (vs j) w)→HeldD Rs vs w d
 | [],_=>trivial
 | j :: d,h=>⟨h j (by simp),HeldD.mk d (fun k hk=>h k (by simp [hk]))⟩
theorem getD_append_leftD (a b:List PropD) (i:Nat) (h:i<a.length):(a++b).getD i AnyD=a.getD i AnyD:=by
 simp [List.getD,List.getElem?_append_left h]
theorem HeldD.weaken {acc more:List PropD} {vs:Nat→Value} {w:World}:∀ (d:List Nat),(∀ j∈d,j<acc.length)→HeldD (acc++more) vs w d→HeldD acc vs w d
 | [],_,_=>trivial
 | j :: d,h,hh=>⟨by have:=hh.1;rwa [getD_append_leftD _ _ _ (h j (by simp))] at this,HeldD.weaken d (fun k hk=>h k (by simp [hk])) hh.2⟩
theorem ChainD.out {S:List Nat} {Y:Oper→Act→World→(Value→World→Prop)→Prop} {w0:World} {A:(Nat→Value)→Act} {F:List PropD→Prop} :
  ∀ (l:List Oper) (ds:List (List Nat)) (os:List (Option PropD)) (acc:List PropD),ChainD S Y w0 A F l ds os acc →
   (∀ i,∀ j∈ds.getD i [],j<acc.length+i) →
   ∃ Rs:List PropD,Rs.length=l.length∧(∀ r∈Rs,LastsD S r)∧(∀ i,LooksD (ds.getD i []) (Rs.getD i AnyD))∧F (acc++Rs) ∧
    ∀ i o,l[i]?=some o→∀ vs w,Fr S w0 w→HeldD (acc++Rs) vs w (ds.getD i [])→Y o (A vs) w (fun v w'=>(Rs.getD i AnyD) vs v w'∧Fr S w w')
 | [],_,_,acc,h,_=>⟨[],rfl,(fun _ h=>by cases h),(fun i _ _ _ _ _ _=>by simp [AnyD]),(by rw [List.append_nil];exact h),(fun i o ho=>by simp at ho)⟩
 | o :: l,[],os,acc,h,_=>by simp [ChainD] at h
 | o :: l,d :: ds,[],acc,h,_=>by simp [ChainD] at h
 | o :: l,d :: ds,none :: os,acc,h,hd=>by
  obtain⟨c,h1,h2⟩:=h
  obtain⟨Rs,e1,e2,e5,e3,e4⟩:=ChainD.out l ds os _ h2 (fun i j hj=>by have:=hd (i+1) j (by simpa using hj);simp;omega)
  refine⟨Sole (Just c) :: Rs,by simp [e1],?_,?_,by simpa using e3,?_⟩
  ·intro r hr
   rcases List.mem_cons.1 hr with rfl | hr
   ·exact Sole.lasts (Just.lasts _ _)
   ·exact e2 r hr
  ·intro i
   cases i with
   | zero=>exact Sole.looks _ _
   | succ i=>simpa using e5 i
  ·intro i o' ho vs w hf hh
   cases i with
   | zero =>
    have:o=o':=by simpa using ho
    subst this
    simpa [Sole,Just] using h1 vs w hf (HeldD.weaken d (fun j hj=>by have:=hd 0 j (by simpa using hj);omega) hh)
   | succ i =>
    have:=e4 i o' (by simpa using ho) vs w hf (by simpa using hh)
    simpa using this
 | o :: l,d :: ds,some r :: os,acc,h,hd=>by
  obtain⟨⟨h0,h0'⟩,h1,h2⟩:=h
  obtain⟨Rs,e1,e2,e5,e3,e4⟩:=ChainD.out l ds os _ h2 (fun i j hj=>by have:=hd (i+1) j (by simpa using hj);simp;omega)
  refine⟨r :: Rs,by simp [e1],?_,?_,by simpa using e3,?_⟩
  ·intro r' hr
   rcases List.mem_cons.1 hr with rfl | hr
   ·exact h0
   ·exact e2 r' hr
  ·intro i
   cases i with
   | zero=>simpa using h0'
   | succ i=>simpa using e5 i
  ·intro i o' ho vs w hf hh
   cases i with
   | zero =>
    have:o=o':=by simpa using ho
    subst this
    simpa using h1 vs w hf (HeldD.weaken d (fun j hj=>by have:=hd 0 j (by simpa using hj);omega) hh)
   | succ i =>
    have:=e4 i o' (by simpa using ho) vs w hf (by simpa using hh)
    simpa using this
theorem region_mono_d {P:Program} {id:Nat} {Q:Exit→Act→World→Prop} {a:Act} {w:World} {l:List Oper} (S:List Nat) (n:Nat) (ds:List (List Nat)) (os:List (Option PropD))
  (hm:P.follows .mixedOrders=true) (hB:(monoB .any l.toArray n && depsOk .any l.toArray n ds && decide (ds.length=n) && decide (n≤l.length) && unguarded (l.take n))=true)
  (hs:ChainD S (Yield P) w.drew (fun vs=>fill vs (l.take n) 0 a)
   (fun Rs=>∀ vs w',Fr S w.drew w'→HeldAllD vs w' Rs 0→wpList P l.toArray Q (l.drop n) (fill vs (l.take n) 0 a) w') (l.take n) ds os []) :
  (Code.region id l.toArray true).wp P Q a w:=by
 simp only [Bool.and_eq_true,decide_eq_true_eq] at hB
 obtain⟨⟨⟨⟨hB,hD⟩,hds⟩,hl⟩,hung⟩:=hB
 have htl:(l.take n).length=n:=by simp;omega
 have hD':∀ i,∀ j∈ds.getD i [],j<i∧Region.waitsFor .any l.toArray i j=true:=fun i j hj=>by
  rcases Nat.lt_or_ge i n with hi | hi
  ·have h1:=List.all_eq_true.1 (List.all_eq_true.1 hD i (List.mem_range.2 hi)) j hj
   simpa using h1
  ·have:ds.getD i []=[]:=by simp [List.getD,show ds.length≤i by omega]
   rw [this] at hj;cases hj
 obtain⟨Rs,e1,e2,e5,hf,e4⟩:=ChainD.out _ _ _ _ hs (fun i j hj=>by have:=(hD' i j hj).1;simpa using this)
 rw [List.nil_append] at hf e4
 rw [htl] at e1
 have hlast:∀ i,LastsD S (Rs.getD i AnyD):=fun i=>by
  rcases Nat.lt_or_ge i Rs.length with h | h
  ·have:Rs.getD i AnyD=Rs[i]:=by simp [List.getD,h]
   rw [this];exact e2 _ (List.getElem_mem h)
  ·have:Rs.getD i AnyD=AnyD:=by simp [List.getD,h]
   rw [this];exact fun _ _ _ _ _ _=>trivial
 refine wp_region_any hm ?_
 have:=wpAny_mono_d (P:=P) (ops:=l.toArray) (md:=.any) (Q:=Q) (a:=a) n (fun i=>Rs.getD i AnyD) (fun _ _=>True) (fun _=>Fr S) (fun w'=>Fr S w.drew w') hB (fun _ _ _ _ _ _ _ h _=>h)
  (fun i j _ _ _ _ vs v w1 w2 h he=>hlast i vs v w1 w2 h he)
  (fun i hi vs vs' v w1 hj hr=>e5 i vs vs' v w1 (fun j hjd=>hj j (by have:=(hD' i j hjd).1;omega) (hD' i j hjd).2) hr)
  (fun j _ w1 w2 hg he=>hg.trans he (fun t ht=>.inl ht))
  (fun i o hi ho vs w1 hg _ hj=>by
   have hoi:(l.take n)[i]?=some o:=by
    have:l[i]?=some o:=by simpa using ho
    simp [hi,this]
   have hog:o.guard=none:=by
    have:=List.all_eq_true.1 hung o (List.mem_of_getElem? hoi)
    simpa using this
   refine Yield.gives hog (e4 i o hoi vs w1 hg (HeldD.mk _ (fun j hjd=>?_)))
   have h1:=hD' i j hjd
   exact hj j (by omega) h1.2)
  (fun vs w1 hg hj=>hf vs w1 hg (HeldAllD.mk Rs 0 (fun j hjl=>by rw [Nat.zero_add];exact hj j (by omega))))
  n (Array.replicate l.toArray.size false) (fun _=>undef) a { w with drawn:=w.drawn+1 }
  ⟨by simp,fun j oj _ hl=>(by rw [getD_replicate_false] at hl;cases hl),fun t _ ht=>getD_in (by simpa using ht) (getD_replicate_false _ _)⟩
  ⟨rfl,rfl,fun _ _=>rfl,fun j o t _ _ hl=>by rw [getD_replicate_false] at hl;cases hl⟩
  (Fr.refl S _) (fun _ _ _=>trivial) (fun i _ hl=>by rw [getD_replicate_false] at hl;cases hl) (left_replicate _ _)
 have hsz:n+(l.toArray.size - n)=l.toArray.size:=by simp;omega
 rw [hsz] at this
 exact this
end Go.Proofs.YtcmndpjemdjalaaGreatDoor
