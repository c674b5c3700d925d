/- Laws that the claimed theorem leans on: no condition of their own beyond their hypotheses. -/
import Derived.Test.YtcmndpjemdjalaaGreatDoorProg
import Derived.WalkKit
import Derived.WalkLawsBesides
import Derived.Deep.QuietTactic
import Derived.BigQuiet
import Derived.Handy
import Derived.Lib.Hide
import Derived.Laws.CopyOwn
set_option maxRecDepth 100000
set_option maxHeartbeats 16000000
namespace Go.Proofs.YtcmndpjemdjalaaGreatDoor
def val:List Nat→Nat
 | []=>0
 | x :: l=>x+4294967296 * val l
def Digs (l:List Nat):Prop:=∀ x∈l,x<4294967296
def Norm (l:List Nat):Prop:=∀ x,l.getLast?=some x→x ≠ 0
theorem val_nil:val []=0:=rfl
theorem val_cons (x:Nat) (l:List Nat):val (x :: l)=x+4294967296 * val l:=rfl
theorem val_append (a b:List Nat):val (a++b)=val a+4294967296 ^ a.length * val b:=by
 induction a with
 | nil=>simp [val]
 | cons x l ih =>
  simp only [List.cons_append,val_cons,ih,List.length_cons,Nat.pow_succ]
  rw [Nat.mul_add,← Nat.mul_assoc,Nat.mul_comm 4294967296 (4294967296 ^ l.length)];omega
theorem val_one (x:Nat):val [x]=x:=by simp [val]
theorem val_snoc (a:List Nat) (x:Nat):val (a++[x])=val a+4294967296 ^ a.length * x:=by
 rw [val_append,val_one]
theorem Digs.nil:Digs []:=fun _ h=>by cases h
theorem Digs.cons {x:Nat} {l:List Nat} (hx:x<4294967296) (h:Digs l):Digs (x :: l):=by
 intro y hy;rcases List.mem_cons.1 hy with rfl | hy;exact hx;exact h y hy
theorem Digs.head {x:Nat} {l:List Nat} (h:Digs (x :: l)):x<4294967296:=h x (by simp)
theorem Digs.tail {x:Nat} {l:List Nat} (h:Digs (x :: l)):Digs l:=fun y hy=>h y (by simp [hy])
theorem Digs.append {a b:List Nat} (ha:Digs a) (hb:Digs b):Digs (a++b):=by
 intro x hx;rcases List.mem_append.1 hx with h | h;exact ha x h;exact hb x h
theorem Digs.take {l:List Nat} (h:Digs l) (n:Nat):Digs (l.take n):=fun x hx=>h x (List.mem_of_mem_take hx)
theorem Digs.drop {l:List Nat} (h:Digs l) (n:Nat):Digs (l.drop n):=fun x hx=>h x (List.mem_of_mem_drop hx)
theorem Digs.get {l:List Nat} (h:Digs l) (i:Nat):l.getD i 0<4294967296:=by
 by_cases hi:i<l.length
 ·have:l.getD i 0=l[i]:=by simp [List.getD,hi]
  rw [this];exact h _ (List.getElem_mem hi)
 ·have:l.getD i 0=0:=by simp [List.getD,Nat.le_of_not_lt hi]
  omega
theorem Digs.replicate (n:Nat):Digs (List.replicate n 0):=by
 intro x hx;have:=List.eq_of_mem_replicate hx;omega
theorem Digs.set {l:List Nat} (h:Digs l) (i x:Nat) (hx:x<4294967296):Digs (l.set i x):=by
 intro y hy;rcases List.mem_or_eq_of_mem_set hy with h' | rfl;exact h y h';exact hx
theorem pow_pos' (n:Nat):0<4294967296 ^ n:=Nat.pow_pos (by omega)
theorem Digs.lt {l:List Nat} (h:Digs l):val l<4294967296 ^ l.length:=by
 induction l with
 | nil=>simp [val]
 | cons x l ih =>
  have:=ih h.tail
  have hx:=h.head
  simp only [val_cons,List.length_cons,Nat.pow_succ]
  omega
theorem val_replicate (n:Nat):val (List.replicate n 0)=0:=by
 induction n with
 | zero=>rfl
 | succ n ih=>simp [List.replicate_succ,val_cons,ih]
theorem val_take_drop (l:List Nat) (n:Nat) (h:n≤l.length):val l=val (l.take n)+4294967296 ^ n * val (l.drop n):=by
 have e:=val_append (l.take n) (l.drop n)
 rw [List.take_append_drop,List.length_take,Nat.min_eq_left h] at e
 exact e
theorem val_take_succ (l:List Nat) (n:Nat) (h:n<l.length):val (l.take (n+1))=val (l.take n)+4294967296 ^ n * l.getD n 0:=by
 have:l.take (n+1)=l.take n++[l.getD n 0]:=by
  rw [List.take_succ_eq_append_getElem h];simp [List.getD,h]
 rw [this,val_snoc,List.length_take,Nat.min_eq_left (by omega)]
theorem take_all (l:List Nat) (n:Nat) (h:l.length≤n):l.take n=l:=List.take_of_length_le h
theorem val_take_of_zero (l:List Nat) (n:Nat) (h:n≤l.length) (hz:∀ j,n≤j→j<l.length→l.getD j 0=0):val (l.take n)=val l:=by
 have e:=val_take_drop l n h
 have:l.drop n=List.replicate (l.length - n) 0:=by
  apply List.ext_getElem
  ·simp
  ·intro i h1 h2
   simp only [List.length_drop] at h1
   have:=hz (n+i) (by omega) (by omega)
   simp only [List.getElem_drop,List.getElem_replicate]
   have e2:l.getD (n+i) 0=l[n+i]:=by simp [List.getD,show n+i<l.length by omega]
   rw [← e2];exact this
 rw [this,val_replicate] at e
 omega
structure Is (l:List Nat) (n:Nat):Prop where
 digs:Digs l
 norm:Norm l
 val:val l=n
theorem Norm.nil:Norm []:=fun _ h=>by simp at h
theorem Norm.cons {x:Nat} {l:List Nat} (h:Norm (x :: l)):Norm l:=by
 intro y hy
 cases l with
 | nil=>simp at hy
 | cons z l=>exact h y (by simpa [List.getLast?_cons_cons] using hy)
theorem Is.nil:Is [] 0:=⟨.nil,.nil,rfl⟩
theorem Is.zero {l:List Nat} (h:Is l 0):l=[]:=by
 obtain⟨hd,hn,hv⟩:=h
 induction l with
 | nil=>rfl
 | cons x l ih =>
  simp only [val_cons] at hv
  have:=ih hd.tail hn.cons (by omega)
  subst this
  exact absurd (by omega:x=0) (hn x (by simp))
theorem Is.eq {a b:List Nat} {n:Nat} (ha:Is a n) (hb:Is b n):a=b:=by
 induction a generalizing b n with
 | nil=>have:n=0:=ha.val.symm;subst this;exact hb.zero.symm
 | cons x a ih =>
  cases b with
  | nil=>have:n=0:=hb.val.symm;subst this;exact ha.zero
  | cons y b =>
   have hx:=ha.digs.head;have hy:=hb.digs.head
   have e1:=ha.val;have e2:=hb.val
   simp only [val_cons] at e1 e2
   have exy:x=y:=by omega
   have evv:Go.Proofs.YtcmndpjemdjalaaGreatDoor.val a=Go.Proofs.YtcmndpjemdjalaaGreatDoor.val b:=by omega
   rw [exy,ih (b:=b) (n:=Go.Proofs.YtcmndpjemdjalaaGreatDoor.val a) ⟨ha.digs.tail,ha.norm.cons,rfl⟩ ⟨hb.digs.tail,hb.norm.cons,evv.symm⟩]
theorem Norm.of_last {l:List Nat} (h:l=[]∨l.getD (l.length - 1) 0 ≠ 0):Norm l:=by
 intro x hx
 rcases h with rfl | h
 ·simp at hx
 ·rw [List.getLast?_eq_getElem?] at hx
  have:l.getD (l.length - 1) 0=x:=by simp [List.getD,hx]
  omega
theorem Norm.last {l:List Nat} (h:Norm l) (hl:0<l.length):l.getD (l.length - 1) 0 ≠ 0:=by
 apply h
 rw [List.getLast?_eq_getElem?]
 simp [List.getD,show l.length - 1<l.length by omega]
theorem Norm.drop {l:List Nat} (h:Norm l) (n:Nat):Norm (l.drop n):=by
 apply Norm.of_last
 by_cases hn:n<l.length
 ·right
  have:=h.last (by omega)
  rw [List.length_drop]
  have e:(l.drop n).getD (l.length - n - 1) 0=l.getD (l.length - 1) 0:=by
   simp [List.getD,List.getElem?_drop,show n+(l.length - n - 1)=l.length - 1 by omega]
  rw [e];exact this
 ·left;simp;omega
theorem Is.ge {l:List Nat} {n:Nat} (h:Is l n) (hl:0<l.length):4294967296 ^ (l.length - 1)≤n:=by
 have hlast:=h.norm.last hl
 have e:=val_take_succ l (l.length - 1) (by omega)
 rw [show l.length - 1+1=l.length by omega,take_all _ _ (Nat.le_refl _),h.val] at e
 have:4294967296 ^ (l.length - 1) * 1≤4294967296 ^ (l.length - 1) * l.getD (l.length - 1) 0:=Nat.mul_le_mul_left _ (by omega)
 omega
theorem Is.lt {l:List Nat} {n:Nat} (h:Is l n):n<4294967296 ^ l.length:=h.val ▸ h.digs.lt
theorem Is.len_zero {l:List Nat} {n:Nat} (h:Is l n):l.length=0 ↔ n=0:=by
 constructor
 ·intro e;rw [List.length_eq_zero_iff] at e;subst e;exact h.val.symm
 ·rintro rfl;rw [h.zero];rfl
theorem Is.lt_of_len {a b:List Nat} {m n:Nat} (ha:Is a m) (hb:Is b n) (h:a.length<b.length):m<n:=by
 have h1:=ha.lt
 have h2:=hb.ge (by omega)
 have:4294967296 ^ a.length≤4294967296 ^ (b.length - 1):=Nat.pow_le_pow_right (by omega) (by omega)
 omega
theorem Is.len_le {a b:List Nat} {m n:Nat} (ha:Is a m) (hb:Is b n) (h:m≤n):a.length≤b.length:=by
 rcases Nat.lt_or_ge b.length a.length with hc | hc
 ·have:=hb.lt_of_len ha hc;omega
 ·exact hc
def words:Nat→Nat→List Nat
 | 0,_=>[]
 | f+1,n=>if n=0 then [] else n % 4294967296 :: words f (n / 4294967296)
end Go.Proofs.YtcmndpjemdjalaaGreatDoor
namespace Go.Proofs.YtcmndpjemdjalaaGreatDoor
theorem getD_set_self (l:List Nat) (i x:Nat) (h:i<l.length):(l.set i x).getD i 0=x:=by
 simp [List.getD,h]
theorem getD_set_ne (l:List Nat) (i j x:Nat) (h:i ≠ j):(l.set i x).getD j 0=l.getD j 0:=by
 simp [List.getD,List.getElem?_set_ne h]
theorem take_set_le (l:List Nat) (i n x:Nat) (h:n≤i):(l.set i x).take n=l.take n:=by
 rw [List.take_set,List.set_eq_of_length_le];simp;omega
theorem drop_set_lt (l:List Nat) (i n x:Nat) (h:i<n):(l.set i x).drop n=l.drop n:=by
 rw [List.drop_set,if_pos h]
theorem val_set_take (l:List Nat) (i x:Nat) (h:i<l.length):val ((l.set i x).take (i+1))=val (l.take i)+4294967296 ^ i * x:=by
 rw [val_take_succ _ _ (by simpa using h),take_set_le _ _ _ _ (Nat.le_refl _),getD_set_self _ _ _ h]
theorem add_step {A X Y O P x y c t:Nat} (h:O+c * P=X+Y) (ht:t=x+c+y) (hA:A=O+P * (t % 4294967296)) :
  A+(t / 4294967296) * (P * 4294967296)=(X+P * x)+(Y+P * y):=by
 have e:t=4294967296 * (t / 4294967296)+t % 4294967296:=(Nat.div_add_mod _ _).symm
 generalize t / 4294967296=q at *
 generalize t % 4294967296=r at *
 subst hA
 have e2:x+c+y=4294967296 * q+r:=by omega
 have:P * (x+c+y)=P * (4294967296 * q+r):=by rw [e2]
 simp only [Nat.mul_add] at this
 rw [Nat.mul_left_comm P 4294967296 q] at this
 rw [Nat.mul_comm q (P * 4294967296),Nat.mul_right_comm,Nat.mul_comm (P * q) 4294967296]
 rw [Nat.mul_comm c P] at h
 omega
end Go.Proofs.YtcmndpjemdjalaaGreatDoor
namespace Go.Proofs.YtcmndpjemdjalaaGreatDoor
open Go.RowKit
theorem ret_int {k:IntKind} {a b:Int} (h:a=b):Ending.returned (.int k a)=.returned (.int k b):=by rw [h]
def dg (l:List Nat) (i:Nat):Nat:=l.getD i 0
theorem dg_def (l:List Nat) (i:Nat):dg l i=l.getD i 0:=rfl
theorem dg_lt {l:List Nat} (h:Digs l) (i:Nat):dg l i<4294967296:=h.get i
theorem dg_out (l:List Nat) (i:Nat) (h:l.length≤i):dg l i=0:=by simp [dg,List.getD,h]
theorem dg_get (l:List Nat) (i:Nat) (h:i<l.length):dg l i=l[i]:=by simp [dg,List.getD,h]
theorem dg_set_self (l:List Nat) (i x:Nat) (h:i<l.length):dg (l.set i x) i=x:=getD_set_self l i x h
theorem dg_set_ne (l:List Nat) (i j x:Nat) (h:i ≠ j):dg (l.set i x) j=dg l j:=getD_set_ne l i j x h
theorem dg_take (l:List Nat) (n i:Nat) (h:i<n):dg (l.take n) i=dg l i:=by simp [dg,List.getD,h]
theorem dg_drop (l:List Nat) (n i:Nat):dg (l.drop n) i=dg l (n+i):=by simp [dg,List.getD,List.getElem?_drop]
theorem val_take_dg (l:List Nat) (n:Nat) (h:n<l.length):val (l.take (n+1))=val (l.take n)+4294967296 ^ n * dg l n:=val_take_succ l n h
def u32s (l:List Nat):Array Value:=(l.map fun x:Nat=>Value.int .u32 (x:Int)).toArray
theorem u32s_size (l:List Nat):(u32s l).size=l.length:=by simp [u32s]
theorem u32s_get (l:List Nat) (i:Nat) (h:i<l.length):(u32s l)[i]?=some (.int .u32 (dg l i:Nat)):=by
 simp [u32s,dg,List.getD,h]
theorem u32s_set (l:List Nat) (i:Nat) (z:Int) (hz:0≤z):(u32s l).setIfInBounds i (.int .u32 z)=u32s (l.set i z.toNat):=by
 unfold u32s
 rw [List.map_set,List.setIfInBounds_toArray,Int.toNat_of_nonneg hz]
structure Fr (S:List Nat) (w w':World):Prop where
 os:w'.os=w.os
 tape:w'.tape=w.tape
 output:w'.output=w.output
 size:w.heap.size≤w'.heap.size
 block:∀ k,k<w.heap.size→k ∉ S→w'.heap[k]?=w.heap[k]?
theorem Fr.refl (S:List Nat) (w:World):Fr S w w:=⟨rfl,rfl,rfl,Nat.le_refl _,fun _ _ _=>rfl⟩
theorem Fr.trans {S T:List Nat} {a b c:World} (h:Fr S a b) (k:Fr T b c) (hT:∀ t∈T,t∈S∨a.heap.size≤t):Fr S a c :=
 ⟨k.os.trans h.os,k.tape.trans h.tape,k.output.trans h.output,Nat.le_trans h.size k.size,
  fun i hi hs=>(k.block i (Nat.lt_of_lt_of_le hi h.size) (fun ht=>(hT i ht).elim hs (fun hh=>by omega))).trans (h.block i hi hs)⟩
theorem Fr.alloc {S:List Nat} {a w:World} (h:Fr S a w) (o:Obj):Fr S a (w.alloc o) :=
 ⟨h.os,h.tape,h.output,by simp;have:=h.size;omega,fun i hi hs=>(Below.heap_alloc w o i (Nat.lt_of_lt_of_le hi h.size)).trans (h.block i hi hs)⟩
theorem Fr.drew {S:List Nat} {a w:World} (h:Fr S a w):Fr S a w.drew:=⟨h.os,h.tape,h.output,h.size,h.block⟩
theorem Fr.drewN {S:List Nat} {a w:World} (h:Fr S a w) (n:Nat):Fr S a (w.drewN n):=⟨h.os,h.tape,h.output,h.size,h.block⟩
theorem Fr.setCell {S:List Nat} {a w:World} (h:Fr S a w) {p:Addr} (hp:p.block∈S∨a.heap.size≤p.block) (u:Value):Fr S a (w.setCell p u) :=
 ⟨h.os,h.tape,h.output,by rw [World.size_setCell];exact h.size,fun i hi hs=>(Below.heap_setCell w p u i (fun e=>by subst e;exact hp.elim hs (fun hh=>by omega))).trans (h.block i hi hs)⟩
theorem Fr.grown {S:List Nat} {a w w':World} {row:Option Nat} (h:Fr S a w) (hg:w.grownBy w' row) (hr:∀ k,row=some k→k∈S∨a.heap.size≤k):Fr S a w' :=
 ⟨hg.os.trans h.os,hg.tape.trans h.tape,hg.output.trans h.output,Nat.le_trans h.size hg.size,
  fun i hi hs=>(hg.block i (Nat.lt_of_lt_of_le hi h.size) (fun e=>(hr i e.symm).elim hs (fun hh=>by omega))).trans (h.block i hi hs)⟩
theorem Fr.mono {S T:List Nat} {a w:World} (h:Fr S a w) (hST:∀ s∈S,s∈T):Fr T a w :=
 ⟨h.os,h.tape,h.output,h.size,fun i hi ht=>h.block i hi (fun hs=>ht (hST i hs))⟩
theorem Fr.after {S T:List Nat} {a b c:World} (h:Fr S a b) (k:Fr T b c) (hT:∀ t∈T,a.heap.size≤t):Fr S a c:=h.trans k (fun t ht=>.inr (hT t ht))
theorem Fr.then {S:List Nat} {a b c:World} (h:Fr S a b) (k:Fr [] b c):Fr S a c:=h.trans k (by simp)
theorem Fr.cell {S:List Nat} {w w':World} (h:Fr S w w') {p:Addr} (hp:p.block<w.heap.size) (hs:p.block ∉ S):w'.cell? p=w.cell? p :=
 World.cell?_of_block (w:=w) (h.block p.block hp hs)
theorem Fr.frozen {S:List Nat} {w w':World} (h:Fr S w w') {p:Addr} (hp:p.block<w.heap.size) (hs:p.block ∉ S):w'.frozen? p=w.frozen? p :=
 World.frozen?_of_block (w:=w) (h.block p.block hp hs)
theorem Fr.below {w w':World} (h:Fr [] w w'):Below w.heap.size w w':=⟨h.os,h.tape,h.output,h.size,fun k hk=>h.block k hk (by simp)⟩
theorem Fr.of_below {w w':World} (h:Below w.heap.size w w'):Fr [] w w':=⟨h.os,h.tape,h.output,h.size,fun k hk _=>h.block k hk⟩
def U32 (w:World) (lo:Nat) (v:Value) (l:List Nat):Prop :=
 Digs l∧((v=.slice none 0 0∧l=[]) ∨
  ∃ b o cap cur fr,v=.slice (some ⟨b,o,none⟩) l.length cap∧l.length≤cap∧lo≤b∧w.heap[b]?=some (.cells cur 208 fr)∧∀ i,i<l.length→cur[o+i]?=some (.int .u32 (dg l i:Nat)))
theorem U32.digs {w:World} {lo:Nat} {v:Value} {l:List Nat} (h:U32 w lo v l):Digs l:=h.1
theorem U32.nil (w:World) (lo:Nat):U32 w lo (.slice none 0 0) []:=⟨Digs.nil,.inl ⟨rfl,rfl⟩⟩
theorem U32.cases {w:World} {lo:Nat} {v:Value} {l:List Nat} (h:U32 w lo v l) :
  (v=.slice none 0 0∧l=[])∨∃ b o cap,v=.slice (some ⟨b,o,none⟩) l.length cap∧l.length≤cap∧b<w.heap.size∧∀ i,i<l.length→w.cell? ⟨b,o+i,none⟩=some (.int .u32 (dg l i:Nat)):=by
 rcases h.2 with h | ⟨b,o,cap,cur,fr,hv,hc,hlo,hh,hcell⟩
 ·exact .inl h
 ·exact .inr ⟨b,o,cap,hv,hc,(Array.getElem?_eq_some_iff.1 hh).1,fun i hi=>by rw [cell_of_row w b (o+i) cur 208 fr hh];exact hcell i hi⟩
theorem U32.shape {w:World} {lo:Nat} {v:Value} {l:List Nat} (h:U32 w lo v l) :
  ∃ ao cap,v=.slice ao l.length cap∧l.length≤cap∧∀ i,i<l.length→∃ b o,ao=some ⟨b,o,none⟩∧b<w.heap.size∧w.cell? ⟨b,o+i,none⟩=some (.int .u32 (dg l i:Nat)):=by
 rcases h.cases with ⟨rfl,rfl⟩ | ⟨b,o,cap,rfl,hc,hb,hcell⟩
 ·exact⟨none,0,rfl,Nat.le_refl _,fun i hi=>by simp at hi⟩
 ·exact⟨some ⟨b,o,none⟩,cap,rfl,hc,fun i hi=>⟨b,o,rfl,hb,hcell i hi⟩⟩
theorem U32.mono {w:World} {lo lo':Nat} {v:Value} {l:List Nat} (h:U32 w lo v l) (hl:lo'≤lo):U32 w lo' v l:=by
 refine⟨h.1,h.2.imp id ?_⟩
 rintro ⟨b,o,cap,cur,fr,hv,hc,hlo,r⟩
 exact⟨b,o,cap,cur,fr,hv,hc,Nat.le_trans hl hlo,r⟩
def NoWord (S:List Nat) (w:World):Prop:=∀ s∈S,∀ c f,w.heap[s]? ≠ some (.cells c 208 f)
theorem NoWord.nil (w:World):NoWord [] w:=fun _ h=>by cases h
theorem NoWord.of_type {w:World} {p:Nat} {c:Array Value} {t:TypeId} {f:Nat × Nat} (h:w.heap[p]?=some (.cells c t f)) (ht:t ≠ 208):NoWord [p] w:=by
 intro s hs c' f' he
 simp at hs;subst hs
 rw [h] at he;simp at he;exact ht he.2.1
theorem U32.fr {w w':World} {lo:Nat} {v:Value} {l:List Nat} {S:List Nat} (h:U32 w lo v l) (hf:Fr S w w') (hS:NoWord S w):U32 w' lo v l:=by
 refine⟨h.1,h.2.imp id ?_⟩
 rintro ⟨b,o,cap,cur,fr,hv,hc,hlo,hh,r⟩
 exact⟨b,o,cap,cur,fr,hv,hc,hlo,(hf.block b (Array.getElem?_eq_some_iff.1 hh).1 (fun hb=>hS b hb _ _ hh)).trans hh,r⟩
theorem U32.fr0 {w w':World} {lo:Nat} {v:Value} {l:List Nat} (h:U32 w lo v l) (hf:Fr [] w w'):U32 w' lo v l:=h.fr hf (NoWord.nil _)
theorem U32.grown {w w':World} {lo g:Nat} {v:Value} {l:List Nat} (h:U32 w lo v l) (hf:Fr [g] w w') (hg:g<lo):U32 w' lo v l:=by
 refine⟨h.1,h.2.imp id ?_⟩
 rintro ⟨b,o,cap,cur,fr,hv,hc,hlo,hh,r⟩
 exact⟨b,o,cap,cur,fr,hv,hc,hlo,(hf.block b (Array.getElem?_eq_some_iff.1 hh).1 (by simp;omega)).trans hh,r⟩
def Own (w:World) (g:Nat) (l:List Nat):Prop:=w.heap[g]?=some (.cells (u32s l) 208 (0,0))
theorem Own.lt {w:World} {g:Nat} {l:List Nat} (h:Own w g l):g<w.heap.size:=(Array.getElem?_eq_some_iff.1 h).1
theorem Own.cell {w:World} {g:Nat} {l:List Nat} (h:Own w g l) (i:Nat) (hi:i<l.length):w.cell? ⟨g,i,none⟩=some (.int .u32 (dg l i:Nat)):=by
 rw [cell_of_row w g i _ _ _ h];exact u32s_get l i hi
theorem Own.free {w:World} {g:Nat} {l:List Nat} (h:Own w g l) (i:Nat):w.frozen? ⟨g,i,none⟩=false:=frozen_of_row w g i _ _ h
theorem Own.set {w:World} {g:Nat} {l:List Nat} (h:Own w g l) (i:Nat) (z:Int) (hz:0≤z):Own (w.setCell ⟨g,i,none⟩ (.int .u32 z)) g (l.set i z.toNat):=by
 unfold Own
 rw [heap_setCell_same w g i _ _ _ h,u32s_set l i z hz]
theorem Own.fr {w w':World} {g:Nat} {l:List Nat} {S:List Nat} (h:Own w g l) (hf:Fr S w w') (hg:g ∉ S):Own w' g l:=(hf.block g h.lt hg).trans h
theorem Own.u32 {w:World} {g lo:Nat} {l:List Nat} (h:Own w g l) (hd:Digs l) (hl:lo≤g) (n:Nat) (hn:n≤l.length):U32 w lo (.slice (some ⟨g,0,none⟩) n l.length) (l.take n):=by
 have e:(l.take n).length=n:=by simp;omega
 refine⟨hd.take n,.inr ⟨g,0,l.length,_,_,by rw [e],by omega,hl,h,fun i hi=>?_⟩⟩
 rw [e] at hi
 rw [Nat.zero_add,u32s_get l i (by omega),dg_take l n i hi]
theorem Own.all {w:World} {g lo:Nat} {l:List Nat} (h:Own w g l) (hd:Digs l) (hl:lo≤g):U32 w lo (.slice (some ⟨g,0,none⟩) l.length l.length) l:=by
 have:=h.u32 hd hl l.length (Nat.le_refl _)
 rwa [List.take_of_length_le (Nat.le_refl _)] at this
theorem Own.made {w':World} {g n:Nat} (h:w'.ownsRow g 208 1 (.slice (some ⟨g,0,none⟩) n n) n (madeCells (Value.cells (.int .u32 0)) (n * 1)).toList):Own w' g (List.replicate n 0):=by
 rcases h.2 with ⟨h',_⟩ | ⟨g',cap',cur,h',_,hg,_,_,hsz,htake⟩
 ·simp at h'
 ·simp only [Value.slice.injEq,Option.some.injEq,Addr.mk.injEq,and_true,true_and] at h'
  obtain⟨rfl,rfl⟩:=h'
  unfold Own
  rw [hg]
  have e:cur.toList=(madeCells (Value.cells (.int .u32 0)) (n * 1)).toList:=by
   rw [← htake];symm;apply List.take_of_length_le;simp;omega
  have e2:cur=u32s (List.replicate n 0):=by
   apply Array.toList_inj.1
   rw [e]
   show (madeCells #[Value.int .u32 0] (n * 1)).toList=_
   rw [toList_madeCells_one]
   simp [u32s]
  rw [e2]
theorem info_u32:(Tryz.prog.info? 208).map (fun i=>(i.zero,i.size,i.bytes))=some (some (.int .u32 0),1,4):=by kernel_rfl
theorem und_u32s:Tryz.prog.underlying 77=some (.slice 208):=by kernel_rfl
theorem make_u32 (w:World) {ops:Array Oper} {rest:List Oper} {o:Oper} {a:Act} {Q:Exit→Act→World→Prop}
  (hg:o.guard=none) (s c:Operand) (hop:o.op=Op.makeSlice 77 s c) (L C:Int) (n:Nat) (hl:a.eval s=.int .i64 L) (hc:a.eval c=.int .i64 C)
  (hL:L=(n:Int)) (hC:C=(n:Int)) (hn:n≤70368744177664)
  (hK:∀ w',Own w' w.heap.size (List.replicate n 0)→Fr [] w w'→wpList Tryz.prog ops Q rest (a.put o.dst (.slice (some ⟨w.heap.size,0,none⟩) n n)) w') :
  wpList Tryz.prog ops Q (o :: rest) a w:=by
 obtain⟨i0,hi,hz0,hz1,hz2⟩:=info_parts info_u32
 refine wpList_make_full w hg s c 77 hop w.heap.size 208 i0 (.int .u32 0) 1 und_u32s hi hz0 hz1 .i64 .i64 L C n hl hc hL hC (by rw [hz2];omega) (by unfold maxLen;omega) (Nat.le_refl _) ?_
 intro w' r1 r2
 exact hK w' (Own.made r1) ((Fr.refl [] w).grown r2 (by simp))
end Go.Proofs.YtcmndpjemdjalaaGreatDoor
namespace Go.Proofs.YtcmndpjemdjalaaGreatDoor
open Go.RowKit
theorem U32.sub {w:World} {lo b o cap n:Nat} {l:List Nat} (h:U32 w lo (.slice (some ⟨b,o,none⟩) l.length cap) l) (hn:n≤l.length):U32 w lo (.slice (some ⟨b,o,none⟩) n cap) (l.take n):=by
 rcases h.2 with ⟨h',_⟩ | ⟨b',o',cap',cur,fr,hv,hc,hlo,hh,r⟩
 ·simp at h'
 ·simp only [Value.slice.injEq,Option.some.injEq,Addr.mk.injEq,and_true,true_and] at hv
  obtain⟨⟨rfl,rfl⟩,rfl⟩:=hv
  have e:(l.take n).length=n:=by simp;omega
  refine⟨h.1.take n,.inr ⟨b,o,cap,cur,fr,by rw [e],by omega,hlo,hh,fun i hi=>?_⟩⟩
  rw [e] at hi
  rw [r i (by omega),dg_take l n i hi]
theorem val_take_any (l:List Nat) (n:Nat):val (l.take (n+1))=val (l.take n)+4294967296 ^ n * dg l n:=by
 by_cases h:n<l.length
 ·exact val_take_dg l n h
 ·rw [dg_out l n (by omega),take_all l (n+1) (by omega),take_all l n (by omega)];omega
theorem add_rel {w wr:World} {x y L:List Nat} {k q:Nat} {T:Int} (_hk:k≤x.length) (hlt:k<x.length) (hL:Hid (L.length=x.length+1)) (hdL:Digs L) (hown:Own wr w.heap.size L) (hfr:Fr [] w wr)
  (hv:Hid (val (L.take k)+q * 4294967296 ^ k=val (x.take k)+val (y.take k))) (hq:q≤1) (hT:T=(dg x k+q+dg y k:Nat)) (d1:dg x k<4294967296) (d2:dg y k<4294967296) :
  ∃ (k' q':Nat) (L':List Nat),Value.int .i64 ((k:Int)+1)=.int .i64 k'∧Value.int .u64 (T / 4294967296)=.int .u64 q'∧k'≤x.length∧q'≤1∧Hid (L'.length=x.length+1)∧Digs L' ∧
   Own (wr.setCell ⟨w.heap.size,k,none⟩ (.int .u32 (T % 4294967296))) w.heap.size L'∧Fr [] w (wr.setCell ⟨w.heap.size,k,none⟩ (.int .u32 (T % 4294967296))) ∧
   Hid (val (L'.take k')+q' * 4294967296 ^ k'=val (x.take k')+val (y.take k')):=by
 subst hT
 have hLl:=hL.out
 have e1:(((dg x k+q+dg y k:Nat):Int) % 4294967296).toNat=(dg x k+q+dg y k) % 4294967296:=by omega
 refine⟨k+1,(dg x k+q+dg y k) / 4294967296,L.set k ((dg x k+q+dg y k) % 4294967296),by rfl,by rw [Int.natCast_ediv];rfl,by omega,by omega,Go.Lib.hid (by rw [List.length_set];exact hLl),hdL.set _ _ (by omega),?_,hfr.setCell (.inr (Nat.le_refl _)) _,Go.Lib.hid ?_⟩
 ·rw [← e1];exact hown.set k _ (by omega)
 ·rw [val_take_any x,val_take_any y,Nat.pow_succ]
  exact add_step hv.out rfl (val_set_take L k _ (by omega))
theorem Own.splice {w:World} {g:Nat} {D l:List Nat} (_hl:l.length≤D.length) (h:w.heap[g]?=some (.cells (splice (D.map fun x:Nat=>Value.int .u32 (x:Int)) 0 (l.map fun x:Nat=>Value.int .u32 (x:Int))).toArray 208 (0,0))):Own w g (l++D.drop l.length):=by
 unfold Own
 rw [h]
 simp [Go.splice,u32s,List.map_drop]
theorem size_u32:(Tryz.prog.info? 208).map (·.size)=some 1:=by kernel_rfl
theorem copy_u32 {w:World} {ops:Array Oper} {rest:List Oper} {op:Oper} {a:Act} {Q:Exit→Act→World→Prop} (hgd:op.guard=none) (d s:Operand)
  (ho:op.op=.call { callee:=.builtin .copy,args:=#[d,s],argTypes:=#[77,77] }) (g dCap lo:Nat) (D l:List Nat) (v:Value)
  (hd:a.eval d=.slice (some ⟨g,0,none⟩) D.length dCap) (hs:a.eval s=v) (hv:U32 w lo v l) (hl:l.length≤D.length) (hown:Own w g D)
  (h:∀ w',Own w' g (l++D.drop l.length)→Fr [g] w w'→wpList Tryz.prog ops Q rest (a.put op.dst (goInt l.length)) w'):wpList Tryz.prog ops Q (op :: rest) a w:=by
 obtain⟨ao,cap,rfl,hcap,hc⟩:=hv.shape
 have e1:(l.map fun x:Nat=>Value.int .u32 (x:Int)).length=l.length:=by simp
 by_cases h0:l.length=0
 ·obtain rfl:l=[]:=List.eq_nil_of_length_eq_zero h0
  refine wpList_copy_nothing hgd d s 77 77 ho 208 und_u32s size_u32 (some ⟨g,0,none⟩) ao D.length dCap 0 cap hd hs (by simp) ?_
  exact h w (by simpa using hown) (Fr.refl _ _)
 ·obtain⟨b,o,rfl,hb,_⟩:=hc 0 (by omega)
  refine wpList_copy_own hgd d s 77 77 ho 208 und_u32s size_u32 g 0 D.length dCap ⟨b,o,none⟩ l.length cap hd hs _ 208 hown (l.map fun x:Nat=>Value.int .u32 (x:Int))
   (by rw [e1];exact (Nat.min_eq_left hl).symm) ?_ (by rw [e1,u32s_size];omega) (by intro u hu;simp at hu;obtain⟨x,_,rfl⟩:=hu;rfl) ?_
  ·intro j u hu
   have hj:j<l.length:=by have:=(List.getElem?_eq_some_iff.1 hu).1;simpa using this
   obtain⟨b',o',hbo,_,hcell⟩:=hc j hj
   simp only [Option.some.injEq,Addr.mk.injEq,and_true] at hbo
   obtain⟨rfl,rfl⟩:=hbo
   have:u=.int .u32 (dg l j:Nat):=by
    simp [dg,List.getD,hj] at hu ⊢;exact hu.symm
   rw [this,← hcell]
   congr 1
   unfold Addr.add;split <;> simp_all
  ·rw [e1]
   refine h _ ?_ ⟨rfl,rfl,rfl,by simp [World.setRow],fun k hk hs=>setRow_other w g k _ (by simpa using hs)⟩
   refine Own.splice hl ?_
   rw [setRow_heap w g _ _ 208 (0,0) hown]
   simp [Go.splice,u32s]
theorem or64 (a b:Nat) (ha:a<4294967296) (hb:b<4294967296):bits .or .u64 ((a:Int) * 4294967296) (b:Int)=((a * 4294967296+b:Nat):Int):=by
 have e:((a:Int) * 4294967296)=((a * 4294967296:Nat):Int):=by omega
 rw [e,u64_or_nat _ _ (by omega) (by omega),nat_join 32 (a * 4294967296) b (by omega) (by omega)]
theorem val_low (l:List Nat) (hd:Digs l):val l % 18446744073709551616=dg l 1 * 4294967296+dg l 0:=by
 have d0:=dg_lt hd 0
 have d1:=dg_lt hd 1
 cases l with
 | nil=>simp [val,dg]
 | cons x l =>
  cases l with
  | nil=>simp [val,dg] at *;omega
  | cons y l=>simp only [val_cons,dg,List.getD_cons_zero,List.getD_cons_succ] at *;omega
theorem Own.pair (w:World) (x y:Nat):Own (w.alloc (.cells #[.int .u32 (x:Int),.int .u32 (y:Int)] 208)) w.heap.size [x,y]:=by
 unfold Own
 rw [heap_alloc_new]
 simp [u32s]
def cmpI (m n:Nat):Int:=if m<n then -1 else if n<m then 1 else 0
theorem cmpI_lt {m n:Nat} (h:m<n):cmpI m n=-1:=by simp [cmpI,h]
theorem cmpI_gt {m n:Nat} (h:n<m):cmpI m n=1:=by simp [cmpI,h,Nat.not_lt_of_lt h]
theorem cmpI_eq (m:Nat):cmpI m m=0:=by simp [cmpI]
theorem val_lt_of {x y:List Nat} (hl:x.length=y.length) (hx:Digs x) {i:Nat} (hi:i<x.length) (ha:∀ j,i<j→j<x.length→dg x j=dg y j) (hlt:dg x i<dg y i):val x<val y:=by
 have ex:=val_take_drop x (i+1) (by omega)
 have ey:=val_take_drop y (i+1) (by omega)
 have hdr:x.drop (i+1)=y.drop (i+1):=by
  apply List.ext_getElem
  ·simp [hl]
  ·intro j h1 h2
   simp only [List.length_drop] at h1 h2
   have:=ha (i+1+j) (by omega) (by omega)
   rw [dg_get x _ (by omega),dg_get y _ (by omega)] at this
   simpa using this
 rw [val_take_any x,hdr] at ex
 rw [val_take_any y] at ey
 have hb:=(hx.take i).lt
 rw [List.length_take,Nat.min_eq_left (by omega)] at hb
 have:4294967296 ^ i * (dg x i+1)≤4294967296 ^ i * dg y i:=Nat.mul_le_mul_left _ (by omega)
 rw [Nat.mul_add,Nat.mul_one] at this
 omega
theorem val_eq_of {x y:List Nat} (hl:x.length=y.length) (ha:∀ j,j<x.length→dg x j=dg y j):x=y:=by
 apply List.ext_getElem hl
 intro j h1 h2
 have:=ha j h1
 rwa [dg_get x _ h1,dg_get y _ h2] at this
theorem sub_step {P A X Y r x y q q':Nat} (h:A+Y=X+q * P) (hd:r+y+q=x+q' * 4294967296):A+P * r+(Y+P * y)=X+P * x+q' * (P * 4294967296):=by
 grind
theorem sub_rel {w wr:World} {x y L:List Nat} {k q:Nat} {R Q:Int} (hk:k<x.length) (hL:Hid (L.length=x.length)) (hdL:Digs L) (hown:Own wr w.heap.size L) (hfr:Fr [] w wr)
  (hv:Hid (val (L.take k)+val (y.take k)=val (x.take k)+q * 4294967296 ^ k)) (hq:q≤1) (d1:dg x k<4294967296) (d2:dg y k<4294967296)
  (hQ:Q=if dg x k<q+dg y k then 1 else 0) (hR:R=(dg x k:Int) - q - dg y k+Q * 4294967296) :
  ∃ (k' q':Nat) (L':List Nat),Value.int .i64 ((k:Int)+1)=.int .i64 k'∧Value.int .u64 Q=.int .u64 q'∧k'≤x.length∧q'≤1∧Hid (L'.length=x.length)∧Digs L' ∧
   Own (wr.setCell ⟨w.heap.size,k,none⟩ (.int .u32 R)) w.heap.size L'∧Fr [] w (wr.setCell ⟨w.heap.size,k,none⟩ (.int .u32 R)) ∧
   Hid (val (L'.take k')+val (y.take k')=val (x.take k')+q' * 4294967296 ^ k'):=by
 have hLl:=hL.out
 have h0:0≤R∧R<4294967296∧0≤Q∧Q≤1:=by split at hQ <;> omega
 refine⟨k+1,Q.toNat,L.set k R.toNat,by rfl,by rw [Int.toNat_of_nonneg h0.2.2.1],by omega,by omega,Go.Lib.hid (by rw [List.length_set];exact hLl),hdL.set _ _ (by omega),hown.set k _ h0.1,hfr.setCell (.inr (Nat.le_refl _)) _,Go.Lib.hid ?_⟩
 rw [val_take_any x,val_take_any y,Nat.pow_succ,val_set_take L k _ (by omega)]
 exact sub_step hv.out (by omega)
theorem val_set (l:List Nat) (i x:Nat) (h:i<l.length):val (l.set i x)+4294967296 ^ i * dg l i=val l+4294967296 ^ i * x:=by
 have e1:=val_take_drop (l.set i x) (i+1) (by rw [List.length_set];omega)
 have e2:=val_take_drop l (i+1) (by omega)
 rw [drop_set_lt _ _ _ _ (by omega),val_set_take _ _ _ h] at e1
 rw [val_take_any] at e2
 omega
theorem mul_lt {a b:Nat} (ha:a<4294967296) (hb:b<4294967296):a * b≤18446744065119617025:=by
 have:=Nat.mul_le_mul (show a≤4294967295 by omega) (show b≤4294967295 by omega)
 omega
theorem mul_ltI {a b:Nat} (ha:a<4294967296) (hb:b<4294967296):0≤(a:Int) * (b:Int)∧(a:Int) * (b:Int)≤18446744065119617025:=by
 have h:=mul_lt ha hb
 have e:(a:Int) * (b:Int)=((a * b:Nat):Int):=(Int.natCast_mul a b).symm
 rw [e];omega
theorem mul_step {V V' V0 P Pi Pj c q r xi yj Yj Lk:Nat} (h:V+c * P=V0+xi * Yj * Pi) (hP:P=Pi * Pj) (hs:V'+P * Lk=V+P * r) (ht:xi * yj+Lk+c=4294967296 * q+r) :
  V'+q * (P * 4294967296)=V0+xi * (Yj+Pj * yj) * Pi:=by grind
theorem mul_rel {w wr _wo:World} {x y L L0:List Nat} {i j c:Nat} {T:Int} (hi:i<x.length) (hj:j<y.length) (hL:Hid (L.length=x.length+y.length)) (hdL:Digs L) (hown:Own wr w.heap.size L) (hfr:Fr [] w wr)
  (hc:c<4294967296) (hv:Hid (val L+c * 4294967296 ^ (i+j)=val L0+dg x i * val (y.take j) * 4294967296 ^ i)) (hz:Hid (∀ k,i+y.length≤k→dg L k=0))
  (d1:dg x i<4294967296) (d2:dg y j<4294967296) (d3:dg L (i+j)<4294967296) (hT:T=(dg x i:Int) * (dg y j:Int)+(dg L (i+j):Int)+(c:Int)) :
  ∃ (j' c':Nat) (L':List Nat),Value.int .i64 ((j:Int)+1)=.int .i64 j'∧Value.int .u64 (T / 4294967296)=.int .u64 c'∧j'≤y.length∧c'<4294967296∧Hid (L'.length=x.length+y.length)∧Digs L' ∧
   Own (wr.setCell ⟨w.heap.size,i+j,none⟩ (.int .u32 (T % 4294967296))) w.heap.size L'∧Fr [] w (wr.setCell ⟨w.heap.size,i+j,none⟩ (.int .u32 (T % 4294967296))) ∧
   Hid (val L'+c' * 4294967296 ^ (i+j')=val L0+dg x i * val (y.take j') * 4294967296 ^ i)∧Hid (∀ k,i+y.length≤k→dg L' k=0):=by
 have hLl:=hL.out
 have hm:=mul_lt d1 d2
 obtain⟨t,ht⟩:∃ t:Nat,t=dg x i * dg y j+dg L (i+j)+c:=⟨_,rfl⟩
 have hTt:T=(t:Int):=by rw [hT,ht];simp
 subst hTt
 have e1:((t:Int) % 4294967296).toNat=t % 4294967296:=by omega
 have e2:t=4294967296 * (t / 4294967296)+t % 4294967296:=(Nat.div_add_mod _ _).symm
 refine⟨j+1,t / 4294967296,L.set (i+j) (t % 4294967296),by rfl,by rw [Int.natCast_ediv];rfl,by omega,by omega,Go.Lib.hid (by rw [List.length_set];exact hLl),hdL.set _ _ (by omega),?_,hfr.setCell (.inr (Nat.le_refl _)) _,Go.Lib.hid ?_,Go.Lib.hid ?_⟩
 ·rw [← e1];exact hown.set _ _ (by omega)
 ·rw [val_take_any y,← Nat.add_assoc,Nat.pow_succ]
  exact mul_step hv.out (Nat.pow_add _ _ _) (val_set L (i+j) _ (by omega)) (by rw [← e2,ht])
 ·intro k hk
  rw [dg_set_ne _ _ _ _ (by omega)];exact hz.out k hk
theorem row_rel {w wr:World} {x y L L0:List Nat} {i c:Nat} (hi:i<x.length) (hL:Hid (L.length=x.length+y.length)) (hdL:Digs L) (hown:Own wr w.heap.size L) (hfr:Fr [] w wr)
  (hc:c<4294967296) (hv0:Hid (val L0=val (x.take i) * val y)) (hv:Hid (val L+c * 4294967296 ^ (i+y.length)=val L0+dg x i * val (y.take y.length) * 4294967296 ^ i)) (hz:Hid (∀ k,i+y.length≤k→dg L k=0)) :
  ∃ (k:Nat) (L':List Nat),Value.int .i64 ((i:Int)+1)=.int .i64 k∧k≤x.length∧Hid (L'.length=x.length+y.length)∧Digs L' ∧
   Own (wr.setCell ⟨w.heap.size,i+y.length,none⟩ (.int .u32 (c:Int))) w.heap.size L'∧Fr [] w (wr.setCell ⟨w.heap.size,i+y.length,none⟩ (.int .u32 (c:Int))) ∧
   Hid (val L'=val (x.take k) * val y)∧Hid (∀ j,k+y.length≤j→dg L' j=0):=by
 have hLl:=hL.out
 have ho:=hown.set (i+y.length) (c:Int) (by omega)
 rw [Int.toNat_natCast] at ho
 refine⟨i+1,L.set (i+y.length) c,by rfl,by omega,Go.Lib.hid (by rw [List.length_set];exact hLl),hdL.set _ _ hc,ho,hfr.setCell (.inr (Nat.le_refl _)) _,Go.Lib.hid ?_,Go.Lib.hid ?_⟩
 ·have e:=val_set L (i+y.length) c (by omega)
  have h1:=hv.out
  have h2:=hv0.out
  rw [hz.out (i+y.length) (Nat.le_refl _)] at e
  rw [take_all y _ (Nat.le_refl _)] at h1
  rw [val_take_any x,Nat.add_mul]
  rw [Nat.mul_comm c] at h1
  have h3:dg x i * val y * 4294967296 ^ i=4294967296 ^ i * dg x i * val y:=by grind
  omega
 ·intro k hk
  rw [dg_set_ne _ _ _ _ (by omega)];exact hz.out k (by omega)
end Go.Proofs.YtcmndpjemdjalaaGreatDoor
namespace Go.Proofs.YtcmndpjemdjalaaGreatDoor.Pb
open Go.RowKit
theorem trim_some (b o cap:Nat) (l:List Nat) (w:World) (hn:l.length≤1099511627776) (hcap:l.length≤cap)
  (hc:∀ i,i<l.length→w.cell? ⟨b,o+i,none⟩=some (.int .u32 (dg l i:Nat))) :
  Calls Tryz.prog 172 #[.slice (some ⟨b,o,none⟩) l.length cap] w fun e w' =>
   ∃ n,e=.returned (.slice (some ⟨b,o,none⟩) n cap)∧n≤l.length∧Norm (l.take n)∧val (l.take n)=val l∧w=w':=by
 go_enter Tryz.func172,Tryz.ntmps172
 go_wp2
 go_loop [3] (fun i=>∃ n:Nat,i=.int .i64 n∧n≤l.length∧∀ j,n≤j→j<l.length→dg l j=0) (fun i=>(intOf i).toNat)
 case atStart=>exact⟨_,rfl,Nat.le_refl _,fun j h1 h2=>by omega⟩
 case round =>
  obtain⟨n,rfl,hnl,hz⟩:=hrel
  have HZ:=Go.Lib.hid hz;clear hz
  by_cases h0:n=0
  ·subst h0
   clear hc
   go_wp2
   go_ret
   exact⟨0,rfl,Nat.zero_le _,by simp [Norm.nil],val_take_of_zero l 0 (Nat.zero_le _) HZ.out,rfl⟩
  ·have hlt:n - 1<l.length:=by omega
   have hcn:=hc _ hlt
   obtain⟨m,rfl⟩:∃ m,n=m+1:=⟨n - 1,by omega⟩
   simp only [Nat.add_sub_cancel] at hcn
   clear hc
   go_wp2
   ·have hm:((dg l m:Nat):Int)==0:=by assumption
    have hm0:dg l m=0:=by simpa using hm
    go_round
    case rel=>exact⟨m,rfl,by omega,fun j h1 h2=>by rcases Nat.eq_or_lt_of_le h1 with rfl | h;exact hm0;exact HZ.out j (by omega) h2⟩
    case measure=>simp [intOf]
   ·have hm:(((dg l m:Nat):Int)==0)=false:=by assumption
    have hm0:dg l m ≠ 0:=by simpa using hm
    go_ret
    refine⟨m+1,rfl,hnl,Norm.of_last (.inr ?_),val_take_of_zero l _ hnl HZ.out,rfl⟩
    have:(l.take (m+1)).length=m+1:=by simp;omega
    rw [this,Nat.add_sub_cancel,← dg_def,dg_take l _ _ (by omega)]
    exact hm0
theorem trim_nil (w:World):Calls Tryz.prog 172 #[.slice none 0 0] w fun e w'=>e=.returned (.slice none 0 0)∧w=w':=by
 go_enter Tryz.func172,Tryz.ntmps172
 go_wp2
 go_rounds 1
 go_ret
 exact⟨rfl,rfl⟩
theorem trim_any (w:World) (lo:Nat) (v:Value) (l:List Nat) (h:U32 w lo v l) (hn:l.length≤1099511627776) :
  Calls Tryz.prog 172 #[v] w fun e w'=>∃ v' l',e=.returned v'∧U32 w lo v' l'∧Is l' (val l)∧l'.length≤l.length∧w=w':=by
 rcases h.cases with ⟨rfl,rfl⟩ | ⟨b,o,cap,rfl,hcap,_,hc⟩
 ·refine (trim_nil w).mono ?_
  rintro e w' ⟨rfl,rfl⟩
  exact⟨_,[],rfl,U32.nil _ _,Is.nil,Nat.le_refl _,rfl⟩
 ·refine (trim_some b o cap l w hn hcap hc).mono ?_
  rintro e w' ⟨n,rfl,hnl,hN,hv,rfl⟩
  exact⟨_,l.take n,rfl,h.sub hnl,⟨h.digs.take n,hN,hv⟩,by simp;omega,rfl⟩
theorem add_ge (w:World) (lo:Nat) (v u:Value) (x y:List Nat) (hx:U32 w lo v x) (hy:U32 w lo u y) (hlen:y.length≤x.length) (hn:x.length≤4294967296) :
  Calls Tryz.prog 205 #[v,u] w fun e w'=>∃ v' l',e=.returned v'∧U32 w' w.heap.size v' l'∧Is l' (val x+val y)∧l'.length≤x.length+1∧Fr [] w w':=by
 have hdx:=hx.digs
 have hdy:=hy.digs
 obtain⟨ao,cap,rfl,hcap,hc⟩:=hx.shape
 obtain⟨ao2,cap2,rfl,hcap2,hc2⟩:=hy.shape
 have hnl:¬ ((x.length:Int)<(y.length:Int)):=by omega
 have Hc:=Go.Lib.hid hc;clear hc hx
 have Hc2:=Go.Lib.hid hc2;clear hc2 hy
 go_enter Tryz.func205,Tryz.ntmps205
 go_wp2_with (at_make;refine make_u32 _ rfl _ _ rfl _ _ (x.length+1) rfl rfl (by omega) (by omega) (by omega) ?_;intro w1 hown hf)
 have hs1:=hown.lt
 go_loopw [6,7] (fun c i wr=>∃ (k q:Nat) (L:List Nat),i=.int .i64 k∧c=.int .u64 q∧k≤x.length∧q≤1∧Hid (L.length=x.length+1)∧Digs L∧Own wr w.heap.size L∧Fr [] w wr ∧
   Hid (val (L.take k)+q * 4294967296 ^ k=val (x.take k)+val (y.take k)))
  (fun _ i _=>x.length - (intOf i).toNat)
 case atStart=>exact⟨0,0,_,rfl,rfl,Nat.zero_le _,by omega,Go.Lib.hid (by simp),Digs.replicate _,hown,hf,Go.Lib.hid (by simp [val])⟩
 case round =>
  obtain⟨k,q,L,rfl,rfl,hk,hq,hL,hdL,hownr,hfr,hv⟩:=hrel
  clear hown hf hs1
  by_cases hlt:k<x.length
  ·obtain⟨b,o,rfl,hbw,hcw⟩:=Hc.out k hlt
   have hcx:wr.cell? ⟨b,o+k,none⟩=some (.int .u32 (dg x k:Nat)):=(hfr.cell hbw (by simp)).trans hcw
   clear hcw
   have hox:=hownr.cell k (by rw [hL.out];omega)
   have hfx:=hownr.free k
   have d1:=dg_lt hdx k
   have d2:=dg_lt hdy k
   by_cases hlt2:k<y.length
   ·obtain⟨b2,o2,rfl,hbw2,hcw2⟩:=Hc2.out k hlt2
    have hcy:wr.cell? ⟨b2,o2+k,none⟩=some (.int .u32 (dg y k:Nat)):=(hfr.cell hbw2 (by simp)).trans hcw2
    clear hcw2
    go_wp2
    go_roundw
    case rel=>exact add_rel hk hlt hL hdL hownr hfr hv hq (by omega) d1 d2
    case measure=>simp [intOf];omega
   ·have hy0:=dg_out y k (by omega)
    have HY:=Go.Lib.hid hy0;clear hy0
    go_wp2
    go_roundw
    case rel=>exact add_rel hk hlt hL hdL hownr hfr hv hq (by rw [HY.out];omega) d1 d2
    case measure=>simp [intOf];omega
  ·obtain rfl:k=x.length:=by omega
   have hox:=hownr.cell x.length (by rw [hL.out];omega)
   have hfx:=hownr.free x.length
   have ho:=hownr.set x.length (q:Int) (by omega)
   rw [Int.toNat_natCast] at ho
   have hLl:=hL.out
   have hd2:=hdL.set x.length q (by omega)
   have hu:=ho.all hd2 (Nat.le_refl _)
   rw [List.length_set,hLl] at hu
   have hval:val (L.set x.length q)=val x+val y:=by
    have e:=hv.out
    have e2:=val_set_take L x.length q (by omega)
    rw [take_all _ _ (by rw [List.length_set];omega)] at e2
    rw [take_all x _ (Nat.le_refl _),take_all y _ hlen,Nat.mul_comm] at e
    omega
   clear hLl
   have Hval:=Go.Lib.hid hval;clear hval
   go_wp2_with fail
   refine (trim_any _ w.heap.size _ _ hu (by rw [List.length_set,hL.out];omega)).mono ?_
   rintro e w' ⟨v',l',rfl,h1,h2,h3,rfl⟩
   go_wp2
   go_ret
   exact⟨v',l',rfl,h1,Hval.out ▸ h2,by rw [List.length_set,hL.out] at h3;exact h3,hfr.setCell (.inr (Nat.le_refl _)) _⟩
theorem add_lt (w:World) (lo:Nat) (v u:Value) (x y:List Nat) (hx:U32 w lo v x) (hy:U32 w lo u y) (hlt:y.length<x.length) (hn:x.length≤4294967296) :
  Calls Tryz.prog 205 #[u,v] w fun e w'=>∃ v' l',e=.returned v'∧U32 w' w.heap.size v' l'∧Is l' (val x+val y)∧l'.length≤x.length+1∧Fr [] w w':=by
 have hdx:=hx.digs
 have hdy:=hy.digs
 have hlen:y.length≤x.length:=by omega
 obtain⟨ao,cap,rfl,hcap,hc⟩:=hx.shape
 obtain⟨ao2,cap2,rfl,hcap2,hc2⟩:=hy.shape
 have hnl:(y.length:Int)<(x.length:Int):=by omega
 have Hc:=Go.Lib.hid hc;clear hc hx
 have Hc2:=Go.Lib.hid hc2;clear hc2 hy
 go_enter Tryz.func205,Tryz.ntmps205
 go_wp2_with (at_make;refine make_u32 _ rfl _ _ rfl _ _ (x.length+1) rfl rfl (by omega) (by omega) (by omega) ?_;intro w1 hown hf)
 have hs1:=hown.lt
 go_loopw [6,7] (fun c i wr=>∃ (k q:Nat) (L:List Nat),i=.int .i64 k∧c=.int .u64 q∧k≤x.length∧q≤1∧Hid (L.length=x.length+1)∧Digs L∧Own wr w.heap.size L∧Fr [] w wr ∧
   Hid (val (L.take k)+q * 4294967296 ^ k=val (x.take k)+val (y.take k)))
  (fun _ i _=>x.length - (intOf i).toNat)
 case atStart=>exact⟨0,0,_,rfl,rfl,Nat.zero_le _,by omega,Go.Lib.hid (by simp),Digs.replicate _,hown,hf,Go.Lib.hid (by simp [val])⟩
 case round =>
  obtain⟨k,q,L,rfl,rfl,hk,hq,hL,hdL,hownr,hfr,hv⟩:=hrel
  clear hown hf hs1
  by_cases hlt':k<x.length
  ·obtain⟨b,o,rfl,hbw,hcw⟩:=Hc.out k hlt'
   have hcx:wr.cell? ⟨b,o+k,none⟩=some (.int .u32 (dg x k:Nat)):=(hfr.cell hbw (by simp)).trans hcw
   clear hcw
   have hox:=hownr.cell k (by rw [hL.out];omega)
   have hfx:=hownr.free k
   have d1:=dg_lt hdx k
   have d2:=dg_lt hdy k
   by_cases hlt2:k<y.length
   ·obtain⟨b2,o2,rfl,hbw2,hcw2⟩:=Hc2.out k hlt2
    have hcy:wr.cell? ⟨b2,o2+k,none⟩=some (.int .u32 (dg y k:Nat)):=(hfr.cell hbw2 (by simp)).trans hcw2
    clear hcw2
    go_wp2
    go_roundw
    case rel=>exact add_rel hk hlt' hL hdL hownr hfr hv hq (by omega) d1 d2
    case measure=>simp [intOf];omega
   ·have hy0:=dg_out y k (by omega)
    have HY:=Go.Lib.hid hy0;clear hy0
    go_wp2
    go_roundw
    case rel=>exact add_rel hk hlt' hL hdL hownr hfr hv hq (by rw [HY.out];omega) d1 d2
    case measure=>simp [intOf];omega
  ·obtain rfl:k=x.length:=by omega
   have hox:=hownr.cell x.length (by rw [hL.out];omega)
   have hfx:=hownr.free x.length
   have ho:=hownr.set x.length (q:Int) (by omega)
   rw [Int.toNat_natCast] at ho
   have hLl:=hL.out
   have hd2:=hdL.set x.length q (by omega)
   have hu:=ho.all hd2 (Nat.le_refl _)
   rw [List.length_set,hLl] at hu
   have hval:val (L.set x.length q)=val x+val y:=by
    have e:=hv.out
    have e2:=val_set_take L x.length q (by omega)
    rw [take_all _ _ (by rw [List.length_set];omega)] at e2
    rw [take_all x _ (Nat.le_refl _),take_all y _ hlen,Nat.mul_comm] at e
    omega
   clear hLl
   have Hval:=Go.Lib.hid hval;clear hval
   go_wp2_with fail
   refine (trim_any _ w.heap.size _ _ hu (by rw [List.length_set,hL.out];omega)).mono ?_
   rintro e w' ⟨v',l',rfl,h1,h2,h3,rfl⟩
   go_wp2
   go_ret
   exact⟨v',l',rfl,h1,Hval.out ▸ h2,by rw [List.length_set,hL.out] at h3;exact h3,hfr.setCell (.inr (Nat.le_refl _)) _⟩
theorem add_any (w:World) (lo lo2:Nat) (v u:Value) (x y:List Nat) (hx:U32 w lo v x) (hy:U32 w lo2 u y) (hn:x.length≤4294967296) (hn2:y.length≤4294967296) :
  Calls Tryz.prog 205 #[v,u] w fun e w'=>∃ v' l',e=.returned v'∧U32 w' w.heap.size v' l'∧Is l' (val x+val y)∧Fr [] w w':=by
 rcases Nat.lt_or_ge x.length y.length with h | h
 ·refine (add_lt w 0 u v y x (hy.mono (Nat.zero_le _)) (hx.mono (Nat.zero_le _)) h hn2).mono ?_
  rintro e w' ⟨v',l',rfl,h1,h2,_,h3⟩
  exact⟨v',l',rfl,h1,by rw [Nat.add_comm];exact h2,h3⟩
 ·refine (add_ge w 0 v u x y (hx.mono (Nat.zero_le _)) (hy.mono (Nat.zero_le _)) h hn).mono ?_
  rintro e w' ⟨v',l',rfl,h1,h2,_,h3⟩
  exact⟨v',l',rfl,h1,h2,h3⟩
end Go.Proofs.YtcmndpjemdjalaaGreatDoor.Pb
namespace Go.Proofs.YtcmndpjemdjalaaGreatDoor.Pb
open Go.RowKit
theorem copied_any (w:World) (lo:Nat) (v:Value) (l:List Nat) (h:U32 w lo v l) (hn:l.length≤1099511627776) :
  Calls Tryz.prog 168 #[v] w fun e w'=>∃ v',e=.returned v'∧U32 w' w.heap.size v' l∧Fr [] w w':=by
 have hd:=h.digs
 obtain⟨ao,cap,rfl,hcap,-⟩:=h.shape
 go_enter Tryz.func168,Tryz.ntmps168
 have e0:(List.replicate l.length 0).length=l.length:=by simp
 have E0:=Go.Lib.hid e0;clear e0
 go_wp2_with (first | (at_make;refine make_u32 _ rfl _ _ rfl _ _ l.length rfl rfl (by first | rfl | omega) (by first | rfl | omega) (by omega) ?_;intro w1 hown hf;have h1:=h.fr0 hf) | ((with_reducible show wpList _ _ _ _ _ _);(refine copy_u32 (op:=⟨some 9,_,_,_,_,_⟩) rfl _ _ rfl w.heap.size l.length lo (List.replicate l.length 0) l _ (by rw [E0.out];rfl) rfl h1 (by rw [E0.out];exact Nat.le_refl _) hown ?_;intro w2 hown2 hf2)))
 go_ret
 rw [List.drop_of_length_le (by rw [E0.out];exact Nat.le_refl _),List.append_nil] at hown2
 exact⟨_,rfl,hown2.all hd (Nat.le_refl _),hf.trans hf2 (by simp)⟩
end Go.Proofs.YtcmndpjemdjalaaGreatDoor.Pb
namespace Go.Proofs.YtcmndpjemdjalaaGreatDoor.Pb
open Go.RowKit
theorem toUint_any (w:World) (lo:Nat) (v:Value) (l:List Nat) (h:U32 w lo v l) (hn:l.length≤1099511627776) :
  Calls Tryz.prog 223 #[v] w fun e w'=>e=.returned (.int .u64 ((val l % 18446744073709551616:Nat):Int))∧w=w':=by
 have hd:=h.digs
 obtain⟨ao,cap,rfl,hcap,hc⟩:=h.shape
 have d0:=dg_lt hd 0
 have d1:=dg_lt hd 1
 have ev:=val_low l hd
 have EV:=Go.Lib.hid ev;clear ev h
 rcases Nat.lt_or_ge 1 l.length with h2 | h2
 ·obtain⟨b,o,rfl,hb,hc0⟩:=hc 0 (by omega)
  obtain⟨b',o',hbo,_,hc1⟩:=hc 1 (by omega)
  simp only [Option.some.injEq,Addr.mk.injEq,and_true] at hbo
  obtain⟨rfl,rfl⟩:=hbo
  clear hc
  simp only [Nat.add_zero] at hc0
  go_enter Tryz.func223,Tryz.ntmps223
  go_wp2
  go_ret
  exact⟨ret_int (by rw [or64 _ _ d1 d0,EV.out]),rfl⟩
 ·have e1:=dg_out l 1 (by omega)
  rw [e1] at EV
  rcases Nat.lt_or_ge 0 l.length with h3 | h3
  ·obtain⟨b,o,rfl,hb,hc0⟩:=hc 0 (by omega)
   clear hc e1
   simp only [Nat.add_zero] at hc0
   go_enter Tryz.func223,Tryz.ntmps223
   go_wp2
   go_ret
   exact⟨ret_int (by rw [EV.out];have:=or64 0 _ (by omega) d0;simpa using this),rfl⟩
  ·have e0:=dg_out l 0 (by omega)
   rw [e0] at EV
   clear hc e1 e0
   go_enter Tryz.func223,Tryz.ntmps223
   go_wp2
   go_ret
   exact⟨ret_int (by rw [EV.out];simp),rfl⟩
theorem fromUint_any (w:World) (x:Nat) (hx:x<18446744073709551616) :
  Calls Tryz.prog 173 #[.int .u64 x] w fun e w'=>∃ v' l',e=.returned v'∧U32 w' w.heap.size v' l'∧Is l' x∧Fr [] w w':=by
 have ho:=Own.pair w (x % 4294967296) (x / 4294967296)
 have hd:Digs [x % 4294967296,x / 4294967296]:=(Digs.nil.cons (by omega)).cons (by omega)
 have hu:=ho.all hd (Nat.le_refl _)
 have hv:val [x % 4294967296,x / 4294967296]=x:=by simp only [val_cons,val_nil];omega
 have HV:=Go.Lib.hid hv;clear hv
 go_enter Tryz.func173,Tryz.ntmps173
 go_wp2_with fail
 refine (trim_any _ w.heap.size _ _ hu (by simp)).mono ?_
 rintro e w' ⟨v',l',rfl,h1,h2,-,rfl⟩
 go_wp2
 go_ret
 exact⟨v',l',rfl,h1,HV.out ▸ h2,(Fr.refl _ _).alloc _⟩
theorem cmpWords_any (w:World) (lo lo2:Nat) (v u:Value) (x y:List Nat) (m n:Nat) (hx:U32 w lo v x) (hy:U32 w lo2 u y) (hm:Is x m) (hn:Is y n) (hlx:x.length≤1099511627776) (hly:y.length≤1099511627776) :
  Calls Tryz.prog 255 #[v,u] w fun e w'=>e=.returned (.int .i64 (cmpI m n))∧Fr [] w w':=by
 obtain⟨ao,cap,rfl,hcap,hc⟩:=hx.shape
 obtain⟨ao2,cap2,rfl,hcap2,hc2⟩:=hy.shape
 have Hc:=Go.Lib.hid hc;clear hc hx
 have Hc2:=Go.Lib.hid hc2;clear hc2 hy
 rcases Nat.lt_trichotomy x.length y.length with hl | hl | hl
 ·have H:=Go.Lib.hid (cmpI_lt (hm.lt_of_len hn hl))
  have hne:((x.length:Int) != (y.length:Int))=true:=by rw [bne_iff_ne];omega
  go_enter Tryz.func255,Tryz.ntmps255
  go_wp2
  go_ret
  exact⟨ret_int H.out.symm,Fr.refl _ _⟩
 ·have hne:((x.length:Int) != (y.length:Int))=false:=by simp;omega
  have Hl:=Go.Lib.hid hl;clear hl
  go_enter Tryz.func255,Tryz.ntmps255
  go_wp2
  go_loopw [5] (fun i wr=>∃ k:Nat,i=.int .i64 ((k:Int) - 1)∧k≤x.length∧Fr [] w wr∧Hid (∀ j,k≤j→j<x.length→dg x j=dg y j)) (fun i _=>(intOf i+1).toNat)
  case atStart=>exact⟨x.length,rfl,Nat.le_refl _,Fr.refl _ _,Go.Lib.hid (fun j h1 h2=>by omega)⟩
  case round =>
   obtain⟨k,rfl,hk,hfr,ha⟩:=hrel
   rcases k with _ | k
   ·have hxy:=val_eq_of Hl.out (fun j h=>ha.out j (Nat.zero_le _) h)
    subst hxy
    have hmn:m=n:=by rw [← hm.val,← hn.val]
    have H:=Go.Lib.hid (show cmpI m n=0 by rw [hmn];exact cmpI_eq n)
    clear hmn
    go_wp2
    go_ret
    exact⟨ret_int H.out.symm,hfr⟩
   ·have ek:(((k+1:Nat):Int) - 1)=(k:Int):=by omega
    rw [ek]
    clear ek
    obtain⟨b,o,rfl,hb,hcw⟩:=Hc.out k (by omega)
    obtain⟨b2,o2,rfl,hb2,hcw2⟩:=Hc2.out k (by have:=Hl.out;omega)
    have hcx:wr.cell? ⟨b,o+k,none⟩=some (.int .u32 (dg x k:Nat)):=(hfr.cell hb (by simp)).trans hcw
    have hcy:wr.cell? ⟨b2,o2+k,none⟩=some (.int .u32 (dg y k:Nat)):=(hfr.cell hb2 (by simp)).trans hcw2
    clear hcw hcw2
    have hk2:(k:Int)<(x.length:Int):=by omega
    have hk3:(k:Int)<(y.length:Int):=by have:=Hl.out;omega
    rcases Nat.lt_trichotomy (dg x k) (dg y k) with hd | hd | hd
    ·have hdi:((dg x k:Nat):Int)<(dg y k:Nat):=by omega
     have hlt:m<n:=by rw [← hm.val,← hn.val];exact val_lt_of Hl.out hm.digs (by omega) (fun j h1 h2=>ha.out j h1 h2) hd
     have H:=Go.Lib.hid (cmpI_lt hlt)
     clear hlt
     go_wp2
     go_quiet (fail)
     go_wp2
     go_ret
     exact⟨ret_int H.out.symm,by first | exact hfr.drewN _ | exact (hfr.drewN _).drewN _⟩
    ·have hdi:¬ ((dg x k:Nat):Int)<(dg y k:Nat):=by omega
     have hdj:¬ ((dg y k:Nat):Int)<(dg x k:Nat):=by omega
     have HD:=Go.Lib.hid hd;clear hd
     go_wp2
     go_quiet (fail)
     go_wp2
     go_quiet (fail)
     go_wp2
     go_roundw
     case rel=>exact⟨k,rfl,by omega,hfr.drewN _,Go.Lib.hid (fun j h1 h2=>by rcases Nat.eq_or_lt_of_le h1 with rfl | h;exact HD.out;exact ha.out j h h2)⟩
     case measure=>simp [intOf]
    ·have hdi:¬ ((dg x k:Nat):Int)<(dg y k:Nat):=by omega
     have hdj:((dg y k:Nat):Int)<(dg x k:Nat):=by omega
     have hlt:n<m:=by rw [← hm.val,← hn.val];exact val_lt_of Hl.out.symm hn.digs (by have:=Hl.out;omega) (fun j h1 h2=>(ha.out j h1 (by have:=Hl.out;omega)).symm) hd
     have H:=Go.Lib.hid (cmpI_gt hlt)
     clear hlt
     go_wp2
     go_quiet (fail)
     go_wp2
     go_quiet (fail)
     go_wp2
     go_ret
     exact⟨ret_int H.out.symm,by first | exact hfr.drewN _ | exact (hfr.drewN _).drewN _⟩
 ·have H:=Go.Lib.hid (cmpI_gt (hn.lt_of_len hm hl))
  have hne:((x.length:Int) != (y.length:Int))=true:=by rw [bne_iff_ne];omega
  go_enter Tryz.func255,Tryz.ntmps255
  go_wp2
  go_ret
  exact⟨ret_int H.out.symm,Fr.refl _ _⟩
end Go.Proofs.YtcmndpjemdjalaaGreatDoor.Pb
namespace Go.Proofs.YtcmndpjemdjalaaGreatDoor.Pb
open Go.RowKit
theorem sub_any (w:World) (lo lo2:Nat) (v u:Value) (x y:List Nat) (hx:U32 w lo v x) (hy:U32 w lo2 u y) (hlen:y.length≤x.length) (hn:x.length≤4294967296) (hle:val y≤val x) :
  Calls Tryz.prog 218 #[v,u] w fun e w'=>∃ v' l',e=.returned v'∧U32 w' w.heap.size v' l'∧Is l' (val x - val y)∧Fr [] w w':=by
 have hdx:=hx.digs
 have hdy:=hy.digs
 obtain⟨ao,cap,rfl,hcap,hc⟩:=hx.shape
 obtain⟨ao2,cap2,rfl,hcap2,hc2⟩:=hy.shape
 have Hc:=Go.Lib.hid hc;clear hc hx
 have Hc2:=Go.Lib.hid hc2;clear hc2 hy
 go_enter Tryz.func218,Tryz.ntmps218
 go_wp2_with (at_make;refine make_u32 _ rfl _ _ rfl _ _ x.length rfl rfl (by omega) (by omega) (by omega) ?_;intro w1 hown hf)
 go_loopw [6,7] (fun c i wr=>∃ (k q:Nat) (L:List Nat),i=.int .i64 k∧c=.int .u64 q∧k≤x.length∧q≤1∧Hid (L.length=x.length)∧Digs L∧Own wr w.heap.size L∧Fr [] w wr ∧
   Hid (val (L.take k)+val (y.take k)=val (x.take k)+q * 4294967296 ^ k))
  (fun _ i _=>x.length - (intOf i).toNat)
 case atStart=>exact⟨0,0,_,rfl,rfl,Nat.zero_le _,by omega,Go.Lib.hid (by simp),Digs.replicate _,hown,hf,Go.Lib.hid (by simp [val])⟩
 case round =>
  obtain⟨k,q,L,rfl,rfl,hk,hq,hL,hdL,hownr,hfr,hv⟩:=hrel
  clear hown hf
  by_cases hlt:k<x.length
  ·obtain⟨b,o,rfl,hbw,hcw⟩:=Hc.out k hlt
   have hcx:wr.cell? ⟨b,o+k,none⟩=some (.int .u32 (dg x k:Nat)):=(hfr.cell hbw (by simp)).trans hcw
   clear hcw
   have hox:=hownr.cell k (by rw [hL.out];omega)
   have hfx:=hownr.free k
   have d1:=dg_lt hdx k
   have d2:=dg_lt hdy k
   by_cases hlt2:k<y.length
   ·obtain⟨b2,o2,rfl,hbw2,hcw2⟩:=Hc2.out k hlt2
    have hcy:wr.cell? ⟨b2,o2+k,none⟩=some (.int .u32 (dg y k:Nat)):=(hfr.cell hbw2 (by simp)).trans hcw2
    clear hcw2
    go_wp2
    go_roundw
    case rel=>exact sub_rel hlt hL hdL hownr hfr hv hq d1 d2 (by simp only [IntKind.wrap_u64];split <;> omega) (by simp only [IntKind.wrap_u64];omega)
    case measure=>simp [intOf];omega
   ·have hy0:=dg_out y k (by omega)
    have HY:=Go.Lib.hid hy0;clear hy0
    go_wp2
    go_roundw
    case rel=>exact sub_rel hlt hL hdL hownr hfr hv hq d1 d2 (by rw [HY.out];simp only [IntKind.wrap_u64];split <;> omega) (by rw [HY.out];simp only [IntKind.wrap_u64];omega)
    case measure=>simp [intOf];omega
  ·obtain rfl:k=x.length:=by omega
   have hu:=hownr.all hdL (Nat.le_refl _)
   have hLl:=hL.out
   rw [hLl] at hu
   have hval:val L=val x - val y:=by
    have e:=hv.out
    have hb:=hdL.lt
    rw [take_all L _ (by omega),take_all x _ (Nat.le_refl _),take_all y _ hlen] at e
    rw [hLl] at hb
    rcases Nat.eq_zero_or_pos q with h0 | h0
    ·subst h0;omega
    ·have:4294967296 ^ x.length≤q * 4294967296 ^ x.length:=Nat.le_mul_of_pos_left _ h0
     omega
   clear hLl
   have Hval:=Go.Lib.hid hval;clear hval
   go_wp2_with fail
   refine (trim_any _ w.heap.size _ _ hu (by rw [hL.out];omega)).mono ?_
   rintro e w' ⟨v',l',rfl,h1,h2,-,rfl⟩
   go_wp2
   go_ret
   exact⟨v',l',rfl,h1,Hval.out ▸ h2,hfr⟩
theorem plain_any (w:World) (lo lo2:Nat) (v u:Value) (x y:List Nat) (hx:U32 w lo v x) (hy:U32 w lo2 u y) (hn:x.length≤4294967296) (hn2:y.length≤4294967296) :
  Calls Tryz.prog 216 #[v,u] w fun e w'=>∃ v' l',e=.returned v'∧U32 w' w.heap.size v' l'∧Is l' (val x * val y)∧Fr [] w w':=by
 have hdx:=hx.digs
 have hdy:=hy.digs
 obtain⟨ao,cap,rfl,hcap,hc⟩:=hx.shape
 obtain⟨ao2,cap2,rfl,hcap2,hc2⟩:=hy.shape
 have Hc:=Go.Lib.hid hc;clear hc hx
 have Hc2:=Go.Lib.hid hc2;clear hc2 hy
 go_enter Tryz.func216,Tryz.ntmps216
 go_wp2_with (at_make;refine make_u32 _ rfl _ _ rfl _ _ (x.length+y.length) rfl rfl (by omega) (by omega) (by omega) ?_;intro w1 hown hf)
 go_loopw [6] (fun i wr=>∃ (k:Nat) (L:List Nat),i=.int .i64 k∧k≤x.length∧Hid (L.length=x.length+y.length)∧Digs L∧Own wr w.heap.size L∧Fr [] w wr ∧
   Hid (val L=val (x.take k) * val y)∧Hid (∀ j,k+y.length≤j→dg L j=0))
  (fun i _=>x.length - (intOf i).toNat)
 case atStart=>exact⟨0,_,rfl,Nat.zero_le _,Go.Lib.hid (by simp),Digs.replicate _,hown,hf,Go.Lib.hid (by rw [val_replicate];simp [val]),Go.Lib.hid (fun j _=>by simp [dg,List.getD,List.getElem?_replicate];split <;> simp)⟩
 case round =>
  obtain⟨k,L0,rfl,hk,hL0,hdL0,hown0,hfr0,hv0,hz0⟩:=hrel
  clear hown hf
  by_cases hlt:k<x.length
  ·obtain⟨b,o,rfl,hbw,hcw⟩:=Hc.out k hlt
   have hcx:wr.cell? ⟨b,o+k,none⟩=some (.int .u32 (dg x k:Nat)):=(hfr0.cell hbw (by simp)).trans hcw
   clear hcw
   have d1:=dg_lt hdx k
   go_wp2
   obtain⟨wo,rfl⟩:∃ wo:World,wo=wr:=⟨_,rfl⟩
   go_loopw [7,9] (fun c j wr=>∃ (n q:Nat) (L:List Nat),j=.int .i64 n∧c=.int .u64 q∧n≤y.length∧q<4294967296∧Hid (L.length=x.length+y.length)∧Digs L∧Own wr w.heap.size L∧Fr [] w wr ∧
     Hid (val L+q * 4294967296 ^ (k+n)=val L0+dg x k * val (y.take n) * 4294967296 ^ k)∧Hid (∀ j,k+y.length≤j→dg L j=0))
    (fun _ j _=>y.length - (intOf j).toNat)
   case atStart=>exact⟨0,0,L0,rfl,rfl,Nat.zero_le _,by omega,hL0,hdL0,hown0,hfr0,Go.Lib.hid (by simp [val]),hz0⟩
   case round =>
    obtain⟨n,q,L,rfl,rfl,hn3,hq,hL,hdL,hownr,hfr,hv,hz⟩:=hrel
    clear hown0 hfr0 hcx
    by_cases hlt2:n<y.length
    ·obtain⟨b2,o2,rfl,hbw2,hcw2⟩:=Hc2.out n hlt2
     have hcy:wr.cell? ⟨b2,o2+n,none⟩=some (.int .u32 (dg y n:Nat)):=(hfr.cell hbw2 (by simp)).trans hcw2
     clear hcw2
     have hox:=hownr.cell (k+n) (by rw [hL.out];omega)
     have hfx:=hownr.free (k+n)
     have d2:=dg_lt hdy n
     have d3:=dg_lt hdL (k+n)
     obtain⟨m0,m1⟩:=mul_ltI d1 d2
     have b1:(n:Int)<(y.length:Int):=by omega
     have b2:(k:Int)+(n:Int)<(x.length:Int)+(y.length:Int):=by omega
     have s1:IntKind.i64.wrap ((k:Int)+(n:Int))=(k:Int)+(n:Int):=IntWalk.i64_in _ (by omega)
     have s2:(0:Int)≤(k:Int)+(n:Int):=by omega
     have s3:((k:Int)+(n:Int)).toNat=k+n:=by omega
     have p1:IntKind.u64.wrap ((dg x k:Int) * (dg y n:Int))=(dg x k:Int) * (dg y n:Int):=IntWalk.u64_in _ (by omega)
     have p2:IntKind.u64.wrap ((dg x k:Int) * (dg y n:Int)+(dg L (k+n):Int))=(dg x k:Int) * (dg y n:Int)+(dg L (k+n):Int):=IntWalk.u64_in _ (by omega)
     have p3:IntKind.u64.wrap ((dg x k:Int) * (dg y n:Int)+(dg L (k+n):Int)+(q:Int))=(dg x k:Int) * (dg y n:Int)+(dg L (k+n):Int)+(q:Int):=IntWalk.u64_in _ (by omega)
     go_wp2
     go_quiet (fail)
     go_wp2
     go_roundw
     case rel=>exact mul_rel (wr:=wr.drewN _) (_wo:=wo) hlt hlt2 hL hdL hownr (hfr.drewN _) hq hv hz d1 d2 d3 rfl
     case measure=>simp [intOf];omega
    ·obtain rfl:n=y.length:=by omega
     have hox:=hownr.cell (k+y.length) (by rw [hL.out];omega)
     have hfx:=hownr.free (k+y.length)
     go_wp2
     go_roundw
     case rel=>exact row_rel hlt hL hdL hownr hfr hq hv0 hv hz
     case measure=>simp [intOf];omega
  ·obtain rfl:k=x.length:=by omega
   have hu:=hown0.all hdL0 (Nat.le_refl _)
   have hLl:=hL0.out
   rw [hLl] at hu
   have hval:val L0=val x * val y:=by
    have e:=hv0.out
    rw [take_all x _ (Nat.le_refl _)] at e
    exact e
   clear hLl
   have Hval:=Go.Lib.hid hval;clear hval
   go_wp2_with fail
   refine (trim_any _ w.heap.size _ _ hu (by rw [hL0.out];omega)).mono ?_
   rintro e w' ⟨v',l',rfl,h1,h2,-,rfl⟩
   go_wp2
   go_ret
   exact⟨v',l',rfl,h1,Hval.out ▸ h2,hfr0⟩
end Go.Proofs.YtcmndpjemdjalaaGreatDoor.Pb
namespace Go.Proofs.YtcmndpjemdjalaaGreatDoor
open Go.RowKit
def formV (E F:Int):Value:=.agg #[.int .i64 E,.int .i64 F]
def FormOk (E F:Int):Prop:=2≤E∧E≤11∧1≤F∧F≤52
instance (E F:Int):Decidable (FormOk E F):=by unfold FormOk;infer_instance
theorem formsCheck_ok (E F:Int) (w:World) (h:FormOk E F) :
  Calls Tryz.prog 17 #[formV E F] w fun e w'=>e=.returned (.int .i64 0)∧Fr [] w w':=by
 obtain⟨h1,h2,h3,h4⟩:=h
 unfold formV
 go_enter Tryz.func17,Tryz.ntmps17
 go_wp2
 go_ret
 exact⟨rfl,(Fr.refl [] w).alloc _⟩
theorem formsCheck_no (E F:Int) (w:World) (h:¬ FormOk E F) :
  Calls Tryz.prog 17 #[formV E F] w fun e w'=>e=.returned (.int .i64 5)∧Fr [] w w':=by
 unfold FormOk at h
 unfold formV
 by_cases h1:E<2
 ·go_enter Tryz.func17,Tryz.ntmps17
  go_wp2
  go_ret
  exact⟨rfl,(Fr.refl [] w).alloc _⟩
 by_cases h2:11<E
 ·go_enter Tryz.func17,Tryz.ntmps17
  go_wp2
  go_ret
  exact⟨rfl,(Fr.refl [] w).alloc _⟩
 by_cases h3:F<1
 ·go_enter Tryz.func17,Tryz.ntmps17
  go_wp2
  go_ret
  exact⟨rfl,(Fr.refl [] w).alloc _⟩
 have h4:52<F:=by omega
 go_enter Tryz.func17,Tryz.ntmps17
 go_wp2
 go_ret
 exact⟨rfl,(Fr.refl [] w).alloc _⟩
theorem formsHalf_any (w:World):Calls Tryz.prog 10 #[] w fun e w'=>e=.returned (formV 5 10)∧Fr [] w w':=by
 unfold formV
 go_enter Tryz.func10,Tryz.ntmps10
 go_wp2
 exact bodyPost_ret (v:=.agg #[.int .i64 5,.int .i64 10]) (by simp [results,Tryz.results10,go_sem]) rfl ⟨rfl,(Fr.refl [] w).alloc _⟩
theorem formsDouble_any (w:World):Calls Tryz.prog 15 #[] w fun e w'=>e=.returned (formV 11 52)∧Fr [] w w':=by
 unfold formV
 go_enter Tryz.func15,Tryz.ntmps15
 go_wp2
 exact bodyPost_ret (v:=.agg #[.int .i64 11,.int .i64 52]) (by simp [results,Tryz.results15,go_sem]) rfl ⟨rfl,(Fr.refl [] w).alloc _⟩
end Go.Proofs.YtcmndpjemdjalaaGreatDoor
