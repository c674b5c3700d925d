/- Laws that the claimed theorem leans on: no condition of their own beyond their hypotheses. -/
import Derived.Test.YtcmndpjemdjalaaGreatDoorMaan
import Derived.Test.YtcmndpjemdjalaaGreatDoorMaao
import Derived.Test.YtcmndpjemdjalaaGreatDoorMaas
import Derived.Test.YtcmndpjemdjalaaGreatDoorMaav
set_option maxRecDepth 100000
set_option maxHeartbeats 16000000
namespace Go.Proofs.YtcmndpjemdjalaaGreatDoor
open Go.RowKit
structure RdAt (W:World) (b:Nat) (s:ByteArray) (at_:Int) (ops:Value) (wd pl:Int) (md:Nat):Prop where
 c0:W.cell? ⟨b,0,none⟩=some (.string s)
 c1:W.cell? ⟨b,1,none⟩=some (.int .i64 at_)
 c2:W.cell? ⟨b,2,none⟩=some ops
 c3:W.cell? ⟨b,3,none⟩=some (.int .i64 wd)
 c4:W.cell? ⟨b,4,none⟩=some (.int .i64 pl)
 c5:W.cell? ⟨b,5,none⟩=some (.int .u8 md)
 z:∀ i,i<6→W.frozen? ⟨b,i,none⟩=false
namespace RdAt
variable {W W':World} {b:Nat} {s:ByteArray} {at_:Int} {ops:Value} {wd pl:Int} {md:Nat}
theorem lt (h:RdAt W b s at_ ops wd pl md):b<W.heap.size:=World.block_lt_of_cell? W _ h.c0
theorem fr {S:List Nat} (h:RdAt W b s at_ ops wd pl md) (hf:Fr S W W') (hs:b ∉ S):RdAt W' b s at_ ops wd pl md :=
 ⟨hf.stay h.c0 hs,hf.stay h.c1 hs,hf.stay h.c2 hs,hf.stay h.c3 hs,hf.stay h.c4 hs,hf.stay h.c5 hs,fun i hi=>(hf.frozen (p:=⟨b,i,none⟩) h.lt hs).trans (h.z i hi)⟩
theorem alloc (h:RdAt W b s at_ ops wd pl md) (o:Obj):RdAt (W.alloc o) b s at_ ops wd pl md:=h.fr ((Fr.refl [] W).alloc o) (by simp)
theorem drew (h:RdAt W b s at_ ops wd pl md):RdAt W.drew b s at_ ops wd pl md:=h.fr (Fr.refl [] W).drew (by simp)
theorem other (h:RdAt W b s at_ ops wd pl md) (c:Nat) (i:Nat) (v:Value) (hne:b ≠ c):RdAt (W.setCell ⟨c,i,none⟩ v) b s at_ ops wd pl md :=
 h.fr ((Fr.refl [c] W).setCell (.inl (by simp)) v) (by simp;exact hne)
theorem off_ne {b i j:Nat} (h:i ≠ j):(⟨b,i,none⟩:Addr) ≠ ⟨b,j,none⟩:=fun e=>h (by injection e)
theorem set1 (h:RdAt W b s at_ ops wd pl md) (x:Int):RdAt (W.setCell ⟨b,1,none⟩ (.int .i64 x)) b s x ops wd pl md :=
 ⟨(World.cell?_setCell_other _ _ _ _ (off_ne (by decide))).trans h.c0,World.cell?_setCell_same _ _ _ h.c1,(World.cell?_setCell_other _ _ _ _ (off_ne (by decide))).trans h.c2,(World.cell?_setCell_other _ _ _ _ (off_ne (by decide))).trans h.c3,(World.cell?_setCell_other _ _ _ _ (off_ne (by decide))).trans h.c4,(World.cell?_setCell_other _ _ _ _ (off_ne (by decide))).trans h.c5,fun i hi=>(World.frozen?_setCell _ _ _ _).trans (h.z i hi)⟩
theorem set2 (h:RdAt W b s at_ ops wd pl md) (x:Value):RdAt (W.setCell ⟨b,2,none⟩ (x)) b s at_ x wd pl md :=
 ⟨(World.cell?_setCell_other _ _ _ _ (off_ne (by decide))).trans h.c0,(World.cell?_setCell_other _ _ _ _ (off_ne (by decide))).trans h.c1,World.cell?_setCell_same _ _ _ h.c2,(World.cell?_setCell_other _ _ _ _ (off_ne (by decide))).trans h.c3,(World.cell?_setCell_other _ _ _ _ (off_ne (by decide))).trans h.c4,(World.cell?_setCell_other _ _ _ _ (off_ne (by decide))).trans h.c5,fun i hi=>(World.frozen?_setCell _ _ _ _).trans (h.z i hi)⟩
theorem set3 (h:RdAt W b s at_ ops wd pl md) (x:Int):RdAt (W.setCell ⟨b,3,none⟩ (.int .i64 x)) b s at_ ops x pl md :=
 ⟨(World.cell?_setCell_other _ _ _ _ (off_ne (by decide))).trans h.c0,(World.cell?_setCell_other _ _ _ _ (off_ne (by decide))).trans h.c1,(World.cell?_setCell_other _ _ _ _ (off_ne (by decide))).trans h.c2,World.cell?_setCell_same _ _ _ h.c3,(World.cell?_setCell_other _ _ _ _ (off_ne (by decide))).trans h.c4,(World.cell?_setCell_other _ _ _ _ (off_ne (by decide))).trans h.c5,fun i hi=>(World.frozen?_setCell _ _ _ _).trans (h.z i hi)⟩
theorem set4 (h:RdAt W b s at_ ops wd pl md) (x:Int):RdAt (W.setCell ⟨b,4,none⟩ (.int .i64 x)) b s at_ ops wd x md :=
 ⟨(World.cell?_setCell_other _ _ _ _ (off_ne (by decide))).trans h.c0,(World.cell?_setCell_other _ _ _ _ (off_ne (by decide))).trans h.c1,(World.cell?_setCell_other _ _ _ _ (off_ne (by decide))).trans h.c2,(World.cell?_setCell_other _ _ _ _ (off_ne (by decide))).trans h.c3,World.cell?_setCell_same _ _ _ h.c4,(World.cell?_setCell_other _ _ _ _ (off_ne (by decide))).trans h.c5,fun i hi=>(World.frozen?_setCell _ _ _ _).trans (h.z i hi)⟩
theorem set5 (h:RdAt W b s at_ ops wd pl md) (x:Nat):RdAt (W.setCell ⟨b,5,none⟩ (.int .u8 x)) b s at_ ops wd pl x :=
 ⟨(World.cell?_setCell_other _ _ _ _ (off_ne (by decide))).trans h.c0,(World.cell?_setCell_other _ _ _ _ (off_ne (by decide))).trans h.c1,(World.cell?_setCell_other _ _ _ _ (off_ne (by decide))).trans h.c2,(World.cell?_setCell_other _ _ _ _ (off_ne (by decide))).trans h.c3,(World.cell?_setCell_other _ _ _ _ (off_ne (by decide))).trans h.c4,World.cell?_setCell_same _ _ _ h.c5,fun i hi=>(World.frozen?_setCell _ _ _ _).trans (h.z i hi)⟩
end RdAt
theorem readTake_hit (w:World) (b:Nat) (s these:ByteArray) (k:Nat) (ops:Value) (wd pl:Int) (md:Nat) (n:Int) (h:RdAt w b s k ops wd pl md) (hk:k<s.size) (hs:s.size≤65536) (hn:Lib.indexByte these.data.toList s[k]+1=n) (hp:0<n) (hn2:n≤100) :
  Calls Tryz.prog 63 #[.pointer (some ⟨b,0,none⟩),.string these] w fun x w'=>x=.returned (.int .i64 n)∧RdAt w' b s (k+1) ops wd pl md∧Fr [b] w w':=by
 have hI:=fun W=>Tryz.strings_IndexByte these ((s[k].toNat:Nat):Int) W
 have e:(((s[k].toNat:Nat):Int).toNat).toUInt8=s[k]:=by simp
 rw [e] at hI
 have hge:=Lib.indexByte_ge these.data.toList s[k]
 generalize Lib.indexByte these.data.toList s[k]=m at *
 have hw:wrap64 (m+1)=n:=by unfold wrap64;omega
 have hw2:IntKind.i64.wrap (m+1)=n:=by rw [IntKind.wrap_i64];omega
 clear hn
 have c0:=h.c0
 have c1:=h.c1
 have z1:=h.z 1 (by omega)
 have q1:((k:Int)==(s.size:Int))=false:=beq_eq_false_iff_ne.2 (by omega)
 have q2:(0:Int)≤k∧(k:Int)<(s.size:Int):=by omega
 have q3:(k:Int)<(s.size:Int):=by omega
 go_enter Tryz.func63,Tryz.ntmps63
 go_wp2_with fail
 go_region
 simp only [Exit.then]
 go_wp2_with fail
 have h:=h.drew
 have c0:=h.c0
 have c1:=h.c1
 have F:=(Fr.refl [] w).drew
 generalize w.drew=W at *
 clear e hge z1
 refine region_mono [] 13 [[],[],[1],[2],[3],[],[5],[6],[7],[4,8],[0,9],[10],[11]] [none,none,none,none,none,none,none,none,none,none,none,none,none] (by kernel_rfl) (by kernel_rfl) ?_
 simp only [Chain,fill,Act.put,List.nil_append,List.cons_append,List.take_succ_cons,List.take_zero,List.drop_succ_cons,List.drop_zero,List.setIfInBounds_toArray,List.set_cons_zero,List.set_cons_succ,Nat.reduceAdd]
 iterate 10 (apply Exists.intro;apply And.intro;·intro vs w2 hf hh K hK;have c0:=hf.stayd c0;have c1:=hf.stayd c1;simp only [Held,List.getD_cons_zero,List.getD_cons_succ,Just,and_true] at hh;(try simp only [hh] at hK ⊢);go_simp;exact hK _ _ ⟨rfl,Fr.refl _ _⟩)
 apply Exists.intro;apply And.intro
 ·intro vs w2 hf hh K hK;have c0:=hf.stayd c0;have c1:=hf.stayd c1;simp only [Held,List.getD_cons_zero,List.getD_cons_succ,Just,and_true] at hh;(try simp only [hh] at hK ⊢);go_simp;refine (hI _).mono ?_;rintro e w3 ⟨rfl,hx⟩;exact hK _ _ ⟨rfl,by rw [hx];exact Fr.refl _ _⟩
 iterate 2 (apply Exists.intro;apply And.intro;·intro vs w2 hf hh K hK;simp only [Held,List.getD_cons_zero,List.getD_cons_succ,Just,and_true] at hh;(try simp only [hh] at hK ⊢);go_simp;exact hK _ _ ⟨rfl,Fr.refl _ _⟩)
 intro vs w2 hf hh
 simp only [HeldAll,Just,and_true,Nat.reduceAdd] at hh
 obtain⟨e0,e1,e2,e3,e4,e5,e6,e7,e8,e9,e10,e11,e12⟩:=hh
 simp only [e0,e1,e2,e3,e4,e5,e6,e7,e8,e9,e10,e11,e12]
 clear e0 e1 e2 e3 e4 e5 e6 e7 e8 e9 e10 e11 e12
 clear vs
 have c0:=hf.stayd c0
 have c1:=hf.stayd c1
 have h:=h.drew.fr hf (by simp)
 have c0:=h.c0
 have c1:=h.c1
 have z1:=h.z 1 (by omega)
 have F:=F.drew.then hf
 go_wp2_with fail
 go_ret
 exact⟨rfl,h.set1 _,(F.mono (T:=[b]) (by simp)).setCell (.inl (by simp)) _⟩
theorem readTake_miss (w:World) (b:Nat) (s these:ByteArray) (k:Nat) (ops:Value) (wd pl:Int) (md:Nat) (n:Int) (h:RdAt w b s k ops wd pl md) (hk:k<s.size) (_hs:s.size≤65536) (hn:Lib.indexByte these.data.toList s[k]+1=n) (hp:n=0) (hn2:n≤100) :
  Calls Tryz.prog 63 #[.pointer (some ⟨b,0,none⟩),.string these] w fun x w'=>x=.returned (.int .i64 n)∧RdAt w' b s k ops wd pl md∧Fr [b] w w':=by
 have hI:=fun W=>Tryz.strings_IndexByte these ((s[k].toNat:Nat):Int) W
 have e:(((s[k].toNat:Nat):Int).toNat).toUInt8=s[k]:=by simp
 rw [e] at hI
 have hge:=Lib.indexByte_ge these.data.toList s[k]
 generalize Lib.indexByte these.data.toList s[k]=m at *
 have hw:wrap64 (m+1)=n:=by unfold wrap64;omega
 have hw2:IntKind.i64.wrap (m+1)=n:=by rw [IntKind.wrap_i64];omega
 clear hn
 have c0:=h.c0
 have c1:=h.c1
 have z1:=h.z 1 (by omega)
 have q1:((k:Int)==(s.size:Int))=false:=beq_eq_false_iff_ne.2 (by omega)
 have q2:(0:Int)≤k∧(k:Int)<(s.size:Int):=by omega
 have q3:(k:Int)<(s.size:Int):=by omega
 subst hp
 go_enter Tryz.func63,Tryz.ntmps63
 go_wp2_with fail
 go_region
 simp only [Exit.then]
 go_wp2_with fail
 have h:=h.drew
 have c0:=h.c0
 have c1:=h.c1
 have F:=(Fr.refl [] w).drew
 generalize w.drew=W at *
 clear e hge z1
 refine region_mono [] 13 [[],[],[1],[2],[3],[],[5],[6],[7],[4,8],[0,9],[10],[11]] [none,none,none,none,none,none,none,none,none,none,none,none,none] (by kernel_rfl) (by kernel_rfl) ?_
 simp only [Chain,fill,Act.put,List.nil_append,List.cons_append,List.take_succ_cons,List.take_zero,List.drop_succ_cons,List.drop_zero,List.setIfInBounds_toArray,List.set_cons_zero,List.set_cons_succ,Nat.reduceAdd]
 iterate 10 (apply Exists.intro;apply And.intro;·intro vs w2 hf hh K hK;have c0:=hf.stayd c0;have c1:=hf.stayd c1;simp only [Held,List.getD_cons_zero,List.getD_cons_succ,Just,and_true] at hh;(try simp only [hh] at hK ⊢);go_simp;exact hK _ _ ⟨rfl,Fr.refl _ _⟩)
 apply Exists.intro;apply And.intro
 ·intro vs w2 hf hh K hK;have c0:=hf.stayd c0;have c1:=hf.stayd c1;simp only [Held,List.getD_cons_zero,List.getD_cons_succ,Just,and_true] at hh;(try simp only [hh] at hK ⊢);go_simp;refine (hI _).mono ?_;rintro e w3 ⟨rfl,hx⟩;exact hK _ _ ⟨rfl,by rw [hx];exact Fr.refl _ _⟩
 iterate 2 (apply Exists.intro;apply And.intro;·intro vs w2 hf hh K hK;simp only [Held,List.getD_cons_zero,List.getD_cons_succ,Just,and_true] at hh;(try simp only [hh] at hK ⊢);go_simp;exact hK _ _ ⟨rfl,Fr.refl _ _⟩)
 intro vs w2 hf hh
 simp only [HeldAll,Just,and_true,Nat.reduceAdd] at hh
 obtain⟨e0,e1,e2,e3,e4,e5,e6,e7,e8,e9,e10,e11,e12⟩:=hh
 simp only [e0,e1,e2,e3,e4,e5,e6,e7,e8,e9,e10,e11,e12]
 clear e0 e1 e2 e3 e4 e5 e6 e7 e8 e9 e10 e11 e12
 clear vs
 have c0:=hf.stayd c0
 have c1:=hf.stayd c1
 have h:=h.drew.fr hf (by simp)
 have c0:=h.c0
 have c1:=h.c1
 have z1:=h.z 1 (by omega)
 have F:=F.drew.then hf
 go_wp2_with fail
 go_ret
 exact⟨rfl,h,F.mono (by simp)⟩
end Go.Proofs.YtcmndpjemdjalaaGreatDoor
namespace Go.Proofs.YtcmndpjemdjalaaGreatDoor
open Go.RowKit
theorem readDigit_yes (w:World) (b:Nat) (s:ByteArray) (least k:Nat) (ops:Value) (wd pl:Int) (md:Nat) (h:RdAt w b s k ops wd pl md) (hk:k<s.size) (h1:least≤s[k].toNat) (h2:s[k].toNat≤57) :
  Calls Tryz.prog 64 #[.pointer (some ⟨b,0,none⟩),.int .u8 least] w fun x w'=>x=.returned (.bool true)∧Fr [] w w':=by
 have c0:=h.c0
 have c1:=h.c1
 have q2:(0:Int)≤k∧(k:Int)<(s.size:Int):=by omega
 have q3:(k:Int)<(s.size:Int):=by omega
 have q4:(least:Int)≤((s[k].toNat:Nat):Int):=by omega
 have q5:((s[k].toNat:Nat):Int)≤57:=by omega
 go_enter Tryz.func64,Tryz.ntmps64
 go_wp2_with fail
 refine region_mono_g [] 36 [[],[0],[1],[2],[],[4],[5],[6],[7],[3,8],[9],[10],[10,11],[10,12],[10,13],[10],[10,15],[10,16],[10,17],[10,14,18],[10],[10,19,20],[10,21],[22],[23],[23,24],[23,25],[23,26],[23],[23,28],[23,29],[23,30],[23,27,31],[23,32],[23,33],[34]] [none,none,none,none,none,none,none,none,none,none,none,none,none,none,none,none,none,none,none,none,none,none,none,none,none,none,none,none,none,none,none,none,none,none,none,none] (by kernel_rfl) (by kernel_rfl) ?_
 simp (maxSteps:=2000000) only [Chain,fill,Act.put,List.nil_append,List.cons_append,List.take_succ_cons,List.take_zero,List.drop_succ_cons,List.drop_zero,List.setIfInBounds_toArray,List.set_cons_zero,List.set_cons_succ,Nat.reduceAdd]
 iterate 36 (apply Exists.intro;apply And.intro;·intro vs w2 hf hh K hK;have c0:=hf.stayd c0;have c1:=hf.stayd c1;simp only [Held,List.getD_cons_zero,List.getD_cons_succ,Just,and_true] at hh;(try simp only [hh] at hK ⊢);go_simp;exact hK _ _ ⟨rfl,Fr.refl _ _⟩)
 intro vs w2 hf hh
 simp only [HeldAll,Just,and_true,Nat.reduceAdd] at hh
 obtain⟨e0,e1,e2,e3,e4,e5,e6,e7,e8,e9,e10,e11,e12,e13,e14,e15,e16,e17,e18,e19,e20,e21,e22,e23,e24,e25,e26,e27,e28,e29,e30,e31,e32,e33,e34,e35⟩:=hh
 simp only [e0,e1,e2,e3,e4,e5,e6,e7,e8,e9,e10,e11,e12,e13,e14,e15,e16,e17,e18,e19,e20,e21,e22,e23,e24,e25,e26,e27,e28,e29,e30,e31,e32,e33,e34,e35]
 clear e0 e1 e2 e3 e4 e5 e6 e7 e8 e9 e10 e11 e12 e13 e14 e15 e16 e17 e18 e19 e20 e21 e22 e23 e24 e25 e26 e27 e28 e29 e30 e31 e32 e33 e34 e35
 clear vs
 have c0:=hf.stayd c0
 have c1:=hf.stayd c1
 go_wp2_with fail
 go_ret
 exact⟨rfl,(Fr.refl [] w).drew.then hf⟩
theorem readDigit_low (w:World) (b:Nat) (s:ByteArray) (least k:Nat) (ops:Value) (wd pl:Int) (md:Nat) (h:RdAt w b s k ops wd pl md) (hk:k<s.size) (h1:s[k].toNat<least) :
  Calls Tryz.prog 64 #[.pointer (some ⟨b,0,none⟩),.int .u8 least] w fun x w'=>x=.returned (.bool false)∧Fr [] w w':=by
 have c0:=h.c0
 have c1:=h.c1
 have q2:(0:Int)≤k∧(k:Int)<(s.size:Int):=by omega
 have q3:(k:Int)<(s.size:Int):=by omega
 have q4:¬ (least:Int)≤((s[k].toNat:Nat):Int):=by omega
 have d1:decide (least≤s[k].toNat)=false:=decide_eq_false (by omega)
 have d2:¬ least≤s[k].toNat:=by omega
 go_enter Tryz.func64,Tryz.ntmps64
 go_wp2_with fail
 refine region_mono_g [] 36 [[],[0],[1],[2],[],[4],[5],[6],[7],[3,8],[9],[10],[10,11],[10,12],[10,13],[10],[10,15],[10,16],[10,17],[10,14,18],[10],[10,19,20],[10,21],[22],[23],[23,24],[23,25],[23,26],[23],[23,28],[23,29],[23,30],[23,27,31],[23,32],[23,33],[34]] [none,none,none,none,none,none,none,none,none,none,none,none,none,none,none,none,none,none,none,none,none,none,none,none,none,none,none,none,none,none,none,none,none,none,none,none] (by kernel_rfl) (by kernel_rfl) ?_
 simp (maxSteps:=2000000) only [Chain,fill,Act.put,List.nil_append,List.cons_append,List.take_succ_cons,List.take_zero,List.drop_succ_cons,List.drop_zero,List.setIfInBounds_toArray,List.set_cons_zero,List.set_cons_succ,Nat.reduceAdd]
 iterate 36 (apply Exists.intro;apply And.intro;·intro vs w2 hf hh K hK;have c0:=hf.stayd c0;have c1:=hf.stayd c1;simp only [Held,List.getD_cons_zero,List.getD_cons_succ,Just,and_true] at hh;(try simp only [hh] at hK ⊢);go_simp;exact hK _ _ ⟨rfl,Fr.refl _ _⟩)
 intro vs w2 hf hh
 simp only [HeldAll,Just,and_true,Nat.reduceAdd] at hh
 obtain⟨e0,e1,e2,e3,e4,e5,e6,e7,e8,e9,e10,e11,e12,e13,e14,e15,e16,e17,e18,e19,e20,e21,e22,e23,e24,e25,e26,e27,e28,e29,e30,e31,e32,e33,e34,e35⟩:=hh
 simp only [e0,e1,e2,e3,e4,e5,e6,e7,e8,e9,e10,e11,e12,e13,e14,e15,e16,e17,e18,e19,e20,e21,e22,e23,e24,e25,e26,e27,e28,e29,e30,e31,e32,e33,e34,e35]
 clear e0 e1 e2 e3 e4 e5 e6 e7 e8 e9 e10 e11 e12 e13 e14 e15 e16 e17 e18 e19 e20 e21 e22 e23 e24 e25 e26 e27 e28 e29 e30 e31 e32 e33 e34 e35
 clear vs
 have c0:=hf.stayd c0
 have c1:=hf.stayd c1
 go_wp2_with fail
 go_ret
 exact⟨rfl,(Fr.refl [] w).drew.then hf⟩
theorem readDigit_high (w:World) (b:Nat) (s:ByteArray) (least k:Nat) (ops:Value) (wd pl:Int) (md:Nat) (h:RdAt w b s k ops wd pl md) (hk:k<s.size) (h1:least≤s[k].toNat) (h2:57<s[k].toNat) :
  Calls Tryz.prog 64 #[.pointer (some ⟨b,0,none⟩),.int .u8 least] w fun x w'=>x=.returned (.bool false)∧Fr [] w w':=by
 have c0:=h.c0
 have c1:=h.c1
 have q2:(0:Int)≤k∧(k:Int)<(s.size:Int):=by omega
 have q3:(k:Int)<(s.size:Int):=by omega
 have q4:(least:Int)≤((s[k].toNat:Nat):Int):=by omega
 have q5:¬ ((s[k].toNat:Nat):Int)≤57:=by omega
 have d1:decide (s[k].toNat≤57)=false:=decide_eq_false (by omega)
 have d3:decide (((s[k].toNat:Nat):Int)≤57)=false:=decide_eq_false (by omega)
 have d2:¬ s[k].toNat≤57:=by omega
 go_enter Tryz.func64,Tryz.ntmps64
 go_wp2_with fail
 refine region_mono_g [] 36 [[],[0],[1],[2],[],[4],[5],[6],[7],[3,8],[9],[10],[10,11],[10,12],[10,13],[10],[10,15],[10,16],[10,17],[10,14,18],[10],[10,19,20],[10,21],[22],[23],[23,24],[23,25],[23,26],[23],[23,28],[23,29],[23,30],[23,27,31],[23,32],[23,33],[34]] [none,none,none,none,none,none,none,none,none,none,none,none,none,none,none,none,none,none,none,none,none,none,none,none,none,none,none,none,none,none,none,none,none,none,none,none] (by kernel_rfl) (by kernel_rfl) ?_
 simp (maxSteps:=2000000) only [Chain,fill,Act.put,List.nil_append,List.cons_append,List.take_succ_cons,List.take_zero,List.drop_succ_cons,List.drop_zero,List.setIfInBounds_toArray,List.set_cons_zero,List.set_cons_succ,Nat.reduceAdd]
 iterate 36 (apply Exists.intro;apply And.intro;·intro vs w2 hf hh K hK;have c0:=hf.stayd c0;have c1:=hf.stayd c1;simp only [Held,List.getD_cons_zero,List.getD_cons_succ,Just,and_true] at hh;(try simp only [hh] at hK ⊢);go_simp;exact hK _ _ ⟨rfl,Fr.refl _ _⟩)
 intro vs w2 hf hh
 simp only [HeldAll,Just,and_true,Nat.reduceAdd] at hh
 obtain⟨e0,e1,e2,e3,e4,e5,e6,e7,e8,e9,e10,e11,e12,e13,e14,e15,e16,e17,e18,e19,e20,e21,e22,e23,e24,e25,e26,e27,e28,e29,e30,e31,e32,e33,e34,e35⟩:=hh
 simp only [e0,e1,e2,e3,e4,e5,e6,e7,e8,e9,e10,e11,e12,e13,e14,e15,e16,e17,e18,e19,e20,e21,e22,e23,e24,e25,e26,e27,e28,e29,e30,e31,e32,e33,e34,e35]
 clear e0 e1 e2 e3 e4 e5 e6 e7 e8 e9 e10 e11 e12 e13 e14 e15 e16 e17 e18 e19 e20 e21 e22 e23 e24 e25 e26 e27 e28 e29 e30 e31 e32 e33 e34 e35
 clear vs
 have c0:=hf.stayd c0
 have c1:=hf.stayd c1
 go_wp2_with fail
 go_ret
 refine⟨?_,(Fr.refl [] w).drew.then hf⟩
 rfl
def digitAt (s:ByteArray) (k least:Nat):Bool:=if h:k<s.size then decide (least≤s[k].toNat) && decide (s[k].toNat≤57) else false
theorem readDigit (w:World) (b:Nat) (s:ByteArray) (least k:Nat) (ops:Value) (wd pl:Int) (md:Nat) (h:RdAt w b s k ops wd pl md) (hk:k<s.size) :
  Calls Tryz.prog 64 #[.pointer (some ⟨b,0,none⟩),.int .u8 least] w fun x w'=>x=.returned (.bool (digitAt s k least))∧Fr [] w w':=by
 unfold digitAt
 rw [dif_pos hk]
 by_cases h1:least≤s[k].toNat
 ·by_cases h2:s[k].toNat≤57
  ·rw [decide_eq_true h1,decide_eq_true h2];exact readDigit_yes w b s least k ops wd pl md h hk h1 h2
  ·rw [decide_eq_true h1,decide_eq_false h2];exact readDigit_high w b s least k ops wd pl md h hk h1 (by omega)
 ·rw [decide_eq_false h1];exact readDigit_low w b s least k ops wd pl md h hk (by omega)
def thrown (code at_:Int):Value:=.iface 64 (.agg #[.int .i64 code,.int .i64 at_])
theorem give_any (w:World) (p:Value) (code at_:Int) :
  Calls Tryz.prog 40 #[p,.int .i64 code,.int .i64 at_] w fun x w'=>x=.panicked [{ v:=thrown code at_,recovered:=false }]∧w'=w:=by
 go_enter Tryz.func40,Tryz.ntmps40
 go_wp2_with fail
 exact⟨rfl,rfl,rfl⟩
end Go.Proofs.YtcmndpjemdjalaaGreatDoor
namespace Go.Proofs.YtcmndpjemdjalaaGreatDoor
open Go.RowKit
theorem atoi_digit (w:World) (n:Nat) (hn:n<10):Calls Tryz.prog 104 #[.string (strL [dig n])] w fun e w'=>e=.returned (.tuple #[.int .i64 n,.nilIface])∧Fr [] w w':=by
 have e1:Lib.atoi (strL [dig n]).data.toList=some (n:Int):=by
  rw [strL_data]
  have:∀ p:Fin 10,Lib.atoi [dig p.val]=some ((p.val:Nat):Int):=by decide +kernel
  exact this ⟨n,hn⟩
 refine (Tryz.strconv_Atoi (strL [dig n]) n (by rw [strL_size];simp) e1 w).mono ?_
 rintro e w' ⟨rfl,t,rfl⟩
 exact⟨rfl,fr_bytes w _ t⟩
theorem dig_toNat {n:Nat} (hn:n<10):(dig n).toNat=48+n:=by
 have:∀ p:Fin 10,(dig p.val).toNat=48+p.val:=by decide
 exact this ⟨n,hn⟩
theorem slice_at (s:ByteArray) (k:Nat) (hk:k<s.size):s.extract k (k+1)=strL [s[k]]:=by
 rw [← strL_of (s.extract k (k+1))]
 congr 1
 rw [ByteArray.data_extract,Array.toList_extract]
 have hk2:k<s.data.toList.length:=by rw [← Go.Lib.size_eq];exact hk
 simp only [List.extract_eq_take_drop]
 rw [show k+1 - k=1 by omega,List.drop_eq_getElem_cons hk2]
 rfl
theorem slice_run (s:ByteArray) (k:Nat) (hk:k<s.size) (w:World):(Instr.slice 9 (.string s) (some (.int .i64 k)) (some (.int .i64 ((k:Int)+1))) none).run Tryz.prog w=.ok (.string (strL [s[k]])) w:=by
 have h1:(0:Int)≤(k:Int)+1∧(k:Int)+1≤(s.size:Int):=by omega
 have h2:((k:Int)+1).toNat=k+1:=by omega
 have h3:(0:Int)≤(k:Int)∧(k:Int)≤((k+1:Nat):Int):=by omega
 have e:=slice_at s k hk
 simp [Instr.slice,Instr.sliceBounds,Instr.sliceBound,asIntOf,underlying,Tryz.underlying9,h1,h2,h3,e,Result.andThen]
theorem readNum_some (w:World) (b:Nat) (s:ByteArray) (k n most:Nat) (ops:Value) (wd pl:Int) (md:Nat) (e:Int) (h:RdAt w b s k ops wd pl md) (hk:k+1<s.size) (hs:s.size≤65536) (hn:n<10) (hn0:0<n) (hc:s[k]=dig n) (hd:digitAt s (k+1) 48=false) (hm:n≤most) :
  Calls Tryz.prog 65 #[.pointer (some ⟨b,0,none⟩),.int .i64 most,.int .i64 e] w fun x w'=>x=.returned (.int .i64 n)∧RdAt w' b s (k+1) ops wd pl md∧Fr [b] w w':=by
 have hA:=fun W=>atoi_digit W n hn
 have hD:=fun W h=>readDigit W b s 48 (k+1) ops wd pl md h hk
 rw [hd] at hD
 have c0:=h.c0
 have c1:=h.c1
 have z1:=h.z 1 (by omega)
 have hS:=fun W=>slice_run s k (by omega) W
 simp only [hc] at hS
 have q1:(0:Int)≤k∧(k:Int)<(s.size:Int):=by omega
 have q2:(k:Int)<(s.size:Int):=by omega
 have q3:((((dig n).toNat:Nat):Int) != 48)=true:=by rw [dig_toNat hn];simp;omega
 have h1:RdAt (w.setCell ⟨b,1,none⟩ (.int .i64 (k+1))) b s (k+1) ops wd pl md:=h.set1 _
 go_enter Tryz.func65,Tryz.ntmps65
 go_wp2_with fail
 refine wp_loop_rounds 1 ?_
 rw [rounds_succ]
 go_wp2_with (go_at_call 64;go_loud (refine (hD _ h1).mono ?_;rintro x w1 ⟨rfl,g1⟩))
 have h:=h1.fr g1 (by simp)
 have c0:=h.c0
 have c1:=h.c1
 have q4:(k:Int)+1≤(s.size:Int):=by omega
 have q5:(0:Int)≤(k:Int)+1:=by omega
 have q6:¬ (s.size:Int)<(k:Int)+1:=by omega
 have q7:¬ (k:Int)+1<(k:Int):=by omega
 have F:=((Fr.refl [b] w).setCell (p:=⟨b,1,none⟩) (.inl (by simp)) (.int .i64 ((k:Int)+1))).then g1
 clear g1 hD h1 z1
 refine region_mono [] 16 [[],[0],[1],[2],[],[],[5],[6],[7],[3,4,8],[9],[10],[11],[11],[12],[13]] [none,none,none,none,none,none,none,none,none,none,none,none,none,none,none,none] (by kernel_rfl) (by kernel_rfl) ?_
 simp only [Chain,fill,Act.put,List.nil_append,List.cons_append,List.take_succ_cons,List.take_zero,List.drop_succ_cons,List.drop_zero,List.setIfInBounds_toArray,List.set_cons_zero,List.set_cons_succ,Nat.reduceAdd]
 iterate 10 (apply Exists.intro;apply And.intro;·intro vs w2 hf hh K hK;have c0:=hf.stayd c0;have c1:=hf.stayd c1;simp only [Held,List.getD_cons_zero,List.getD_cons_succ,Just,and_true] at hh;(try simp only [hh] at hK ⊢);go_simp;exact hK _ _ ⟨rfl,Fr.refl _ _⟩)
 apply Exists.intro;apply And.intro
 ·intro vs w2 hf hh K hK;have c0:=hf.stayd c0;have c1:=hf.stayd c1;simp only [Held,List.getD_cons_zero,List.getD_cons_succ,Just,and_true] at hh;(try simp only [hh] at hK ⊢);go_simp;refine (hA _).mono ?_;rintro e w3 ⟨rfl,f3⟩;exact hK _ _ ⟨rfl,f3⟩
 iterate 5 (apply Exists.intro;apply And.intro;·intro vs w2 hf hh K hK;simp only [Held,List.getD_cons_zero,List.getD_cons_succ,Just,and_true] at hh;(try simp only [hh] at hK ⊢);go_simp;exact hK _ _ ⟨rfl,Fr.refl _ _⟩)
 intro vs w2 hf hh
 simp only [HeldAll,Just,and_true,Nat.reduceAdd] at hh
 obtain⟨e0,e1,e2,e3,e4,e5,e6,e7,e8,e9,e10,e11,e12,e13,e14,e15⟩:=hh
 simp only [e0,e1,e2,e3,e4,e5,e6,e7,e8,e9,e10,e11,e12,e13,e14,e15]
 clear e0 e1 e2 e3 e4 e5 e6 e7 e8 e9 e10 e11 e12 e13 e14 e15
 clear vs
 have c0:=hf.stayd c0
 have c1:=hf.stayd c1
 have h:=h.drew.fr hf (by simp)
 have F:=F.drew.then hf
 have hmm:¬ (most:Int)<(n:Int):=by omega
 go_wp2_with fail
 go_ret
 exact⟨rfl,h,F⟩
theorem readNum_zero (w:World) (b:Nat) (s:ByteArray) (k most:Nat) (ops:Value) (wd pl:Int) (md:Nat) (e:Int) (h:RdAt w b s k ops wd pl md) (hk:k+1<s.size) (hs:s.size≤65536) (hc:s[k]=dig 0) :
  Calls Tryz.prog 65 #[.pointer (some ⟨b,0,none⟩),.int .i64 most,.int .i64 e] w fun x w'=>x=.returned (.int .i64 0)∧RdAt w' b s (k+1) ops wd pl md∧Fr [b] w w':=by
 have hA:=fun W=>atoi_digit W 0 (by omega)
 have c0:=h.c0
 have c1:=h.c1
 have z1:=h.z 1 (by omega)
 have hS:=fun W=>slice_run s k (by omega) W
 simp only [hc] at hS
 have q1:(0:Int)≤k∧(k:Int)<(s.size:Int):=by omega
 have q2:(k:Int)<(s.size:Int):=by omega
 have q3:(((s[k].toNat:Nat):Int) != 48)=false:=by rw [hc];rfl
 have h1:RdAt (w.setCell ⟨b,1,none⟩ (.int .i64 (k+1))) b s (k+1) ops wd pl md:=h.set1 _
 go_enter Tryz.func65,Tryz.ntmps65
 go_wp2_with fail
 refine wp_loop_rounds 1 ?_
 rw [rounds_succ]
 go_wp2_with fail
 have h:=h1
 have c0:=h.c0
 have c1:=h.c1
 have q4:(k:Int)+1≤(s.size:Int):=by omega
 have q5:(0:Int)≤(k:Int)+1:=by omega
 have q6:¬ (s.size:Int)<(k:Int)+1:=by omega
 have q7:¬ (k:Int)+1<(k:Int):=by omega
 have F:=((Fr.refl [b] w).setCell (p:=⟨b,1,none⟩) (.inl (by simp)) (.int .i64 ((k:Int)+1)))
 clear h1 z1
 generalize w.setCell ⟨b,1,none⟩ (.int .i64 ((k:Int)+1))=w1 at *
 refine region_mono [] 16 [[],[0],[1],[2],[],[],[5],[6],[7],[3,4,8],[9],[10],[11],[11],[12],[13]] [none,none,none,none,none,none,none,none,none,none,none,none,none,none,none,none] (by kernel_rfl) (by kernel_rfl) ?_
 simp only [Chain,fill,Act.put,List.nil_append,List.cons_append,List.take_succ_cons,List.take_zero,List.drop_succ_cons,List.drop_zero,List.setIfInBounds_toArray,List.set_cons_zero,List.set_cons_succ,Nat.reduceAdd]
 iterate 10 (apply Exists.intro;apply And.intro;·intro vs w2 hf hh K hK;have c0:=hf.stayd c0;have c1:=hf.stayd c1;simp only [Held,List.getD_cons_zero,List.getD_cons_succ,Just,and_true] at hh;(try simp only [hh] at hK ⊢);go_simp;exact hK _ _ ⟨rfl,Fr.refl _ _⟩)
 apply Exists.intro;apply And.intro
 ·intro vs w2 hf hh K hK;have c0:=hf.stayd c0;have c1:=hf.stayd c1;simp only [Held,List.getD_cons_zero,List.getD_cons_succ,Just,and_true] at hh;(try simp only [hh] at hK ⊢);go_simp;refine (hA _).mono ?_;rintro e w3 ⟨rfl,f3⟩;exact hK _ _ ⟨rfl,f3⟩
 iterate 5 (apply Exists.intro;apply And.intro;·intro vs w2 hf hh K hK;simp only [Held,List.getD_cons_zero,List.getD_cons_succ,Just,and_true] at hh;(try simp only [hh] at hK ⊢);go_simp;exact hK _ _ ⟨rfl,Fr.refl _ _⟩)
 intro vs w2 hf hh
 simp only [HeldAll,Just,and_true,Nat.reduceAdd] at hh
 obtain⟨e0,e1,e2,e3,e4,e5,e6,e7,e8,e9,e10,e11,e12,e13,e14,e15⟩:=hh
 simp only [e0,e1,e2,e3,e4,e5,e6,e7,e8,e9,e10,e11,e12,e13,e14,e15]
 clear e0 e1 e2 e3 e4 e5 e6 e7 e8 e9 e10 e11 e12 e13 e14 e15
 clear vs
 have c0:=hf.stayd c0
 have c1:=hf.stayd c1
 have h:=h.drew.fr hf (by simp)
 have F:=F.drew.then hf
 have hmm:¬ (most:Int)<0:=by omega
 go_wp2_with fail
 go_ret
 exact⟨rfl,h,F⟩
end Go.Proofs.YtcmndpjemdjalaaGreatDoor
namespace Go.Proofs.YtcmndpjemdjalaaGreatDoor
open Go.RowKit
theorem placed_2 (w:World) (places:Int):Calls Tryz.prog 66 #[.int .u8 2,.int .i64 places] w fun x w'=>x=.returned (.bool (decide (places<0)))∧w'=w:=by
 go_enter Tryz.func66,Tryz.ntmps66
 go_wp2_with fail
 go_ret
 exact⟨rfl,rfl⟩
theorem placed_6 (w:World) (places:Int):Calls Tryz.prog 66 #[.int .u8 6,.int .i64 places] w fun x w'=>x=.returned (.bool true)∧w'=w:=by
 go_enter Tryz.func66,Tryz.ntmps66
 go_wp2_with fail
 go_ret
 exact⟨rfl,rfl⟩
theorem placed_5 (w:World) (places:Int):Calls Tryz.prog 66 #[.int .u8 5,.int .i64 places] w fun x w'=>x=.returned (.bool (decide (0<places)))∧w'=w:=by
 go_enter Tryz.func66,Tryz.ntmps66
 go_wp2_with fail
 go_ret
 exact⟨rfl,rfl⟩
theorem placed_4 (w:World) (places:Int) (h:places<2000):Calls Tryz.prog 66 #[.int .u8 4,.int .i64 places] w fun x w'=>x=.returned (.bool (decide (0≤places)))∧w'=w:=by
 by_cases h0:0≤places
 ·rw [decide_eq_true h0]
  go_enter Tryz.func66,Tryz.ntmps66
  go_wp2_with fail
  go_ret
  exact⟨rfl,rfl⟩
 ·rw [decide_eq_false h0]
  go_enter Tryz.func66,Tryz.ntmps66
  go_wp2_with fail
  go_ret
  exact⟨rfl,rfl⟩
theorem placed_3 (w:World) (places:Int):Calls Tryz.prog 66 #[.int .u8 3,.int .i64 places] w fun x w'=>x=.returned (.bool (decide (0≤places)))∧w'=w:=by
 go_enter Tryz.func66,Tryz.ntmps66
 go_wp2_with fail
 go_ret
 exact⟨rfl,rfl⟩
theorem readNum (w:World) (b:Nat) (s:ByteArray) (k n most:Nat) (ops:Value) (wd pl:Int) (md:Nat) (e:Int) (h:RdAt w b s k ops wd pl md) (hk:k+1<s.size) (hs:s.size≤65536) (hn:n<10) (hc:s[k]=dig n) (hd:digitAt s (k+1) 48=false) (hm:n≤most) :
  Calls Tryz.prog 65 #[.pointer (some ⟨b,0,none⟩),.int .i64 most,.int .i64 e] w fun x w'=>x=.returned (.int .i64 n)∧RdAt w' b s (k+1) ops wd pl md∧Fr [b] w w':=by
 rcases Nat.eq_zero_or_pos n with h0 | h0
 ·subst h0;exact readNum_zero w b s k most ops wd pl md e h hk hs hc
 ·exact readNum_some w b s k n most ops wd pl md e h hk hs hn h0 hc hd hm
end Go.Proofs.YtcmndpjemdjalaaGreatDoor
namespace Go.Proofs.YtcmndpjemdjalaaGreatDoor
open Go.RowKit
theorem readDigit_is (w:World) (b:Nat) (s:ByteArray) (least k:Nat) (ops:Value) (wd pl:Int) (md:Nat) (v:Bool) (h:RdAt w b s k ops wd pl md) (hk:k<s.size) (hv:digitAt s k least=v) :
  Calls Tryz.prog 64 #[.pointer (some ⟨b,0,none⟩),.int .u8 least] w fun x w'=>x=.returned (.bool v)∧Fr [] w w':=by
 rw [← hv];exact readDigit w b s least k ops wd pl md h hk
theorem placed_5_is (w:World) (places:Int) (v:Bool) (hv:decide (0<places)=v):Calls Tryz.prog 66 #[.int .u8 5,.int .i64 places] w fun x w'=>x=.returned (.bool v)∧w'=w:=by
 rw [← hv];exact placed_5 w places
theorem field_s (w:World) (b:Nat) (ops:Value) (h:RdAt w b (strL [123,115,125]) ((1:Nat):Int) ops 0 0 0) :
  Calls Tryz.prog 41 #[.pointer (some ⟨b,0,none⟩)] w fun x w'=>x=.returned (.agg #[.int .u8 2,.int .i64 0])∧RdAt w' b (strL [123,115,125]) ((3:Nat):Int) ops 0 (-1) 0∧Fr [b] w w':=by
 have hb:=h.lt
 have r2:=row_new w (.cells #[.int .u8 0,.int .i64 0] 117)
 have F:=(Fr.refl [b] w).alloc (.cells #[.int .u8 0,.int .i64 0] 117)
 have h:=h.alloc (.cells #[.int .u8 0,.int .i64 0] 117)
 have sz:w.heap.size+1≤(w.alloc (.cells #[.int .u8 0,.int .i64 0] 117)).heap.size:=by simp
 go_enter Tryz.func41,Tryz.ntmps41
 generalize hW:w.alloc (.cells #[.int .u8 0,.int .i64 0] 117)=W at *
 go_wp2_with (first
  | (go_at_call 63;(with_reducible show Calls _ _ #[_,.string ⟨#[43,32]⟩] _ _);go_loud (refine (readTake_miss _ b _ _ 1 _ _ _ _ 0 h (by show _<(strL _).size;rw [strL_size];simp) (by rw [strL_size];simp) (by show Lib.indexByte [43,32] 115+1=0;decide) rfl (by omega)).mono ?_;rintro x w1 ⟨rfl,h,g⟩;have r2:=g.row r2 (by simp;omega);have sz:=Nat.le_trans sz g.size;replace F:=F.trans g (by simp);have rT:=row_new w1 (.cells #[.int .u8 0,.int .i64 0] 117);have r2:=((Fr.refl [] w1).alloc (.cells #[.int .u8 0,.int .i64 0] 117)).row r2 (by simp);have h:=h.alloc (.cells #[.int .u8 0,.int .i64 0] 117);replace F:=F.alloc (.cells #[.int .u8 0,.int .i64 0] 117);have szT:w1.heap.size+1≤(w1.alloc (.cells #[.int .u8 0,.int .i64 0] 117)).heap.size:=(by simp)))
  | (go_at_call 63;(with_reducible show Calls _ _ #[_,.string ⟨#[48,45]⟩] _ _);go_loud (refine (readTake_miss _ b _ _ 1 _ _ _ _ 0 h (by show _<(strL _).size;rw [strL_size];simp) (by rw [strL_size];simp) (by show Lib.indexByte [48,45] 115+1=0;decide) rfl (by omega)).mono ?_;rintro x w2 ⟨rfl,h,g⟩;have r2:=g.row r2 (by simp;omega);have rT:=g.row rT (by simp;omega);have szT:=Nat.le_trans szT g.size;replace F:=F.trans g (by simp)))
  | (go_at_call 64;go_loud (refine (readDigit_is _ b _ 49 1 _ _ _ _ false h (by show _<(strL _).size;rw [strL_size];simp) (by rw [digitAt,dif_pos (by show _<(strL _).size;rw [strL_size];simp)];show (decide (49≤(115:UInt8).toNat) && decide ((115:UInt8).toNat≤57))=false;decide)).mono ?_;rintro x w3 ⟨rfl,g⟩;have h:=h.fr g (by simp);have r2:=g.row r2 (by simp);have rT:=g.row rT (by simp);have szT:=Nat.le_trans szT g.size;replace F:=F.then g;have c4:=h.c4;have z4:=h.z 4 (by omega);have h:=h.set4 (-1);have gS:=(Fr.refl [b] w3).setCell (p:=⟨b,4,none⟩) (.inl (by simp)) (.int .i64 (-1));have r2:=gS.row r2 (by simp;omega);have rT:=gS.row rT (by simp;omega);replace F:=F.trans gS (by simp);have szS:=gS.size))
  | (go_at_call 63;(with_reducible show Calls _ _ #[_,.string ⟨#[46]⟩] _ _);go_loud (refine (readTake_miss _ b _ _ 1 _ _ _ _ 0 h (by show _<(strL _).size;rw [strL_size];simp) (by rw [strL_size];simp) (by show Lib.indexByte [46] 115+1=0;decide) rfl (by omega)).mono ?_;rintro x w4 ⟨rfl,h,g⟩;have r2:=g.row r2 (by simp;omega);have rT:=g.row rT (by simp;omega);have szT:=Nat.le_trans (Nat.le_trans szT szS) g.size;replace F:=F.trans g (by simp);have c1:=h.c1))
  | (go_at_call 63;(with_reducible show Calls _ _ #[_,.string ⟨#[115,102,101,103,120]⟩] _ _);go_loud (refine (readTake_hit _ b _ _ 1 _ _ _ _ 1 h (by show _<(strL _).size;rw [strL_size];simp) (by rw [strL_size];simp) (by show Lib.indexByte [115,102,101,103,120] 115+1=1;decide) (by decide) (by omega)).mono ?_;rintro x w5 ⟨rfl,h,g⟩;have r2:=g.row r2 (by simp;omega);have rT:=g.row rT (by simp;omega);have szT:=Nat.le_trans szT g.size;replace F:=F.trans g (by simp);have d0:w5.cell? ⟨w1.heap.size,0,none⟩=some (.int .u8 0):=(by rw [cell_of_row _ _ 0 _ _ _ rT];rfl);have dz:=frozen_of_row w5 w1.heap.size 0 _ _ rT)))
 have gT:=(Fr.refl [w1.heap.size] w5).setCell (p:=⟨w1.heap.size,0,none⟩) (.inl (by simp)) (.int .u8 2)
 have rT:=heap_setCell_same w5 w1.heap.size 0 _ _ (.int .u8 2) rT
 have r2:=gT.row r2 (by simp;omega)
 have h:=h.other w1.heap.size 0 (.int .u8 2) (by omega)
 have F:=F.setCell (p:=⟨w1.heap.size,0,none⟩) (.inr (by simp;omega)) (.int .u8 2)
 have szT:w1.heap.size+1≤(w5.setCell ⟨w1.heap.size,0,none⟩ (.int .u8 2)).heap.size:=by rw [World.size_setCell];exact szT
 clear gT d0 dz
 generalize w5.setCell ⟨w1.heap.size,0,none⟩ (.int .u8 2)=Y at *
 have d0:Y.cell? ⟨w1.heap.size,0,none⟩=some (.int .u8 2):=by rw [cell_of_row _ _ 0 _ _ _ rT];rfl
 have c4:=h.c4
 refine region_mono_g [] 14 [[],[0],[1],[2],[3],[3,4],[3],[3,6],[3,7],[3,8],[3,9],[3,5,10],[3,11],[3,12]] [none,none,none,none,none,none,none,none,none,none,none,none,none,none] (by kernel_rfl) (by kernel_rfl) ?_
 simp only [Chain,fill,Act.put,List.nil_append,List.cons_append,List.take_succ_cons,List.take_zero,List.drop_succ_cons,List.drop_zero,List.setIfInBounds_toArray,List.set_cons_zero,List.set_cons_succ,Nat.reduceAdd]
 iterate 11 (apply Exists.intro;apply And.intro;·intro vs w2 hf hh K hK;have d0:=hf.stayd d0;have c4:=hf.stayd c4;simp only [Held,List.getD_cons_zero,List.getD_cons_succ,Just,and_true] at hh;(try simp only [hh] at hK ⊢);go_simp;exact hK _ _ ⟨rfl,Fr.refl _ _⟩)
 apply Exists.intro;apply And.intro
 ·intro vs w2 hf hh K hK;have d0:=hf.stayd d0;have c4:=hf.stayd c4;simp only [Held,List.getD_cons_zero,List.getD_cons_succ,Just,and_true] at hh;(try simp only [hh] at hK ⊢);go_simp;refine (placed_2 _ (-1)).mono ?_;rintro e w6 ⟨rfl,hx⟩;exact hK _ _ ⟨rfl,by rw [hx];exact Fr.refl _ _⟩
 iterate 2 (apply Exists.intro;apply And.intro;·intro vs w2 hf hh K hK;simp only [Held,List.getD_cons_zero,List.getD_cons_succ,Just,and_true] at hh;(try simp only [hh] at hK ⊢);go_simp;exact hK _ _ ⟨rfl,Fr.refl _ _⟩)
 intro vs w2 hf hh
 simp only [HeldAll,Just,and_true,Nat.reduceAdd] at hh
 obtain⟨e0,e1,e2,e3,e4,e5,e6,e7,e8,e9,e10,e11,e12,e13⟩:=hh
 simp only [e0,e1,e2,e3,e4,e5,e6,e7,e8,e9,e10,e11,e12,e13]
 clear e0 e1 e2 e3 e4 e5 e6 e7 e8 e9 e10 e11 e12 e13
 clear vs
 have d0:=hf.stayd d0
 have c4:=hf.stayd c4
 have h:=h.drew.fr hf (by simp)
 have rT:=hf.row (w:=Y.drew) rT (by simp)
 have r2:=hf.row (w:=Y.drew) r2 (by simp)
 have szT:w1.heap.size+1≤w2.heap.size:=Nat.le_trans szT hf.size
 have F:=F.drew.then hf
 have c4:=h.c4
 clear hf d0
 go_wp2_with (first
  | (go_at_call 63;(with_reducible show Calls _ _ #[_,.string ⟨#[125]⟩] _ _);go_loud (refine (readTake_hit _ b _ _ 2 _ _ _ _ 1 h (by show _<(strL _).size;rw [strL_size];simp) (by rw [strL_size];simp) (by show Lib.indexByte [125] 125+1=1;decide) (by decide) (by omega)).mono ?_;rintro x w8 ⟨rfl,h,g⟩;have r2:=g.row r2 (by simp;omega);have rT:=g.row rT (by simp;omega);replace F:=F.trans g (by simp)))
  | ((with_reducible show wpList _ _ _ (⟨some 105,.load 117 (.tmp 3),_,_,_,_⟩ :: _) _ _);go_loud (refine wpList_load_row rfl 117 (.tmp 3) rfl w1.heap.size rfl _ _ _ _ rT Tryz.underlying117 rfl (by kernel_rfl) ?_))
  | ((with_reducible show wpList _ _ _ (⟨none,.store 117 (.tmp 2) (.tmp 105),_,_,_,_⟩ :: _) _ _);go_loud (refine wpList_store_whole rfl 117 (.tmp 2) (.tmp 105) rfl w.heap.size #[.int .u8 2,.int .i64 0] rfl rfl _ _ r2 (by kernel_rfl) rfl (by simp [Value.oneCell']) ?_;intro w9 hn9 g9)))
 (try simp only [Exit.inBlock,Exit.then])
 refine bodyPost_ret (v:=_) (results_cell_row rfl _ _ w.heap.size _ _ _ _ rfl hn9 Tryz.underlying117 rfl (by kernel_rfl)) rfl ?_
 exact⟨rfl,h.fr g9 (by simp;omega),F.trans g9 (by simp)⟩
theorem field_x (w:World) (b:Nat) (ops:Value) (h:RdAt w b (strL [123,120,125]) ((1:Nat):Int) ops 0 0 0) :
  Calls Tryz.prog 41 #[.pointer (some ⟨b,0,none⟩)] w fun x w'=>x=.returned (.agg #[.int .u8 6,.int .i64 0])∧RdAt w' b (strL [123,120,125]) ((3:Nat):Int) ops 0 (-1) 0∧Fr [b] w w':=by
 have hb:=h.lt
 have r2:=row_new w (.cells #[.int .u8 0,.int .i64 0] 117)
 have F:=(Fr.refl [b] w).alloc (.cells #[.int .u8 0,.int .i64 0] 117)
 have h:=h.alloc (.cells #[.int .u8 0,.int .i64 0] 117)
 have sz:w.heap.size+1≤(w.alloc (.cells #[.int .u8 0,.int .i64 0] 117)).heap.size:=by simp
 go_enter Tryz.func41,Tryz.ntmps41
 generalize hW:w.alloc (.cells #[.int .u8 0,.int .i64 0] 117)=W at *
 go_wp2_with (first
  | (go_at_call 63;(with_reducible show Calls _ _ #[_,.string ⟨#[43,32]⟩] _ _);go_loud (refine (readTake_miss _ b _ _ 1 _ _ _ _ 0 h (by show _<(strL _).size;rw [strL_size];simp) (by rw [strL_size];simp) (by show Lib.indexByte [43,32] 120+1=0;decide) rfl (by omega)).mono ?_;rintro x w1 ⟨rfl,h,g⟩;have r2:=g.row r2 (by simp;omega);have sz:=Nat.le_trans sz g.size;replace F:=F.trans g (by simp);have rT:=row_new w1 (.cells #[.int .u8 0,.int .i64 0] 117);have r2:=((Fr.refl [] w1).alloc (.cells #[.int .u8 0,.int .i64 0] 117)).row r2 (by simp);have h:=h.alloc (.cells #[.int .u8 0,.int .i64 0] 117);replace F:=F.alloc (.cells #[.int .u8 0,.int .i64 0] 117);have szT:w1.heap.size+1≤(w1.alloc (.cells #[.int .u8 0,.int .i64 0] 117)).heap.size:=(by simp)))
  | (go_at_call 63;(with_reducible show Calls _ _ #[_,.string ⟨#[48,45]⟩] _ _);go_loud (refine (readTake_miss _ b _ _ 1 _ _ _ _ 0 h (by show _<(strL _).size;rw [strL_size];simp) (by rw [strL_size];simp) (by show Lib.indexByte [48,45] 120+1=0;decide) rfl (by omega)).mono ?_;rintro x w2 ⟨rfl,h,g⟩;have r2:=g.row r2 (by simp;omega);have rT:=g.row rT (by simp;omega);have szT:=Nat.le_trans szT g.size;replace F:=F.trans g (by simp)))
  | (go_at_call 64;go_loud (refine (readDigit_is _ b _ 49 1 _ _ _ _ false h (by show _<(strL _).size;rw [strL_size];simp) (by rw [digitAt,dif_pos (by show _<(strL _).size;rw [strL_size];simp)];show (decide (49≤(120:UInt8).toNat) && decide ((120:UInt8).toNat≤57))=false;decide)).mono ?_;rintro x w3 ⟨rfl,g⟩;have h:=h.fr g (by simp);have r2:=g.row r2 (by simp);have rT:=g.row rT (by simp);have szT:=Nat.le_trans szT g.size;replace F:=F.then g;have c4:=h.c4;have z4:=h.z 4 (by omega);have h:=h.set4 (-1);have gS:=(Fr.refl [b] w3).setCell (p:=⟨b,4,none⟩) (.inl (by simp)) (.int .i64 (-1));have r2:=gS.row r2 (by simp;omega);have rT:=gS.row rT (by simp;omega);replace F:=F.trans gS (by simp);have szS:=gS.size))
  | (go_at_call 63;(with_reducible show Calls _ _ #[_,.string ⟨#[46]⟩] _ _);go_loud (refine (readTake_miss _ b _ _ 1 _ _ _ _ 0 h (by show _<(strL _).size;rw [strL_size];simp) (by rw [strL_size];simp) (by show Lib.indexByte [46] 120+1=0;decide) rfl (by omega)).mono ?_;rintro x w4 ⟨rfl,h,g⟩;have r2:=g.row r2 (by simp;omega);have rT:=g.row rT (by simp;omega);have szT:=Nat.le_trans (Nat.le_trans szT szS) g.size;replace F:=F.trans g (by simp);have c1:=h.c1))
  | (go_at_call 63;(with_reducible show Calls _ _ #[_,.string ⟨#[115,102,101,103,120]⟩] _ _);go_loud (refine (readTake_hit _ b _ _ 1 _ _ _ _ 5 h (by show _<(strL _).size;rw [strL_size];simp) (by rw [strL_size];simp) (by show Lib.indexByte [115,102,101,103,120] 120+1=5;decide) (by decide) (by omega)).mono ?_;rintro x w5 ⟨rfl,h,g⟩;have r2:=g.row r2 (by simp;omega);have rT:=g.row rT (by simp;omega);have szT:=Nat.le_trans szT g.size;replace F:=F.trans g (by simp);have d0:w5.cell? ⟨w1.heap.size,0,none⟩=some (.int .u8 0):=(by rw [cell_of_row _ _ 0 _ _ _ rT];rfl);have dz:=frozen_of_row w5 w1.heap.size 0 _ _ rT)))
 have gT:=(Fr.refl [w1.heap.size] w5).setCell (p:=⟨w1.heap.size,0,none⟩) (.inl (by simp)) (.int .u8 6)
 have rT:=heap_setCell_same w5 w1.heap.size 0 _ _ (.int .u8 6) rT
 have r2:=gT.row r2 (by simp;omega)
 have h:=h.other w1.heap.size 0 (.int .u8 6) (by omega)
 have F:=F.setCell (p:=⟨w1.heap.size,0,none⟩) (.inr (by simp;omega)) (.int .u8 6)
 have szT:w1.heap.size+1≤(w5.setCell ⟨w1.heap.size,0,none⟩ (.int .u8 6)).heap.size:=by rw [World.size_setCell];exact szT
 clear gT d0 dz
 generalize w5.setCell ⟨w1.heap.size,0,none⟩ (.int .u8 6)=Y at *
 have d0:Y.cell? ⟨w1.heap.size,0,none⟩=some (.int .u8 6):=by rw [cell_of_row _ _ 0 _ _ _ rT];rfl
 have c4:=h.c4
 refine region_mono_g [] 14 [[],[0],[1],[2],[3],[3,4],[3],[3,6],[3,7],[3,8],[3,9],[3,5,10],[3,11],[3,12]] [none,none,none,none,none,none,none,none,none,none,none,none,none,none] (by kernel_rfl) (by kernel_rfl) ?_
 simp only [Chain,fill,Act.put,List.nil_append,List.cons_append,List.take_succ_cons,List.take_zero,List.drop_succ_cons,List.drop_zero,List.setIfInBounds_toArray,List.set_cons_zero,List.set_cons_succ,Nat.reduceAdd]
 iterate 11 (apply Exists.intro;apply And.intro;·intro vs w2 hf hh K hK;have d0:=hf.stayd d0;have c4:=hf.stayd c4;simp only [Held,List.getD_cons_zero,List.getD_cons_succ,Just,and_true] at hh;(try simp only [hh] at hK ⊢);go_simp;exact hK _ _ ⟨rfl,Fr.refl _ _⟩)
 apply Exists.intro;apply And.intro
 ·intro vs w2 hf hh K hK;have d0:=hf.stayd d0;have c4:=hf.stayd c4;simp only [Held,List.getD_cons_zero,List.getD_cons_succ,Just,and_true] at hh;(try simp only [hh] at hK ⊢);go_simp;refine (placed_6 _ (-1)).mono ?_;rintro e w6 ⟨rfl,hx⟩;exact hK _ _ ⟨rfl,by rw [hx];exact Fr.refl _ _⟩
 iterate 2 (apply Exists.intro;apply And.intro;·intro vs w2 hf hh K hK;simp only [Held,List.getD_cons_zero,List.getD_cons_succ,Just,and_true] at hh;(try simp only [hh] at hK ⊢);go_simp;exact hK _ _ ⟨rfl,Fr.refl _ _⟩)
 intro vs w2 hf hh
 simp only [HeldAll,Just,and_true,Nat.reduceAdd] at hh
 obtain⟨e0,e1,e2,e3,e4,e5,e6,e7,e8,e9,e10,e11,e12,e13⟩:=hh
 simp only [e0,e1,e2,e3,e4,e5,e6,e7,e8,e9,e10,e11,e12,e13]
 clear e0 e1 e2 e3 e4 e5 e6 e7 e8 e9 e10 e11 e12 e13
 clear vs
 have d0:=hf.stayd d0
 have c4:=hf.stayd c4
 have h:=h.drew.fr hf (by simp)
 have rT:=hf.row (w:=Y.drew) rT (by simp)
 have r2:=hf.row (w:=Y.drew) r2 (by simp)
 have szT:w1.heap.size+1≤w2.heap.size:=Nat.le_trans szT hf.size
 have F:=F.drew.then hf
 have c4:=h.c4
 clear hf d0
 go_wp2_with (first
  | (go_at_call 63;(with_reducible show Calls _ _ #[_,.string ⟨#[125]⟩] _ _);go_loud (refine (readTake_hit _ b _ _ 2 _ _ _ _ 1 h (by show _<(strL _).size;rw [strL_size];simp) (by rw [strL_size];simp) (by show Lib.indexByte [125] 125+1=1;decide) (by decide) (by omega)).mono ?_;rintro x w8 ⟨rfl,h,g⟩;have r2:=g.row r2 (by simp;omega);have rT:=g.row rT (by simp;omega);replace F:=F.trans g (by simp)))
  | ((with_reducible show wpList _ _ _ (⟨some 105,.load 117 (.tmp 3),_,_,_,_⟩ :: _) _ _);go_loud (refine wpList_load_row rfl 117 (.tmp 3) rfl w1.heap.size rfl _ _ _ _ rT Tryz.underlying117 rfl (by kernel_rfl) ?_))
  | ((with_reducible show wpList _ _ _ (⟨none,.store 117 (.tmp 2) (.tmp 105),_,_,_,_⟩ :: _) _ _);go_loud (refine wpList_store_whole rfl 117 (.tmp 2) (.tmp 105) rfl w.heap.size #[.int .u8 6,.int .i64 0] rfl rfl _ _ r2 (by kernel_rfl) rfl (by simp [Value.oneCell']) ?_;intro w9 hn9 g9)))
 (try simp only [Exit.inBlock,Exit.then])
 refine bodyPost_ret (v:=_) (results_cell_row rfl _ _ w.heap.size _ _ _ _ rfl hn9 Tryz.underlying117 rfl (by kernel_rfl)) rfl ?_
 exact⟨rfl,h.fr g9 (by simp;omega),F.trans g9 (by simp)⟩
end Go.Proofs.YtcmndpjemdjalaaGreatDoor
namespace Go.Proofs.YtcmndpjemdjalaaGreatDoor
open Go.RowKit
theorem wp_append_piece (w:World) {o:Oper} {a:Act} {K:Act→World→Prop} {Q:Exit→Act→World→Prop} (s t:Operand)
  (ho:o.op=.call { callee:=.builtin .append,args:=#[s,t],argTypes:=#[68,68] }) (hs:a.eval s=.slice none 0 0) (ad:Addr) (c:Nat) (ht:a.eval t=.slice (some ad) 1 c) (x:Value) (h1:x.oneCell'=true) (hc:w.cell? ad=some x)
  (h:∀ g cap w',w'.cell? ⟨g,0,none⟩=some x→Fr [] w w'→w.heap.size≤g→K (a.put o.dst (.slice (some ⟨g,0,none⟩) 1 cap)) w'):o.wp Tryz.prog a w K Q:=by
 have hib:(Tryz.prog.info? 71).map (fun i=>(i.zero,i.size,i.bytes))=some (some .nilIface,1,16):=by kernel_rfl
 obtain⟨i0,hi,hz0,hz1,hz2⟩:=info_parts hib
 refine wp_append_own w s t 68 ho w.heap.size 71 i0 .nilIface 1 16 Tryz.underlying68 hi hz0 hz1 hz2 rfl (by decide) (.slice none 0 0) 0 [] hs (World.ownsRow_nil _ _ _ _) ad 1 c [x] ht rfl
  (by
    intro j u hj
    match j,hj with
    | 0,hj=>simp at hj;subst hj;simpa [Addr.add] using hc)
  (by intro u hu;simp at hu;subst hu;exact h1) (by unfold maxLen;omega) (by omega) (Nat.le_refl _) ?_
 intro v' w' hown hg _
 have f:Fr [] w w':=(Fr.refl [] w).grown hg (by intro k hk;simp [Value.ownBlock] at hk)
 rcases hown.2 with ⟨-,h0⟩ | ⟨g,cap,cur,rfl,hge,hr,-,-,-,ht⟩
 ·simp at h0
 ·refine h g cap w' ?_ f hge
  rw [cell_of_row _ g 0 _ _ _ hr]
  have e:cur.toList.take 1=[x]:=by simpa using ht
  rcases hcur:cur.toList with _ | ⟨y,ys⟩
  ·rw [hcur] at e;simp at e
  ·rw [hcur] at e
   have:cur[0]?=some y:=by rw [← Array.getElem?_toList,hcur];rfl
   rw [this]
   simp at e;rw [e]
theorem wp_append_op (w:World) {o:Oper} {a:Act} {K:Act→World→Prop} {Q:Exit→Act→World→Prop} (s t:Operand)
  (ho:o.op=.call { callee:=.builtin .append,args:=#[s,t],argTypes:=#[35,35] }) (hs:a.eval s=.slice none 0 0) (ad:Addr) (c:Nat) (ht:a.eval t=.slice (some ad) 1 c) (x y z:Value) (h1:x.oneCell'=true) (h2:y.oneCell'=true) (h3:z.oneCell'=true) (hx:w.cell? ad=some x) (hy:w.cell? (ad.add 1)=some y) (hz:w.cell? (ad.add 2)=some z)
  (h:∀ g cap w',w'.cell? ⟨g,0,none⟩=some x→w'.cell? ⟨g,1,none⟩=some y→w'.cell? ⟨g,2,none⟩=some z→Fr [] w w'→w.heap.size≤g→K (a.put o.dst (.slice (some ⟨g,0,none⟩) 1 cap)) w'):o.wp Tryz.prog a w K Q:=by
 have hib:(Tryz.prog.info? 46).map (fun i=>(i.zero,i.size,i.bytes))=some (some (.agg #[.int .u8 0,.int .i64 0,.string ⟨#[]⟩]),3,32):=by kernel_rfl
 obtain⟨i0,hi,hz0,hz1,hz2⟩:=info_parts hib
 refine wp_append_own w s t 35 ho w.heap.size 46 i0 (.agg #[.int .u8 0,.int .i64 0,.string ⟨#[]⟩]) 3 32 Tryz.underlying35 hi hz0 hz1 hz2 rfl (by decide) (.slice none 0 0) 0 [] hs (World.ownsRow_nil _ _ _ _) ad 1 c [x,y,z] ht rfl
  (by
    intro j u hj
    match j,hj with
    | 0,hj=>simp at hj;subst hj;simpa [Addr.add] using hx
    | 1,hj=>simp at hj;subst hj;exact hy
    | 2,hj=>simp at hj;subst hj;exact hz)
  (by intro u hu;simp at hu;rcases hu with rfl | rfl | rfl <;> assumption) (by unfold maxLen;omega) (by omega) (Nat.le_refl _) ?_
 intro v' w' hown hg _
 have f:Fr [] w w':=(Fr.refl [] w).grown hg (by intro k hk;simp [Value.ownBlock] at hk)
 rcases hown.2 with ⟨-,h0⟩ | ⟨g,cap,cur,rfl,hge,hr,-,-,-,ht⟩
 ·simp at h0
 ·have e:cur.toList.take 3=[x,y,z]:=by simpa using ht
  rcases hcur:cur.toList with _ | ⟨y0,_ | ⟨y1,_ | ⟨y2,ys⟩⟩⟩
  ·rw [hcur] at e;simp at e
  ·rw [hcur] at e;simp at e
  ·rw [hcur] at e;simp at e
  ·rw [hcur] at e
   simp at e
   obtain⟨rfl,rfl,rfl⟩:=e
   refine h g cap w' ?_ ?_ ?_ f hge
   ·rw [cell_of_row _ g 0 _ _ _ hr,← Array.getElem?_toList,hcur];rfl
   ·rw [cell_of_row _ g 1 _ _ _ hr,← Array.getElem?_toList,hcur];rfl
   ·rw [cell_of_row _ g 2 _ _ _ hr,← Array.getElem?_toList,hcur];rfl
theorem flush_none (w:World) (b4 b3:Nat) (h:Lib.IsBuilderF 109 5 b4 b4 (Lib.byteCells []) w) :
  Calls Tryz.prog 34 #[.pointer (some ⟨b4,0,none⟩),.pointer (some ⟨b3,0,none⟩)] w fun x w'=>x=.returned (.tuple #[])∧w'=w:=by
 have hL:=Tryz.Builder_Len_f b4 b4 _ w h
 go_enter Tryz.func34,Tryz.ntmps34
 go_wp2_with (go_at_call 35;go_loud (refine hL.mono ?_;rintro x w1 ⟨rfl,hw⟩;subst hw))
 go_end0
 exact⟨rfl,rfl⟩
end Go.Proofs.YtcmndpjemdjalaaGreatDoor
namespace Go.Proofs.YtcmndpjemdjalaaGreatDoor
open Go.RowKit
def PtrTo (b:Nat) (x:Value) (v:Value) (w:World):Prop:=∃ g:Nat,v=.slice (some ⟨g,0,none⟩) 1 1∧g ≠ b∧w.cell? ⟨g,0,none⟩=some x
def SliTo (b lo:Nat) (x:Value) (v:Value) (w:World):Prop:=∃ g cap:Nat,v=.slice (some ⟨g,0,none⟩) 1 cap∧(lo≤g∧b<g)∧w.cell? ⟨g,0,none⟩=some x
theorem PtrTo.lasts (b:Nat) (x:Value):Lasts [] (PtrTo b x):=fun _ _ _ ⟨g,h,hg,hc⟩ hf=>⟨g,h,hg,hf.stay hc (by simp)⟩
theorem SliTo.lasts (b lo:Nat) (x:Value):Lasts [] (SliTo b lo x):=fun _ _ _ ⟨g,cap,h,hg,hc⟩ hf=>⟨g,cap,h,hg,hf.stay hc (by simp)⟩
theorem PtrTo.lastsX (b:Nat) (x:Value):∀ v w w',PtrTo b x v w→Fr [b] w w'→PtrTo b x v w':=fun _ _ _ ⟨g,h,hg,hc⟩ hf=>⟨g,h,hg,hf.stay hc (by simpa using hg)⟩
theorem SliTo.lastsX (b lo:Nat) (x:Value):∀ v w w',SliTo b lo x v w→Fr [b] w w'→SliTo b lo x v w':=fun _ _ _ ⟨g,cap,h,hg,hc⟩ hf=>⟨g,cap,h,hg,hf.stay hc (by simp;omega)⟩
def FdAt (b:Nat) (fd:Value) (S:ByteArray) (ops:Value) (wd pl:Int) (md:Nat):PropD:=fun _ v w=>v=fd∧RdAt w b S ((S.size:Nat):Int) ops wd pl md
theorem FdAt.lasts (b:Nat) (fd:Value) (S:ByteArray) (ops:Value) (wd pl:Int) (md:Nat):LastsD [] (FdAt b fd S ops wd pl md):=fun _ _ _ _ h hf=>⟨h.1,h.2.fr hf (by simp)⟩
theorem FdAt.looks (b:Nat) (fd:Value) (S:ByteArray) (ops:Value) (wd pl:Int) (md:Nat) (d:List Nat):LooksD d (FdAt b fd S ops wd pl md):=fun _ _ _ _ _ h=>h
theorem pieces_one (w:World) (b:Nat) (c:UInt8) (l:List UInt8) (ops:Value) (fd:Value) (wd pl:Int) (md:Nat) (hl:l.length≤1000) (hc:c ≠ 123)
  (h:RdAt w b (strL (123 :: c :: l)) ((0:Nat):Int) ops 0 0 0)
  (hF:∀ W,RdAt W b (strL (123 :: c :: l)) ((1:Nat):Int) ops 0 0 0→Calls Tryz.prog 41 #[.pointer (some ⟨b,0,none⟩)] W fun x w'=>x=.returned fd∧RdAt w' b (strL (123 :: c :: l)) (((strL (123 :: c :: l)).size:Nat):Int) ops wd pl md∧Fr [b] W w') :
  Calls Tryz.prog 23 #[.pointer (some ⟨b,0,none⟩)] w fun x w'=>∃ g cap,x=.returned (.slice (some ⟨g,0,none⟩) 1 cap)∧w'.cell? ⟨g,0,none⟩=some (.iface 117 fd)∧RdAt w' b (strL (123 :: c :: l)) (((strL (123 :: c :: l)).size:Nat):Int) ops wd pl md∧Fr [b] w w':=by
 have hmf:∀ (fn:Fn) (first cap:Array Value) (w:World),(Instr.makeFunc fn first cap).run Tryz.prog w=.ok (.func fn first cap) w:=fun _ _ _ _=>rfl
 have hb:=h.lt
 have hsz:(strL (123 :: c :: l)).size=l.length+2:=by rw [strL_size];simp
 have hsl:=slice_one 123 (c :: l)
 have hat:∀ hp:0<(strL (123 :: c :: l)).size,((strL (123 :: c :: l))[0]'hp).toNat=123:=fun _=>rfl
 generalize hS:strL (123 :: c :: l)=S at *
 have q1:(0:Int)<(S.size:Int):=by omega
 have q2:(0:Int)≤0∧(0:Int)<(S.size:Int):=by omega
 have q1n:0<S.size:=by omega
 have q8:(1:Int)≤(S.size:Int):=by omega
 clear hsz
 have fA:=(Fr.refl [] w).alloc (.cells #[.slice none 0 0] 68)
 have fB:=(Fr.refl [] (w.alloc (.cells #[.slice none 0 0] 68))).alloc (.cells #[.pointer none,.slice none 0 0] 109)
 have v3:=fB.row (row_new w (.cells #[.slice none 0 0] 68)) (by simp)
 have rB:=row_new (w.alloc (.cells #[.slice none 0 0] 68)) (.cells #[.pointer none,.slice none 0 0] 109)
 rw [World.size_alloc] at rB
 have h:=h.fr (fA.then fB) (by simp)
 have F:=(fA.then fB).mono (T:=[b]) (by simp)
 clear fA fB
 go_enter Tryz.func23,Tryz.ntmps23
 generalize hW:(w.alloc (.cells #[.slice none 0 0] 68)).alloc (.cells #[.pointer none,.slice none 0 0] 109)=W at *
 have hWs:W.heap.size=w.heap.size+1+1:=by rw [← hW];simp
 go_wp2_with fail
 refine wp_loop_rounds 2 ?_
 rw [rounds_succ]
 have c0:=h.c0
 have c1:=h.c1
 have z1:=h.z 1 (by omega)
 go_wp2_with fail
 go_region
 simp only [Exit.then]
 go_wp2_with fail
 go_region
 simp only [Exit.then]
 go_wp2_with fail
 have h:=h.drew.drew
 have F:=F.drew.drew
 have v3:W.drew.drew.heap[w.heap.size]?=_:=v3
 have rB:W.drew.drew.heap[w.heap.size+1]?=_:=rB
 have hXs:W.drew.drew.heap.size=w.heap.size+1+1:=hWs
 clear hW z1
 generalize W.drew.drew=X at *
 have c0:=h.c0
 have c1:=h.c1
 have hw1:IntKind.i64.wrap 1=1:=rfl
 have hP:∀ W,Calls Tryz.prog 39 #[.string (strL (c :: l)),.string ⟨#[123]⟩] W fun x w'=>x=.returned (.bool false)∧w'=W:=by
  intro W
  have:=hasPrefix_l W (c :: l) [123]
  have e:Lib.hasPrefix (c :: l) [123]=false:=by unfold Lib.hasPrefix;simp [List.isPrefixOf,Ne.symm hc]
  rw [e] at this
  exact this
 refine region_mono [] 14 [[],[0],[1],[2],[],[4],[5],[6],[7],[3,8],[],[10],[11],[9,12]] [none,none,none,none,none,none,none,none,none,none,none,none,none,none] (by kernel_rfl) (by kernel_rfl) ?_
 simp only [Chain,fill,Act.put,List.nil_append,List.cons_append,List.take_succ_cons,List.take_zero,List.drop_succ_cons,List.drop_zero,List.setIfInBounds_toArray,List.set_cons_zero,List.set_cons_succ,Nat.reduceAdd]
 iterate 13 (apply Exists.intro;apply And.intro;·intro vs w2 hf hh K hK;have c0:=hf.stayd c0;have c1:=hf.stayd c1;simp only [Held,List.getD_cons_zero,List.getD_cons_succ,Just,and_true] at hh;(try simp only [hh] at hK ⊢);go_simp;exact hK _ _ ⟨rfl,Fr.refl _ _⟩)
 apply Exists.intro;apply And.intro
 ·intro vs w2 hf hh K hK;have c0:=hf.stayd c0;have c1:=hf.stayd c1;simp only [Held,List.getD_cons_zero,List.getD_cons_succ,Just,and_true] at hh;(try simp only [hh] at hK ⊢);go_simp;refine (hP _).mono ?_;rintro e w3 ⟨rfl,hx⟩;exact hK _ _ ⟨rfl,by rw [hx];exact Fr.refl _ _⟩
 intro vs w2 hf hh
 simp only [HeldAll,Just,and_true,Nat.reduceAdd] at hh
 obtain⟨e0,e1,e2,e3,e4,e5,e6,e7,e8,e9,e10,e11,e12,e13⟩:=hh
 simp only [e0,e1,e2,e3,e4,e5,e6,e7,e8,e9,e10,e11,e12,e13]
 clear e0 e1 e2 e3 e4 e5 e6 e7 e8 e9 e10 e11 e12 e13
 clear vs
 have c0:=hf.stayd c0
 have c1:=hf.stayd c1
 have h:=h.drew.fr hf (by simp)
 have F:=F.drew.then hf
 have v3:=hf.row (w:=X.drew) v3 (by simp)
 have rB:=hf.row (w:=X.drew) rB (by simp)
 have hXs:w.heap.size+1+1≤w2.heap.size:=by have:=hf.size;simp at this;omega
 have hB:=fresh_row rB
 have c0:=h.c0
 have c1:=h.c1
 have z1:=h.z 1 (by omega)
 clear hf
 go_wp2_with (first
  | (go_at_call 34;go_loud (refine (flush_none _ _ _ hB).mono ?_;rintro x w3 ⟨rfl,hw⟩;subst hw)))
 have h:=h.set1 1
 have F:=F.trans ((Fr.refl [b] w3).setCell (p:=⟨b,1,none⟩) (.inl (by simp)) (.int .i64 1)) (by simp)
 have v3:=((Fr.refl [b] w3).setCell (p:=⟨b,1,none⟩) (.inl (by simp)) (.int .i64 1)).row v3 (by simp;omega)
 have rB:=((Fr.refl [b] w3).setCell (p:=⟨b,1,none⟩) (.inl (by simp)) (.int .i64 1)).row rB (by simp;omega)
 have hXs:w.heap.size+1+1≤(w3.setCell ⟨b,1,none⟩ (.int .i64 1)).heap.size:=by rw [World.size_setCell];exact hXs
 clear hB c0 c1 z1
 generalize w3.setCell ⟨b,1,none⟩ (.int .i64 1)=Y at *
 have o3:Y.cell? ⟨w.heap.size,0,none⟩=some (.slice none 0 0):=by rw [cell_of_row _ _ 0 _ _ _ v3];rfl
 have hYb:b<Y.heap.size:=h.lt
 refine region_mono_x [b] (fun w w'=>Fr [b] w w') (fun W=>RdAt W b S ((1:Nat):Int) ops 0 0 0) 2 [1] 6 [[],[],[1],[2],[3],[0,4]] [none,none,some (FdAt b fd S ops wd pl md),none,some (Sole (PtrTo b (.iface 117 fd))),some (Sole (SliTo b (w.heap.size+1+1) (.iface 117 fd)))] (by kernel_rfl) (by kernel_rfl) (fun _ _ h=>h) (fun _ _ h hf=>h.fr hf (by simp)) (h.drew) ?_
 simp only [ChainX,fill,Act.put,List.nil_append,List.cons_append,List.take_succ_cons,List.take_zero,List.drop_succ_cons,List.drop_zero,List.setIfInBounds_toArray,List.set_cons_zero,List.set_cons_succ,Nat.reduceAdd]
 iterate 2 (apply Exists.intro;apply And.intro;·intro vs w2 hf hr hh K hK;have hK:=fun v w9 h=>hK v w9 (Eff.and (by decide) h);have o3:=Fr.staydx hf o3 (by simp <;> omega);simp only [HeldD] at hh;(try simp only [] at hK ⊢);go_simp;exact hK _ _ ⟨rfl,Fr.refl _ _⟩)
 refine⟨⟨FdAt.lasts _ _ _ _ _ _ _,(by first | exact fun _=>by contradiction | exact by contradiction | simp),FdAt.looks _ _ _ _ _ _ _ _⟩,?_,?_⟩
 ·intro vs w2 hf hr hh K hK;have o3:=Fr.staydx hf o3 (by simp <;> omega);simp only [HeldD,Sole,List.getD_cons_zero,List.getD_cons_succ,Just,and_true] at hh;(try simp only [hh] at hK ⊢);go_simp;go_simp;refine (hF _ (hr.out (by decide))).mono ?_;rintro e w6 ⟨rfl,h6,f6⟩;exact hK _ _ ⟨⟨rfl,h6⟩,Eff.loud f6⟩
 apply Exists.intro;apply And.intro
 ·intro vs w2 hf hr hh K hK;have hK:=fun v w9 h=>hK v w9 (Eff.and (by decide) h);have o3:=Fr.staydx hf o3 (by simp <;> omega);simp only [HeldD,List.getD_cons_zero,List.getD_cons_succ,and_true] at hh;(try simp only [] at hK ⊢);obtain⟨hv,-⟩:=hh;simp only [hv] at hK ⊢;go_simp;exact hK _ _ ⟨rfl,Fr.refl _ _⟩
 refine⟨⟨Sole.lasts (PtrTo.lasts _ _),(by first | exact fun _=>Sole.lastsX (PtrTo.lastsX _ _) | exact Sole.lastsX (PtrTo.lastsX _ _)),Sole.looks _ _⟩,?_,?_⟩
 ·intro vs w2 hf hr hh K hK;have hK:=fun v w9 h=>hK v w9 (Eff.and (by decide) h);have o3:=Fr.staydx hf o3 (by simp <;> omega);simp only [HeldD,Sole,List.getD_cons_zero,List.getD_cons_succ,Just,and_true] at hh;(try simp only [hh] at hK ⊢);go_simp;exact hK _ _ ⟨⟨w2.heap.size,rfl,(by have:=hf.size;simp at this;omega),cell_new w2 _ _ _ 0 _ rfl⟩,(Fr.refl [] w2).alloc _⟩
 refine⟨⟨Sole.lasts (SliTo.lasts _ _ _),(by first | exact fun _=>Sole.lastsX (SliTo.lastsX _ _ _) | exact Sole.lastsX (SliTo.lastsX _ _ _)),Sole.looks _ _⟩,?_,?_⟩
 ·intro vs w2 hf hr hh K hK;have hK:=fun v w9 h=>hK v w9 (Eff.and (by decide) h);have o3:=Fr.staydx hf o3 (by simp <;> omega);simp only [HeldD,Sole,List.getD_cons_zero,List.getD_cons_succ,Just,and_true] at hh;(try simp only [hh] at hK ⊢);obtain⟨h0,g,hg,hgb,hgc⟩:=hh;simp only [hg] at hK ⊢;refine wp_append_piece _ _ _ rfl rfl _ _ rfl _ rfl hgc ?_;intro g2 cap2 w9 hc9 f9 hge;exact hK _ _ ⟨⟨g2,cap2,rfl,(by have:=hf.size;simp at this;omega),hc9⟩,f9⟩
 intro vs w2 hf hh
 simp only [HeldAllD,Sole,Just,and_true,Nat.reduceAdd] at hh
 obtain⟨e0,e1,e2,e3,e4,e5⟩:=hh
 simp only [e0,e1,e3]
 clear e0 e1 e3
 generalize vs 2=v2 at e2 e4 e5 ⊢
 generalize vs 4=v4 at e2 e4 e5 ⊢
 generalize vs 5=v5 at e2 e4 e5 ⊢
 try clear vs
 have o3:=Fr.staydx hf o3 (by simp <;> omega)
 obtain⟨rfl,h⟩:=e2
 clear e4
 obtain⟨g,cap,rfl,hgb,hgc⟩:=e5
 have F:=F.drew.trans hf (by simp)
 have v3:=hf.row (w:=Y.drew) v3 (by simp;omega)
 have rB:=hf.row (w:=Y.drew) rB (by simp;omega)
 have hXs:w.heap.size+1+1≤w2.heap.size:=by have:=hf.size;simp at this;omega
 have hB:=fresh_row rB
 have u3:=var_row v3
 have o3:=u3.cell
 have z3:=u3.frozen
 clear hf
 go_wp2_with fail
 have gV:=(Fr.refl [w.heap.size] w2).setCell (p:=⟨w.heap.size,0,none⟩) (.inl (by simp)) (.slice (some ⟨g,0,none⟩) 1 cap)
 have h:=h.other w.heap.size 0 (.slice (some ⟨g,0,none⟩) 1 cap) (by omega)
 have u3:=u3.set (.slice (some ⟨g,0,none⟩) 1 cap)
 have rB:=gV.row rB (by simp)
 have hgc:=gV.stay hgc (by simp;omega)
 have F:=F.setCell (p:=⟨w.heap.size,0,none⟩) (.inr (Nat.le_refl _)) (.slice (some ⟨g,0,none⟩) 1 cap)
 clear gV o3 z3 hB v3 hXs
 generalize w2.setCell ⟨w.heap.size,0,none⟩ (.slice (some ⟨g,0,none⟩) 1 cap)=V at *
 have c0:=h.c0
 have c1:=h.c1
 have o3:=u3.cell
 have rBd:V.drew.heap[w.heap.size+1]?=_:=rB
 have hB:=fresh_row rBd
 rw [rounds_succ]
 go_wp2_with fail
 go_region
 simp only [Exit.then]
 go_wp2_with (go_at_call 34;go_loud (refine (flush_none _ _ _ hB).mono ?_;rintro x w3 ⟨rfl,hw⟩;subst hw))
 go_ret
 exact⟨g,cap,rfl,hgc,h.drew,F.drew⟩
end Go.Proofs.YtcmndpjemdjalaaGreatDoor
namespace Go.Proofs.YtcmndpjemdjalaaGreatDoor
open Go.RowKit
theorem wpAny_step {P:Program} {md:Region.Mode} {ops:Array Oper} {Q:Exit→Act→World→Prop} {fuel:Nat} {listed:Array Bool} {a:Act} {w:World} (L:List Nat) (hr:Region.ready md ops listed=L) (hne:L ≠ [])
  (h:∀ i∈L,wpOp P ops Q i (wpAny P md ops Q fuel (listed.setIfInBounds i true)) a w):wpAny P md ops Q (fuel+1) listed a w :=
 ⟨fun h0=>absurd (hr ▸ h0) hne,fun i hi=>h i (hr ▸ hi)⟩
theorem wpOp_of {P:Program} {ops:Array Oper} {Q:Exit→Act→World→Prop} {K:Act→World→Prop} {i:Nat} {a:Act} {w:World} {o:Oper} (ho:ops[i]?=some o) (hg:o.guard=none) (h:o.wp P a w K Q):wpOp P ops Q i K a w:=by
 have:Region.wanted o (yielded ops a.tmps)=true:=by simp [Region.wanted,hg]
 unfold wpOp
 rw [ho]
 simp only [this,if_true]
 exact .inl h
theorem forall1 {p:Nat→Prop} {a:Nat} (h:p a):∀ i∈[a],p i:=by simpa using h
theorem forall2 {p:Nat→Prop} {a b:Nat} (h:p a) (k:p b):∀ i∈[a,b],p i:=by simpa using ⟨h,k⟩
end Go.Proofs.YtcmndpjemdjalaaGreatDoor
