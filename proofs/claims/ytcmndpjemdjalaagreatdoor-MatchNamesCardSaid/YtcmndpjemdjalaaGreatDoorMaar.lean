/- Laws that the claimed theorem leans on: no condition of their own beyond their hypotheses. -/
import Derived.Deep.MidRow
import Derived.Lib.IndexMore
import Derived.Lib.SlTrimSet
import Derived.Lib.CutLaws
import Derived.Lib.IndexBytes
import Derived.Test.YtcmndpjemdjalaaGreatDoorMaao
import Derived.Test.YtcmndpjemdjalaaGreatDoorMaaq
set_option maxRecDepth 100000
set_option maxHeartbeats 16000000
namespace Go.Proofs.YtcmndpjemdjalaaGreatDoor
open Go.RowKit
open Pb
theorem val_len {l:List Nat} {x k:Nat} (h:Is l x) (hx:x<16 ^ k):l.length≤k:=by
 apply h.len_of
 exact Nat.lt_of_lt_of_le hx (Nat.pow_le_pow_left (by omega) k)
theorem read_all:∀ (N:Nat) (w:World) (s:ByteArray),s.size<N→HexL s.data.toList→s.size≤65536 →
  Calls Tryz.prog 202 #[.string s,.int .i64 16] w fun e w'=>∃ v l,e=.returned (.tuple #[v,.bool true])∧U32 w' w.heap.size v l∧val l=hexV s.data.toList∧l.length≤s.size∧Fr [] w w':=by
 intro N
 induction N with
 | zero=>intro w s h;omega
 | succ N ih =>
  intro w s hN hx hs
  by_cases h300:s.size≤300
  ·exact read_short w s hx h300
  ·obtain⟨h,hh⟩:∃ h,h=s.size / 2:=⟨_,rfl⟩
   obtain⟨k,hk⟩:∃ k,k=s.size - h:=⟨_,rfl⟩
   have hks:k≤s.size:=by omega
   have hq:(s.size:Int).tdiv 2=(h:Int):=by rw [hh];rfl
   have hsub:(s.size:Int) - (h:Int)=(k:Int):=by omega
   obtain⟨c1,hc1⟩:∃ c,c=s.extract 0 k:=⟨_,rfl⟩
   obtain⟨c2,hc2⟩:∃ c,c=tailB s k:=⟨_,rfl⟩
   have hL1:c1.data.toList=s.data.toList.take k:=by rw [hc1,Go.Lib.extract_data,List.drop_zero,Nat.sub_zero]
   have hL2:c2.data.toList=s.data.toList.drop k:=by rw [hc2,tailB_data]
   have hs1:c1.size=k:=by rw [Go.Lib.size_eq,hL1,List.length_take,← Go.Lib.size_eq];omega
   have hs2:c2.size=h:=by rw [Go.Lib.size_eq,hL2,List.length_drop,← Go.Lib.size_eq];omega
   have hx1:HexL c1.data.toList:=fun b hb=>hx b (by rw [hL1] at hb;exact List.mem_of_mem_take hb)
   have hx2:HexL c2.data.toList:=fun b hb=>hx b (by rw [hL2] at hb;exact List.mem_of_mem_drop hb)
   have hsl1:∀ W,(Instr.slice 9 (.string s) none (some (.int .i64 k)) none).run Tryz.prog W=.ok (.string c1) W:=fun W=>by
    rw [run_slice_string_h W 9 s und_strS .i64 k (by omega) (by omega),hc1];rfl
   have hsl2:∀ W,(Instr.slice 9 (.string s) (some (.int .i64 k)) none none).run Tryz.prog W=.ok (.string c2) W:=fun W=>by
    rw [run_slice_string_l W 9 s und_strS .i64 k (by omega) (by omega),hc2];rfl
   have hspl:hexV s.data.toList=hexV c1.data.toList * 16 ^ h+hexV c2.data.toList:=by
    rw [← hs2,Go.Lib.size_eq c2,← hexV_append,hL1,hL2,List.take_append_drop]
   have hb1:=hexV_lt c1.data.toList hx1
   have hb2:=hexV_lt c2.data.toList hx2
   have hb0:=hexV_lt s.data.toList hx
   rw [← Go.Lib.size_eq,hs1] at hb1
   rw [← Go.Lib.size_eq,hs2] at hb2
   rw [← Go.Lib.size_eq] at hb0
   have hmulb:hexV c1.data.toList * 16 ^ h<16 ^ s.size:=by
    have:hexV c1.data.toList * 16 ^ h<16 ^ k * 16 ^ h:=Nat.mul_lt_mul_of_pos_right hb1 (Nat.pow_pos (by omega))
    rw [← Nat.pow_add] at this
    rwa [show k+h=s.size by omega] at this
   have h300':(300:Int)<(s.size:Int):=by omega
   have I1:=fun W=>ih W c1 (by omega) hx1 (by omega)
   have I2:=fun W=>ih W c2 (by omega) hx2 (by omega)
   have P1:=fun W=>power_16 W h (by omega)
   have Hspl:=Go.Lib.hid hspl
   have Hb0:=Go.Lib.hid hb0
   have Hmulb:=Go.Lib.hid hmulb
   have hk1:k≤65536:=by omega
   have hh1:h≤65536:=by omega
   have hs1':=Go.Lib.hid hs1
   have hs2':=Go.Lib.hid hs2
   clear hspl hb0 hmulb hb1 hb2 hx hx1 hx2 hL1 hL2 hc1 hc2 hh hk ih hs1 hs2 h300
   go_enter Tryz.func202,Tryz.ntmps202
   go_wp2_with (first
    | (go_at_call_of 202 c1;go_loud (refine (I1 _).mono ?_;rintro e w1 ⟨v1,l1,rfl,hu1,hv1,hl1,f1⟩))
    | (go_at_call_of 202 c2;go_loud (refine (I2 _).mono ?_;rintro e w2 ⟨v2,l2,rfl,hu2,hv2,hl2,f2⟩))
    | (go_at_call 242;go_loud (refine (P1 _).mono ?_;rintro e w3 ⟨v3,l3,rfl,hu3,hi3,f3⟩;have hl3:=len16 hi3;have hu1':=((hu1.fr0 f2).fr0 f3);have hl1':l1.length≤65536:=by have:=hs1'.out;omega))
    | (go_at_call 170;go_loud (refine (mul_any _ _ _ _ _ l1 l3 hu1' hu3 (by omega) (by omega)).mono ?_;rintro e w4 ⟨v4,l4,rfl,hu4,hi4,f4⟩;rw [hv1,hi3.val] at hi4;have hl4:=val_len hi4 Hmulb.out;have hu2':=(hu2.fr0 f3).fr0 f4;have hl2':l2.length≤65536:=by have:=hs2'.out;omega))
    | (go_at_call 205;go_loud (refine (add_any _ _ _ _ _ l4 l2 hu4 hu2' (by omega) (by omega)).mono ?_;rintro e w5 ⟨v5,l5,rfl,hu5,hi5,f5⟩;rw [hi4.val,hv2,← Hspl.out] at hi5;have hl5:=val_len hi5 Hb0.out)))
   go_ret2
   exact⟨v5,l5,rfl,hu5.mono (by have:=f1.size;have:=f2.size;have:=f3.size;have:=f4.size;omega),hi5.val,hl5,(((f1.then f2).then f3).then f4).then f5⟩
theorem fits16 {n k:Nat} (h:n<16 ^ k) (hk:k≤65536):Fits n:=⟨k,by omega,Nat.lt_of_lt_of_le h (Nat.pow_le_pow_left (by omega) k)⟩
theorem setString_hex (w:World) (b o:Nat) (s:ByteArray) (hr:IntRoom w b o) (h0:0<s.size) (hx:HexL s.data.toList) (hs:s.size≤65536) :
  Calls Tryz.prog 157 #[.pointer (some ⟨b,o,none⟩),.string s,.int .i64 16] w fun e w'=>e=.returned (.tuple #[.pointer (some ⟨b,o,none⟩),.bool true])∧IntAt w' b o ((hexV s.data.toList:Nat):Int)∧Fr [b] w w':=by
 have hb:=hx s[0] (by rw [ByteArray.getElem_eq_getElem_data];simp)
 have hn45:¬ (s[0].toNat:Int)=45:=by unfold HexB at hb;omega
 have hn43:¬ (s[0].toNat:Int)=43:=by unfold HexB at hb;omega
 have hp:(0:Int)<(s.size:Int):=by omega
 have hz:¬ (0:Int)=(s.size:Int):=by omega
 have hz2:((0:Int)==(s.size:Int))=false:=by rw [beq_eq_false_iff_ne];omega
 have hn45':((s[0].toNat:Int)==45)=false:=by rw [beq_eq_false_iff_ne];exact hn45
 have hn43':((s[0].toNat:Int)==43)=false:=by rw [beq_eq_false_iff_ne];exact hn43
 have hsl:∀ W,(Instr.slice 9 (.string s) (some (.int .i64 0)) none none).run Tryz.prog W=.ok (.string s) W:=fun W=>by
  have h9:=run_slice_string_l (P:=Tryz.prog) W 9 s und_strS .i64 0 (by omega) (by omega)
  rw [h9]
  congr 2
  apply ByteArray.ext
  apply Array.toList_inj.1
  rw [Go.Lib.extract_data]
  simp only [List.drop_zero,Int.toNat_zero,Nat.sub_zero];exact List.take_of_length_le (by rw [← Go.Lib.size_eq];exact Nat.le_refl _)
 have R:=fun W=>read_all (s.size+1) W s (by omega) hx hs
 clear hb hx
 go_enter Tryz.func157,Tryz.ntmps157
 go_wp2_with (first
  | (go_at_call 202;go_loud (refine (R _).mono ?_;rintro e w1 ⟨v1,l1,rfl,hu1,hv1,hl1,f1⟩))
  | (go_at_call 169;go_loud (refine (set_any _ b o _ false _ l1 (hexV s.data.toList:Nat) (hr.fr0 f1) hu1 (by omega) (by rw [← hv1];rfl)).mono ?_;rintro e w2 ⟨rfl,h2,f2,-⟩)))
 go_ret2
 exact⟨rfl,h2,(f1.mono (by simp)).trans f2 (fun t ht=>.inl ht)⟩
end Go.Proofs.YtcmndpjemdjalaaGreatDoor
namespace Go.Proofs.YtcmndpjemdjalaaGreatDoor
open Go.RowKit
open Pb
theorem trailing_any (w:World) (b o:Nat) (n:Nat) (h:IntAt w b o n) (hf:Fits n) (hz:zerosV n≤1099511627776) (hT:TabAt 7 Lib.deBruijn32tab w) :
  Calls Tryz.prog 158 #[.pointer (some ⟨b,o,none⟩)] w fun e w'=>e=.returned (.int .u64 ((zerosV n:Nat):Int))∧w=w':=by
 obtain⟨v,l,c0,c1,z0,z1,hu,hi⟩:=h.cells
 rw [Int.natAbs_natCast] at hi
 have hl:=hf.len hi
 go_enter Tryz.func158,Tryz.ntmps158
 go_wp2_with (go_at_call 203;go_loud (refine (zeros_any _ 0 v l n hu hi (by omega) hT).mono ?_;rintro e w1 ⟨rfl,rfl⟩))
 go_ret
 exact⟨rfl,rfl⟩
theorem rsh_nat (w:World) (b o b2 o2:Nat) (n k:Nat) (hr:IntRoom w b o) (h:IntAt w b2 o2 n) (hf:Fits n) (hk:k≤1099511627776) :
  Calls Tryz.prog 159 #[.pointer (some ⟨b,o,none⟩),.pointer (some ⟨b2,o2,none⟩),.int .u64 k] w fun e w'=>e=.returned (.pointer (some ⟨b,o,none⟩))∧IntAt w' b o ((n / 2 ^ k:Nat):Int)∧Fr [b] w w':=by
 obtain⟨v,l,c0,c1,z0,z1,hu,hi⟩:=h.cells
 rw [Int.natAbs_natCast] at hi
 have hl:=hf.len hi
 have hneg:decide ((n:Int)<0)=false:=by rw [decide_eq_false_iff_not];omega
 rw [hneg] at c0
 go_enter Tryz.func159,Tryz.ntmps159
 go_wp2_with (first
  | (go_at_call 204;go_loud (refine (down_any _ 0 v l k hu (by omega) hk).mono ?_;rintro e w1 ⟨v1,l1,rfl,hu1,hi1,f1⟩;rw [hi.val] at hi1;have hl1:=(hf.le (Nat.div_le_self n (2 ^ k))).len hi1;have d0:=f1.stay c0 (by simp);have d1:=f1.stay c1 (by simp)))
  | (go_at_call 169;go_loud (refine (set_any _ b o _ false _ l1 (n / 2 ^ k:Nat) (hr.fr0 f1) hu1 (by omega) (by rw [← hi1.val];rfl)).mono ?_;rintro e w2 ⟨rfl,h2,f2,-⟩)))
 go_ret
 exact⟨rfl,h2,(f1.mono (by simp)).trans f2 (fun t ht=>.inl ht)⟩
end Go.Proofs.YtcmndpjemdjalaaGreatDoor
namespace Go.Proofs.YtcmndpjemdjalaaGreatDoor
open Go.RowKit
open Pb
theorem mantissaSix (w:World) (b:Nat) (r:ByteArray) (A B T:List UInt8) (p:Bool) (h:ScanAt w b r) (hr:r.data.toList=A++(pointL p B++T)) (h0:0<A.length) (hs:r.size≤65536) (hA:∀ x∈A,(sixW x.toNat).2=1) (hB:∀ x∈B,(sixW x.toNat).2=1) (hpB:p=false→B=[]) (hT:Behind sixW T) (hT2:T.head? ≠ some 46) :
  Calls Tryz.prog 154 #[.pointer (some ⟨b,0,none⟩),.func (.func 155) #[] #[]] w fun x w'=>∃ v r',x=.returned (.tuple #[v,.int .i64 B.length])∧OwnC w' w.heap.size v (worths sixW (A++B))∧r'.data.toList=T∧ScanAt w' b r'∧Fr [b] w w':=by
 cases p with
 | false =>
  obtain rfl:=hpB rfl
  rw [List.append_nil]
  exact mantissa_wholeSix w b r A T h hr h0 hs hA hT hT2
 | true=>exact mantissa_pointSix w b r A B T h hr h0 hs hA hB hT
def hexF (n:Nat):Nat:=if n<10 then n+48 else n+87
def hexDigs:ByteArray:=⟨#[48,49,50,51,52,53,54,55,56,57,97,98,99,100,101,102]⟩
theorem hexDigs_at:∀ n,(h:n<16)→(hexDigs[n]'(by exact h)).toNat=hexF n:=by decide
theorem HexB.six {x:UInt8} (h:HexB x):(sixW x.toNat).2=1∧(sixW x.toNat).1<16∧hexF (sixW x.toNat).1=x.toNat:=by
 unfold sixW
 rcases h with h | h
 ·rw [if_pos h];refine⟨rfl,?_,?_⟩
  ·show x.toNat - 48<16;omega
  ·show hexF (x.toNat - 48)=_;unfold hexF;rw [if_pos (by omega)];omega
 ·rw [if_neg (by omega),if_pos h];refine⟨rfl,?_,?_⟩
  ·show x.toNat - 87<16;omega
  ·show hexF (x.toNat - 87)=_;unfold hexF;rw [if_neg (by omega)];omega
theorem worths_six (L:List UInt8) (h:HexL L):(worths sixW L).map hexF=L.map UInt8.toNat:=by
 unfold worths
 rw [List.map_map]
 apply List.map_congr_left
 intro x hx
 exact (h x hx).six.2.2
theorem worth15 (L:List UInt8) (h:HexL L) (i:Nat) (hi:i<(worths sixW L).length):dg (worths sixW L) i<16:=by
 rw [dg_get _ i hi]
 simp only [worths,List.getElem_map]
 exact (h _ (List.getElem_mem _)).six.2.1
theorem zerosV_lt {n k:Nat} (h:n<2 ^ k) (h0:0<n):zerosV n<k:=by
 obtain⟨m,hm⟩:=zerosV_spec h0
 have h1:2 ^ zerosV n≤n:=by
  have h2:2 ^ zerosV n * 1≤2 ^ zerosV n * (2 * m+1):=Nat.mul_le_mul_left _ (by omega)
  rw [← hm,Nat.mul_one] at h2
  exact h2
 exact (Nat.pow_lt_pow_iff_right (by omega)).1 (Nat.lt_of_le_of_lt h1 h)
def hexNum (neg hneg:Bool) (v:Value) (e:Int):Value:=.agg #[.int .u8 2,.bool neg,.bool false,.string ⟨#[]⟩,.int .i64 0,.bool hneg,v,.int .i64 e,.int .u64 0]
theorem wpList_store_3of9 {ops:Array Oper} {rest:List Oper} {o:Oper} {a:Act} {w:World} {Q:Exit→Act→World→Prop} (hgd:o.guard=none) (ty:TypeId) (x y:Operand) (ho:o.op=.store ty x y)
  (g:Nat) (v0 v1 v2:Value) (hx:a.eval x=.pointer (some ⟨g,5,none⟩)) (hy:a.eval y=.agg #[v0,v1,v2])
  (t:TypeId) (u0 u1 u2 u3 u4 u5 u6 u7 u8:Value) (hg:w.heap[g]?=some (.cells #[u0,u1,u2,u3,u4,u5,u6,u7,u8] t (0,0))) (hi:(Tryz.prog.info? ty).map (·.size)=some 3)
  (h1:(#[v0,v1,v2]:Array Value).all (·.oneCell')=true)
  (h:∀ w',w'.heap[g]?=some (.cells #[u0,u1,u2,u3,u4,v0,v1,v2,u8] t (0,0))→Fr [g] w w'→wpList Tryz.prog ops Q rest (a.put o.dst undef) w'):wpList Tryz.prog ops Q (o :: rest) a w:=by
 have c5:w.cell? ⟨g,5,none⟩=some u5:=by rw [cell_of_row _ _ _ _ _ _ hg];rfl
 have c6:w.cell? ⟨g,6,none⟩=some u6:=by rw [cell_of_row _ _ _ _ _ _ hg];rfl
 have c7:w.cell? ⟨g,7,none⟩=some u7:=by rw [cell_of_row _ _ _ _ _ _ hg];rfl
 have r1:(w.setCell ⟨g,5,none⟩ v0).heap[g]?=some (.cells #[u0,u1,u2,u3,u4,v0,u6,u7,u8] t (0,0)):=heap_setCell_same w g 5 _ _ v0 hg
 have r2:((w.setCell ⟨g,5,none⟩ v0).setCell ⟨g,6,none⟩ v1).heap[g]?=some (.cells #[u0,u1,u2,u3,u4,v0,v1,u7,u8] t (0,0)):=heap_setCell_same _ g 6 _ _ v1 r1
 have r3:(((w.setCell ⟨g,5,none⟩ v0).setCell ⟨g,6,none⟩ v1).setCell ⟨g,7,none⟩ v2).heap[g]?=some (.cells #[u0,u1,u2,u3,u4,v0,v1,v2,u8] t (0,0)):=heap_setCell_same _ g 7 _ _ v2 r2
 refine wpList_store_mid hgd ty x y ho g 5 _ hx hy ?_ hi h1 ?_
 ·intro j hj
  have hj3:j<3:=hj
  rcases j with _ | _ | _ | j
  ·exact⟨by rw [c5];rfl,frozen_of_row w g 5 _ _ hg⟩
  ·exact⟨by rw [c6];rfl,frozen_of_row w g 6 _ _ hg⟩
  ·exact⟨by rw [c7];rfl,frozen_of_row w g 7 _ _ hg⟩
  ·omega
 ·exact h _ r3 ((((Fr.refl [g] w).setCell (.inl (by simp)) _).setCell (.inl (by simp)) _).setCell (.inl (by simp)) _)
def HexPost (w':World) (neg:Bool) (V:Nat) (x:Int) (hv:Value):Prop :=
 ∃ hneg v l e,hv=hexNum neg hneg v e∧((V=0∧hneg=false∧v=.slice none 0 0∧l=[]∧e=0)∨(0<V∧hneg=neg∧U32 w' 0 v l∧Is l (V / 2 ^ zerosV V)∧e=clipI (x+(zerosV V:Nat))))
theorem scanHex (w:World) (b:Nat) (r:ByteArray) (A B:List UInt8) (p:Bool) (E:Option (Bool × List UInt8)) (neg:Bool) (h:ScanAt w b r) (hr:r.data.toList=A++(pointL p B++expL 112 E)) (h0:0<A.length) (hs:r.size≤65536) (hA:HexL A) (hB:HexL B) (hpB:p=false→B=[]) (hE:ExpOk E) (hTab:TabAt 7 Lib.deBruijn32tab w) :
  Calls Tryz.prog 113 #[.pointer (some ⟨b,0,none⟩),.bool neg] w fun x w'=>∃ r' hv,x=.returned hv∧HexPost w' neg (hexV (A++B)) (expO E - 4 * (B.length:Int)) hv∧r'.data.toList=[]∧ScanAt w' b r'∧Fr [b] w w':=by
 have hbw:=h.lt
 have hbeh:Behind sixW (expL 112 E):=by
  intro y hy
  rcases E with _ | ⟨sgn,D⟩
  ·simp [expL] at hy
  ·simp [expL] at hy;subst hy;decide
 have hne46:(expL 112 E).head? ≠ some 46:=by
  rcases E with _ | ⟨sgn,D⟩ <;> simp [expL]
 have hlen:r.size=A.length+((pointL p B).length+(expL 112 E).length):=by rw [Go.Lib.size_eq,hr];simp
 have hpl:B.length≤(pointL p B).length:=by
  cases p with
  | false=>simp [hpB rfl]
  | true=>simp [pointL]
 have hAB:HexL (A++B):=fun x hx=>(List.mem_append.1 hx).elim (hA x) (hB x)
 have hxo:=expO_le E
 obtain⟨xo,hxo'⟩:∃ xo,expO E=xo:=⟨_,rfl⟩
 have hrow:=row_new w (.cells #[.int .u8 0,.bool false,.bool false,.string ⟨#[]⟩,.int .i64 0,.bool false,.slice none 0 0,.int .i64 0,.int .u64 0] 83)
 have fA:=(Fr.refl [] w).alloc (.cells #[.int .u8 0,.bool false,.bool false,.string ⟨#[]⟩,.int .i64 0,.bool false,.slice none 0 0,.int .i64 0,.int .u64 0] 83)
 have hA1:=h.fr fA (by simp)
 go_enter Tryz.func113,Tryz.ntmps113
 generalize hW:w.alloc (.cells #[.int .u8 0,.bool false,.bool false,.string ⟨#[]⟩,.int .i64 0,.bool false,.slice none 0 0,.int .i64 0,.int .u64 0] 83)=W at *
 have hWs:W.heap.size=w.heap.size+1:=by rw [← hW];simp
 go_wp2_with (first
  | (go_at_call 154;go_loud (refine (mantissaSix _ b r A B (expL 112 E) p hA1 hr h0 hs (fun x hx=>(hA x hx).six.1) (fun x hx=>(hB x hx).six.1) hpB hbeh hne46).mono ?_;rintro e w1 ⟨v,r1,rfl,ho1,hr1,h1,f1⟩))
  | (go_at_call 156;go_loud (refine (exponentAny _ b r1 _ 112 E h1 hr1 hE (by rw [Go.Lib.size_eq,hr1];omega) rfl (by decide)).mono ?_;rintro e w2 ⟨r2,rfl,hr2,h2,f2⟩;rw [hxo'];obtain⟨ao,cap,rfl,hcap,-⟩:=ho1.u8.shape;have hBl:B.length≤65536:=(by omega);obtain⟨W2,hW2⟩:∃ W2,w2.alloc (.cells #[.bool false,.slice none 0 0] 236)=W2:=⟨_,rfl⟩)))
 clear hW
 have fM:Fr [] w2 W2:=by rw [← hW2];exact (Fr.refl [] w2).alloc _
 have hRoom:IntRoom W2 w2.heap.size 0:=by rw [← hW2];exact IntRoom.new w2
 clear hW2
 have hbW:b<W.heap.size:=hA1.lt
 have ho2:=(ho1.keptLow f2 hbW)
 have hNl:(worths sixW (A++B)).length=A.length+B.length:=by simp [worths]
 obtain⟨g,rfl,hgb,hgl⟩:∃ g,ao=some ⟨g,0,none⟩∧W.heap.size≤g∧g<w2.heap.size:=by
  rcases ho2.shape with ⟨-,hnil⟩ | ⟨g,cap',cur,hv2,hgb,hgh,-⟩
  ·rw [hnil] at hNl;simp at hNl;omega
  ·simp only [Value.slice.injEq] at hv2
   exact⟨g,hv2.1,hgb,(Array.getElem?_eq_some_iff.1 hgh).1⟩
 have ho3:=ho2.kept0 fM
 have f3:=(f1.trans f2 (fun t ht=>.inl ht)).then fM
 have h3:=h2.fr fM (by simp)
 have hworth:=worth15 (A++B) hAB
 have hback:=worths_six (A++B) hAB
 have hN1:(worths sixW (A++B)).length≤65536:=by omega
 have HNl:=Go.Lib.hid hNl
 have Hback:=Go.Lib.hid hback
 have hxo2:-68719476736≤xo∧xo≤68719476736:=by rw [← hxo'];exact hxo
 have Hxo:=Go.Lib.hid hxo'
 clear hback hNl hlen hr hr1 ho1 h1 f1 f2 hbeh hne46 hxo hxo' ho2 h2 fM
 generalize hL:worths sixW (A++B)=L at *
 go_loopw [27] (fun i wr=>∃ (i':Nat),i=.int .i64 i'∧i'≤L.length∧OwnC wr W.heap.size (.slice (some ⟨g,0,none⟩) L.length cap) ((L.take i').map hexF++L.drop i')∧ScanAt wr b r2∧Fr [b] W wr∧IntRoom wr w2.heap.size 0) (fun i _=>L.length - (intOf i).toNat)
 case atStart=>exact⟨0,rfl,Nat.zero_le _,by simpa using ho3,h3,f3,hRoom⟩
 case round =>
  obtain⟨i',rfl,hi,hoM,hsc,hfr,hrm⟩:=hrel
  by_cases hlt:i'<L.length
  ·rcases hoM.shape with ⟨-,hnil⟩ | ⟨g',cap',cur,hv2,-,hgh,hcapM,-,-,hcur⟩
   ·have:=map_len hexF L i';rw [hnil] at this;simp at this;omega
   ·simp only [Value.slice.injEq,Option.some.injEq,Addr.mk.injEq] at hv2
    obtain⟨⟨rfl,-⟩,-,rfl⟩:=hv2
    have hcell:wr.cell? ⟨g,i',none⟩=some (.int .u8 (dg L i':Nat)):=by rw [cell_of_row _ _ _ _ _ _ hgh,← map_at hexF L i' hlt];exact hcur i' (by rw [map_len];exact hlt)
    have hfz:=frozen_of_row wr g i' _ _ hgh
    have hd:=hworth i' hlt
    have hix:(((⟨#[48,49,50,51,52,53,54,55,56,57,97,98,99,100,101,102]⟩:ByteArray)[dg L i']'(by exact hd)).toNat)=hexF (dg L i'):=hexDigs_at _ hd
    have hF:hexF (dg L i')<256:=by unfold hexF;split <;> omega
    have hset:=hoM.set i' (hexF (dg L i')) (by rw [map_len];exact hlt) hF
    rw [dg_get L i' hlt,map_step hexF L i' hlt,← dg_get L i' hlt] at hset
    have hfs:Fr [g] wr (wr.setCell ⟨g,i',none⟩ (.int .u8 ((hexF (dg L i'):Nat):Int))):=(Fr.refl [g] wr).setCell (.inl (by simp)) _
    have hsc':=hsc.fr hfs (by simp;omega)
    have hrm':=hrm.fr hfs (by simp;omega)
    have hfr':=hfr.after hfs (by simpa using hgb)
    have Hset:=Go.Lib.hid hset
    have Hfr:=Go.Lib.hid hfr'
    have Hsc:=Go.Lib.hid hsc'
    have Hrm:=Go.Lib.hid hrm'
    clear hset hfr' hsc' hrm' hfs hcur hgh hoM
    go_wp2
    go_roundw
    case rel=>exact⟨i'+1,rfl,hlt,Hset.out,Hsc.out,Hfr.out,Hrm.out⟩
    case measure=>simp [intOf];omega
  ·obtain rfl:i'=L.length:=by omega
   rw [List.take_length,List.drop_length,List.append_nil,Hback.out] at hoM
   have hLl:L.length=(strL (A++B)).size:=by rw [strL_size,List.length_append,HNl.out]
   obtain⟨cur,hgh,hcur⟩:∃ cur,wr.heap[g]?=some (.cells cur 5 (0,0))∧∀ i,i<L.length→cur[i]?=some (.int .u8 (dg ((A++B).map UInt8.toNat) i:Nat)):=by
    rcases hoM.shape with ⟨-,hnil⟩ | ⟨g',cap',cur,hv2,hgb,hgh,hcapM,-,-,hcur⟩
    ·have:=HNl.out;rw [List.map_eq_nil_iff,List.append_eq_nil_iff] at hnil;rw [hnil.1] at h0;simp at h0
    ·simp only [Value.slice.injEq,Option.some.injEq,Addr.mk.injEq] at hv2
     obtain⟨⟨rfl,-⟩,-,-⟩:=hv2
     refine⟨cur,hgh,fun i hi=>hcur i ?_⟩
     rw [List.length_map,List.length_append,← HNl.out];exact hi
   have hcv:∀ wx:World,wx.heap[g]?=some (.cells cur 5 (0,0))→(convert 40 9 (.slice (some ⟨g,0,none⟩) (strL (A++B)).size cap)).run Tryz.prog wx=.ok (.string (strL (A++B))) wx:=by
    intro wx hgx
    refine Go.Lib.run_convert_whole wx _ 5 _ und_u8s (by kernel_rfl) und_strS g 0 (strL (A++B)) ?_ cap
    intro i hi
    rw [Nat.zero_add,cell_of_row _ _ _ _ _ _ hgx,hcur i (by omega)]
    have hil:i<(A++B).length:=by rwa [strL_size] at hi
    rw [dg_get _ i (by simpa using hil),← getD_at (strL (A++B)) i hi,strL_data]
    rw [List.getElem_map];simp only [List.getD,List.getElem?_eq_getElem hil,Option.getD_some]
   have hSz:(strL (A++B)).size≤65536:=by omega
   have hS0:0<(strL (A++B)).size:=by have:=HNl.out;omega
   have hALl:(A++B).length≤65536:=by have:=HNl.out;rw [List.length_append];omega
   have hVlt:=hexV_lt (A++B) hAB
   have hVfit:Fits (hexV (A++B)):=fits16 hVlt hALl
   have hV2:hexV (A++B)<2 ^ (4 * (A++B).length):=by rw [Nat.pow_mul];exact hVlt
   generalize hSS:strL (A++B)=S at *
   have hSx:HexL S.data.toList:=by rw [← hSS,strL_data];exact hAB
   have hSV:hexV S.data.toList=hexV (A++B):=by rw [← hSS,strL_data]
   generalize hVd:hexV (A++B)=V at *
   have HVd:=Go.Lib.hid hVd
   clear hVd
   generalize (A++B).length=AL at *
   have hrowR:wr.heap[w.heap.size]?=some (.cells #[.int .u8 0,.bool false,.bool false,.string ⟨#[]⟩,.int .i64 0,.bool false,.slice none 0 0,.int .i64 0,.int .u64 0] 83 (0,0)):=hfr.row hrow (by simp;omega)
   have fN:=(Fr.refl [] wr).alloc (.cells #[.int .u8 0,.bool false,.bool false,.string ⟨#[]⟩,.int .i64 0,.bool false,.slice none 0 0,.int .i64 0,.int .u64 0] 83)
   have hrN:=row_new wr (.cells #[.int .u8 0,.bool false,.bool false,.string ⟨#[]⟩,.int .i64 0,.bool false,.slice none 0 0,.int .i64 0,.int .u64 0] 83)
   have hmlt:=hrm.lt
   have hwW:=hfr.size
   have HfA:=fA.mono (T:=[b]) (by simp)
   clear hAB hcur hVlt hworth hA hB hpB hE hSS hrow hoM
   by_cases hV0:V=0
   ·subst hV0
    go_wp2_with (first
     | ((with_reducible show wpList _ _ _ (⟨none,.store 83 (.tmp 10) (.tmp 40),_,_,_,_⟩ :: _) _ _);go_loud (refine wpList_store_whole rfl 83 (.tmp 10) (.tmp 40) rfl wr.heap.size _ rfl rfl _ _ hrN (by kernel_rfl) rfl (by simp [Value.oneCell']) ?_;intro w3 hn3 f3';have F3:=fN.after f3' (by simp);have hcv3:=hcv w3 (F3.row hgh (by simp));have hrm3:=hrm.fr F3 (by simp);have hsc3:=hsc.fr F3 (by simp);have hrR3:=F3.row hrowR (by simp)))
     | (go_at_call 157;go_loud (refine (setString_hex _ w2.heap.size 0 S hrm3 hS0 hSx hSz).mono ?_;rw [hSV];rintro e w4 ⟨rfl,h4,f4⟩;have hn4:=f4.row hn3 (by simp;omega)))
     | (go_at_call 130;go_loud (refine (sign_any _ w2.heap.size 0 _ h4).mono ?_;rintro e w5 ⟨rfl,f5⟩;have hn5:=f5.row hn4 (by simp);have hrR5:=f5.row (f4.row hrR3 (by simp;omega)) (by simp);have hsc5:=(hsc3.fr f4 (by simp;omega)).fr f5 (by simp)))
     | ((with_reducible show wpList _ _ _ (⟨some 55,.load 83 (.tmp 10),_,_,_,_⟩ :: _) _ _);go_loud (refine wpList_load_row rfl 83 (.tmp 10) rfl wr.heap.size rfl _ _ _ _ hn5 Tryz.underlying83 rfl (by kernel_rfl) ?_))
     | ((with_reducible show wpList _ _ _ (⟨none,.store 83 (.tmp 4) (.tmp 55),_,_,_,_⟩ :: _) _ _);go_loud (refine wpList_store_whole rfl 83 (.tmp 4) (.tmp 55) rfl w.heap.size _ rfl rfl _ _ hrR5 (by kernel_rfl) rfl (by simp [Value.oneCell']) ?_;intro w6 hr6 f6)))
    have G6:=(((((HfA.trans hfr (fun t ht=>.inl ht)).then F3).after f4 (by simp;omega)).then f5).after f6 (by simp))
    have sc6:=hsc5.fr f6 (by simp;omega)
    (try simp only [Exit.inBlock,Exit.then])
    refine bodyPost_ret (v:=hexNum neg false (.slice none 0 0) 0) (results_cell_row rfl _ _ w.heap.size _ _ _ _ rfl hr6 Tryz.underlying83 rfl (by kernel_rfl)) rfl ?_
    exact⟨r2,_,rfl,by rw [HVd.out];exact⟨false,_,[],0,rfl,.inl ⟨rfl,rfl,rfl,rfl,rfl⟩⟩,hr2,sc6,G6⟩
   ·have hVp:0<V:=by omega
    have hsg:(V:Int).sign=1:=Int.sign_eq_one_of_pos (by omega)
    have hzl:=zerosV_lt hV2 hVp
    have hb7:b ≠ 7:=by
     rintro rfl
     have t0:=hTab 0 (by decide)
     rw [h.cells.1] at t0
     cases t0
    obtain⟨z,hz⟩:∃ z,zerosV V=z:=⟨_,rfl⟩
    rw [hz] at hzl
    have hzb:z≤262144:=by omega
    have hM2:V / 2 ^ z<2 ^ (4 * AL):=Nat.lt_of_le_of_lt (Nat.div_le_self _ _) hV2
    obtain⟨E0,hE0⟩:∃ E0,max (-1073741824) (min (xo - 4 * (B.length:Int)+(z:Int)) 1073741824)=E0:=⟨_,rfl⟩
    have HE0:=Go.Lib.hid hE0
    have HM2:=Go.Lib.hid hM2
    have Hz:=Go.Lib.hid hz
    have Hzl:=Go.Lib.hid hzl
    clear hM2 hE0 hV2 hz
    go_wp2_with (first
     | ((with_reducible show wpList _ _ _ (⟨none,.store 83 (.tmp 10) (.tmp 40),_,_,_,_⟩ :: _) _ _);go_loud (refine wpList_store_whole rfl 83 (.tmp 10) (.tmp 40) rfl wr.heap.size _ rfl rfl _ _ hrN (by kernel_rfl) rfl (by simp [Value.oneCell']) ?_;intro w3 hn3 f3';have F3:=fN.after f3' (by simp);have hcv3:=hcv w3 (F3.row hgh (by simp));have hrm3:=hrm.fr F3 (by simp);have hsc3:=hsc.fr F3 (by simp);have hrR3:=F3.row hrowR (by simp)))
     | (go_at_call 157;go_loud (refine (setString_hex _ w2.heap.size 0 S hrm3 hS0 hSx hSz).mono ?_;rw [hSV];rintro e w4 ⟨rfl,h4,f4⟩;have hn4:=f4.row hn3 (by simp;omega)))
     | (go_at_call 130;go_loud (refine (sign_any _ w2.heap.size 0 _ h4).mono ?_;rw [hsg];rintro e w5 ⟨rfl,f5⟩;have h5:=h4.fr0 f5;have hn5:=f5.row hn4 (by simp);have hrR5:=f5.row (f4.row hrR3 (by simp;omega)) (by simp);have hsc5:=(hsc3.fr f4 (by simp;omega)).fr f5 (by simp);have G5:=((((HfA.trans hfr (fun t ht=>.inl ht)).then F3).after f4 (by simp;omega)).then f5)))
     | (go_at_call 158;go_loud (refine (trailing_any _ w2.heap.size 0 V h5 hVfit (by rw [Hz.out];omega) (fun j hj=>G5.stay (hTab j hj) (by simp;omega))).mono ?_;rw [Hz.out];rintro e w6 ⟨rfl,hw6⟩;subst hw6))
     | (go_at_call 159;go_loud (refine (rsh_nat _ w2.heap.size 0 w2.heap.size 0 V z h5.room h5 hVfit (by omega)).mono ?_;rintro e w7 ⟨rfl,h7,f7⟩;have hn7:=f7.row hn5 (by simp;omega);have hrR7:=f7.row hrR5 (by simp;omega);have hsc7:=hsc5.fr f7 (by simp;omega);have G7:=G5.after f7 (by simp;omega)))
     | (go_at_call 160;go_loud (refine (lexLimbs_any _ w2.heap.size (V / 2 ^ z) (4 * AL) _ h7 (Int.natAbs_natCast _) HM2.out (by omega)).mono ?_;rintro e w8 ⟨vl,l,rfl,hul,hil,f8⟩;have hn8:=f8.row hn7 (by simp);have hrR8:=f8.row hrR7 (by simp);have hsc8:=hsc7.fr f8 (by simp);have G8:=G7.then f8))
     | (go_at_call 161;go_loud (refine (clipV_any _ _).mono ?_;rw [HE0.out];rintro e w9 ⟨rfl,hw9⟩;subst hw9;obtain⟨aol,capl,rfl,hcapl,-⟩:=hul.shape))
     | ((with_reducible show wpList _ _ _ (⟨none,.store 81 (.tmp 71) (.tmp 70),_,_,_,_⟩ :: _) _ _);go_loud (refine wpList_store_3of9 rfl 81 (.tmp 71) (.tmp 70) rfl wr.heap.size _ _ _ rfl rfl _ _ _ _ _ _ _ _ _ _ hn8 (by kernel_rfl) (by simp [Value.oneCell']) ?_;intro wa hna fa;have hula:=hul.fr fa (NoWord.of_type hn8 (by decide));have hrRa:=fa.row hrR8 (by simp;omega);have hsca:=hsc8.fr fa (by simp;omega);have Ga:=G8.after fa (by simp;omega)))
     | ((with_reducible show wpList _ _ _ (⟨some 72,.load 83 (.tmp 10),_,_,_,_⟩ :: _) _ _);go_loud (refine wpList_load_row rfl 83 (.tmp 10) rfl wr.heap.size rfl _ _ _ _ hna Tryz.underlying83 rfl (by kernel_rfl) ?_))
     | ((with_reducible show wpList _ _ _ (⟨none,.store 83 (.tmp 4) (.tmp 72),_,_,_,_⟩ :: _) _ _);go_loud (refine wpList_store_whole rfl 83 (.tmp 4) (.tmp 72) rfl w.heap.size _ rfl rfl _ _ hrRa (by kernel_rfl) rfl (by simp [Value.oneCell']) ?_;intro wb hrb fb;have hulb:=hula.fr fb (NoWord.of_type hrRa (by decide));have hscb:=hsca.fr fb (by simp;omega);have Gb:=Ga.after fb (by simp))))
    (try simp only [Exit.inBlock,Exit.then])
    refine bodyPost_ret (v:=hexNum neg neg (.slice aol l.length capl) E0) (results_cell_row rfl _ _ w.heap.size _ _ _ _ rfl hrb Tryz.underlying83 rfl (by kernel_rfl)) rfl ?_
    exact⟨r2,_,rfl,by rw [HVd.out,Hxo.out];exact⟨neg,_,l,E0,rfl,.inr ⟨hVp,rfl,hulb.mono (Nat.zero_le _),by rw [Hz.out];exact hil,by rw [Hz.out];exact HE0.out.symm⟩⟩,hr2,hscb,Gb⟩
end Go.Proofs.YtcmndpjemdjalaaGreatDoor
namespace Go.Proofs.YtcmndpjemdjalaaGreatDoor
open Go.RowKit
inductive Txt where
 | dec (A B:List UInt8) (p:Bool) (E:Option (Bool × List UInt8))
 | hex (A B:List UInt8) (p:Bool) (E:Option (Bool × List UInt8))
 | inf
 | nan
def Txt.body:Txt→List UInt8
 | .dec A B p E=>A++(pointL p B++expL 101 E)
 | .hex A B p E=>48 :: 120 :: (A++(pointL p B++expL 112 E))
 | .inf=>[105,110,102]
 | .nan=>[110,97,110]
def TenL (l:List UInt8):Prop:=∀ x∈l,(tenW x.toNat).2=1
def Txt.Ok:Txt→Prop
 | .dec A B p E=>0<A.length∧TenL A∧TenL B∧(p=false→B=[])∧ExpOk E
 | .hex A B p E=>0<A.length∧HexL A∧HexL B∧(p=false→B=[])∧ExpOk E
 | .inf=>True
 | .nan=>True
def nameNum (k:Nat) (neg:Bool):Value:=.agg #[.int .u8 k,.bool neg,.bool false,.string ⟨#[]⟩,.int .i64 0,.bool false,.slice none 0 0,.int .i64 0,.int .u64 0]
def NumPost (w':World) (neg:Bool) (hv:Value):Txt→Prop
 | .dec A B _ E=>hv=decNum neg (strL (decS (A++B))) (decE (A++B) (expO E - B.length))
 | .hex A B _ E=>HexPost w' neg (hexV (A++B)) (expO E - 4 * (B.length:Int)) hv
 | .inf=>hv=nameNum 3 neg
 | .nan=>hv=nameNum 4 neg
theorem ten_range {x:UInt8} (h:(tenW x.toNat).2=1):48≤x.toNat∧x.toNat≤57:=by
 unfold tenW at h
 by_cases h2:48≤x.toNat∧x.toNat≤57
 ·exact h2
 ·rw [if_neg h2] at h;simp at h
def s0x:ByteArray:=⟨#[48,120]⟩
theorem fold0x_dec (w:World) (b:Nat) (r:ByteArray) (A B:List UInt8) (p:Bool) (E:Option (Bool × List UInt8)) (h:ScanAt w b r) (hr:r.data.toList=A++(pointL p B++expL 101 E)) (h0:0<A.length) (hA:TenL A) (_hB:TenL B) (hpB:p=false→B=[]) (hE:ExpOk E) (hs:r.size≤65536) :
  Calls Tryz.prog 112 #[.pointer (some ⟨b,0,none⟩),.string s0x] w fun x w'=>x=.returned (.bool false)∧Fr [] w w':=by
 by_cases h2:r.size<2
 ·exact scanFold_short w b r s0x h h2
 ·rcases A with _ | ⟨a,A⟩
  ·simp at h0
  ·have ha:=ten_range (hA a (by simp))
   by_cases ha0:a.toNat=48
   ·refine scanFold_no w b r s0x 1 h (show 2≤r.size by omega) hs (by decide) ?_ ?_
    ·intro i hi
     obtain rfl:i=0:=by omega
     rw [hr]
     show lowB a.toNat=48
     rw [ha0];decide
    ·rw [hr]
     have hl:2≤((a :: A)++(pointL p B++expL 101 E)).length:=by rw [← hr,← Go.Lib.size_eq];omega
     have key:∀ y,(A++(pointL p B++expL 101 E)).head?=some y→lowB y.toNat ≠ 120:=by
      intro y hy
      rcases A with _ | ⟨a2,A⟩
      ·cases p with
       | true=>simp [pointL] at hy;subst hy;decide
       | false =>
        rcases E with _ | ⟨sgn,D⟩
        ·simp [pointL,expL] at hy
        ·simp [pointL,expL] at hy;subst hy;decide
      ·simp at hy
       subst hy
       have:=ten_range (hA a2 (by simp))
       unfold lowB;rw [if_neg (by omega)];omega
     rcases hq:A++(pointL p B++expL 101 E) with _ | ⟨y,q⟩
     ·rw [List.cons_append,hq] at hl;simp at hl
     ·rw [List.cons_append,hq]
      exact key y (by rw [hq];rfl)
   ·refine scanFold_no w b r s0x 0 h (show 2≤r.size by omega) hs (by decide) (by intro i hi;omega) ?_
    rw [hr]
    show lowB a.toNat ≠ 48
    unfold lowB;rw [if_neg (by omega)];exact ha0
theorem number_dec (w:World) (b:Nat) (r:ByteArray) (A B:List UInt8) (p:Bool) (E:Option (Bool × List UInt8)) (neg:Bool) (h:ScanAt w b r) (hr:r.data.toList=signL neg (A++(pointL p B++expL 101 E))) (hs:r.size≤65536) (hok:(Txt.dec A B p E).Ok) :
  Calls Tryz.prog 74 #[.pointer (some ⟨b,0,none⟩)] w fun x w'=>∃ r',x=.returned (decNum neg (strL (decS (A++B))) (decE (A++B) (expO E - B.length)))∧r'.data.toList=[]∧ScanAt w' b r'∧Fr [b] w w':=by
 obtain⟨h0,hA,hB,hpB,hE⟩:=hok
 have hbw:=h.lt
 obtain⟨a,A',rfl⟩:∃ a A',A=a :: A':=by
  rcases A with _ | ⟨a,A⟩
  ·simp at h0
  ·exact⟨a,A,rfl⟩
 have ha:=ten_range (hA a (by simp))
 have hrow:=row_new w (.cells #[.int .u8 0,.bool false,.bool false,.string ⟨#[]⟩,.int .i64 0,.bool false,.slice none 0 0,.int .i64 0,.int .u64 0] 83)
 have fA:=(Fr.refl [] w).alloc (.cells #[.int .u8 0,.bool false,.bool false,.string ⟨#[]⟩,.int .i64 0,.bool false,.slice none 0 0,.int .i64 0,.int .u64 0] 83)
 have hA1:=h.fr fA (by simp)
 generalize hW:w.alloc (.cells #[.int .u8 0,.bool false,.bool false,.string ⟨#[]⟩,.int .i64 0,.bool false,.slice none 0 0,.int .i64 0,.int .u64 0] 83)=W at *
 have hWs:W.heap.size=w.heap.size+1:=by rw [← hW];simp
 have hsn:∀ y∈((a :: A')++(pointL p B++expL 101 E)).head?,y.toNat<128∧y.toNat ≠ 43∧y.toNat ≠ 45:=by intro y hy;simp at hy;subst hy;omega
 have hsl:((a :: A')++(pointL p B++expL 101 E)).length≤r.size:=by rw [Go.Lib.size_eq,hr];cases neg <;> simp [signL]
 have ht1:tenW a.toNat=(a.toNat - 48,1):=by unfold tenW;rw [if_pos ha]
 go_enter Tryz.func74,Tryz.ntmps74
 go_wp2_with (first
  | (go_at_call 110;go_loud (refine (scanMinus_sgn _ b r neg _ hA1 hr hsn).mono ?_;rintro e w1 ⟨r1,rfl,hr1,h1,f1⟩;have hl1:r1.size≤65536:=(by rw [Go.Lib.size_eq,hr1];omega);have h10:0<r1.size:=(by rw [Go.Lib.size_eq,hr1];simp);have hr10:r1[0]=a:=(by rw [← getD_at r1 0 h10,hr1];rfl);obtain⟨c10,c12⟩:=h1.cells))
  | (go_at_call 39;go_loud (refine (Tryz.strings_HasPrefix r1 under _).mono ?_;rw [hr1,no_under _ (by intro y hy;simp at hy;subst hy;omega)];rintro e w2 ⟨rfl,hw2⟩;subst hw2))
  | (go_at_call 111;go_loud (refine (lexTen_at _ r1 h10 (by rw [hr10];omega)).mono ?_;rw [hr10,ht1];rintro e w3 ⟨rfl,f3⟩;have h3:=h1.fr f3 (by simp)))
  | (go_at_call 112;go_loud (refine (fold0x_dec _ b r1 _ B p E h3 hr1 h0 hA hB hpB hE hl1).mono ?_;rintro e w4 ⟨rfl,f4⟩;have h4:=h3.fr f4 (by simp)))
  | (go_at_call 114;go_loud (refine (scanDecimal _ b r1 _ B p E neg h4 hr1 h0 hl1 hA hB hpB hE).mono ?_;rintro e w5 ⟨r5,rfl,hr5,h5,f5⟩;have G5:=(((f1.then f3).then f4).trans f5 (fun t ht=>.inl ht));have hrow5:=G5.row hrow (by simp;omega)))
  | ((with_reducible show wpList _ _ _ (⟨none,.store 83 (.tmp 2) (.tmp 43),_,_,_,_⟩ :: _) _ _);go_loud (refine wpList_store_whole rfl 83 (.tmp 2) (.tmp 43) rfl w.heap.size _ rfl rfl _ _ hrow5 (by kernel_rfl) rfl (by simp [Value.oneCell']) ?_;intro w6 hr6 f6;have h6:=h5.fr f6 (by simp;omega))))
 (try simp only [Exit.inBlock,Exit.then])
 refine bodyPost_ret (v:=_) (results_cell_row rfl _ _ w.heap.size _ _ _ _ rfl hr6 Tryz.underlying83 rfl (by kernel_rfl)) rfl ?_
 exact⟨r5,rfl,hr5,h6,((fA.mono (by simp)).trans G5 (fun t ht=>.inl ht)).after f6 (by simp)⟩
end Go.Proofs.YtcmndpjemdjalaaGreatDoor
namespace Go.Proofs.YtcmndpjemdjalaaGreatDoor
def tensL:List UInt8:=[48,49,50,51,52,53,54,55,56,57]
def sixteensL:List UInt8:=[48,49,50,51,52,53,54,55,56,57,97,98,99,100,101,102]
def rowB (s d:List UInt8):Bool:=!s.isEmpty && (Lib.trimS s d).isEmpty
def wholeB (s:List UInt8):Bool:=rowB s tensL && (s==[48] || s.head? != some 48)
def behindB (point:Bool) (tail d:List UInt8) (places:Int):Bool :=
 if places=0 then !point else if 0<places then point && ((tail.length:Int)==places && rowB tail d) else !point || rowB tail d
def exponentB (s:List UInt8):Bool:=wholeB (Lib.trimPrefix s [45])
def plainB (s:List UInt8) (places:Int):Bool :=
 let c:=Lib.cut s [46]
 wholeB c.1 && behindB c.2.2 c.2.1 tensL places
def expB (s:List UInt8) (places:Int):Bool :=
 let c:=Lib.cut s [101]
 let d:=Lib.cut c.1 [46]
 c.2.2 && (d.1.length==1 && (rowB d.1 tensL && (behindB d.2.2 d.2.1 tensL places && exponentB c.2.1)))
def hexB (s:List UInt8) (places:Int):Bool :=
 let a:=Lib.trimPrefix s [48,120]
 let c:=Lib.cut a [112]
 let d:=Lib.cut c.1 [46]
 Lib.hasPrefix s [48,120] && (c.2.2 && ((d.1==[48] || d.1==[49]) && (behindB d.2.2 d.2.1 sixteensL places && exponentB c.2.1)))
def namedB (s:List UInt8):Bool:=s==[105,110,102] || s==[110,97,110]
def bodyB (d:Nat) (places:Int) (s:List UInt8):Bool :=
 if d=3 then namedB s || plainB s places
 else if d=4 then namedB s || expB s places
 else if d=6 then namedB s || hexB s places
 else namedB s || (plainB s (-1) || expB s (-1))
theorem dropWhile_nil {p:UInt8→Bool}:∀ {l:List UInt8},l.dropWhile p=[] ↔ ∀ x∈l,p x=true
 | []=>by simp
 | a :: l=>by
  by_cases ha:p a=true
  ·rw [List.dropWhile_cons_of_pos ha,dropWhile_nil];simp [ha]
  ·rw [List.dropWhile_cons_of_neg ha];simp [ha]
theorem trimS_nil {l cs:List UInt8}:Lib.trimS l cs=[] ↔ ∀ x∈l,cs.contains x=true:=by
 unfold Lib.trimS Lib.trimLeftS
 rw [dropWhile_nil]
 constructor
 ·intro h
  have h2:Lib.trimRightS l cs=[]:=by
   unfold Lib.trimRightS at *
   rcases hq:l.reverse.dropWhile (cs.contains ·) with _ | ⟨a,m⟩
   ·rfl
   ·have h3:cs.contains a=true:=h a (by rw [hq];simp)
    have h4:(l.reverse.dropWhile (cs.contains ·)).head?=some a:=by rw [hq];rfl
    have:∀ (q:List UInt8),(q.dropWhile (cs.contains ·)).head?=some a→cs.contains a=false:=by
     intro q
     induction q with
     | nil=>intro h;simp at h
     | cons b q ih =>
      intro h
      by_cases hb:cs.contains b=true
      ·rw [List.dropWhile_cons_of_pos hb] at h;exact ih h
      ·rw [List.dropWhile_cons_of_neg hb] at h;simp at h;subst h;simpa using hb
    rw [this _ h4] at h3;simp at h3
  unfold Lib.trimRightS at h2
  rw [List.reverse_eq_nil_iff,dropWhile_nil] at h2
  intro x hx
  exact h2 x (List.mem_reverse.2 hx)
 ·intro h x hx
  refine h x ?_
  unfold Lib.trimRightS at hx
  exact List.mem_reverse.1 ((List.dropWhile_sublist _).subset (List.mem_reverse.1 hx))
theorem rowB_iff {s d:List UInt8}:rowB s d=true ↔ 0<s.length∧∀ x∈s,d.contains x=true:=by
 unfold rowB
 rw [Bool.and_eq_true,List.isEmpty_iff,trimS_nil]
 constructor
 ·rintro ⟨h1,h2⟩
  refine⟨?_,h2⟩
  rcases s with _ | ⟨a,s⟩
  ·simp at h1
  ·simp
 ·rintro ⟨h1,h2⟩
  refine⟨?_,h2⟩
  rcases s with _ | ⟨a,s⟩
  ·simp at h1
  ·simp
theorem cut_one (s:List UInt8) (c:UInt8):((Lib.cut s [c]).2.2=true∧s=(Lib.cut s [c]).1++c :: (Lib.cut s [c]).2.1)∨((Lib.cut s [c]).2.2=false∧(Lib.cut s [c]).1=s∧(Lib.cut s [c]).2.1=[]):=by
 unfold Lib.cut
 rcases Lib.index_spec s [c] with ⟨h,-⟩ | ⟨i,h,h2,h3,-⟩
 ·right
  rw [if_neg (by omega)]
  exact⟨rfl,rfl,rfl⟩
 ·left
  rw [h,if_pos (by omega)]
  refine⟨rfl,?_⟩
  have h4:=Lib.occAt_head (c:=c) (t:=[]) rfl h3
  have h5:i<s.length:=by
   rcases Nat.lt_or_ge i s.length with h | h
   ·exact h
   ·rw [List.getElem?_eq_none h] at h4;simp at h4
  rw [List.getElem?_eq_getElem h5] at h4
  have h6:s[i]=c:=by simpa using h4
  show s=s.take i++c :: s.drop (i+1)
  rw [← h6,List.getElem_cons_drop,List.take_append_drop]
end Go.Proofs.YtcmndpjemdjalaaGreatDoor
namespace Go.Proofs.YtcmndpjemdjalaaGreatDoor
open Go.RowKit
theorem sliteCut_one (w:World) (s:ByteArray) (c:UInt8) (hs:s.size<4294967281) :
  Calls Tryz.prog 180 #[.string s,.string ⟨#[c]⟩] w fun x w'=>x=.returned (.tuple #[.string (strL (Lib.cut s.data.toList [c]).1),.string (strL (Lib.cut s.data.toList [c]).2.1),.bool (Lib.cut s.data.toList [c]).2.2])∧Fr [] w w':=by
 have hI:=fun W=>Tryz.stringslite_Index_one s c W
 have h1:=Lib.index_one s.data.toList c
 rcases Lib.indexB_cases s ⟨#[c]⟩ with hix | ⟨i,hix,hroom⟩
 ·obtain⟨e1,e2,e3⟩:=Lib.cutB_miss s ⟨#[c]⟩ hix
  have hix2:Lib.index s.data.toList [c]=-1:=hix
  rw [h1] at hix2
  simp only [hix2] at hI
  have e1':strL (Lib.cut s.data.toList [c]).1=s:=e1
  have e2':strL (Lib.cut s.data.toList [c]).2.1=⟨#[]⟩:=e2
  have e3':(Lib.cut s.data.toList [c]).2.2=false:=e3
  rw [e1',e2',e3']
  go_enter Tryz.func180,Tryz.ntmps180
  go_wp2_with (go_at_call 227;refine (hI _).mono ?_;rintro e w1 ⟨rfl,hw⟩;subst hw)
  go_ret3
  exact⟨rfl,Fr.refl _ _⟩
 ·obtain⟨e1,e2,e3⟩:=Lib.cutB_hit s ⟨#[c]⟩ i hix
  have hix2:Lib.index s.data.toList [c]=(i:Int):=hix
  rw [h1] at hix2
  simp only [hix2] at hI
  have c1:(0:Int)≤↑i:=by omega
  have c2:(↑i:Int)≤↑s.size:=by omega
  have hs1:((⟨#[c]⟩:ByteArray)).size=1:=rfl
  rw [hs1] at hroom e2
  have c3:(0:Int)≤↑i+1:=by omega
  have c4:(↑i+1:Int)≤↑s.size:=by omega
  have e1':strL (Lib.cut s.data.toList [c]).1=s.extract 0 i:=e1
  have e2':strL (Lib.cut s.data.toList [c]).2.1=s.extract (i+1) s.size:=e2
  have e3':(Lib.cut s.data.toList [c]).2.2=true:=e3
  rw [e1',e2',e3']
  clear e1 e2 e3 e1' e2' e3' hix hix2 h1
  go_enter Tryz.func180,Tryz.ntmps180
  go_wp2_with (go_at_call 227;refine (hI _).mono ?_;rintro e w1 ⟨rfl,hw⟩;subst hw)
  go_region
  go_wp2
  go_ret3
  exact⟨rfl,(Fr.refl _ _).drew⟩
end Go.Proofs.YtcmndpjemdjalaaGreatDoor
namespace Go.Proofs.YtcmndpjemdjalaaGreatDoor
open Go.RowKit
theorem row_any (w:World) (s d:ByteArray) (hs:s.size≤9223372036854775807) (hd:d.size<4294967281) (ha:∀ (j:Nat) b,d.data.toList[j]?=some b→b.toNat<128) :
  Calls Tryz.prog 140 #[.string s,.string d] w fun x w'=>x=.returned (.bool (rowB s.data.toList d.data.toList))∧Fr [] w w':=by
 have hT:=fun W=>Tryz.strings_Trim s d W hs hd ha
 by_cases h:s=⟨#[]⟩
 ·subst h
  go_enter Tryz.func140,Tryz.ntmps140
  go_wp2_with fail
  go_ret
  exact⟨rfl,Fr.refl _ _⟩
 ·have hne:¬ s=ByteArray.empty:=h
  have h0:0<s.size:=by
   rcases Nat.eq_zero_or_pos s.size with h0 | h0
   ·exact absurd (show s=ByteArray.empty by simpa using h0) h
   ·exact h0
  have hE:s.toList.isEmpty=false:=not_empty h0
  go_enter Tryz.func140,Tryz.ntmps140
  go_wp2_with (go_at_call 181;refine (hT _).mono ?_;rintro e w1 ⟨rfl,hb⟩;have f1:=Fr.of_below hb)
  go_ret
  refine⟨?_,f1⟩
  unfold rowB
  rw [← ByteArray.toList_eq,hE]
  rfl
theorem named_any (w:World) (s:ByteArray) :
  Calls Tryz.prog 55 #[.string s] w fun x w'=>x=.returned (.bool (namedB s.data.toList))∧w'=w:=by
 go_enter Tryz.func55,Tryz.ntmps55
 go_wp2_with fail
 all_goals
  go_ret
  refine⟨?_,rfl⟩
  unfold namedB
  rw [← ByteArray.toList_eq]
  try simp [*]
end Go.Proofs.YtcmndpjemdjalaaGreatDoor
namespace Go.Proofs.YtcmndpjemdjalaaGreatDoor
open Go.RowKit
theorem strL_of (s:ByteArray):strL s.data.toList=s:=by cases s;simp [strL]
def tensS:ByteArray:=⟨#[48,49,50,51,52,53,54,55,56,57]⟩
def sixteensS:ByteArray:=⟨#[48,49,50,51,52,53,54,55,56,57,97,98,99,100,101,102]⟩
theorem tens_ascii:∀ (j:Nat) b,tensS.data.toList[j]?=some b→b.toNat<128:=Go.Proofs.ascii_of_all (l:=[48,49,50,51,52,53,54,55,56,57]) (by decide)
theorem sixteens_ascii:∀ (j:Nat) b,sixteensS.data.toList[j]?=some b→b.toNat<128:=Go.Proofs.ascii_of_all (l:=[48,49,50,51,52,53,54,55,56,57,97,98,99,100,101,102]) (by decide)
theorem row_tens (w:World) (s:ByteArray) (hs:s.size≤9223372036854775807) :
  Calls Tryz.prog 140 #[.string s,.string ⟨#[48,49,50,51,52,53,54,55,56,57]⟩] w fun x w'=>x=.returned (.bool (rowB s.data.toList tensL))∧Fr [] w w' :=
 row_any w s tensS hs (by decide) tens_ascii
theorem head_ne (s:ByteArray) (h0:0<s.size):(s.data.toList.head? != some 48)=((s[0].toNat:Int) != 48):=by
 rcases s with ⟨⟨l⟩⟩
 rcases l with _ | ⟨a,l⟩
 ·exact absurd h0 (Nat.lt_irrefl 0)
 ·show (some a != some 48)=((a.toNat:Int) != 48)
  by_cases h:a=48
  ·subst h;rfl
  ·have h2:¬ a.toNat=48:=fun h3=>h (UInt8.toNat_inj.1 h3)
   have h3:(some a != some 48)=true:=by simpa using h
   rw [h3]
   have h4:¬ ((a.toNat:Int)=48):=by omega
   simpa using h4
theorem mwhole_any (w:World) (s:ByteArray) (hs:s.size≤9223372036854775807) :
  Calls Tryz.prog 138 #[.string s] w fun x w'=>x=.returned (.bool (wholeB s.data.toList))∧Fr [] w w':=by
 have hR:=fun W=>row_tens W s hs
 unfold wholeB
 cases hr:rowB s.data.toList tensL with
 | false =>
  simp only [hr] at hR
  go_enter Tryz.func138,Tryz.ntmps138
  go_wp2_with (go_at_call 140;refine (hR _).mono ?_;rintro e w1 ⟨rfl,f1⟩)
  go_ret
  exact⟨rfl,f1⟩
 | true =>
  simp only [hr] at hR
  have h0:0<s.size:=by rw [Go.Lib.size_eq];exact (rowB_iff.1 hr).1
  by_cases h:s=⟨#[48]⟩
  ·subst h
   go_enter Tryz.func138,Tryz.ntmps138
   go_wp2_with (go_at_call 140;refine (hR _).mono ?_;rintro e w1 ⟨rfl,f1⟩)
   go_ret
   exact⟨rfl,f1⟩
  ·have hne:¬ s.toList=[48]:=by rw [ByteArray.toList_eq];intro h2;exact h (by rw [← strL_of s,h2];rfl)
   go_enter Tryz.func138,Tryz.ntmps138
   go_wp2_with (go_at_call 140;refine (hR _).mono ?_;rintro e w1 ⟨rfl,f1⟩)
   go_ret
   refine⟨?_,f1⟩
   rw [head_ne s h0,← ByteArray.toList_eq]
   rfl
theorem behind_any (w:World) (point:Bool) (tail d:ByteArray) (places:Int) (hs:tail.size≤9223372036854775807) (hd:d.size<4294967281) (ha:∀ (j:Nat) b,d.data.toList[j]?=some b→b.toNat<128) :
  Calls Tryz.prog 139 #[.bool point,.string tail,.string d,.int .i64 places] w fun x w'=>x=.returned (.bool (behindB point tail.data.toList d.data.toList places))∧Fr [] w w':=by
 have hR:=fun W=>row_any W tail d hs hd ha
 unfold behindB
 by_cases h0:places=0
 ·subst h0
  rw [if_pos rfl]
  go_enter Tryz.func139,Tryz.ntmps139
  go_wp2_with fail
  go_ret
  exact⟨rfl,Fr.refl _ _⟩
 ·rw [if_neg h0]
  have h0':(places==0)=false:=by simpa using h0
  by_cases h1:0<places
  ·rw [if_pos h1]
   cases point with
   | false =>
    go_enter Tryz.func139,Tryz.ntmps139
    go_wp2_with fail
    go_ret
    exact⟨rfl,Fr.refl _ _⟩
   | true =>
    rw [Bool.true_and,← Go.Lib.size_eq]
    by_cases hl:(tail.size:Int)=places
    ·have hl':((tail.size:Int)==places)=true:=by simpa using hl
     rw [hl',Bool.true_and]
     clear hl
     go_enter Tryz.func139,Tryz.ntmps139
     go_wp2_with (go_at_call 140;refine (hR _).mono ?_;rintro e w1 ⟨rfl,f1⟩)
     go_ret
     exact⟨rfl,f1⟩
    ·have hl':((tail.size:Int)==places)=false:=by simpa using hl
     rw [hl',Bool.false_and]
     clear hl
     go_enter Tryz.func139,Tryz.ntmps139
     go_wp2_with fail
     go_ret
     exact⟨rfl,Fr.refl _ _⟩
  ·rw [if_neg h1]
   cases point with
   | false =>
    go_enter Tryz.func139,Tryz.ntmps139
    go_wp2_with fail
    go_ret
    exact⟨rfl,Fr.refl _ _⟩
   | true =>
    go_enter Tryz.func139,Tryz.ntmps139
    go_wp2_with (go_at_call 140;refine (hR _).mono ?_;rintro e w1 ⟨rfl,f1⟩)
    go_ret
    exact⟨rfl,f1⟩
theorem trimPrefix_le (s p:List UInt8):(Lib.trimPrefix s p).length≤s.length:=by unfold Lib.trimPrefix;split <;> simp
theorem exponentB_any (w:World) (s:ByteArray) (hs:s.size≤9223372036854775807) :
  Calls Tryz.prog 141 #[.string s] w fun x w'=>x=.returned (.bool (exponentB s.data.toList))∧Fr [] w w':=by
 have hT:=fun W=>Tryz.strings_TrimPrefix s ⟨#[45]⟩ W
 have hle:=trimPrefix_le s.data.toList [45]
 have hW:=fun W=>mwhole_any W (strL (Lib.trimPrefix s.data.toList [45])) (by rw [strL_size];rw [← Go.Lib.size_eq] at hle;omega)
 simp only [strL_data] at hW
 unfold exponentB
 go_enter Tryz.func141,Tryz.ntmps141
 go_wp2_with (first
  | (go_at_call 182;refine (hT _).mono ?_;rintro e w1 ⟨rfl,hw⟩;subst hw)
  | (go_at_call 138;refine (hW _).mono ?_;rintro e w2 ⟨rfl,f2⟩))
 go_ret
 exact⟨rfl,f2⟩
end Go.Proofs.YtcmndpjemdjalaaGreatDoor
namespace Go.Proofs.YtcmndpjemdjalaaGreatDoor
open Go.RowKit
theorem cut_le (s:List UInt8) (c:UInt8):(Lib.cut s [c]).1.length≤s.length∧(Lib.cut s [c]).2.1.length≤s.length:=by
 rcases cut_one s c with ⟨-,h⟩ | ⟨-,h1,h2⟩
 ·generalize Lib.cut s [c]=x at *
  rw [h];simp;omega
 ·rw [h1,h2];simp
theorem cut_any (w:World) (l:List UInt8) (c:UInt8) (hl:l.length≤65536) :
  Calls Tryz.prog 137 #[.string (strL l),.string ⟨#[c]⟩] w fun x w'=>x=.returned (.tuple #[.string (strL (Lib.cut l [c]).1),.string (strL (Lib.cut l [c]).2.1),.bool (Lib.cut l [c]).2.2])∧Fr [] w w':=by
 have hC:=fun W=>sliteCut_one W (strL l) c (by rw [strL_size];omega)
 simp only [strL_data] at hC
 go_enter Tryz.func137,Tryz.ntmps137
 go_wp2_with (go_at_call 180;refine (hC _).mono ?_;rintro e w1 ⟨rfl,f1⟩)
 go_ret3
 exact⟨rfl,f1⟩
theorem whole_l (w:World) (l:List UInt8) (hl:l.length≤65536) :
  Calls Tryz.prog 138 #[.string (strL l)] w fun x w'=>x=.returned (.bool (wholeB l))∧Fr [] w w':=by
 have:=mwhole_any w (strL l) (by rw [strL_size];omega)
 rwa [strL_data] at this
theorem exponent_l (w:World) (l:List UInt8) (hl:l.length≤65536) :
  Calls Tryz.prog 141 #[.string (strL l)] w fun x w'=>x=.returned (.bool (exponentB l))∧Fr [] w w':=by
 have:=exponentB_any w (strL l) (by rw [strL_size];omega)
 rwa [strL_data] at this
theorem row_l (w:World) (l:List UInt8) (hl:l.length≤65536) :
  Calls Tryz.prog 140 #[.string (strL l),.string ⟨#[48,49,50,51,52,53,54,55,56,57]⟩] w fun x w'=>x=.returned (.bool (rowB l tensL))∧Fr [] w w':=by
 have:=row_tens w (strL l) (by rw [strL_size];omega)
 rwa [strL_data] at this
theorem behind_tens (w:World) (point:Bool) (l:List UInt8) (places:Int) (hl:l.length≤65536) :
  Calls Tryz.prog 139 #[.bool point,.string (strL l),.string ⟨#[48,49,50,51,52,53,54,55,56,57]⟩,.int .i64 places] w fun x w'=>x=.returned (.bool (behindB point l tensL places))∧Fr [] w w':=by
 have:=behind_any w point (strL l) tensS places (by rw [strL_size];omega) (by decide) tens_ascii
 rwa [strL_data] at this
theorem behind_sixteens (w:World) (point:Bool) (l:List UInt8) (places:Int) (hl:l.length≤65536) :
  Calls Tryz.prog 139 #[.bool point,.string (strL l),.string ⟨#[48,49,50,51,52,53,54,55,56,57,97,98,99,100,101,102]⟩,.int .i64 places] w fun x w'=>x=.returned (.bool (behindB point l sixteensL places))∧Fr [] w w':=by
 have:=behind_any w point (strL l) sixteensS places (by rw [strL_size];omega) (by decide) sixteens_ascii
 rwa [strL_data] at this
theorem plain_l (w:World) (l:List UInt8) (places:Int) (hl:l.length≤65536) :
  Calls Tryz.prog 99 #[.string (strL l),.int .i64 places] w fun x w'=>x=.returned (.bool (plainB l places))∧Fr [] w w':=by
 have hC:=fun W=>cut_any W l 46 hl
 have hle:=cut_le l 46
 unfold plainB
 generalize Lib.cut l [46]=c at *
 obtain⟨n,tail,point⟩:=c
 dsimp only at *
 have hW:=fun W=>whole_l W n (by omega)
 have hB:=fun W=>behind_tens W point tail places (by omega)
 have F:=Fr.refl [] w
 cases h1:wholeB n with
 | false =>
  simp only [h1] at hW
  go_enter Tryz.func99,Tryz.ntmps99
  go_wp2_with (first
   | (go_at_call 137;refine (hC _).mono ?_;rintro e w1 ⟨rfl,f1⟩)
   | (go_at_call 138;refine (hW _).mono ?_;rintro e w2 ⟨rfl,f2⟩))
  go_ret
  exact⟨rfl,f1.then f2⟩
 | true =>
  simp only [h1] at hW
  go_enter Tryz.func99,Tryz.ntmps99
  go_wp2_with (first
   | (go_at_call 137;refine (hC _).mono ?_;rintro e w1 ⟨rfl,f1⟩)
   | (go_at_call 138;refine (hW _).mono ?_;rintro e w2 ⟨rfl,f2⟩)
   | (go_at_call 139;refine (hB _).mono ?_;rintro e w3 ⟨rfl,f3⟩))
  go_ret
  exact⟨rfl,(f1.then f2).then f3⟩
theorem exp_l (w:World) (l:List UInt8) (places:Int) (hl:l.length≤65536) :
  Calls Tryz.prog 100 #[.string (strL l),.int .i64 places] w fun x w'=>x=.returned (.bool (expB l places))∧Fr [] w w':=by
 have hC:=fun W=>cut_any W l 101 hl
 have hle:=cut_le l 101
 unfold expB
 generalize Lib.cut l [101]=c at *
 obtain⟨head,e,is⟩:=c
 dsimp only at *
 have hD:=fun W=>cut_any W head 46 (by omega)
 have hle2:=cut_le head 46
 generalize Lib.cut head [46]=c at *
 obtain⟨n,tail,point⟩:=c
 dsimp only at *
 have hR:=fun W=>row_l W n (by omega)
 have hB:=fun W=>behind_tens W point tail places (by omega)
 have hE:=fun W=>exponent_l W e (by omega)
 have F:=Fr.refl [] w
 rcases (by cases is <;> simp:is=false∨is=true) with rfl | rfl
 ·go_enter Tryz.func100,Tryz.ntmps100
  go_wp2_with (go_at_call 137;(first | with_reducible refine (hC _).mono ?_ | refine (hD _).mono ?_);rintro e w1 ⟨rfl,f1⟩;replace F:=F.then f1)
  go_ret
  exact⟨rfl,F⟩
 ·by_cases hn:n.length=1
  ·have hn1:(n.length==1)=true:=by simpa using hn
   have hn2:(((strL n).size:Int)==1)=true:=by rw [strL_size,hn];rfl
   rw [hn1]
   clear hn
   cases h3:rowB n tensL with
   | false =>
    simp only [h3] at hR
    go_enter Tryz.func100,Tryz.ntmps100
    go_wp2_with (first
     | (go_at_call 137;(first | with_reducible refine (hC _).mono ?_ | refine (hD _).mono ?_);rintro e w1 ⟨rfl,f1⟩;replace F:=F.then f1)
     | (go_at_call 140;refine (hR _).mono ?_;rintro e w2 ⟨rfl,f2⟩;replace F:=F.then f2))
    go_ret
    exact⟨rfl,F⟩
   | true =>
    simp only [h3] at hR
    cases h4:behindB point tail tensL places with
    | false =>
     simp only [h4] at hB
     go_enter Tryz.func100,Tryz.ntmps100
     go_wp2_with (first
      | (go_at_call 137;(first | with_reducible refine (hC _).mono ?_ | refine (hD _).mono ?_);rintro e w1 ⟨rfl,f1⟩;replace F:=F.then f1)
      | (go_at_call 140;refine (hR _).mono ?_;rintro e w2 ⟨rfl,f2⟩;replace F:=F.then f2)
      | (go_at_call 139;refine (hB _).mono ?_;rintro e w3 ⟨rfl,f3⟩;replace F:=F.then f3))
     go_ret
     exact⟨rfl,F⟩
    | true =>
     simp only [h4] at hB
     go_enter Tryz.func100,Tryz.ntmps100
     go_wp2_with (first
      | (go_at_call 137;(first | with_reducible refine (hC _).mono ?_ | refine (hD _).mono ?_);rintro e w1 ⟨rfl,f1⟩;replace F:=F.then f1)
      | (go_at_call 140;refine (hR _).mono ?_;rintro e w2 ⟨rfl,f2⟩;replace F:=F.then f2)
      | (go_at_call 139;refine (hB _).mono ?_;rintro e w3 ⟨rfl,f3⟩;replace F:=F.then f3)
      | (go_at_call 141;refine (hE _).mono ?_;rintro e w4 ⟨rfl,f4⟩;replace F:=F.then f4))
     go_ret
     exact⟨rfl,F⟩
  ·have hn1:(n.length==1)=false:=by simpa using hn
   have hn2:(((strL n).size:Int)==1)=false:=by rw [strL_size];exact beq_eq_false_iff_ne.2 (by omega)
   rw [hn1]
   clear hn
   go_enter Tryz.func100,Tryz.ntmps100
   go_wp2_with (go_at_call 137;(first | with_reducible refine (hC _).mono ?_ | refine (hD _).mono ?_);rintro e w1 ⟨rfl,f1⟩;replace F:=F.then f1)
   go_ret
   exact⟨rfl,F⟩
end Go.Proofs.YtcmndpjemdjalaaGreatDoor
namespace Go.Proofs.YtcmndpjemdjalaaGreatDoor
open Go.RowKit
theorem prefix_cut (l p:List UInt8) (w:World) :
  Calls Tryz.prog 142 #[.string (strL l),.string (strL p)] w fun x w'=>x=.returned (.tuple #[.string (strL (Lib.trimPrefix l p)),.bool (Lib.hasPrefix l p)])∧w'=w:=by
 have:=Tryz.strings_CutPrefix (strL l) (strL p) w
 simp only [strL_data] at this
 exact this
theorem hex_l (w:World) (l:List UInt8) (places:Int) (hl:l.length≤65536) :
  Calls Tryz.prog 101 #[.string (strL l),.int .i64 places] w fun x w'=>x=.returned (.bool (hexB l places))∧Fr [] w w':=by
 have hP:∀ W,Calls Tryz.prog 142 #[.string (strL l),.string ⟨#[48,120]⟩] W fun x w'=>x=.returned (.tuple #[.string (strL (Lib.trimPrefix l [48,120])),.bool (Lib.hasPrefix l [48,120])])∧w'=W:=fun W=>prefix_cut l [48,120] W
 have hle0:=trimPrefix_le l [48,120]
 unfold hexB
 dsimp only
 generalize Lib.trimPrefix l [48,120]=a at *
 generalize Lib.hasPrefix l [48,120]=pre at *
 have hC:=fun W=>cut_any W a 112 (by omega)
 have hle:=cut_le a 112
 generalize Lib.cut a [112]=c at *
 obtain⟨head,e,also⟩:=c
 dsimp only at *
 have hD:=fun W=>cut_any W head 46 (by omega)
 have hle2:=cut_le head 46
 generalize Lib.cut head [46]=c at *
 obtain⟨n,tail,point⟩:=c
 dsimp only at *
 have hB:=fun W=>behind_sixteens W point tail places (by omega)
 have hE:=fun W=>exponent_l W e (by omega)
 have F:=Fr.refl [] w
 have hnl:(strL n).toList=n:=by rw [ByteArray.toList_eq,strL_data]
 rcases (by cases pre <;> simp:pre=false∨pre=true) with rfl | rfl
 ·go_enter Tryz.func101,Tryz.ntmps101
  go_wp2_with (first
     | (go_at_call 142;refine (hP _).mono ?_;rintro e w1 ⟨rfl,hw⟩;subst hw)
     | (go_at_call 137;(first | with_reducible refine (hC _).mono ?_ | refine (hD _).mono ?_);rintro e w1 ⟨rfl,f1⟩;replace F:=F.then f1))
  go_ret
  exact⟨rfl,F⟩
 ·rcases (by cases also <;> simp:also=false∨also=true) with rfl | rfl
  ·go_enter Tryz.func101,Tryz.ntmps101
   go_wp2_with (first
      | (go_at_call 142;refine (hP _).mono ?_;rintro e w1 ⟨rfl,hw⟩;subst hw)
      | (go_at_call 137;(first | with_reducible refine (hC _).mono ?_ | refine (hD _).mono ?_);rintro e w1 ⟨rfl,f1⟩;replace F:=F.then f1))
   go_ret
   exact⟨rfl,F⟩
  ·have tail2:∀ q:Bool,q=(n==[48] || n==[49])→True:=fun _ _=>trivial
   by_cases h48:n=[48]
   ·have hq:(n==[48] || n==[49])=true:=by rw [h48];rfl
    rw [hq]
    have h1:(strL n).toList=[48]:=by rw [hnl,h48]
    clear hq tail2 hnl
    subst h48
    cases h4:behindB point tail sixteensL places with
    | false =>
     simp only [h4] at hB
     go_enter Tryz.func101,Tryz.ntmps101
     go_wp2_with (first
        | (go_at_call 142;refine (hP _).mono ?_;rintro e w1 ⟨rfl,hw⟩;subst hw)
        | (go_at_call 137;(first | with_reducible refine (hC _).mono ?_ | refine (hD _).mono ?_);rintro e w1 ⟨rfl,f1⟩;replace F:=F.then f1)
        | (go_at_call 139;refine (hB _).mono ?_;rintro e w3 ⟨rfl,f3⟩;replace F:=F.then f3))
     go_ret
     exact⟨rfl,F⟩
    | true =>
     simp only [h4] at hB
     go_enter Tryz.func101,Tryz.ntmps101
     go_wp2_with (first
        | (go_at_call 142;refine (hP _).mono ?_;rintro e w1 ⟨rfl,hw⟩;subst hw)
        | (go_at_call 137;(first | with_reducible refine (hC _).mono ?_ | refine (hD _).mono ?_);rintro e w1 ⟨rfl,f1⟩;replace F:=F.then f1)
        | (go_at_call 139;refine (hB _).mono ?_;rintro e w3 ⟨rfl,f3⟩;replace F:=F.then f3)
        | (go_at_call 141;refine (hE _).mono ?_;rintro e w4 ⟨rfl,f4⟩;replace F:=F.then f4))
     go_ret
     exact⟨rfl,F⟩
   ·have h1:¬ (strL n).toList=[48]:=by rw [hnl];exact h48
    by_cases h49:n=[49]
    ·have hq:(n==[48] || n==[49])=true:=by rw [h49];rfl
     rw [hq]
     have h2:(strL n).toList=[49]:=by rw [hnl,h49]
     clear hq tail2 hnl h48
     subst h49
     cases h4:behindB point tail sixteensL places with
     | false =>
      simp only [h4] at hB
      go_enter Tryz.func101,Tryz.ntmps101
      go_wp2_with (first
         | (go_at_call 142;refine (hP _).mono ?_;rintro e w1 ⟨rfl,hw⟩;subst hw)
         | (go_at_call 137;(first | with_reducible refine (hC _).mono ?_ | refine (hD _).mono ?_);rintro e w1 ⟨rfl,f1⟩;replace F:=F.then f1)
         | (go_at_call 139;refine (hB _).mono ?_;rintro e w3 ⟨rfl,f3⟩;replace F:=F.then f3))
      go_ret
      exact⟨rfl,F⟩
     | true =>
      simp only [h4] at hB
      go_enter Tryz.func101,Tryz.ntmps101
      go_wp2_with (first
         | (go_at_call 142;refine (hP _).mono ?_;rintro e w1 ⟨rfl,hw⟩;subst hw)
         | (go_at_call 137;(first | with_reducible refine (hC _).mono ?_ | refine (hD _).mono ?_);rintro e w1 ⟨rfl,f1⟩;replace F:=F.then f1)
         | (go_at_call 139;refine (hB _).mono ?_;rintro e w3 ⟨rfl,f3⟩;replace F:=F.then f3)
         | (go_at_call 141;refine (hE _).mono ?_;rintro e w4 ⟨rfl,f4⟩;replace F:=F.then f4))
      go_ret
      exact⟨rfl,F⟩
    ·have h2:¬ (strL n).toList=[49]:=by rw [hnl];exact h49
     have hq:(n==[48] || n==[49])=false:=by simp [h48,h49]
     rw [hq]
     clear hq tail2 hnl
     go_enter Tryz.func101,Tryz.ntmps101
     go_wp2_with (first
        | (go_at_call 142;refine (hP _).mono ?_;rintro e w1 ⟨rfl,hw⟩;subst hw)
        | (go_at_call 137;(first | with_reducible refine (hC _).mono ?_ | refine (hD _).mono ?_);rintro e w1 ⟨rfl,f1⟩;replace F:=F.then f1))
     go_ret
     exact⟨rfl,F⟩
end Go.Proofs.YtcmndpjemdjalaaGreatDoor
