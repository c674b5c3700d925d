/- Laws that the claimed theorem leans on: no condition of their own beyond their hypotheses. -/
import Derived.Shelf.Spec.TrailingZeros
import Derived.Shelf.Lays7
import Derived.Test.YtcmndpjemdjalaaGreatDoorProg
import Derived.Test.YtcmndpjemdjalaaGreatDoorMaac
import Derived.Test.YtcmndpjemdjalaaGreatDoorMaaf
set_option maxRecDepth 100000
set_option maxHeartbeats 16000000
namespace Go.Proofs
open Go.Shelf
def Tryz.lays7_28_ren:Go.Shelf.Ren:=⟨fun | 28=>245 | n=>n,fun | 27=>208 | 3=>3 | 4=>4 | 25=>233 | 53=>383 | 0=>0 | 5=>5 | n=>n,fun | 0=>7 | n=>n⟩
theorem Tryz.lays7_28:Go.Proofs.Lays7.n28 Tryz.prog Tryz.lays7_28_ren:={
 mixed:=by kernel_rfl
 f28:=Tryz.func245.trans (congrArg some (by kernel_rfl))
 t0:=Tryz.underlying0
 a0:=Tryz.isAgg0
 z0:=Tryz.sizeOf0
 v0:=Tryz.zeroValue0
 i0:=by kernel_rfl
 t3:=Tryz.underlying3
 a3:=Tryz.isAgg3
 z3:=Tryz.sizeOf3
 v3:=Tryz.zeroValue3
 i3:=by kernel_rfl
 t4:=Tryz.underlying4
 a4:=Tryz.isAgg4
 z4:=Tryz.sizeOf4
 v4:=Tryz.zeroValue4
 i4:=by kernel_rfl
 t5:=Tryz.underlying5
 a5:=Tryz.isAgg5
 z5:=Tryz.sizeOf5
 v5:=Tryz.zeroValue5
 i5:=by kernel_rfl
 t25:=Tryz.underlying233
 a25:=Tryz.isAgg233
 z25:=Tryz.sizeOf233
 v25:=Tryz.zeroValue233
 i25:=by kernel_rfl
 t27:=Tryz.underlying208
 a27:=Tryz.isAgg208
 z27:=Tryz.sizeOf208
 v27:=Tryz.zeroValue208
 i27:=by kernel_rfl
 t53:=Tryz.underlying383
 a53:=Tryz.isAgg383
 z53:=Tryz.sizeOf383
 v53:=Tryz.zeroValue383
 i53:=by kernel_rfl
 g0:=by kernel_rfl }
theorem Tryz.bits_TrailingZeros32 (x:Nat) (hx:x<4294967296) (w:World) (hT:x ≠ 0→TabAt 7 Lib.deBruijn32tab w) :
  Calls Tryz.prog 245 #[.int .u32 x] w fun e w'=>e=.returned (.int .i64 (Lib.ctz 32 x))∧w'=w:=Any7.bits_TrailingZeros32 Tryz.lays7_28 x hx w hT
end Go.Proofs
namespace Go.Proofs.YtcmndpjemdjalaaGreatDoor
open Go.RowKit
def zerosV (n:Nat):Nat:=if n=0 then 0 else Go.Lib.ctzFrom n n
theorem odd_unique {a b m n:Nat} (h:2 ^ a * (2 * m+1)=2 ^ b * (2 * n+1)):a=b:=by
 induction a generalizing b with
 | zero =>
  cases b with
  | zero=>rfl
  | succ b =>
        rw [Nat.pow_succ] at h;simp at h;have:2 ^ b * 2 * (2 * n+1)=2 * (2 ^ b * (2 * n+1)):=by grind
        omega
 | succ a ih =>
  cases b with
  | zero =>
       rw [Nat.pow_succ] at h;simp at h;have:2 ^ a * 2 * (2 * m+1)=2 * (2 ^ a * (2 * m+1)):=by grind
       omega
  | succ b =>
   congr 1
   refine ih (b:=b) ?_
   rw [Nat.pow_succ,Nat.pow_succ] at h
   have e1:2 ^ a * 2 * (2 * m+1)=2 * (2 ^ a * (2 * m+1)):=by grind
   have e2:2 ^ b * 2 * (2 * n+1)=2 * (2 ^ b * (2 * n+1)):=by grind
   omega
theorem zerosV_spec {n:Nat} (h:0<n):∃ m,n=2 ^ zerosV n * (2 * m+1):=by
 unfold zerosV
 rw [if_neg (by omega)]
 obtain⟨m,hm,_⟩:=Go.Lib.ctzFrom_spec n n h Nat.lt_two_pow_self
 exact⟨m,hm⟩
theorem zerosV_of {n t m:Nat} (h:n=2 ^ t * (2 * m+1)):zerosV n=t:=by
 have hp:0<n:=by rw [h];exact Nat.mul_pos (Nat.pow_pos (by omega)) (by omega)
 obtain⟨m',hm'⟩:=zerosV_spec hp
 exact odd_unique (hm'.symm.trans h)
theorem zerosV_words (l:List Nat) (hd:Digs l) (k:Nat) (hk:k<l.length) (hz:∀ j,j<k→dg l j=0) (h0:dg l k ≠ 0):zerosV (val l)=32 * k+Go.Lib.ctz 32 (dg l k):=by
 have h1:val (l.take k)=0:=by
  clear hk h0
  induction k with
  | zero=>simp [val]
  | succ k ih =>
   rcases Nat.lt_or_ge k l.length with h | h
   ·rw [val_take_dg l k h,ih (fun j hj=>hz j (by omega)),hz k (by omega)];simp
   ·rw [List.take_of_length_le (by omega)]
    have:=ih (fun j hj=>hz j (by omega))
    rwa [List.take_of_length_le h] at this
 have h2:val l=4294967296 ^ k * val (l.drop k):=by have:=val_take_drop l k (by omega);omega
 have h3:l.drop k=dg l k :: l.drop (k+1):=by rw [dg_get l k hk];exact (List.getElem_cons_drop hk).symm
 obtain⟨m,hm,hlt⟩:=Go.Lib.ctzFrom_spec 32 (dg l k) (by omega) (dg_lt hd k)
 unfold Go.Lib.ctz
 rw [if_neg h0]
 generalize Go.Lib.ctzFrom 32 (dg l k)=t at hm hlt
 rw [h3,val_cons] at h2
 have e:(4294967296:Nat)=2 ^ t * (2 * 2 ^ (31 - t)):=by
  rw [show (4294967296:Nat)=2 ^ 32 from rfl,← Nat.mul_assoc,Nat.mul_comm (2 ^ t) 2,Nat.mul_assoc,← Nat.pow_add,show t+(31 - t)=31 by omega]
 refine zerosV_of (m:=m+2 ^ (31 - t) * val (l.drop (k+1))) ?_
 rw [h2,Nat.pow_add,show (4294967296:Nat) ^ k=2 ^ (32 * k) by rw [Nat.pow_mul]]
 rw [Nat.mul_assoc]
 congr 1
 generalize val (l.drop (k+1))=R
 rw [hm]
 have e2:4294967296 * R=2 ^ t * (2 * 2 ^ (31 - t)) * R:=by rw [← e]
 rw [e2];grind
namespace Pb
theorem zeros_any (w:World) (lo:Nat) (v:Value) (l:List Nat) (n:Nat) (hu:U32 w lo v l) (hi:Is l n) (hl:l.length≤4294967296) (hT:TabAt 7 Lib.deBruijn32tab w) :
  Calls Tryz.prog 203 #[v] w fun e w'=>e=.returned (.int .i64 ((zerosV n:Nat):Int))∧w=w':=by
 have hd:=hi.digs
 have hv:=hi.val
 obtain⟨ao,cap,rfl,hcap,hc⟩:=hu.shape
 have Hc:=Go.Lib.hid hc;clear hc hu
 have Hv:=Go.Lib.hid hv;clear hv
 have HT:=Go.Lib.hid hT;clear hT
 go_enter Tryz.func203,Tryz.ntmps203
 go_wp2
 go_loop [3] (fun i=>∃ k:Nat,i=.int .i64 k∧k≤l.length∧Hid (∀ j,j<k→dg l j=0)) (fun i=>l.length - (intOf i).toNat)
 case atStart=>exact⟨0,rfl,Nat.zero_le _,Go.Lib.hid (fun j h=>by omega)⟩
 case round =>
  obtain⟨k,rfl,hk,hz⟩:=hrel
  by_cases hlt:k<l.length
  ·obtain⟨b,o,rfl,hb,hcell⟩:=Hc.out k hlt
   by_cases h0:dg l k=0
   ·rw [h0] at hcell
    go_wp2
    go_round
    case rel=>exact⟨k+1,by go_num,by omega,Go.Lib.hid (fun j hj=>by
                                         rcases Nat.lt_or_ge j k with h | h;exact hz.out j h;obtain rfl:j=k:=by omega
                                         exact h0)⟩
    case measure=>simp [intOf];omega
   ·have hb0:(((dg l k:Nat):Int)==0)=false:=by simpa using h0
    have hne:((k:Int)==(l.length:Int))=false:=by simp;omega
    have hw:=zerosV_words l hd k hlt hz.out h0
    rw [Hv.out] at hw
    have Hw:=Go.Lib.hid hw;clear hw
    have hct:Go.Lib.ctz 32 (dg l k)≤32:=by
     unfold Go.Lib.ctz;split
     ·exact Nat.le_refl _
     ·obtain⟨_,_,h9⟩:=Go.Lib.ctzFrom_spec 32 (dg l k) (by omega) (dg_lt hd k)
      omega
    go_wp2_with fail
    refine (Tryz.bits_TrailingZeros32 (dg l k) (dg_lt hd k) _ (fun _=>HT.out)).mono ?_
    rintro e w' ⟨rfl,rfl⟩
    go_wp2
    go_ret
    exact⟨ret_int (by rw [Hw.out];simp),rfl⟩
  ·obtain rfl:k=l.length:=by omega
   have hn0:Hid (n=0):=Go.Lib.hid (by
    by_cases hl0:l.length=0
    ·exact (hi.len_zero).1 hl0
    ·have hlast:=hi.norm.last (by omega)
     rw [← dg_def] at hlast
     exact absurd (hz.out (l.length - 1) (by omega)) hlast)
   go_wp2
   go_ret
   exact⟨ret_int (by rw [hn0.out];rfl),rfl⟩
end Pb
end Go.Proofs.YtcmndpjemdjalaaGreatDoor
