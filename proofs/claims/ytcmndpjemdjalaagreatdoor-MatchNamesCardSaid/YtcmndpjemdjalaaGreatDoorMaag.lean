/- Laws that the claimed theorem leans on: no condition of their own beyond their hypotheses. -/
import Derived.Test.YtcmndpjemdjalaaGreatDoorMaab
import Derived.Test.YtcmndpjemdjalaaGreatDoorMaaf
set_option maxRecDepth 100000
set_option maxHeartbeats 16000000
namespace Go.Proofs.YtcmndpjemdjalaaGreatDoor
open Go.RowKit
def bval:List Nat→Nat
 | []=>0
 | c :: l=>c * 256 ^ l.length+bval l
theorem bval_append (a b:List Nat):bval (a++b)=bval a * 256 ^ b.length+bval b:=by
 induction a with
 | nil=>simp [bval]
 | cons c a ih=>simp only [List.cons_append,bval,ih,List.length_append,Nat.pow_add];grind
theorem bval_replicate (n:Nat):bval (List.replicate n 0)=0:=by
 induction n with
 | zero=>rfl
 | succ n ih=>rw [List.replicate_succ,bval,ih];simp
theorem bval_set (l:List Nat) (p c:Nat) (h:p<l.length):bval (l.set p (dg l p+c))=bval l+c * 256 ^ (l.length - 1 - p):=by
 induction l generalizing p with
 | nil=>simp at h
 | cons d l ih =>
  cases p with
  | zero=>simp only [List.set_cons_zero,bval,List.length_cons,Nat.add_sub_cancel,Nat.sub_zero];simp only [dg,List.getD_cons_zero];grind
  | succ p =>
   have h':p<l.length:=by simpa using h
   have e:dg (d :: l) (p+1)=dg l p:=by simp [dg]
   rw [e,List.set_cons_succ,bval,bval,ih p h',List.length_set,List.length_cons]
   rw [show l.length+1 - 1 - (p+1)=l.length - 1 - p by omega];omega
theorem bval_take_succ (l:List Nat) (i:Nat) (h:i<l.length):bval (l.take (i+1))=bval (l.take i) * 256+dg l i:=by
 have e:l.take (i+1)=l.take i++[dg l i]:=by rw [List.take_succ_eq_append_getElem h,dg_get l i h]
 rw [e,bval_append];simp [bval]
theorem val_set_add (L:List Nat) (j t:Nat) (h:j<L.length):val (L.set j (dg L j+t))=val L+t * 4294967296 ^ j:=by
 induction L generalizing j with
 | nil=>simp at h
 | cons d L ih =>
  cases j with
  | zero=>simp only [List.set_cons_zero,val_cons,dg,List.getD_cons_zero];omega
  | succ j =>
   have h':j<L.length:=by simpa using h
   have e:dg (d :: L) (j+1)=dg L j:=by simp [dg]
   rw [e,List.set_cons_succ,val_cons,val_cons,ih j h',Nat.pow_succ];grind
theorem byte_free (W:List Nat) (hd:Digs W) (k V:Nat) (h:val W=V * 256 ^ (k+1)):dg W (k / 4) % 2 ^ (8 * (k % 4)+8)=0:=by
 rw [dg_of_val W hd,h,show (256:Nat) ^ (k+1)=2 ^ (8 * (k+1)) by rw [Nat.pow_mul],show (4294967296:Nat) ^ (k / 4)=2 ^ (32 * (k / 4)) by rw [Nat.pow_mul]]
 have e:8 * (k+1)=32 * (k / 4)+(8 * (k % 4)+8):=by omega
 rw [e,Nat.pow_add,← Nat.mul_assoc,Nat.mul_comm V,Nat.mul_assoc,Nat.mul_div_cancel_left _ (Nat.pow_pos (by omega))]
 have e2:(4294967296:Nat)=2 ^ (8 * (k % 4)+8) * 2 ^ (24 - 8 * (k % 4)):=by rw [← Nat.pow_add,show 8 * (k % 4)+8+(24 - 8 * (k % 4))=32 by omega]
 rw [e2,Nat.mul_comm V,Nat.mul_mod_mul_left,Nat.mul_mod_right]
theorem byte_pow (k:Nat):2 ^ (8 * (k % 4)) * 4294967296 ^ (k / 4)=256 ^ k:=by
 rw [show (256:Nat) ^ k=2 ^ (8 * k) by rw [Nat.pow_mul],show (4294967296:Nat) ^ (k / 4)=2 ^ (32 * (k / 4)) by rw [Nat.pow_mul],← Nat.pow_add]
 congr 1;omega
theorem byte_step {W:List Nat} (hd:Digs W) {_n k V c:Nat} (hk:k / 4<W.length) (hc:c<256) (h:val W=V * 256 ^ (k+1)) :
  Digs (W.set (k / 4) (dg W (k / 4)+c * 2 ^ (8 * (k % 4))))∧val (W.set (k / 4) (dg W (k / 4)+c * 2 ^ (8 * (k % 4))))=(V * 256+c) * 256 ^ k ∧
   bits .or .u32 ((dg W (k / 4):Nat):Int) (((c * 2 ^ (8 * (k % 4)):Nat)):Int)=((dg W (k / 4)+c * 2 ^ (8 * (k % 4)):Nat):Int)∧c * 2 ^ (8 * (k % 4))<4294967296:=by
 have hf:=byte_free W hd k V h
 have hr:k % 4≤3:=by omega
 have hc2:c * 2 ^ (8 * (k % 4))<2 ^ (8 * (k % 4)+8):=by
  rw [Nat.pow_add,Nat.mul_comm]
  exact Nat.mul_lt_mul_of_pos_left (by omega) (Nat.pow_pos (by omega))
 have h32:2 ^ (8 * (k % 4)+8)≤4294967296:=Nat.pow_le_pow_right (show 0<2 by omega) (show 8 * (k % 4)+8≤32 by omega)
 have hdk:=dg_lt hd (k / 4)
 have hsum:dg W (k / 4)+c * 2 ^ (8 * (k % 4))<4294967296:=by
  obtain⟨q,hq⟩:∃ q,dg W (k / 4)=2 ^ (8 * (k % 4)+8) * q:=⟨_,(Nat.mul_div_cancel' (Nat.dvd_of_mod_eq_zero hf)).symm⟩
  have e2:(4294967296:Nat)=2 ^ (8 * (k % 4)+8) * 2 ^ (24 - 8 * (k % 4)):=by rw [← Nat.pow_add,show 8 * (k % 4)+8+(24 - 8 * (k % 4))=32 by omega]
  have hq2:q<2 ^ (24 - 8 * (k % 4)):=by
   rw [hq,e2] at hdk
   exact Nat.lt_of_mul_lt_mul_left hdk
  rw [hq]
  have:2 ^ (8 * (k % 4)+8) * (q+1)≤2 ^ (8 * (k % 4)+8) * 2 ^ (24 - 8 * (k % 4)):=Nat.mul_le_mul_left _ hq2
  rw [← e2] at this
  rw [Nat.mul_add] at this
  omega
 refine⟨hd.set _ _ hsum,?_,?_,by omega⟩
 ·rw [val_set_add W _ _ hk,h,Nat.mul_assoc c,byte_pow,Nat.pow_succ];grind
 ·have:=or32 (8 * (k % 4)+8) (c * 2 ^ (8 * (k % 4))) (dg W (k / 4)) hc2 hf (by omega) hdk
  rw [Nat.add_comm (c * _)] at this
  rw [← this]
  have h1:=u32_or_nat (c * 2 ^ (8 * (k % 4))) (dg W (k / 4)) (by omega) hdk
  have h2:=u32_or_nat (dg W (k / 4)) (c * 2 ^ (8 * (k % 4))) hdk (by omega)
  rw [h1,h2,Nat.or_comm]
end Go.Proofs.YtcmndpjemdjalaaGreatDoor
