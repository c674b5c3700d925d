/- Laws that the claimed theorem leans on: no condition of their own beyond their hypotheses. -/
import Derived.IntWalk
import Derived.StillTailTactics
import Derived.Deep.RegionHeld3
import Derived.Laws.EntriesVeiled
import Derived.Test.YtcmndpjemdjalaaGreatDoorMaab
import Derived.Test.YtcmndpjemdjalaaGreatDoorMaac
import Derived.Test.YtcmndpjemdjalaaGreatDoorMaad
import Derived.Test.YtcmndpjemdjalaaGreatDoorMaae
import Derived.Test.YtcmndpjemdjalaaGreatDoorMaaf
import Derived.Test.YtcmndpjemdjalaaGreatDoorMaag
set_option maxRecDepth 100000
set_option maxHeartbeats 16000000
namespace Go.Proofs.YtcmndpjemdjalaaGreatDoor.Pb
open Go.RowKit
theorem mul_near_s (w:World) (lo lo2:Nat) (v u:Value) (x y:List Nat) (hx:U32 w lo v x) (hy:U32 w lo2 u y) (ih:MulSaid (x.length+y.length)) (hlen:y.length<x.length) (hn:x.length≤1073741824) (h40:40≤y.length) (h2:x.length<2 * y.length) (hnear:∃ a,u=.slice a y.length ((x.length+1) / 2)) :
  Calls Tryz.prog 170 #[u,v] w fun e w'=>∃ v' l',e=.returned v'∧U32 w' w.heap.size v' l'∧Is l' (val x * val y)∧Fr [] w w':=by
 have hdx:=hx.digs
 have hdy:=hy.digs
 have Hx:=Go.Lib.hid hx
 have Hy:=Go.Lib.hid hy
 obtain⟨ao,cap,rfl,hcap,hc⟩:=hx.shape
 obtain⟨ao2,cap2,rfl,hcap2,hc2⟩:=hy.shape
 obtain⟨b,o,rfl,hbw,-⟩:=hc 0 (by omega)
 obtain⟨b2,o2,rfl,hbw2,-⟩:=hc2 0 (by omega)
 clear hc hx hc2 hy
 have hnl:(y.length:Int)<(x.length:Int):=by omega
 have hn40:¬ ((y.length:Int)<40):=by omega
 have hge:¬ (2:Int) * (y.length:Int)≤(x.length:Int):=by omega
 obtain⟨h,hh⟩:∃ h,h=(x.length+1) / 2:=⟨_,rfl⟩
 have hh1:((x.length:Int)+1) / 2=(h:Int):=by omega
 have hh2:h≤y.length:=by omega
 have hh3:h<x.length:=by omega
 have hh4:x.length≤2 * h:=by omega
 have hh5:2 * h≤x.length+1:=by omega
 have hc2:cap2=h:=by obtain⟨a,ha⟩:=hnear;simp only [Value.slice.injEq] at ha;omega
 clear hh hnear
 subst hc2
 obtain⟨h,hhh⟩:∃ h,h=cap2:=⟨_,rfl⟩
 subst hhh
 have cx0:=(Hx.out).cut (i:=0) (j:=h) (by omega) (by omega)
 have cy0:=(Hy.out).cut (i:=0) (j:=h) (by omega) (by omega)
 simp only [Nat.add_zero,Nat.sub_zero,List.drop_zero] at cx0 cy0
 have lx0:(x.take h).length=h:=by simp;omega
 have ly0:(y.take h).length=h:=by simp;omega
 have Cx0:=Go.Lib.hid cx0;clear cx0
 have Cy0:=Go.Lib.hid cy0;clear cy0
 have Lx0:=Go.Lib.hid lx0;clear lx0
 have Ly0:=Go.Lib.hid ly0;clear ly0
 have cx1:=(Hx.out).cut (i:=h) (j:=x.length) (by omega) (by omega)
 have cy1:U32 w lo2 (.slice (some ⟨b2,o2,none⟩) 0 0) (y.drop h):=⟨hdy.drop h,.inr (U32.none_left Hy.out (by omega))⟩
 rw [List.take_of_length_le (by rw [List.length_drop];exact Nat.le_refl _)] at cx1
 have lx1:(x.drop h).length=x.length - h:=by simp
 have ly1:(y.drop h).length=y.length - h:=by simp
 have Cx1:=Go.Lib.hid cx1;clear cx1
 have Cy1:=Go.Lib.hid cy1;clear cy1
 have Lx1:=Go.Lib.hid lx1;clear lx1
 have Ly1:=Go.Lib.hid ly1;clear ly1
 have hc1:¬ cap=h:=by omega
 go_enter Tryz.func170,Tryz.ntmps170
 go_wp2_with (at_make;refine make_u32 _ rfl _ _ rfl _ _ (x.length+y.length+1) rfl rfl (by omega) (by omega) (by omega) ?_;intro w1 hown hf)
 have k1:(h:Int)≤(cap:Int):=by omega
 have tx:∀ W:World,Fr [] w W→Calls Tryz.prog 172 #[.slice (some ⟨b,o,none⟩) h cap] W fun e w'=>∃ v' l',e=.returned v'∧U32 W lo v' l'∧Is l' (val (x.take h))∧l'.length≤h∧W=w':=fun W hW=>by
  have:=trim_any W lo _ _ (Cx0.out.fr0 hW) (by rw [Lx0.out];omega)
  rw [Lx0.out] at this;exact this
 have ty:∀ W:World,Fr [] w W→Calls Tryz.prog 172 #[.slice (some ⟨b2,o2,none⟩) h h] W fun e w'=>∃ v' l',e=.returned v'∧U32 W lo2 v' l'∧Is l' (val (y.take h))∧l'.length≤h∧W=w':=fun W hW=>by
  have:=trim_any W lo2 _ _ (Cy0.out.fr0 hW) (by rw [Ly0.out];omega)
  rw [Ly0.out] at this;exact this
 have Tx:=Go.Lib.hid tx;clear tx
 have Ty:=Go.Lib.hid ty;clear ty
 go_cut [8] (fun s wc=>∃ l,U32 wc w1.heap.size s l∧Is l (val (x.take h) * val (y.take h))∧Fr [] w1 wc)
 case first =>
  go_region_with (first | (go_at_call_of 172 (Value.slice (some ⟨b,o,none⟩) h cap);refine (Tx.out _ ?_).mono ?_;exact hf.drew;rintro e w' ⟨vx,lx,rfl,ux,ix,llx,rfl⟩) | (go_at_call_of 172 (Value.slice (some ⟨b2,o2,none⟩) h h);refine (Ty.out _ ?_).mono ?_;exact hf.drew;rintro e w' ⟨vy,ly,rfl,uy,iy,lly,rfl⟩) | (go_at_call 170;refine (ih _ lo lo2 _ _ lx ly ux uy ?_ ?_ ?_).mono ?_;omega;omega;omega;rintro e w' ⟨vm,lm,rfl,um,im,fm⟩))
  go_wp2
  go_meet
  case rel=>exact⟨lm,um,by rw [ix.val,iy.val] at im;exact im,((Fr.refl [] w1).drew).then fm⟩
 case rest =>
  obtain⟨l0,u0,i0,f0⟩:=hcut
  have f0s:=f0.size
  have hown0:=hown.fr f0 (by simp)
  have hf0:=hf.then f0
  clear f0
  go_wp2
  go_cut [9] (fun s wd=>∃ l,U32 wd wc.heap.size s l∧Is l (val (x.drop h) * val (y.drop h))∧Fr [] wc wd)
  case first =>
   go_region_with (go_at_call 170;refine (ih _ lo lo2 _ _ (x.drop h) (y.drop h) ?_ ?_ ?_ ?_ ?_).mono ?_;exact Cx1.out.fr0 hf0.drew;exact Cy1.out.fr0 hf0.drew;(rw [Lx1.out,Ly1.out];omega);(rw [Lx1.out];omega);(rw [Ly1.out];omega);rintro e w' ⟨vm,lm,rfl,um,im,fm⟩)
   go_wp2
   go_meet
   case rel=>exact⟨lm,um,im,((Fr.refl [] wc).drew).then fm⟩
  case rest =>
   rename_i u8 _
   obtain⟨l1,u1,i1,f1⟩:=hcut
   have f1s:=f1.size
   have hown1:=hown0.fr f1 (by simp)
   have hf1:=hf0.then f1
   have u0b:=u0.fr0 f1
   clear hown0 f1 u0
   obtain⟨wd,hwd⟩:∃ wd:World,wd=wc:=⟨_,rfl⟩
   subst hwd
   go_wp2
   go_cut [10] (fun s we=>∃ l,U32 we wd.heap.size s l∧Is l ((val (x.take h)+val (x.drop h)) * (val (y.take h)+val (y.drop h)))∧Fr [] wd we)
   case first =>
    go_region_with (first | (go_at_call_of 172 (Value.slice (some ⟨b,o,none⟩) h cap);refine (Tx.out _ ?_).mono ?_;exact hf1.drew;rintro e w' ⟨vx,lx,rfl,ux,ix,llx,rfl⟩) | (go_at_call_of 205 (Value.slice (some ⟨b,o+h,none⟩) (x.length - h) (cap - h));refine (add_any _ lo lo _ _ lx (x.drop h) ux ?_ ?_ ?_).mono ?_;exact Cx1.out.fr0 hf1.drew;omega;(rw [Lx1.out];omega);rintro e w' ⟨va,la,rfl,ua,ia,fa⟩;have hfa:=hf1.drew.then fa) | (go_at_call_of 172 (Value.slice (some ⟨b2,o2,none⟩) h h);refine (Ty.out _ ?_).mono ?_;exact hfa;rintro e w' ⟨vy,ly,rfl,uy,iy,lly,rfl⟩) | (go_at_call_of 205 (Value.slice (some ⟨b2,o2,none⟩) 0 0);refine (add_any _ lo2 lo2 _ _ ly (y.drop h) uy ?_ ?_ ?_).mono ?_;exact Cy1.out.fr0 hfa;omega;(rw [Ly1.out];omega);rintro e w' ⟨vb,lb,rfl,ub,ib,fb⟩;have ua2:=ua.fr0 fb;have lla:=add_len ia ix llx Lx1.out hdx hh4;have llb:=add_len ib iy lly Ly1.out hdy (by omega)) | (go_at_call 170;refine (ih _ _ _ _ _ la lb ua2 ub ?_ ?_ ?_).mono ?_;omega;omega;omega;rintro e w' ⟨vm,lm,rfl,um,im,fm⟩))
    all_goals
     go_wp2
     go_meet
     case rel=>exact⟨lm,um.mono (by have:=fa.size;have:=fb.size;simp at *;omega),by rw [ia.val,ib.val,ix.val,iy.val] at im;exact im,(((Fr.refl [] wd).drew.then fa).then fb).then fm⟩
   case rest =>
    obtain⟨l2,u2,i2,f2⟩:=hcut
    have hown2:=hown1.fr f2 (by simp)
    have hf2:=hf1.then f2
    have u0c:=u0b.fr0 f2
    have u1b:=u1.fr0 f2
    have hg:=hown.lt
    have z1:=f0s
    have z2:=f1s
    have z3:=f2.size
    clear hown1 f2 u0b u1
    have U0:=u0c.mono (show w.heap.size+1≤w1.heap.size by omega)
    have U1:=u1b.mono (show w.heap.size+1≤_ by omega)
    have U2:=u2.mono (show w.heap.size+1≤_ by omega)
    clear u0c u1b u2
    have K:=Go.Lib.hid (karat hdx hdy (show h≤x.length by omega) hh2 hh5 (by omega) (by omega) i0 i1 i2)
    have I0:=Go.Lib.hid i0;have I1:=Go.Lib.hid i1;have I2:=Go.Lib.hid i2
    clear i0 i1 i2
    go_wp2_with fail
    refine (sub_any _ _ _ _ _ l2 l0 U2 U0 K.out.l0l2 K.out.l2n K.out.v0v2).mono ?_
    rintro e w3 ⟨v3,l3,rfl,u3,i3,f3⟩
    have I3:=Go.Lib.hid i3;clear i3
    have U1b:=U1.fr0 f3
    have U0b:=U0.fr0 f3
    have hown3:=hown2.fr f3 (by simp)
    go_wp2_with fail
    refine (sub_any _ _ _ _ _ l3 l1 u3 U1b (K.out.l1l3 I3.out) (K.out.l3n I3.out) (K.out.v1v3 I3.out)).mono ?_
    rintro e w4 ⟨v4,l4,rfl,u4,i4,f4⟩
    have I4:=Go.Lib.hid (K.out.i4 I3.out i4);clear i4
    have U0c:=U0b.fr0 f4
    have U1c:=U1b.fr0 f4
    have hown4:=hown3.fr f4 (by simp)
    have U4:=u4.mono (show w.heap.size+1≤_ by have:=f3.size;omega)
    clear hown2 hown3 u3 u4 U0 U0b U1 U1b
    have HF:=(hf2.then f3).then f4
    clear f3 f4 hf0 hf1 hf2
    go_wp2_with fail
    refine (addAt_n _ w.heap.size (w.heap.size+1) 0 (x.length+y.length+1) 0 _ _ l0 (by simp) (val_replicate _) hown4 (Digs.replicate _) U0c (by omega) (by omega) (by have:=K.out.len0;omega) K.out.fit0).mono ?_
    rintro e w5 ⟨L5,rfl,hown5,hd5,hl5,hv5,f5⟩
    have Hl5:=Go.Lib.hid hl5;clear hl5
    have Hv5:=Go.Lib.hid (show val L5=val l0 by rw [hv5];simp);clear hv5
    have U1d:=U1c.grown f5 (by omega)
    have U4b:=U4.grown f5 (by omega)
    have HF5:=HF.after f5 (by simp)
    clear U0c U1c U4 f5 hown4 HF
    go_wp2_with fail
    refine (addAt_n _ w.heap.size (w.heap.size+1) h (x.length+y.length+1) (val l0) _ _ l4 Hl5.out Hv5.out hown5 hd5 U4b (by omega) (by omega) (K.out.len4 I4.out) (by rw [I4.out.val];exact K.out.fit4)).mono ?_
    rintro e w6 ⟨L6,rfl,hown6,hd6,hl6,hv6,f6⟩
    have Hl6:=Go.Lib.hid hl6;clear hl6
    rw [I4.out.val] at hv6
    have Hv6:=Go.Lib.hid hv6;clear hv6
    have U1e:=U1d.grown f6 (by omega)
    have HF6:=HF5.after f6 (by simp)
    clear U1d U4b f6 hown5 HF5
    go_wp2_with fail
    rw [show (2:Int) * (h:Int)=((2 * h:Nat):Int) by omega]
    refine (addAt_n _ w.heap.size (w.heap.size+1) (2 * h) (x.length+y.length+1) _ _ _ l1 Hl6.out Hv6.out hown6 hd6 U1e (by omega) (by omega) K.out.len1 K.out.fit1).mono ?_
    rintro e w7 ⟨L7,rfl,hown7,hd7,hl7,hv7,f7⟩
    have Hl7:=Go.Lib.hid hl7
    have hv8:=hv7.trans K.out.sum
    have Hv7:=Go.Lib.hid hv8;clear hv7 hv8
    have HF7:=HF6.after f7 (by simp)
    have hu:=hown7.all hd7 (Nat.le_refl _)
    rw [hl7] at hu
    clear U1e f7 hown6 HF6 hl7
    go_wp2_with fail
    refine (trim_any _ w.heap.size _ _ hu (by rw [Hl7.out];omega)).mono ?_
    rintro e w' ⟨v',l',rfl,h1,h2,-,rfl⟩
    go_wp2
    go_ret
    exact⟨v',l',rfl,h1,Hv7.out ▸ h2,HF7⟩
end Go.Proofs.YtcmndpjemdjalaaGreatDoor.Pb
namespace Go.Proofs.YtcmndpjemdjalaaGreatDoor.Pb
open Go.RowKit
theorem mul_short (w:World) (lo lo2:Nat) (v u:Value) (x y:List Nat) (hx:U32 w lo v x) (hy:U32 w lo2 u y) (hlen:y.length≤x.length) (hn:x.length≤1073741824) (h40:y.length<40) :
  Calls Tryz.prog 170 #[v,u] w fun e w'=>∃ v' l',e=.returned v'∧U32 w' w.heap.size v' l'∧Is l' (val x * val y)∧Fr [] w w':=by
 have Hx:=Go.Lib.hid hx
 have Hy:=Go.Lib.hid hy
 obtain⟨ao,cap,rfl,hcap,-⟩:=hx.shape
 obtain⟨ao2,cap2,rfl,hcap2,-⟩:=hy.shape
 clear hx hy
 have hlen':¬ ((x.length:Int)<(y.length:Int)):=by omega
 have h40':(y.length:Int)<40:=by omega
 go_enter Tryz.func170,Tryz.ntmps170
 go_wp2_with fail
 refine (plain_any _ lo lo2 _ _ x y Hx.out Hy.out (by omega) (by omega)).mono ?_
 rintro e w1 ⟨v1,l1,rfl,u1,i1,f1⟩
 go_wp2
 go_ret
 exact⟨v1,l1,rfl,u1,i1,f1⟩
theorem mul_short_s (w:World) (lo lo2:Nat) (v u:Value) (x y:List Nat) (hx:U32 w lo v x) (hy:U32 w lo2 u y) (hlen:y.length<x.length) (hn:x.length≤1073741824) (h40:y.length<40) :
  Calls Tryz.prog 170 #[u,v] w fun e w'=>∃ v' l',e=.returned v'∧U32 w' w.heap.size v' l'∧Is l' (val x * val y)∧Fr [] w w':=by
 have Hx:=Go.Lib.hid hx
 have Hy:=Go.Lib.hid hy
 obtain⟨ao,cap,rfl,hcap,-⟩:=hx.shape
 obtain⟨ao2,cap2,rfl,hcap2,-⟩:=hy.shape
 clear hx hy
 have hlen':((y.length:Int)<(x.length:Int)):=by omega
 have h40':(y.length:Int)<40:=by omega
 go_enter Tryz.func170,Tryz.ntmps170
 go_wp2_with fail
 refine (plain_any _ lo lo2 _ _ x y Hx.out Hy.out (by omega) (by omega)).mono ?_
 rintro e w1 ⟨v1,l1,rfl,u1,i1,f1⟩
 go_wp2
 go_ret
 exact⟨v1,l1,rfl,u1,i1,f1⟩
theorem mul_all:∀ N,MulSaid N
 | 0=>fun w lo lo2 v u x y hx hy h=>by omega
 | N+1=>fun w lo lo2 v u x y hx hy h hnx hny=>by
  have ih:MulSaid (x.length+y.length):=fun w lo lo2 v u x' y' hx hy h'=>mul_all N w lo lo2 v u x' y' hx hy (by omega)
  rcases Nat.lt_or_ge x.length y.length with hl | hl
  ·rw [Nat.add_comm] at ih
   rw [Nat.mul_comm]
   rcases Nat.lt_or_ge x.length 40 with h40 | h40
   ·exact mul_short_s w lo2 lo u v y x hy hx hl hny h40
   ·rcases Nat.lt_or_ge y.length (2 * x.length) with h2 | h2
    ·by_cases hc:∃ a,v=.slice a x.length ((y.length+1) / 2)
     ·exact mul_near_s w lo2 lo u v y x hy hx ih hl hny h40 h2 hc
     ·exact mul_far_s w lo2 lo u v y x hy hx ih hl hny h40 h2 (fun a c e hc'=>hc ⟨a,by rw [e,hc']⟩)
    ·exact mul_chunks_s w lo2 lo u v y x hy hx ih hl hny h40 h2
  ·rcases Nat.lt_or_ge y.length 40 with h40 | h40
   ·exact mul_short w lo lo2 v u x y hx hy hl hnx h40
   ·rcases Nat.lt_or_ge x.length (2 * y.length) with h2 | h2
    ·by_cases hc:∃ a,u=.slice a y.length ((x.length+1) / 2)
     ·exact mul_near w lo lo2 v u x y hx hy ih hl hnx h40 h2 hc
     ·exact mul_far w lo lo2 v u x y hx hy ih hl hnx h40 h2 (fun a c e hc'=>hc ⟨a,by rw [e,hc']⟩)
    ·exact mul_chunks w lo lo2 v u x y hx hy ih hl hnx h40 h2
theorem mul_any (w:World) (lo lo2:Nat) (v u:Value) (x y:List Nat) (hx:U32 w lo v x) (hy:U32 w lo2 u y) (hnx:x.length≤1073741824) (hny:y.length≤1073741824) :
  Calls Tryz.prog 170 #[v,u] w fun e w'=>∃ v' l',e=.returned v'∧U32 w' w.heap.size v' l'∧Is l' (val x * val y)∧Fr [] w w' :=
 mul_all _ w lo lo2 v u x y hx hy (Nat.lt_succ_self _) hnx hny
end Go.Proofs.YtcmndpjemdjalaaGreatDoor.Pb
namespace Go.Proofs.YtcmndpjemdjalaaGreatDoor.Pb
open Go.RowKit
theorem set_exact (w:World) (b o lo:Nat) (neg:Bool) (v:Value) (l:List Nat) (hr:IntRoom w b o) (h:U32 w lo v l) (hn:l.length≤1099511627776) :
  Calls Tryz.prog 169 #[.pointer (some ⟨b,o,none⟩),.bool neg,v] w fun e w'=>e=.returned (.pointer (some ⟨b,o,none⟩)) ∧
   ∃ v' l',U32 w lo v' l'∧Is l' (val l)∧w'=(w.setCell ⟨b,o+1,none⟩ v').setCell ⟨b,o,none⟩ (.bool (neg && decide (0<l'.length))):=by
 obtain⟨⟨u0,c0⟩,⟨u1,c1⟩,z0,z1⟩:=hr.cells
 go_enter Tryz.func169,Tryz.ntmps169
 go_wp2_with fail
 refine (trim_any _ lo _ l h hn).mono ?_
 rintro e w1 ⟨v',l',rfl,h1,h2,-,rfl⟩
 obtain⟨ao,cap,rfl,hcap,-⟩:=h1.shape
 cases neg
 ·go_wp2
  go_ret
  exact⟨rfl,_,l',h1,h2,by simp⟩
 ·go_wp2
  go_ret
  exact⟨rfl,_,l',h1,h2,by simp⟩
theorem set_any (w:World) (b o lo:Nat) (neg:Bool) (v:Value) (l:List Nat) (n:Int) (hr:IntRoom w b o) (h:U32 w lo v l) (hl:l.length≤1099511627776) (hn:n=if neg then -(val l:Int) else (val l:Int)) :
  Calls Tryz.prog 169 #[.pointer (some ⟨b,o,none⟩),.bool neg,v] w fun e w'=>e=.returned (.pointer (some ⟨b,o,none⟩))∧IntAt w' b o n∧Fr [b] w w'∧w'.heap.size=w.heap.size:=by
 refine (set_exact w b o lo neg v l hr h hl).mono ?_
 rintro e w' ⟨rfl,v',l',h1,h2,rfl⟩
 refine⟨rfl,hr.set (h1.mono (Nat.zero_le _)) h2 ?_ ?_,((Fr.refl [b] w).setCell (.inl (by simp)) _).setCell (.inl (by simp)) _,by simp [World.size_setCell]⟩
 ·subst hn;split <;> omega
 ·subst hn
  have:=h2.len_zero
  cases neg
  ·simp
  ·simp;omega
end Go.Proofs.YtcmndpjemdjalaaGreatDoor.Pb
namespace Go.Proofs.YtcmndpjemdjalaaGreatDoor.Pb
open Go.RowKit
theorem setInt64_nat (w:World) (b o:Nat) (x:Nat) (hr:IntRoom w b o) (hx:x<9223372036854775808) :
  Calls Tryz.prog 128 #[.pointer (some ⟨b,o,none⟩),.int .i64 x] w fun e w'=>e=.returned (.pointer (some ⟨b,o,none⟩))∧IntAt w' b o x∧Fr [b] w w':=by
 have hneg:¬ ((x:Int)<0):=by omega
 go_enter Tryz.func128,Tryz.ntmps128
 go_wp2_with fail
 refine (fromUint_any _ x (by omega)).mono ?_
 rintro e w1 ⟨v,l,rfl,u1,i1,f1⟩
 have hl:=i1.len_of (m:=2) (by omega)
 go_wp2_with fail
 refine (set_any _ b o _ false v l x (hr.fr0 f1) u1 (by omega) (by simp [i1.val])).mono ?_
 rintro e w2 ⟨rfl,h2,f2,-⟩
 go_wp2
 go_ret
 exact⟨rfl,h2,(f1.mono (by simp)).trans f2 (by simp)⟩
theorem IntRoom.new (w:World):IntRoom (w.alloc (.cells #[.bool false,.slice none 0 0] 236)) w.heap.size 0 :=
 ⟨_,_,heap_alloc_new _ _,by decide,by simp⟩
theorem newInt_nat (w:World) (x:Nat) (hx:x<9223372036854775808) :
  Calls Tryz.prog 82 #[.int .i64 x] w fun e w'=>e=.returned (.pointer (some ⟨w.heap.size,0,none⟩))∧IntAt w' w.heap.size 0 x∧Fr [] w w':=by
 have hr:=IntRoom.new w
 go_enter Tryz.func82,Tryz.ntmps82
 go_wp2_with fail
 refine (setInt64_nat _ _ 0 x hr hx).mono ?_
 rintro e w1 ⟨rfl,h1,f1⟩
 go_wp2
 go_ret
 exact⟨rfl,h1,((Fr.refl [] w).alloc _).trans f1 (by simp)⟩
theorem sign_any (w:World) (b o:Nat) (n:Int) (h:IntAt w b o n) :
  Calls Tryz.prog 130 #[.pointer (some ⟨b,o,none⟩)] w fun e w'=>e=.returned (.int .i64 n.sign)∧Fr [] w w':=by
 obtain⟨v,l,c0,c1,z0,z1,hu,hi⟩:=h.cells
 obtain⟨ao,cap,rfl,hcap,-⟩:=hu.shape
 have hl:=hi.len_zero
 rcases Nat.eq_zero_or_pos l.length with h0 | h0
 ·have hn:n=0:=by have:=hl.1 h0;omega
  subst hn
  rw [h0] at c1 hcap
  go_enter Tryz.func130,Tryz.ntmps130
  go_wp2
  go_ret
  exact⟨rfl,Fr.refl _ _⟩
 ·have hne:((l.length:Int)==0)=false:=by simp;intro e;simp [e] at h0
  have hnz:n ≠ 0:=by intro e;subst e;have:=hl.2 rfl;omega
  go_enter Tryz.func130,Tryz.ntmps130
  by_cases hn:n<0
  ·go_wp2
   go_ret
   exact⟨ret_int (Int.sign_eq_neg_one_of_neg hn).symm,Fr.refl _ _⟩
  ·go_wp2
   go_ret
   exact⟨ret_int (Int.sign_eq_one_of_pos (by omega)).symm,Fr.refl _ _⟩
end Go.Proofs.YtcmndpjemdjalaaGreatDoor.Pb
namespace Go.Proofs.YtcmndpjemdjalaaGreatDoor.Pb
open Go.RowKit
theorem sign_back {l:List Nat} {n:Int} (hi:Is l n.natAbs):n=if (decide (n<0))=true then -(val l:Int) else (val l:Int):=by
 rw [hi.val]
 split
 ·rename_i h;simp at h;omega
 ·rename_i h;simp at h;omega
theorem sign_mul {x y:Int} {p:Nat} (hp:p=x.natAbs * y.natAbs):x * y=if (decide (x<0) != decide (y<0))=true then -(p:Int) else (p:Int):=by
 subst hp
 rw [Int.natCast_mul]
 by_cases h1:x<0 <;> by_cases h2:y<0 <;> simp only [h1,h2,decide_true,decide_false,bne_self_eq_false,Bool.false_eq_true,if_false,Bool.true_bne,Bool.false_bne,Bool.not_false,if_true]
 ·rw [show ((x.natAbs:Nat):Int)=-x by omega,show ((y.natAbs:Nat):Int)=-y by omega,Int.neg_mul_neg]
 ·rw [show ((x.natAbs:Nat):Int)=-x by omega,show ((y.natAbs:Nat):Int)=y by omega,Int.neg_mul,Int.neg_neg]
 ·rw [show ((x.natAbs:Nat):Int)=x by omega,show ((y.natAbs:Nat):Int)=-y by omega,Int.mul_neg,Int.neg_neg]
 ·rw [show ((x.natAbs:Nat):Int)=x by omega,show ((y.natAbs:Nat):Int)=y by omega]
theorem intSet_any (w:World) (b o b2 o2:Nat) (n:Int) (hr:IntRoom w b o) (h:IntAt w b2 o2 n) (hn:Fits n.natAbs) :
  Calls Tryz.prog 166 #[.pointer (some ⟨b,o,none⟩),.pointer (some ⟨b2,o2,none⟩)] w fun e w'=>e=.returned (.pointer (some ⟨b,o,none⟩))∧IntAt w' b o n∧Fr [b] w w':=by
 obtain⟨v,l,c0,c1,z0,z1,hu,hi⟩:=h.cells
 have hl:=hn.len hi
 have hsb:=sign_back hi
 have Hsb:=Go.Lib.hid hsb;clear hsb
 clear z0 z1
 go_enter Tryz.func166,Tryz.ntmps166
 go_wp2_with fail
 refine region_mono [] 10 [[],[],[1],[2],[3],[],[5],[6],[7],[8]] [none,none,none,none,none,none,none,none,none,some (IsW n.natAbs)] (by kernel_rfl) (by kernel_rfl) ?_
 simp only [Chain,fill,Act.put,List.nil_append,List.cons_append,List.take_succ_cons,List.take_zero,List.drop_succ_cons,List.drop_zero,List.setIfInBounds_toArray,List.set_cons_zero,List.set_cons_succ,Nat.reduceAdd]
 iterate 9 (apply Exists.intro;apply And.intro;·intro vs w2 hf hh K hK;have c0:=hf.stayd c0;have c1:=hf.stayd c1;simp only [Held,List.getD_cons_zero,List.getD_cons_succ,Just,and_true] at hh;(try simp only [hh] at hK ⊢);go_simp;exact hK _ _ ⟨rfl,Fr.refl _ _⟩)
 refine⟨IsW.lasts _,?_,?_⟩
 ·intro vs w2 hf hh K hK;have c0:=hf.stayd c0;have c1:=hf.stayd c1;simp only [Held,List.getD_cons_zero,List.getD_cons_succ,Just,and_true] at hh;(try simp only [hh] at hK ⊢);go_simp;refine (copied_any _ 0 _ l (hu.fr0 (((Fr.refl [] w).drew).then hf)) (by omega)).mono ?_;rintro e w3 ⟨v3,rfl,u3,f3⟩;exact hK _ _ ⟨⟨l,u3.mono (Nat.zero_le _),hi⟩,f3⟩
 intro vs w2 hf hh
 simp only [HeldAll,Just,and_true,Nat.reduceAdd] at hh
 obtain⟨e0,e1,e2,e3,e4,e5,e6,e7,e8,e9⟩:=hh
 simp only [e0,e1,e2,e3,e4,e5,e6,e7,e8]
 clear e0 e1 e2 e3 e4 e5 e6 e7 e8
 generalize vs 9=v9 at e9 ⊢
 clear vs
 have c0:=hf.stayd c0
 have c1:=hf.stayd c1
 obtain⟨l2,u2,i2⟩:=e9
 have fw:Fr [] w w2:=((Fr.refl [] w).drew).then hf
 go_wp2_with (go_at_call 169;refine (set_any _ b o 0 _ _ l2 n (hr.fr0 fw) u2 ?_ ?_).mono ?_;exact Nat.le_trans (hn.len i2) (by omega);rw [i2.val,← hi.val];exact Hsb.out;rintro e w3 ⟨rfl,h3,f3,-⟩)
 go_ret
 exact⟨rfl,h3,(fw.mono (by simp)).trans f3 (by simp)⟩
theorem intMul_any (w:World) (b o b2 o2 b3 o3:Nat) (x y:Int) (hr:IntRoom w b o) (h:IntAt w b2 o2 x) (h':IntAt w b3 o3 y) (hx:Fits x.natAbs) (hy:Fits y.natAbs) (hxy:Fits (x.natAbs * y.natAbs)) :
  Calls Tryz.prog 125 #[.pointer (some ⟨b,o,none⟩),.pointer (some ⟨b2,o2,none⟩),.pointer (some ⟨b3,o3,none⟩)] w fun e w'=>e=.returned (.pointer (some ⟨b,o,none⟩))∧IntAt w' b o (x * y)∧Fr [b] w w':=by
 obtain⟨v,l,c0,c1,z0,z1,hu,hi⟩:=h.cells
 obtain⟨u,k,c2,c3,z2,z3,hu',hi'⟩:=h'.cells
 have hl:=hx.len hi
 have hl':=hy.len hi'
 clear z0 z1 z2 z3
 go_enter Tryz.func125,Tryz.ntmps125
 go_wp2_with fail
 refine region_mono [] 19 [[],[],[1],[2],[3],[],[5],[6],[7],[4,8],[],[10],[11],[12],[],[14],[15],[16],[13,17]] [none,none,none,none,none,none,none,none,none,none,none,none,none,none,none,none,none,none,some (IsW (x.natAbs * y.natAbs))] (by kernel_rfl) (by kernel_rfl) ?_
 simp only [Chain,fill,Act.put,List.nil_append,List.cons_append,List.take_succ_cons,List.take_zero,List.drop_succ_cons,List.drop_zero,List.setIfInBounds_toArray,List.set_cons_zero,List.set_cons_succ,Nat.reduceAdd]
 iterate 18 (apply Exists.intro;apply And.intro;·intro vs w2 hf hh K hK;have c0:=hf.stayd c0;have c1:=hf.stayd c1;have c2:=hf.stayd c2;have c3:=hf.stayd c3;simp only [Held,List.getD_cons_zero,List.getD_cons_succ,Just,and_true] at hh;(try simp only [hh] at hK ⊢);go_simp;exact hK _ _ ⟨rfl,Fr.refl _ _⟩)
 refine⟨IsW.lasts _,?_,?_⟩
 ·intro vs w2 hf hh K hK;have c0:=hf.stayd c0;have c1:=hf.stayd c1;have c2:=hf.stayd c2;have c3:=hf.stayd c3;simp only [Held,List.getD_cons_zero,List.getD_cons_succ,Just,and_true] at hh;(try simp only [hh] at hK ⊢);go_simp;refine (mul_any _ 0 0 _ _ l k (hu.fr0 (((Fr.refl [] w).drew).then hf)) (hu'.fr0 (((Fr.refl [] w).drew).then hf)) hl hl').mono ?_;rintro e w3 ⟨v3,l3,rfl,u3,i3,f3⟩;exact hK _ _ ⟨⟨l3,u3.mono (Nat.zero_le _),by rw [hi.val,hi'.val] at i3;exact i3⟩,f3⟩
 intro vs w2 hf hh
 simp only [HeldAll,Just,and_true,Nat.reduceAdd] at hh
 obtain⟨e0,e1,e2,e3,e4,e5,e6,e7,e8,e9,e10,e11,e12,e13,e14,e15,e16,e17,e18⟩:=hh
 simp only [e0,e1,e2,e3,e4,e5,e6,e7,e8,e9,e10,e11,e12,e13,e14,e15,e16,e17]
 clear e0 e1 e2 e3 e4 e5 e6 e7 e8 e9 e10 e11 e12 e13 e14 e15 e16 e17
 generalize vs 18=v18 at e18 ⊢
 clear vs
 have c0:=hf.stayd c0
 have c1:=hf.stayd c1
 have c2:=hf.stayd c2
 have c3:=hf.stayd c3
 obtain⟨l2,u2,i2⟩:=e18
 have fw:Fr [] w w2:=((Fr.refl [] w).drew).then hf
 go_wp2_with (go_at_call 169;refine (set_any _ b o 0 _ _ l2 (x * y) (hr.fr0 fw) u2 ?_ (sign_mul i2.val)).mono ?_;exact Nat.le_trans (hxy.len i2) (by omega);rintro e w3 ⟨rfl,h3,f3,-⟩)
 go_ret
 exact⟨rfl,h3,(fw.mono (by simp)).trans f3 (by simp)⟩
end Go.Proofs.YtcmndpjemdjalaaGreatDoor.Pb
namespace Go.Proofs.YtcmndpjemdjalaaGreatDoor.Pb
open Go.RowKit
theorem intLsh_any (w:World) (b o b2 o2:Nat) (x:Int) (n:Nat) (hr:IntRoom w b o) (h:IntAt w b2 o2 x) (hx:Fits x.natAbs) (hn:n≤1099511627776) (hxn:Fits (x.natAbs * 2 ^ n)) :
  Calls Tryz.prog 126 #[.pointer (some ⟨b,o,none⟩),.pointer (some ⟨b2,o2,none⟩),.int .u64 n] w fun e w'=>e=.returned (.pointer (some ⟨b,o,none⟩))∧IntAt w' b o (x * 2 ^ n)∧Fr [b] w w':=by
 obtain⟨v,l,c0,c1,z0,z1,hu,hi⟩:=h.cells
 have hl:=hx.len hi
 have hs:x * 2 ^ n=if (decide (x<0))=true then -((x.natAbs * 2 ^ n:Nat):Int) else ((x.natAbs * 2 ^ n:Nat):Int):=by
  rw [Int.natCast_mul]
  by_cases h1:x<0
  ·simp only [h1,decide_true,if_true]
   rw [show ((x.natAbs:Nat):Int)=-x by omega,Int.neg_mul,Int.neg_neg];simp
  ·simp only [h1,decide_false,Bool.false_eq_true,if_false]
   rw [show ((x.natAbs:Nat):Int)=x by omega];simp
 have Hs:=Go.Lib.hid hs;clear hs
 clear z0 z1
 have hn63:IntKind.i64.wrap (n:Int)=n:=IntWalk.i64_in _ (by omega)
 go_enter Tryz.func126,Tryz.ntmps126
 go_wp2_with fail
 refine region_mono [] 12 [[],[],[1],[2],[3],[],[5],[6],[7],[],[9],[8,10]] [none,none,none,none,none,none,none,none,none,none,none,some (IsW (x.natAbs * 2 ^ n))] (by kernel_rfl) (by kernel_rfl) ?_
 simp only [Chain,fill,Act.put,List.nil_append,List.cons_append,List.take_succ_cons,List.take_zero,List.drop_succ_cons,List.drop_zero,List.setIfInBounds_toArray,List.set_cons_zero,List.set_cons_succ,Nat.reduceAdd]
 iterate 11 (apply Exists.intro;apply And.intro;·intro vs w2 hf hh K hK;have c0:=hf.stayd c0;have c1:=hf.stayd c1;simp only [Held,List.getD_cons_zero,List.getD_cons_succ,Just,and_true] at hh;(try simp only [hh] at hK ⊢);go_simp;exact hK _ _ ⟨rfl,Fr.refl _ _⟩)
 refine⟨IsW.lasts _,?_,?_⟩
 ·intro vs w2 hf hh K hK;have c0:=hf.stayd c0;have c1:=hf.stayd c1;simp only [Held,List.getD_cons_zero,List.getD_cons_succ,Just,and_true] at hh;(try simp only [hh] at hK ⊢);go_simp;refine (up_any _ 0 _ l n (hu.fr0 (((Fr.refl [] w).drew).then hf)) (by omega) (by omega)).mono ?_;rintro e w3 ⟨v3,l3,rfl,u3,i3,f3⟩;exact hK _ _ ⟨⟨l3,u3.mono (Nat.zero_le _),by rw [hi.val] at i3;exact i3⟩,f3⟩
 intro vs w2 hf hh
 simp only [HeldAll,Just,and_true,Nat.reduceAdd] at hh
 obtain⟨e0,e1,e2,e3,e4,e5,e6,e7,e8,e9,e10,e11⟩:=hh
 simp only [e0,e1,e2,e3,e4,e5,e6,e7,e8,e9,e10]
 clear e0 e1 e2 e3 e4 e5 e6 e7 e8 e9 e10
 generalize vs 11=v11 at e11 ⊢
 clear vs
 have c0:=hf.stayd c0
 have c1:=hf.stayd c1
 obtain⟨l2,u2,i2⟩:=e11
 have fw:Fr [] w w2:=((Fr.refl [] w).drew).then hf
 go_wp2_with (go_at_call 169;refine (set_any _ b o 0 _ _ l2 (x * 2 ^ n) (hr.fr0 fw) u2 ?_ (by rw [i2.val];exact Hs.out)).mono ?_;exact Nat.le_trans (hxn.len i2) (by omega);rintro e w3 ⟨rfl,h3,f3,-⟩)
 go_ret
 exact⟨rfl,h3,(fw.mono (by simp)).trans f3 (by simp)⟩
theorem intBitLen_any (w:World) (b o:Nat) (x:Int) (h:IntAt w b o x) (hx:Fits x.natAbs) :
  Calls Tryz.prog 85 #[.pointer (some ⟨b,o,none⟩)] w fun e w'=>e=.returned (.int .i64 ((bitLen x.natAbs:Nat):Int))∧w=w':=by
 obtain⟨v,l,c0,c1,z0,z1,hu,hi⟩:=h.cells
 have hl:=hx.len hi
 go_enter Tryz.func85,Tryz.ntmps85
 go_wp2_with fail
 refine (bitLen_any _ 0 _ l x.natAbs hu hi (by omega)).mono ?_
 rintro e w' ⟨rfl,rfl⟩
 go_wp2
 go_ret
 exact⟨rfl,rfl⟩
theorem intUint64_any (w:World) (b o:Nat) (x:Int) (h:IntAt w b o x) (hx:Fits x.natAbs) :
  Calls Tryz.prog 177 #[.pointer (some ⟨b,o,none⟩)] w fun e w'=>e=.returned (.int .u64 ((x.natAbs % 18446744073709551616:Nat):Int))∧w=w':=by
 obtain⟨v,l,c0,c1,z0,z1,hu,hi⟩:=h.cells
 have hl:=hx.len hi
 have hv:=hi.val
 go_enter Tryz.func177,Tryz.ntmps177
 clear hv
 go_wp2_with fail
 refine (toUint_any _ 0 _ l hu (by omega)).mono ?_
 rintro e w' ⟨rfl,rfl⟩
 go_wp2
 go_ret
 exact⟨ret_int (by rw [hi.val];omega),rfl⟩
theorem intCmp_nat (w:World) (b o b2 o2:Nat) (x y:Nat) (h:IntAt w b o x) (h':IntAt w b2 o2 y) (hx:Fits x) (hy:Fits y) :
  Calls Tryz.prog 214 #[.pointer (some ⟨b,o,none⟩),.pointer (some ⟨b2,o2,none⟩)] w fun e w'=>e=.returned (.int .i64 (cmpI x y))∧Fr [] w w':=by
 obtain⟨v,l,c0,c1,z0,z1,hu,hi⟩:=h.cells
 obtain⟨u,k,c2,c3,z2,z3,hu',hi'⟩:=h'.cells
 rw [Int.natAbs_natCast] at hi hi'
 have hl:=hx.len hi
 have hl':=hy.len hi'
 rw [show decide ((x:Int)<0)=false by simp] at c0
 rw [show decide ((y:Int)<0)=false by simp] at c2
 clear z0 z1 z2 z3
 go_enter Tryz.func214,Tryz.ntmps214
 go_wp2_with fail
 go_quiet (fail)
 go_wp2_with fail
 generalize hW:w.drewN _=W
 have fW:Fr [] w W:=by rw [← hW];exact (Fr.refl [] w).drewN _
 have c1:=fW.stay c1 (by simp)
 have c3:=fW.stay c3 (by simp)
 clear hW c0 c2
 refine region_mono [] 9 [[],[0],[1],[2],[],[4],[5],[6],[3,7]] [none,none,none,none,none,none,none,none,none] (by kernel_rfl) (by kernel_rfl) ?_
 simp only [Chain,fill,Act.put,List.nil_append,List.cons_append,List.take_succ_cons,List.take_zero,List.drop_succ_cons,List.drop_zero,List.setIfInBounds_toArray,List.set_cons_zero,List.set_cons_succ,Nat.reduceAdd]
 iterate 8 (apply Exists.intro;apply And.intro;·intro vs w2 hf hh K hK;have c1:=hf.stayd c1;have c3:=hf.stayd c3;simp only [Held,List.getD_cons_zero,List.getD_cons_succ,Just,and_true] at hh;(try simp only [hh] at hK ⊢);go_simp;exact hK _ _ ⟨rfl,Fr.refl _ _⟩)
 apply Exists.intro;apply And.intro
 ·intro vs w2 hf hh K hK;have c1:=hf.stayd c1;have c3:=hf.stayd c3;simp only [Held,List.getD_cons_zero,List.getD_cons_succ,Just,and_true] at hh;(try simp only [hh] at hK ⊢);go_simp;refine (cmpWords_any _ 0 0 _ _ l k x y (hu.fr0 ((fW.drew).then hf)) (hu'.fr0 ((fW.drew).then hf)) hi hi' (by omega) (by omega)).mono ?_;rintro e w3 ⟨rfl,f3⟩;exact hK _ _ ⟨rfl,f3⟩
 intro vs w2 hf hh
 simp only [HeldAll,Just,and_true,Nat.reduceAdd] at hh
 obtain⟨e0,e1,e2,e3,e4,e5,e6,e7,e8⟩:=hh
 simp only [e0,e1,e2,e3,e4,e5,e6,e7,e8]
 clear e0 e1 e2 e3 e4 e5 e6 e7 e8
 clear vs
 have c1:=hf.stayd c1
 have c3:=hf.stayd c3
 go_wp2
 go_ret
 exact⟨rfl,(fW.drew).then hf⟩
end Go.Proofs.YtcmndpjemdjalaaGreatDoor.Pb
namespace Go.Proofs.YtcmndpjemdjalaaGreatDoor.Pb
open Go.RowKit
def IsW2 (m n:Nat):Value→World→Prop:=fun v w=>∃ a b,v=.tuple #[a,b]∧IsW m a w∧IsW n b w
theorem IsW2.lasts (m n:Nat):Lasts [] (IsW2 m n):=fun _ _ _ ⟨a,b,h,h1,h2⟩ hf=>⟨a,b,h,IsW.lasts m _ _ _ h1 hf,IsW.lasts n _ _ _ h2 hf⟩
theorem _root_.Go.Proofs.YtcmndpjemdjalaaGreatDoor.IntAt.nat {w:World} {b o n:Nat} (h:IntAt w b o n) :
  ∃ v l,w.cell? ⟨b,o,none⟩=some (.bool false)∧w.cell? ⟨b,o+1,none⟩=some v∧w.frozen? ⟨b,o,none⟩=false∧w.frozen? ⟨b,o+1,none⟩=false∧U32 w 0 v l∧Is l n:=by
 obtain⟨v,l,h1,h2,h3,h4,h5,h6⟩:=h.cells
 rw [show decide ((n:Int)<0)=false by simp] at h1
 exact⟨v,l,h1,h2,h3,h4,h5,by simpa using h6⟩
theorem intQuoRem_nat (w:World) (b o b2 o2 b3 o3 b4 o4:Nat) (x y:Nat) (hr:IntRoom w b o) (hr4:IntRoom w b4 o4) (hne:b ≠ b4) (h:IntAt w b2 o2 x) (h':IntAt w b3 o3 y) (hx:Fits x) (hy:Fits y) (hy0:0<y) :
  Calls Tryz.prog 219 #[.pointer (some ⟨b,o,none⟩),.pointer (some ⟨b2,o2,none⟩),.pointer (some ⟨b3,o3,none⟩),.pointer (some ⟨b4,o4,none⟩)] w fun e w' =>
   e=.returned (.tuple #[.pointer (some ⟨b,o,none⟩),.pointer (some ⟨b4,o4,none⟩)])∧IntAt w' b o ((x / y:Nat):Int)∧IntAt w' b4 o4 ((x % y:Nat):Int)∧Fr [b,b4] w w':=by
 obtain⟨v,l,c0,c1,-,-,hu,hi⟩:=h.nat
 obtain⟨u,k,c2,c3,-,-,hu',hi'⟩:=h'.nat
 have hl:=hx.len hi
 have hl':=hy.len hi'
 go_enter Tryz.func219,Tryz.ntmps219
 go_wp2_with fail
 go_quiet (fail)
 go_wp2_with fail
 generalize hW:w.drewN _=W
 have fW:Fr [] w W:=by rw [← hW];exact (Fr.refl [] w).drewN _
 have c1:=fW.stay c1 (by simp)
 have c3:=fW.stay c3 (by simp)
 clear hW c0 c2
 refine region_mono [] 13 [[],[0],[1],[2],[],[4],[5],[6],[3,7],[8],[9],[9],[10]] [none,none,none,none,none,none,none,none,some (IsW2 (x / y) (x % y)),some (IsW2 (x / y) (x % y)),some (IsW (x / y)),some (IsW (x % y)),some (IsW (x / y))] (by kernel_rfl) (by kernel_rfl) ?_
 simp only [Chain,fill,Act.put,List.nil_append,List.cons_append,List.take_succ_cons,List.take_zero,List.drop_succ_cons,List.drop_zero,List.setIfInBounds_toArray,List.set_cons_zero,List.set_cons_succ,Nat.reduceAdd]
 iterate 8 (apply Exists.intro;apply And.intro;·intro vs w2 hf hh K hK;have c1:=hf.stayd c1;have c3:=hf.stayd c3;simp only [Held,List.getD_cons_zero,List.getD_cons_succ,Just,and_true] at hh;(try simp only [hh] at hK ⊢);go_simp;exact hK _ _ ⟨rfl,Fr.refl _ _⟩)
 refine⟨IsW2.lasts _ _,?_,?_⟩
 ·intro vs w2 hf hh K hK;have c1:=hf.stayd c1;have c3:=hf.stayd c3;simp only [Held,List.getD_cons_zero,List.getD_cons_succ,Just,and_true] at hh;(try simp only [hh] at hK ⊢);go_simp;refine (div_any _ 0 0 _ _ l k x y (hu.fr0 ((fW.drew).then hf)) (hu'.fr0 ((fW.drew).then hf)) hi hi' hl hl' hy0).mono ?_;rintro e w3 ⟨q,r,lq,lr,rfl,u3,u4,i3,i4,f3⟩;exact hK _ _ ⟨⟨q,r,rfl,⟨lq,u3.mono (Nat.zero_le _),i3⟩,⟨lr,u4.mono (Nat.zero_le _),i4⟩⟩,f3⟩
 refine⟨IsW2.lasts _ _,?_,?_⟩
 ·intro vs w2 hf hh K hK;have c1:=hf.stayd c1;have c3:=hf.stayd c3;simp only [Held,List.getD_cons_zero,List.getD_cons_succ,and_true] at hh;(try simp only [] at hK ⊢);go_simp;exact hK _ _ ⟨hh,Fr.refl _ _⟩
 refine⟨IsW.lasts _,?_,?_⟩
 ·intro vs w2 hf hh K hK;have c1:=hf.stayd c1;have c3:=hf.stayd c3;simp only [Held,List.getD_cons_zero,List.getD_cons_succ,and_true] at hh;(try simp only [] at hK ⊢);obtain⟨q,r,hq,h1,h2⟩:=hh;simp only [hq] at hK ⊢;go_simp;exact hK _ _ ⟨h1,Fr.refl _ _⟩
 refine⟨IsW.lasts _,?_,?_⟩
 ·intro vs w2 hf hh K hK;have c1:=hf.stayd c1;have c3:=hf.stayd c3;simp only [Held,List.getD_cons_zero,List.getD_cons_succ,and_true] at hh;(try simp only [] at hK ⊢);obtain⟨q,r,hq,h1,h2⟩:=hh;simp only [hq] at hK ⊢;go_simp;exact hK _ _ ⟨h2,Fr.refl _ _⟩
 refine⟨IsW.lasts _,?_,?_⟩
 ·intro vs w2 hf hh K hK;have c1:=hf.stayd c1;have c3:=hf.stayd c3;simp only [Held,List.getD_cons_zero,List.getD_cons_succ,and_true] at hh;(try simp only [] at hK ⊢);go_simp;exact hK _ _ ⟨hh,Fr.refl _ _⟩
 intro vs w2 hf hh
 simp only [HeldAll,Just,and_true,Nat.reduceAdd] at hh
 obtain⟨e0,e1,e2,e3,e4,e5,e6,e7,e8,e9,e10,e11,e12⟩:=hh
 simp only [e0,e1,e2,e3,e4,e5,e6,e7]
 clear e0 e1 e2 e3 e4 e5 e6 e7
 generalize vs 8=v8 at e8 ⊢
 generalize vs 9=v9 at e9 ⊢
 generalize vs 10=v10 at e10 ⊢
 generalize vs 11=v11 at e11 ⊢
 generalize vs 12=v12 at e12 ⊢
 clear vs
 have c1:=hf.stayd c1
 have c3:=hf.stayd c3
 obtain⟨lq,uq,iq⟩:=e12
 obtain⟨lr,ur,ir⟩:=e11
 have fw:Fr [] w w2:=(fW.drew).then hf
 have hlq:=(hx.le (Nat.div_le_self x y)).len iq
 have hlr:=(hx.le (Nat.mod_le x y)).len ir
 go_wp2_with fail
 refine (set_any _ b4 o4 0 false _ lr ((x % y:Nat):Int) (hr4.fr0 fw) ur (by omega) (by simp [ir.val])).mono ?_
 rintro e w3 ⟨rfl,h3,f3,-⟩
 have hr3:IntRoom w3 b o:=(hr.fr0 fw).fr f3 (by simpa using hne)
 go_wp2_with fail
 refine (set_any _ b o 0 false _ lq ((x / y:Nat):Int) hr3 (uq.fr f3 (hr4.fr0 fw).noWord) (by omega) (by simp [iq.val])).mono ?_
 rintro e w4 ⟨rfl,h4,f4,-⟩
 go_wp2
 go_ret2
 refine⟨rfl,h4,h3.fr f4 ?_ (by simpa using Ne.symm hne),?_⟩
 ·exact hr3.noWord
 ·exact ((fw.mono (T:=[b,b4]) (by simp)).trans f3 (by simp)).trans f4 (by simp)
theorem intAdded_nat (w:World) (b o lo lo2:Nat) (v u:Value) (l k:List Nat) (x y:Nat) (hr:IntRoom w b o) (hu:U32 w lo v l) (hu':U32 w lo2 u k) (hi:Is l x) (hi':Is k y) (hx:Fits x) (hy:Fits y) (hxy:Fits (x+y)) :
  Calls Tryz.prog 263 #[.pointer (some ⟨b,o,none⟩),v,.bool false,u,.bool false] w fun e w'=>e=.returned (.pointer (some ⟨b,o,none⟩))∧IntAt w' b o ((x+y:Nat):Int)∧Fr [b] w w':=by
 have hl:=hx.len hi
 have hl':=hy.len hi'
 go_enter Tryz.func263,Tryz.ntmps263
 go_wp2_with fail
 refine (add_any _ lo lo2 _ _ l k hu hu' (by omega) (by omega)).mono ?_
 rintro e w2 ⟨v2,l2,rfl,u2,i2,f2⟩
 rw [hi.val,hi'.val] at i2
 have hl2:=hxy.len i2
 go_wp2_with fail
 refine (set_any _ b o _ false _ l2 ((x+y:Nat):Int) (hr.fr0 f2) u2 (by omega) (by simp [i2.val])).mono ?_
 rintro e w3 ⟨rfl,h3,f3,-⟩
 go_wp2
 go_ret
 exact⟨rfl,h3,(f2.mono (by simp)).trans f3 (by simp)⟩
theorem intAdd_nat (w:World) (b o b2 o2 b3 o3:Nat) (x y:Nat) (hr:IntRoom w b o) (h:IntAt w b2 o2 x) (h':IntAt w b3 o3 y) (hx:Fits x) (hy:Fits y) (hxy:Fits (x+y)) :
  Calls Tryz.prog 222 #[.pointer (some ⟨b,o,none⟩),.pointer (some ⟨b2,o2,none⟩),.pointer (some ⟨b3,o3,none⟩)] w fun e w'=>e=.returned (.pointer (some ⟨b,o,none⟩))∧IntAt w' b o ((x+y:Nat):Int)∧Fr [b] w w':=by
 obtain⟨v,l,c0,c1,-,-,hu,hi⟩:=h.nat
 obtain⟨u,k,c2,c3,-,-,hu',hi'⟩:=h'.nat
 go_enter Tryz.func222,Tryz.ntmps222
 go_wp2_with fail
 refine region_mono [] 17 [[],[],[1],[2],[3],[],[5],[6],[7],[],[9],[10],[11],[],[13],[14],[15]] [none,none,none,none,none,none,none,none,none,none,none,none,none,none,none,none,none] (by kernel_rfl) (by kernel_rfl) ?_
 simp only [Chain,fill,Act.put,List.nil_append,List.cons_append,List.take_succ_cons,List.take_zero,List.drop_succ_cons,List.drop_zero,List.setIfInBounds_toArray,List.set_cons_zero,List.set_cons_succ,Nat.reduceAdd]
 iterate 17 (apply Exists.intro;apply And.intro;·intro vs w2 hf hh K hK;have c0:=hf.stayd c0;have c1:=hf.stayd c1;have c2:=hf.stayd c2;have c3:=hf.stayd c3;simp only [Held,List.getD_cons_zero,List.getD_cons_succ,Just,and_true] at hh;(try simp only [hh] at hK ⊢);go_simp;exact hK _ _ ⟨rfl,Fr.refl _ _⟩)
 intro vs w2 hf hh
 simp only [HeldAll,Just,and_true,Nat.reduceAdd] at hh
 obtain⟨e0,e1,e2,e3,e4,e5,e6,e7,e8,e9,e10,e11,e12,e13,e14,e15,e16⟩:=hh
 simp only [e0,e1,e2,e3,e4,e5,e6,e7,e8,e9,e10,e11,e12,e13,e14,e15,e16]
 clear e0 e1 e2 e3 e4 e5 e6 e7 e8 e9 e10 e11 e12 e13 e14 e15 e16
 clear vs
 have c0:=hf.stayd c0
 have c1:=hf.stayd c1
 have c2:=hf.stayd c2
 have c3:=hf.stayd c3
 have fw:Fr [] w w2:=((Fr.refl [] w).drew).then hf
 go_wp2_with fail
 refine (intAdded_nat _ b o 0 0 _ _ l k x y (hr.fr0 fw) (hu.fr0 fw) (hu'.fr0 fw) hi hi' hx hy hxy).mono ?_
 rintro e w3 ⟨rfl,h3,f3⟩
 go_wp2
 go_ret
 exact⟨rfl,h3,(fw.mono (by simp)).trans f3 (by simp)⟩
end Go.Proofs.YtcmndpjemdjalaaGreatDoor.Pb
namespace Go.Proofs.YtcmndpjemdjalaaGreatDoor.Pb
open Go.RowKit
theorem pow_two_mul (x q:Nat):x ^ (2 * q)=x ^ q * x ^ q:=by rw [Nat.two_mul,Nat.pow_add]
theorem exp_le {x y:Nat} (hx:1≤x) (m:Nat):x ^ (y / 2 ^ m)≤x ^ y:=Nat.pow_le_pow_right hx (Nat.div_le_self _ _)
theorem intExp_nat (w:World) (b o b2 o2 b3 o3:Nat) (x y:Nat) (hr:IntRoom w b o) (h:IntAt w b2 o2 x) (h':IntAt w b3 o3 y) (hx:1≤x) (hy1:1≤y) (hy:Fits y) (hxy:Fits (x ^ y)) :
  Calls Tryz.prog 124 #[.pointer (some ⟨b,o,none⟩),.pointer (some ⟨b2,o2,none⟩),.pointer (some ⟨b3,o3,none⟩),.pointer none] w fun e w' =>
   e=.returned (.pointer (some ⟨b,o,none⟩))∧IntAt w' b o ((x ^ y:Nat):Int)∧Fr [b] w w':=by
 have hxf:Fits x:=hxy.le (by have:=Nat.pow_le_pow_right hx hy1;rwa [Nat.pow_one] at this)
 have hsg:¬ ((y:Int).sign≤0):=by have:(y:Int).sign=1:=Int.sign_eq_one_of_pos (by omega);omega
 have hr0:=IntRoom.new w
 have f0:Fr [] w (w.alloc (.cells #[.bool false,.slice none 0 0] 236)):=(Fr.refl [] w).alloc _
 go_enter Tryz.func124,Tryz.ntmps124
 go_wp2_with fail
 refine (newInt_nat _ 1 (by omega)).mono ?_
 rintro e w1 ⟨rfl,h1,f1⟩
 have hr1:=IntRoom.new w1
 go_wp2_with fail
 refine (intSet_any _ _ 0 b2 o2 x hr1 (((h.fr0 f0).fr0 f1).fr0 ((Fr.refl [] w1).alloc _)) (by simpa using hxf)).mono ?_
 rintro e w2 ⟨rfl,h2,f2⟩
 have fA:Fr [] w (w1.alloc (.cells #[.bool false,.slice none 0 0] 236)):=(f0.then f1).alloc _
 have fB:Fr [] w w2:=fA.after f2 (by simpa using (f0.then f1).size)
 have h3:=h'.fr0 fB
 obtain⟨vy,ly,cy0,cy1,-,-,huy,hiy⟩:=h3.nat
 have hly:=hy.len hiy
 go_wp2_with fail
 refine (sign_any _ b3 o3 y h3).mono ?_
 rintro e w3 ⟨rfl,f3⟩
 have cy1:=f3.stay cy1 (by simp)
 go_wp2_with fail
 refine (copied_any _ 0 _ ly (huy.fr0 f3) (by omega)).mono ?_
 rintro e w4 ⟨v4,rfl,u4,f4⟩
 obtain⟨ao,cap,rfl,hcap,hc⟩:=u4.shape
 have Hc:=Go.Lib.hid hc;clear hc
 have hsz1:w.heap.size+1<w1.heap.size:=by simpa using h1.lt
 have cb:w4.cell? ⟨w.heap.size,1,none⟩=some (.slice none 0 0):=f4.stay (f3.stay (f2.stay (((Fr.refl [] w1).alloc _).stay (f1.stay (cell_new w _ _ _ 1 _ rfl) (by simp)) (by simp)) (by simp;omega)) (by simp)) (by simp)
 have k1:IntAt w4 (w.heap.size+1) 0 (1:Nat):=by
  have:=h1
  rw [World.size_alloc] at this
  exact ((((this.fr0 ((Fr.refl [] w1).alloc _)).fr f2 hr1.noWord (by simp;omega)).fr0 f3).fr0 f4)
 have k2:IntAt w4 w1.heap.size 0 (x:Int):=((h2.fr0 f3).fr0 f4)
 have huc:=u4
 have fC:Fr [] w w4:=(fB.then f3).then f4
 go_wp2_with fail
 go_loopw [13] (fun i wr=>∃ k:Nat,i=.int .i64 ((k:Int) - 1)∧k≤32 * ly.length∧IntAt wr (w.heap.size+1) 0 ((x ^ (y / 2 ^ k):Nat):Int)∧Fr [w.heap.size+1] w4 wr) (fun i _=>(intOf i+1).toNat)
 case atStart =>
  refine⟨32 * ly.length,by go_num,Nat.le_refl _,?_,Fr.refl _ _⟩
  rw [Nat.div_eq_of_lt (by have:=hiy.lt;rwa [show (4294967296:Nat)=2 ^ 32 from rfl,← Nat.pow_mul] at this)]
  exact k1
 case round =>
  obtain⟨k,rfl,hk,hout,hfr⟩:=hrel
  have cb':=hfr.stay cb (by simp)
  by_cases hk0:k=0
  ·subst hk0
   rw [Nat.pow_zero,Nat.div_one] at hout
   have hfr':Fr [] w wr:=fC.after hfr (by simp)
   go_wp2_with fail
   refine (intSet_any _ b o _ 0 _ (hr.fr0 hfr') hout (by simpa using hxy)).mono ?_
   rintro e w5 ⟨rfl,h5,f5⟩
   go_wp2
   go_ret
   exact⟨rfl,h5,(hfr'.mono (by simp)).trans f5 (by simp)⟩
  ·obtain⟨m,rfl⟩:∃ m,k=m+1:=⟨k - 1,by omega⟩
   have hm32:m / 32<ly.length:=by omega
   obtain⟨bb,oo,rfl,hbl,hcell⟩:=Hc.out _ hm32
   have hbb:bb ≠ w.heap.size+1:=by
    rintro rfl
    obtain⟨b',o',cap',cur,fr,hv,-,-,hh,-⟩:=huc.2.resolve_left (by simp)
    simp only [Value.slice.injEq,Option.some.injEq,Addr.mk.injEq] at hv
    rw [← hv.1.1] at hh
    exact k1.noWord _ (by simp) _ _ hh
   have hcell':=hfr.stay hcell (by simpa using hbb)
   have hq:=half_bit y m
   have hle:=exp_le (y:=y) hx m
   have f1q:Fits (x ^ (y / 2 ^ (m+1))):=hxy.le (exp_le hx _)
   have f2q:Fits (x ^ (y / 2 ^ (m+1)) * x ^ (y / 2 ^ (m+1))):=by
    rw [← pow_two_mul];exact hxy.le (Nat.le_trans (Nat.pow_le_pow_right hx (by omega)) hle)
   have hxm:IntAt wr w1.heap.size 0 x:=k2.fr hfr k1.noWord (by simp;omega)
   have Hq:=Go.Lib.hid hq;clear hq
   have Hle:=Go.Lib.hid hle;clear hle
   go_wp2_with fail
   refine (intMul_any _ _ 0 _ 0 _ 0 _ _ hout.room hout hout (by simpa using f1q) (by simpa using f1q) (by simpa using f2q)).mono ?_
   rintro e w5 ⟨rfl,h5,f5⟩
   have hcell5:=f5.stay hcell' (by simpa using hbb)
   have cb5:=f5.stay cb' (by simp)
   have hbt:=bit_test ly hiy.digs m
   rw [hiy.val] at hbt
   clear hcell hcell' cb'
   by_cases hbit:y / 2 ^ m % 2=1
   ·rw [decide_eq_true hbit] at hbt
    have f3q:Fits (x ^ (y / 2 ^ m)):=hxy.le Hle.out
    rw [Hq.out,hbit,Nat.pow_add,pow_two_mul,Nat.pow_one] at f3q
    have Hbit:=Go.Lib.hid hbit;clear hbit
    go_wp2_with fail
    refine (intMul_any _ _ 0 _ 0 _ 0 _ _ h5.room h5 (hxm.fr f5 hout.noWord (by simp;omega)) (by simpa [Int.natAbs_mul] using f2q) (by simpa using hxf) (by simpa [Int.natAbs_mul] using f3q)).mono ?_
    rintro e w6 ⟨rfl,h6,f6⟩
    have cb6:=f6.stay cb5 (by simp)
    go_wp2
    go_roundw
    case rel=>exact⟨m,by go_num,by omega,by rw [Hq.out,Hbit.out,Nat.pow_add,pow_two_mul,Nat.pow_one];simpa using h6,(hfr.trans f5 (by simp)).trans f6 (by simp)⟩
    case measure=>simp [intOf]
   ·rw [decide_eq_false hbit] at hbt
    have Hbit:Hid (y / 2 ^ m % 2=0):=Go.Lib.hid (by omega)
    clear hbit
    go_wp2
    go_roundw
    case rel=>exact⟨m,by go_num,by omega,by rw [Hq.out,Hbit.out,Nat.pow_add,pow_two_mul,Nat.pow_zero,Nat.mul_one];simpa using h5,hfr.trans f5 (by simp)⟩
    case measure=>simp [intOf]
end Go.Proofs.YtcmndpjemdjalaaGreatDoor.Pb
namespace Go.Proofs.YtcmndpjemdjalaaGreatDoor.Pb
open Go.RowKit
theorem intSetWords_any (w:World) (b o lo:Nat) (v:Value) (l:List Nat) (hr:IntRoom w b o) (h:U32 w lo v l) (hl:l.length≤1073741824) :
  Calls Tryz.prog 275 #[.pointer (some ⟨b,o,none⟩),v] w fun e w'=>e=.returned (.pointer (some ⟨b,o,none⟩))∧IntAt w' b o ((val l:Nat):Int)∧Fr [b] w w':=by
 go_enter Tryz.func275,Tryz.ntmps275
 go_wp2_with fail
 refine (copied_any _ lo _ l h (by omega)).mono ?_
 rintro e w1 ⟨v1,rfl,u1,f1⟩
 go_wp2_with fail
 refine (set_any _ b o _ false _ l ((val l:Nat):Int) (hr.fr0 f1) u1 (by omega) (by simp)).mono ?_
 rintro e w3 ⟨rfl,h3,f3,-⟩
 go_wp2
 go_ret
 exact⟨rfl,h3,(f1.mono (by simp)).trans f3 (by simp)⟩
theorem intSetBytes_any (w:World) (b o lo:Nat) (v:Value) (B:List Nat) (hr:IntRoom w b o) (h:U8 w lo v B) (hl:B.length≤1073741824) :
  Calls Tryz.prog 248 #[.pointer (some ⟨b,o,none⟩),v] w fun e w'=>e=.returned (.pointer (some ⟨b,o,none⟩))∧IntAt w' b o ((bval B:Nat):Int)∧Fr [b] w w':=by
 have hdB:=h.digs
 obtain⟨ao,cap,rfl,hcap,hc⟩:=h.shape
 have Hc:=Go.Lib.hid hc;clear hc
 obtain⟨m,hm⟩:∃ m,m=(B.length+3) / 4:=⟨_,rfl⟩
 have hm1:((B.length:Int)+3) / 4=m:=by omega
 have Hm:=Go.Lib.hid hm;clear hm
 have hml:m≤1073741824:=by have:=Hm.out;omega
 go_enter Tryz.func248,Tryz.ntmps248
 go_wp2_with (at_make;refine make_u32 _ rfl _ _ rfl _ _ m rfl rfl (by first | rfl | omega) (by first | rfl | omega) (by omega) ?_;intro w1 hown hf)
 go_loopw [16] (fun i wr=>∃ (i':Nat) (W:List Nat),i=.int .i64 i'∧i'≤B.length∧Hid (W.length=m)∧Digs W∧Own wr w.heap.size W∧Fr [] w wr∧Hid (val W=bval (B.take i') * 256 ^ (B.length - i'))) (fun i _=>B.length - (intOf i).toNat)
 case atStart=>exact⟨0,_,rfl,Nat.zero_le _,Go.Lib.hid (by simp),Digs.replicate _,hown,hf,Go.Lib.hid (by rw [val_replicate];simp [bval])⟩
 case round =>
  obtain⟨i,W,rfl,hi,hW,hdW,hownr,hfr,hv⟩:=hrel
  clear hown hf
  by_cases hlt:i<B.length
  ·obtain⟨bb,oo,rfl,hb,hcell⟩:=Hc.out i hlt
   have hcell:=hfr.stay hcell (by simp)
   obtain⟨k,hk⟩:∃ k,k=B.length - 1 - i:=⟨_,rfl⟩
   have hki:(B.length:Int) - 1 - (i:Int)=k:=by omega
   have hk4:k / 4<W.length:=by have h1:=hW.out;have h2:=Hm.out;omega
   have hst:=byte_step (_n:=0) (V:=bval (B.take i)) (c:=dg B i) hdW hk4 (byt_lt hdB i) (by rw [hv.out,show B.length - i=k+1 by omega])
   obtain⟨s1,s2,s3,s4⟩:=hst
   have cW:=hownr.cell (k / 4) hk4
   have hbc:=byt_lt hdB i
   have hlenx:(W.set (k / 4) (dg W (k / 4)+dg B i * 2 ^ (8 * (k % 4)))).length=m:=by rw [List.length_set];exact hW.out
   have s2':val (W.set (k / 4) (dg W (k / 4)+dg B i * 2 ^ (8 * (k % 4))))=bval (B.take (i+1)) * 256 ^ (B.length - (i+1)):=by
    rw [s2,bval_take_succ B i hlt,show B.length - (i+1)=k by omega]
   have e1:IntKind.i64.wrap ((k:Int) / 4)=((k / 4:Nat):Int):=by rw [IntWalk.i64_in _ (by omega)];simp
   have e2:(k:Int).tmod 4=((k % 4:Nat):Int):=by rw [Int.tmod_eq_emod_of_nonneg (by omega)];simp
   have e3:IntKind.i64.wrap (8 * ((k % 4:Nat):Int))=((8 * (k % 4):Nat):Int):=by rw [IntWalk.i64_in _ (by omega)];simp
   have e4:IntKind.u32.wrap ((dg B i:Nat):Int)=((dg B i:Nat):Int):=IntWalk.u32_in _ (by omega)
   have e5a:((dg B i:Nat):Int) * 2 ^ (8 * (k % 4))=((dg B i * 2 ^ (8 * (k % 4)):Nat):Int):=by rw [Int.natCast_mul,Int.natCast_pow];rfl
   have e5:IntKind.u32.wrap (((dg B i:Nat):Int) * 2 ^ (8 * (k % 4)))=((dg B i * 2 ^ (8 * (k % 4)):Nat):Int):=by rw [e5a];exact IntWalk.u32_in _ ⟨Int.natCast_nonneg _,by omega⟩
   have e6:((dg B i:Nat):Int) * 2 ^ min (8 * (k % 4)) 32 % 4294967296=((dg B i * 2 ^ (8 * (k % 4)):Nat):Int):=by rw [Nat.min_eq_left (by omega),e5a];omega
   clear e5a
   have hqm:k / 4<m:=by have:=hW.out;omega
   clear hk
   generalize hq:k / 4=q at *
   generalize hr4:8 * (k % 4)=s8 at *
   generalize hr5:k % 4=r at *
   generalize hW':W.set q (dg W q+dg B i * 2 ^ s8)=W' at *
   generalize hy:dg B i * 2 ^ s8=y at *
   generalize hx:dg W q+y=x at *
   have hqi:(q:Int)<m:=by omega
   have S2:=Go.Lib.hid s2'
   have HW':=Go.Lib.hid hW'
   have HLX:=Go.Lib.hid hlenx
   clear s2 s2' s4 hq hr4 hr5 hx hy hW' hlenx hW hv hk4
   go_wp2_with fail
   refine region_mono [] 12 [[],[],[1],[0,2],[3],[],[5],[],[7],[8],[6,9],[4,10]] [none,none,none,none,none,none,none,none,none,none,none,none] (by kernel_rfl) (by kernel_rfl) ?_
   simp only [Chain,fill,Act.put,List.nil_append,List.cons_append,List.take_succ_cons,List.take_zero,List.drop_succ_cons,List.drop_zero,List.setIfInBounds_toArray,List.set_cons_zero,List.set_cons_succ,Nat.reduceAdd]
   iterate 12 (apply Exists.intro;apply And.intro;·intro vs w2 hf hh K hK;have cW:=hf.stayd cW;simp only [Held,List.getD_cons_zero,List.getD_cons_succ,Just,and_true] at hh;(try simp only [hh] at hK ⊢);go_simp;exact hK _ _ ⟨rfl,Fr.refl _ _⟩)
   intro vs w2 hf hh
   simp only [HeldAll,Just,and_true,Nat.reduceAdd] at hh
   obtain⟨e0,e1,e2,e3,e4,e5,e6,e7,e8,e9,e10,e11⟩:=hh
   simp only [e0,e1,e2,e3,e4,e5,e6,e7,e8,e9,e10,e11]
   clear e0 e1 e2 e3 e4 e5 e6 e7 e8 e9 e10 e11
   clear vs
   have cW:=hf.stayd cW
   have fz:Fr [] wr w2:=((Fr.refl [] wr).drew).then hf
   have hown2:=hownr.fr fz (by simp)
   have zW:=hown2.free q
   have hownx:=hown2.set q (x:Int) (by omega)
   rw [Int.toNat_natCast,HW'.out] at hownx
   have fr2:=(hfr.then fz).setCell (p:=⟨w.heap.size,q,none⟩) (.inr (Nat.le_refl _)) (.int .u32 (x:Int))
   go_wp2
   go_roundw
   case rel=>exact⟨i+1,W',by go_num,by omega,HLX,s1,hownx,fr2,S2⟩
   case measure=>simp [intOf];omega
  ·obtain rfl:i=B.length:=by omega
   have hu:=hownr.all (lo:=0) hdW (Nat.zero_le _)
   have hval:val W=bval B:=by have:=hv.out;rw [List.take_of_length_le (Nat.le_refl _),Nat.sub_self,Nat.pow_zero,Nat.mul_one] at this;exact this
   have hWl:=hW.out
   rw [hWl] at hu
   have Hval:=Go.Lib.hid hval;clear hval hWl
   go_wp2_with fail
   refine (trim_any _ 0 _ W hu (by rw [hW.out];omega)).mono ?_
   rintro e w3 ⟨v3,l3,rfl,u3,i3,hl3,rfl⟩
   rw [hW.out] at hl3
   go_wp2_with fail
   refine (intSetWords_any _ b o 0 _ l3 (hr.fr0 hfr) u3 (by omega)).mono ?_
   rintro e w4 ⟨rfl,h4,f4⟩
   rw [i3.val,Hval.out] at h4
   go_wp2
   go_ret
   exact⟨rfl,h4,(hfr.mono (by simp)).trans f4 (by simp)⟩
end Go.Proofs.YtcmndpjemdjalaaGreatDoor.Pb
namespace Go.Proofs.YtcmndpjemdjalaaGreatDoor
open Go.RowKit
open Pb
theorem near_any (w:World) (n b:Int) (_hn0:-4611686018427387904≤n) (_hn:n≤4611686018427387904) (hb0:0≤b) (hb:b≤4611686018427387904) :
  Calls Tryz.prog 84 #[.int .i64 n,.int .i64 b] w fun e w'=>e=.returned (.int .i64 (max (-b - 1200) (min n (b+1200))))∧w'=w:=by
 go_enter Tryz.func84,Tryz.ntmps84
 go_wp2
 go_ret
 exact⟨rfl,rfl⟩
def OneInt (n:Int):Value→World→Prop:=fun v w=>∃ b,v=.pointer (some ⟨b,0,none⟩)∧IntAt w b 0 n
theorem OneInt.lasts (n:Int):Lasts [] (OneInt n):=fun _ _ _ ⟨b,h,h1⟩ hf=>⟨b,h,h1.fr0 hf⟩
def TwoInts (m n:Int):Value→World→Prop:=fun v w=>∃ a b,v=.tuple #[.pointer (some ⟨a,0,none⟩),.pointer (some ⟨b,0,none⟩)]∧IntAt w a 0 m∧IntAt w b 0 n
theorem TwoInts.lasts (m n:Int):Lasts [] (TwoInts m n):=fun _ _ _ ⟨a,b,h,h1,h2⟩ hf=>⟨a,b,h,h1.fr0 hf,h2.fr0 hf⟩
def numV (p q:Nat):Value:=.agg #[.pointer (some ⟨p,0,none⟩),.pointer (some ⟨q,0,none⟩)]
theorem times_up (w:World) (p q:Nat) (N D:Nat) (e:Nat) (hN:IntAt w p 0 N) (hD:IntAt w q 0 D) (hf:Fits N) (he:e≤1099511627776) (hfe:Fits (N * 2 ^ e)) :
  Calls Tryz.prog 83 #[numV p q,.int .i64 e] w fun e' w'=>∃ v,e'=.returned v∧TwoInts ((N * 2 ^ e:Nat):Int) D v w'∧Fr [] w w':=by
 have hw:IntKind.u64.wrap (e:Int)=e:=IntWalk.u64_in _ (by omega)
 unfold numV
 go_enter Tryz.func83,Tryz.ntmps83
 go_wp2
 generalize hW:w.alloc (.cells #[.pointer (some ⟨p,0,none⟩),.pointer (some ⟨q,0,none⟩)] 184)=W
 have c0:W.cell? ⟨w.heap.size,0,none⟩=some (.pointer (some ⟨p,0,none⟩)):=by rw [← hW];exact cell_new _ _ _ _ _ _ rfl
 have c1:W.cell? ⟨w.heap.size,1,none⟩=some (.pointer (some ⟨q,0,none⟩)):=by rw [← hW];exact cell_new _ _ _ _ _ _ rfl
 have fW:Fr [] w W:=by rw [← hW];exact (Fr.refl [] w).alloc _
 have hsz:w.heap.size<W.heap.size:=by rw [← hW];simp
 clear hW
 have hN:=hN.fr0 fW
 have hD:=hD.fr0 fW
 have fA:Fr [] W (W.alloc (.cells #[.bool false,.slice none 0 0] 236)).drew:=((Fr.refl [] W).alloc _).drew
 have d0:=fA.stay c0 (by simp)
 have d1:=fA.stay c1 (by simp)
 have hR:IntRoom (W.alloc (.cells #[.bool false,.slice none 0 0] 236)).drew W.heap.size 0:=IntRoom.new W
 go_region_held3 (fun w'=>w'.cell? ⟨w.heap.size,0,none⟩=some (.pointer (some ⟨p,0,none⟩))∧w'.cell? ⟨w.heap.size,1,none⟩=some (.pointer (some ⟨q,0,none⟩))) (first | exact⟨c0,c1⟩ | exact⟨d0,d1⟩ | exact⟨g0,g1⟩) ((go_at_call 126;refine (intLsh_any _ _ 0 p 0 N e hR (hN.fr0 fA) (by simpa using hf) he (by simpa using hfe)).mono ?_;rintro e' w3 ⟨rfl,h3,f3⟩;have g0:=f3.stay d0 (by simp;omega);have g1:=f3.stay d1 (by simp;omega)))
 go_wp2
 go_ret2
 refine⟨_,rfl,⟨_,_,rfl,by simpa using h3,(hD.fr0 fA).fr f3 hR.noWord (by simp;exact Nat.ne_of_lt hD.lt)⟩,(fW.then fA).after f3 (by simp;omega)⟩
theorem times_down (w:World) (p q:Nat) (N D:Nat) (e:Nat) (hN:IntAt w p 0 N) (hD:IntAt w q 0 D) (hf:Fits D) (he:e≤1099511627776) (he0:0<e) (hfe:Fits (D * 2 ^ e)) :
  Calls Tryz.prog 83 #[numV p q,.int .i64 (-(e:Int))] w fun e' w'=>∃ v,e'=.returned v∧TwoInts N ((D * 2 ^ e:Nat):Int) v w'∧Fr [] w w':=by
 have hw:IntKind.u64.wrap (e:Int)=e:=IntWalk.u64_in _ (by omega)
 have hng:¬ (0≤-(e:Int)):=by omega
 have hw2:IntKind.i64.wrap (e:Int)=e:=IntWalk.i64_in _ (by omega)
 unfold numV
 go_enter Tryz.func83,Tryz.ntmps83
 go_wp2
 generalize hW:w.alloc (.cells #[.pointer (some ⟨p,0,none⟩),.pointer (some ⟨q,0,none⟩)] 184)=W
 have c0:W.cell? ⟨w.heap.size,0,none⟩=some (.pointer (some ⟨p,0,none⟩)):=by rw [← hW];exact cell_new _ _ _ _ _ _ rfl
 have c1:W.cell? ⟨w.heap.size,1,none⟩=some (.pointer (some ⟨q,0,none⟩)):=by rw [← hW];exact cell_new _ _ _ _ _ _ rfl
 have fW:Fr [] w W:=by rw [← hW];exact (Fr.refl [] w).alloc _
 have hsz:w.heap.size<W.heap.size:=by rw [← hW];simp
 clear hW
 have hN:=hN.fr0 fW
 have hD:=hD.fr0 fW
 have fA:Fr [] W (W.alloc (.cells #[.bool false,.slice none 0 0] 236)).drew:=((Fr.refl [] W).alloc _).drew
 have d0:=fA.stay c0 (by simp)
 have d1:=fA.stay c1 (by simp)
 have hR:IntRoom (W.alloc (.cells #[.bool false,.slice none 0 0] 236)).drew W.heap.size 0:=IntRoom.new W
 go_region_held3 (fun w'=>w'.cell? ⟨w.heap.size,0,none⟩=some (.pointer (some ⟨p,0,none⟩))∧w'.cell? ⟨w.heap.size,1,none⟩=some (.pointer (some ⟨q,0,none⟩))) (first | exact⟨c0,c1⟩ | exact⟨d0,d1⟩ | exact⟨g0,g1⟩) ((go_at_call 126;refine (intLsh_any _ _ 0 q 0 D e hR (hD.fr0 fA) (by simpa using hf) he (by simpa using hfe)).mono ?_;rintro e' w3 ⟨rfl,h3,f3⟩;have g0:=f3.stay d0 (by simp;omega);have g1:=f3.stay d1 (by simp;omega)))
 go_wp2
 go_ret2
 refine⟨_,rfl,⟨_,_,rfl,(hN.fr0 fA).fr f3 hR.noWord (by simp;exact Nat.ne_of_lt hN.lt),by simpa using h3⟩,(fW.then fA).after f3 (by simp;omega)⟩
def tnum (N:Nat) (e:Int):Nat:=if 0≤e then N * 2 ^ e.toNat else N
def tden (D:Nat) (e:Int):Nat:=if 0≤e then D else D * 2 ^ (-e).toNat
theorem times_any (w:World) (p q:Nat) (N D:Nat) (e:Int) (hN:IntAt w p 0 N) (hD:IntAt w q 0 D) (h1:-1099511627776≤e) (h2:e≤1099511627776) (hfn:Fits N) (hfd:Fits D) (hfN:Fits (tnum N e)) (hfD:Fits (tden D e)) :
  Calls Tryz.prog 83 #[numV p q,.int .i64 e] w fun e' w'=>∃ v,e'=.returned v∧TwoInts (tnum N e) (tden D e) v w'∧Fr [] w w':=by
 unfold tnum tden at *
 by_cases h:0≤e
 ·rw [if_pos h] at hfN hfD ⊢
  rw [if_pos h]
  have:=times_up w p q N D e.toNat hN hD hfn (by omega) hfN
  rw [Int.toNat_of_nonneg h] at this
  exact this
 ·rw [if_neg h] at hfN hfD ⊢
  rw [if_neg h]
  have:=times_down w p q N D (-e).toNat hN hD hfd (by omega) (by omega) hfD
  rw [Int.toNat_of_nonneg (by omega),Int.neg_neg] at this
  exact this
end Go.Proofs.YtcmndpjemdjalaaGreatDoor
namespace Go.Proofs.YtcmndpjemdjalaaGreatDoor
open Go.RowKit
open Pb
def modeB (mode:Nat) (neg odd:Bool) (half:Int):Bool :=
 match mode with
 | 0=>decide (0<half) || (half==0 && odd)
 | 1=>decide (0≤half)
 | 2=>false
 | 3=>!neg
 | _=>neg
def betV (neg odd:Bool) (half:Int):Value:=.agg #[.bool neg,.bool odd,.int .i64 half]
theorem betEven_any (w:World) (neg odd:Bool) (half:Int) :
  Calls Tryz.prog 258 #[betV neg odd half] w fun e w'=>e=.returned (.bool (modeB 0 neg odd half))∧Fr [] w w':=by
 unfold betV modeB
 by_cases h:0<half
 ·go_enter Tryz.func258,Tryz.ntmps258
  go_wp2
  go_ret
  exact⟨by simp [h],(Fr.refl [] w).alloc _⟩
 ·by_cases h0:half=0
  ·subst h0
   cases odd
   ·go_enter Tryz.func258,Tryz.ntmps258
    go_wp2
    go_ret
    exact⟨by simp,(Fr.refl [] w).alloc _⟩
   ·go_enter Tryz.func258,Tryz.ntmps258
    go_wp2
    go_ret
    exact⟨by simp,(Fr.refl [] w).alloc _⟩
  ·have hb:(half==0)=false:=by simpa using h0
   clear h0
   go_enter Tryz.func258,Tryz.ntmps258
   go_wp2
   go_ret
   exact⟨by simp [h],(Fr.refl [] w).alloc _⟩
theorem betAway_any (w:World) (neg odd:Bool) (half:Int) :
  Calls Tryz.prog 259 #[betV neg odd half] w fun e w'=>e=.returned (.bool (modeB 1 neg odd half))∧Fr [] w w':=by
 unfold betV modeB
 go_enter Tryz.func259,Tryz.ntmps259
 go_wp2
 go_ret
 exact⟨rfl,(Fr.refl [] w).alloc _⟩
theorem betZero_any (w:World) (neg odd:Bool) (half:Int) :
  Calls Tryz.prog 260 #[betV neg odd half] w fun e w'=>e=.returned (.bool (modeB 2 neg odd half))∧Fr [] w w':=by
 unfold betV modeB
 go_enter Tryz.func260,Tryz.ntmps260
 go_wp2
 go_ret
 exact⟨rfl,(Fr.refl [] w).alloc _⟩
theorem betUp_any (w:World) (neg odd:Bool) (half:Int) :
  Calls Tryz.prog 261 #[betV neg odd half] w fun e w'=>e=.returned (.bool (modeB 3 neg odd half))∧Fr [] w w':=by
 unfold betV modeB
 go_enter Tryz.func261,Tryz.ntmps261
 go_wp2
 go_ret
 exact⟨rfl,(Fr.refl [] w).alloc _⟩
theorem betDown_any (w:World) (neg odd:Bool) (half:Int) :
  Calls Tryz.prog 262 #[betV neg odd half] w fun e w'=>e=.returned (.bool (modeB 4 neg odd half))∧Fr [] w w':=by
 unfold betV modeB
 go_enter Tryz.func262,Tryz.ntmps262
 go_wp2
 go_ret
 exact⟨rfl,(Fr.refl [] w).alloc _⟩
theorem modes_any (w:World) :
  Calls Tryz.prog 221 #[] w fun e w'=>e=.returned (.agg #[.func (.func 258) #[] #[],.func (.func 259) #[] #[],.func (.func 260) #[] #[],.func (.func 261) #[] #[],.func (.func 262) #[] #[]])∧Fr [] w w':=by
 go_enter Tryz.func221,Tryz.ntmps221
 go_wp2
 exact bodyPost_ret (v:=.agg #[.func (.func 258) #[] #[],.func (.func 259) #[] #[],.func (.func 260) #[] #[],.func (.func 261) #[] #[],.func (.func 262) #[] #[]]) (by simp [results,Tryz.results221,go_sem]) rfl ⟨rfl,(Fr.refl [] w).alloc _⟩
theorem intBit0_nat (w:World) (b o x:Nat) (h:IntAt w b o x) (hx:Fits x) :
  Calls Tryz.prog 220 #[.pointer (some ⟨b,o,none⟩),.int .i64 0] w fun e w'=>e=.returned (.int .u64 ((x % 2:Nat):Int))∧w'=w:=by
 obtain⟨v,l,c0,c1,-,-,hu,hi⟩:=h.nat
 have hl:=hx.len hi
 have hbit:bits BinOp.and IntKind.u32 ((dg l 0:Nat):Int) 1=((x % 2:Nat):Int):=by
  have:=u32_and_nat (dg l 0) 1 (dg_lt hi.digs 0) (by omega)
  rw [Nat.and_one_is_mod] at this
  have e2:=bit_words l hi.digs 0
  simp at e2
  rw [hi.val] at e2
  rw [← e2];exact this
 rcases hu.cases with ⟨rfl,rfl⟩ | ⟨b2,o2,cap,rfl,hcap,_,hc⟩
 ·have hx0:=Go.Lib.hid ((hi.len_zero).1 rfl)
  clear hbit
  go_enter Tryz.func220,Tryz.ntmps220
  go_wp2
  go_ret
  exact⟨ret_int (by rw [hx0.out];rfl),rfl⟩
 ·by_cases hl0:l.length=0
  ·have hx0:=Go.Lib.hid ((hi.len_zero).1 hl0)
   clear hbit hc
   go_enter Tryz.func220,Tryz.ntmps220
   go_wp2
   go_ret
   exact⟨ret_int (by rw [hx0.out];rfl),rfl⟩
  ·have hp:0<l.length:=by omega
   have hpi:¬ ((l.length:Int)≤0):=by omega
   have c2:=hc 0 hp
   rw [Nat.add_zero] at c2
   have Hbit:=Go.Lib.hid hbit
   clear hc hbit
   go_enter Tryz.func220,Tryz.ntmps220
   go_wp2
   go_ret
   exact⟨ret_int (by show IntKind.u64.wrap _=_;rw [Hbit.out];exact IntWalk.u64_in _ (by omega)),rfl⟩
end Go.Proofs.YtcmndpjemdjalaaGreatDoor
