/- Laws that the claimed theorem leans on: no condition of their own beyond their hypotheses. -/
import Derived.Test.YtcmndpjemdjalaaGreatDoorMaac
set_option maxRecDepth 100000
set_option maxHeartbeats 16000000
namespace Go.Proofs.YtcmndpjemdjalaaGreatDoor.Pb
open Go.RowKit
theorem mul_near (w:World) (lo lo2:Nat) (v u:Value) (x y:List Nat) (hx:U32 w lo v x) (hy:U32 w lo2 u y) (ih:MulSaid (x.length+y.length)) (hlen:y.length≤x.length) (hn:x.length≤1073741824) (h40:40≤y.length) (h2:x.length<2 * y.length) (hnear:∃ a,u=.slice a y.length ((x.length+1) / 2)) :
  Calls Tryz.prog 170 #[v,u] w fun e w'=>∃ v' l',e=.returned v'∧U32 w' w.heap.size v' l'∧Is l' (val x * val y)∧Fr [] w w':=by
 have hdx:=hx.digs
 have hdy:=hy.digs
 have Hx:=Go.Lib.hid hx
 have Hy:=Go.Lib.hid hy
 obtain⟨ao,cap,rfl,hcap,hc⟩:=hx.shape
 obtain⟨ao2,cap2,rfl,hcap2,hc2⟩:=hy.shape
 obtain⟨b,o,rfl,hbw,-⟩:=hc 0 (by omega)
 obtain⟨b2,o2,rfl,hbw2,-⟩:=hc2 0 (by omega)
 clear hc hx hc2 hy
 have hnl:¬ ((x.length:Int)<(y.length:Int)):=by omega
 have hn40:¬ ((y.length:Int)<40):=by omega
 have hge:¬ (2:Int) * (y.length:Int)≤(x.length:Int):=by omega
 obtain⟨h,hh⟩:∃ h,h=(x.length+1) / 2:=⟨_,rfl⟩
 have hh1:((x.length:Int)+1) / 2=(h:Int):=by omega
 have hh2:h≤y.length:=by omega
 have hh3:h<x.length:=by omega
 have hh4:x.length≤2 * h:=by omega
 have hh5:2 * h≤x.length+1:=by omega
 have hc2:cap2=h:=by obtain⟨a,ha⟩:=hnear;simp only [Value.slice.injEq] at ha;omega
 clear hh hnear
 subst hc2
 obtain⟨h,hhh⟩:∃ h,h=cap2:=⟨_,rfl⟩
 subst hhh
 have cx0:=(Hx.out).cut (i:=0) (j:=h) (by omega) (by omega)
 have cy0:=(Hy.out).cut (i:=0) (j:=h) (by omega) (by omega)
 simp only [Nat.add_zero,Nat.sub_zero,List.drop_zero] at cx0 cy0
 have lx0:(x.take h).length=h:=by simp;omega
 have ly0:(y.take h).length=h:=by simp;omega
 have Cx0:=Go.Lib.hid cx0;clear cx0
 have Cy0:=Go.Lib.hid cy0;clear cy0
 have Lx0:=Go.Lib.hid lx0;clear lx0
 have Ly0:=Go.Lib.hid ly0;clear ly0
 have cx1:=(Hx.out).cut (i:=h) (j:=x.length) (by omega) (by omega)
 have cy1:U32 w lo2 (.slice (some ⟨b2,o2,none⟩) 0 0) (y.drop h):=⟨hdy.drop h,.inr (U32.none_left Hy.out (by omega))⟩
 rw [List.take_of_length_le (by rw [List.length_drop];exact Nat.le_refl _)] at cx1
 have lx1:(x.drop h).length=x.length - h:=by simp
 have ly1:(y.drop h).length=y.length - h:=by simp
 have Cx1:=Go.Lib.hid cx1;clear cx1
 have Cy1:=Go.Lib.hid cy1;clear cy1
 have Lx1:=Go.Lib.hid lx1;clear lx1
 have Ly1:=Go.Lib.hid ly1;clear ly1
 have hc1:¬ cap=h:=by omega
 go_enter Tryz.func170,Tryz.ntmps170
 go_wp2_with (at_make;refine make_u32 _ rfl _ _ rfl _ _ (x.length+y.length+1) rfl rfl (by omega) (by omega) (by omega) ?_;intro w1 hown hf)
 have k1:(h:Int)≤(cap:Int):=by omega
 have tx:∀ W:World,Fr [] w W→Calls Tryz.prog 172 #[.slice (some ⟨b,o,none⟩) h cap] W fun e w'=>∃ v' l',e=.returned v'∧U32 W lo v' l'∧Is l' (val (x.take h))∧l'.length≤h∧W=w':=fun W hW=>by
  have:=trim_any W lo _ _ (Cx0.out.fr0 hW) (by rw [Lx0.out];omega)
  rw [Lx0.out] at this;exact this
 have ty:∀ W:World,Fr [] w W→Calls Tryz.prog 172 #[.slice (some ⟨b2,o2,none⟩) h h] W fun e w'=>∃ v' l',e=.returned v'∧U32 W lo2 v' l'∧Is l' (val (y.take h))∧l'.length≤h∧W=w':=fun W hW=>by
  have:=trim_any W lo2 _ _ (Cy0.out.fr0 hW) (by rw [Ly0.out];omega)
  rw [Ly0.out] at this;exact this
 have Tx:=Go.Lib.hid tx;clear tx
 have Ty:=Go.Lib.hid ty;clear ty
 go_cut [8] (fun s wc=>∃ l,U32 wc w1.heap.size s l∧Is l (val (x.take h) * val (y.take h))∧Fr [] w1 wc)
 case first =>
  go_region_with (first | (go_at_call_of 172 (Value.slice (some ⟨b,o,none⟩) h cap);refine (Tx.out _ ?_).mono ?_;exact hf.drew;rintro e w' ⟨vx,lx,rfl,ux,ix,llx,rfl⟩) | (go_at_call_of 172 (Value.slice (some ⟨b2,o2,none⟩) h h);refine (Ty.out _ ?_).mono ?_;exact hf.drew;rintro e w' ⟨vy,ly,rfl,uy,iy,lly,rfl⟩) | (go_at_call 170;refine (ih _ lo lo2 _ _ lx ly ux uy ?_ ?_ ?_).mono ?_;omega;omega;omega;rintro e w' ⟨vm,lm,rfl,um,im,fm⟩))
  go_wp2
  go_meet
  case rel=>exact⟨lm,um,by rw [ix.val,iy.val] at im;exact im,((Fr.refl [] w1).drew).then fm⟩
 case rest =>
  obtain⟨l0,u0,i0,f0⟩:=hcut
  have f0s:=f0.size
  have hown0:=hown.fr f0 (by simp)
  have hf0:=hf.then f0
  clear f0
  go_wp2
  go_cut [9] (fun s wd=>∃ l,U32 wd wc.heap.size s l∧Is l (val (x.drop h) * val (y.drop h))∧Fr [] wc wd)
  case first =>
   go_region_with (go_at_call 170;refine (ih _ lo lo2 _ _ (x.drop h) (y.drop h) ?_ ?_ ?_ ?_ ?_).mono ?_;exact Cx1.out.fr0 hf0.drew;exact Cy1.out.fr0 hf0.drew;(rw [Lx1.out,Ly1.out];omega);(rw [Lx1.out];omega);(rw [Ly1.out];omega);rintro e w' ⟨vm,lm,rfl,um,im,fm⟩)
   go_wp2
   go_meet
   case rel=>exact⟨lm,um,im,((Fr.refl [] wc).drew).then fm⟩
  case rest =>
   rename_i u8 _
   obtain⟨l1,u1,i1,f1⟩:=hcut
   have f1s:=f1.size
   have hown1:=hown0.fr f1 (by simp)
   have hf1:=hf0.then f1
   have u0b:=u0.fr0 f1
   clear hown0 f1 u0
   obtain⟨wd,hwd⟩:∃ wd:World,wd=wc:=⟨_,rfl⟩
   subst hwd
   go_wp2
   go_cut [10] (fun s we=>∃ l,U32 we wd.heap.size s l∧Is l ((val (x.take h)+val (x.drop h)) * (val (y.take h)+val (y.drop h)))∧Fr [] wd we)
   case first =>
    go_region_with (first | (go_at_call_of 172 (Value.slice (some ⟨b,o,none⟩) h cap);refine (Tx.out _ ?_).mono ?_;exact hf1.drew;rintro e w' ⟨vx,lx,rfl,ux,ix,llx,rfl⟩) | (go_at_call_of 205 (Value.slice (some ⟨b,o+h,none⟩) (x.length - h) (cap - h));refine (add_any _ lo lo _ _ lx (x.drop h) ux ?_ ?_ ?_).mono ?_;exact Cx1.out.fr0 hf1.drew;omega;(rw [Lx1.out];omega);rintro e w' ⟨va,la,rfl,ua,ia,fa⟩;have hfa:=hf1.drew.then fa) | (go_at_call_of 172 (Value.slice (some ⟨b2,o2,none⟩) h h);refine (Ty.out _ ?_).mono ?_;exact hfa;rintro e w' ⟨vy,ly,rfl,uy,iy,lly,rfl⟩) | (go_at_call_of 205 (Value.slice (some ⟨b2,o2,none⟩) 0 0);refine (add_any _ lo2 lo2 _ _ ly (y.drop h) uy ?_ ?_ ?_).mono ?_;exact Cy1.out.fr0 hfa;omega;(rw [Ly1.out];omega);rintro e w' ⟨vb,lb,rfl,ub,ib,fb⟩;have ua2:=ua.fr0 fb;have lla:=add_len ia ix llx Lx1.out hdx hh4;have llb:=add_len ib iy lly Ly1.out hdy (by omega)) | (go_at_call 170;refine (ih _ _ _ _ _ la lb ua2 ub ?_ ?_ ?_).mono ?_;omega;omega;omega;rintro e w' ⟨vm,lm,rfl,um,im,fm⟩))
    all_goals
     go_wp2
     go_meet
     case rel=>exact⟨lm,um.mono (by have:=fa.size;have:=fb.size;simp at *;omega),by rw [ia.val,ib.val,ix.val,iy.val] at im;exact im,(((Fr.refl [] wd).drew.then fa).then fb).then fm⟩
   case rest =>
    obtain⟨l2,u2,i2,f2⟩:=hcut
    have hown2:=hown1.fr f2 (by simp)
    have hf2:=hf1.then f2
    have u0c:=u0b.fr0 f2
    have u1b:=u1.fr0 f2
    have hg:=hown.lt
    have z1:=f0s
    have z2:=f1s
    have z3:=f2.size
    clear hown1 f2 u0b u1
    have U0:=u0c.mono (show w.heap.size+1≤w1.heap.size by omega)
    have U1:=u1b.mono (show w.heap.size+1≤_ by omega)
    have U2:=u2.mono (show w.heap.size+1≤_ by omega)
    clear u0c u1b u2
    have K:=Go.Lib.hid (karat hdx hdy (show h≤x.length by omega) hh2 hh5 (by omega) (by omega) i0 i1 i2)
    have I0:=Go.Lib.hid i0;have I1:=Go.Lib.hid i1;have I2:=Go.Lib.hid i2
    clear i0 i1 i2
    go_wp2_with fail
    refine (sub_any _ _ _ _ _ l2 l0 U2 U0 K.out.l0l2 K.out.l2n K.out.v0v2).mono ?_
    rintro e w3 ⟨v3,l3,rfl,u3,i3,f3⟩
    have I3:=Go.Lib.hid i3;clear i3
    have U1b:=U1.fr0 f3
    have U0b:=U0.fr0 f3
    have hown3:=hown2.fr f3 (by simp)
    go_wp2_with fail
    refine (sub_any _ _ _ _ _ l3 l1 u3 U1b (K.out.l1l3 I3.out) (K.out.l3n I3.out) (K.out.v1v3 I3.out)).mono ?_
    rintro e w4 ⟨v4,l4,rfl,u4,i4,f4⟩
    have I4:=Go.Lib.hid (K.out.i4 I3.out i4);clear i4
    have U0c:=U0b.fr0 f4
    have U1c:=U1b.fr0 f4
    have hown4:=hown3.fr f4 (by simp)
    have U4:=u4.mono (show w.heap.size+1≤_ by have:=f3.size;omega)
    clear hown2 hown3 u3 u4 U0 U0b U1 U1b
    have HF:=(hf2.then f3).then f4
    clear f3 f4 hf0 hf1 hf2
    go_wp2_with fail
    refine (addAt_n _ w.heap.size (w.heap.size+1) 0 (x.length+y.length+1) 0 _ _ l0 (by simp) (val_replicate _) hown4 (Digs.replicate _) U0c (by omega) (by omega) (by have:=K.out.len0;omega) K.out.fit0).mono ?_
    rintro e w5 ⟨L5,rfl,hown5,hd5,hl5,hv5,f5⟩
    have Hl5:=Go.Lib.hid hl5;clear hl5
    have Hv5:=Go.Lib.hid (show val L5=val l0 by rw [hv5];simp);clear hv5
    have U1d:=U1c.grown f5 (by omega)
    have U4b:=U4.grown f5 (by omega)
    have HF5:=HF.after f5 (by simp)
    clear U0c U1c U4 f5 hown4 HF
    go_wp2_with fail
    refine (addAt_n _ w.heap.size (w.heap.size+1) h (x.length+y.length+1) (val l0) _ _ l4 Hl5.out Hv5.out hown5 hd5 U4b (by omega) (by omega) (K.out.len4 I4.out) (by rw [I4.out.val];exact K.out.fit4)).mono ?_
    rintro e w6 ⟨L6,rfl,hown6,hd6,hl6,hv6,f6⟩
    have Hl6:=Go.Lib.hid hl6;clear hl6
    rw [I4.out.val] at hv6
    have Hv6:=Go.Lib.hid hv6;clear hv6
    have U1e:=U1d.grown f6 (by omega)
    have HF6:=HF5.after f6 (by simp)
    clear U1d U4b f6 hown5 HF5
    go_wp2_with fail
    rw [show (2:Int) * (h:Int)=((2 * h:Nat):Int) by omega]
    refine (addAt_n _ w.heap.size (w.heap.size+1) (2 * h) (x.length+y.length+1) _ _ _ l1 Hl6.out Hv6.out hown6 hd6 U1e (by omega) (by omega) K.out.len1 K.out.fit1).mono ?_
    rintro e w7 ⟨L7,rfl,hown7,hd7,hl7,hv7,f7⟩
    have Hl7:=Go.Lib.hid hl7
    have hv8:=hv7.trans K.out.sum
    have Hv7:=Go.Lib.hid hv8;clear hv7 hv8
    have HF7:=HF6.after f7 (by simp)
    have hu:=hown7.all hd7 (Nat.le_refl _)
    rw [hl7] at hu
    clear U1e f7 hown6 HF6 hl7
    go_wp2_with fail
    refine (trim_any _ w.heap.size _ _ hu (by rw [Hl7.out];omega)).mono ?_
    rintro e w' ⟨v',l',rfl,h1,h2,-,rfl⟩
    go_wp2
    go_ret
    exact⟨v',l',rfl,h1,Hv7.out ▸ h2,HF7⟩
end Go.Proofs.YtcmndpjemdjalaaGreatDoor.Pb
