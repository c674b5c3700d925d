/- Laws that the claimed theorem leans on: no condition of their own beyond their hypotheses. -/
import Derived.Test.YtcmndpjemdjalaaGreatDoorMaah
set_option maxRecDepth 100000
set_option maxHeartbeats 16000000
namespace Go.Proofs.YtcmndpjemdjalaaGreatDoor.Pb
open Go.RowKit
theorem val_pad (l:List Nat) (m:Nat):val (l++List.replicate m 0)=val l:=by rw [val_append,val_replicate];simp
theorem dg0_val {L:List Nat} (hd:Digs L):dg L 0=val L % 4294967296:=by have:=dg_of_val L hd 0;simpa using this
theorem val_set0 {L:List Nat} (hd:Digs L) (hp:0<L.length) (h0:val L % 4294967296=0) (d:Nat):val (L.set 0 d)=val L+d:=by
 cases L with
 | nil=>simp at hp
 | cons a t =>
  rw [val_cons] at h0
  have ha:=hd.head
  have:a=0:=by omega
  subst this
  simp only [List.set_cons_zero,val_cons];omega
theorem intOr_nil (w:World) (b o b2 o2 b3 o3:Nat) (x:Nat) (hr:IntRoom w b o) (h:IntAt w b2 o2 x) (h':IntAt w b3 o3 (0:Nat)) (hx:Fits x) :
  Calls Tryz.prog 127 #[.pointer (some ⟨b,o,none⟩),.pointer (some ⟨b2,o2,none⟩),.pointer (some ⟨b3,o3,none⟩)] w fun e w'=>e=.returned (.pointer (some ⟨b,o,none⟩))∧IntAt w' b o (x:Int)∧Fr [b] w w':=by
 obtain⟨v,l,c0,c1,-,-,hu,hi⟩:=h.nat
 obtain⟨u,k,c2,c3,-,-,hu',hi'⟩:=h'.nat
 obtain rfl:=hi'.zero
 have hl:=hx.len hi
 have hdl:=hi.digs
 clear c0 c2
 have hmx:max (l.length:Int) (0:Int)=l.length:=by omega
 obtain⟨ao,cap,rfl,hcap,-⟩:=hu.shape
 obtain⟨ao2,cap2,rfl,hcap2,-⟩:=hu'.shape
 have e0:(List.replicate l.length 0).length=l.length:=by simp
 have E0:=Go.Lib.hid e0;clear e0
 go_enter Tryz.func127,Tryz.ntmps127
 go_wp2_with fail
 refine region_mono [] 11 [[],[0],[1],[2],[3],[],[5],[6],[7],[8],[4,9]] [none,none,none,none,none,none,none,none,none,none,none] (by kernel_rfl) (by kernel_rfl) ?_
 simp only [Chain,fill,Act.put,List.nil_append,List.cons_append,List.take_succ_cons,List.take_zero,List.drop_succ_cons,List.drop_zero,List.setIfInBounds_toArray,List.set_cons_zero,List.set_cons_succ,Nat.reduceAdd]
 iterate 11 (apply Exists.intro;apply And.intro;·intro vs w2 hf hh K hK;have c1:=hf.stayd c1;have c3:=hf.stayd c3;simp only [Held,List.getD_cons_zero,List.getD_cons_succ,Just,and_true] at hh;(try simp only [hh] at hK ⊢);go_simp;exact hK _ _ ⟨rfl,Fr.refl _ _⟩)
 intro vs w2 hf hh
 simp only [HeldAll,Just,and_true,Nat.reduceAdd] at hh
 obtain⟨e0,e1,e2,e3,e4,e5,e6,e7,e8,e9,e10⟩:=hh
 simp only [e0,e1,e2,e3,e4,e5,e6,e7,e8,e9,e10]
 clear e0 e1 e2 e3 e4 e5 e6 e7 e8 e9 e10
 clear vs
 have c1:=hf.stayd c1
 have c3:=hf.stayd c3
 have fw:Fr [] w w2:=((Fr.refl [] w).drew).then hf
 go_wp2_with (first | (at_make;refine make_u32 _ rfl _ _ rfl _ _ l.length rfl rfl (by first | rfl | omega) (by first | rfl | omega) (by omega) ?_;intro w3 hown hf3;have c1:=hf3.stay c1 (by simp);have c3:=hf3.stay c3 (by simp)) | ((with_reducible show wpList _ _ _ _ _ _);(refine copy_u32 (op:=⟨some 27,_,_,_,_,_⟩) rfl _ _ rfl w2.heap.size l.length 0 (List.replicate l.length 0) l _ (by rw [E0.out];rfl) rfl ((hu.fr0 fw).fr0 hf3) (by rw [E0.out];exact Nat.le_refl _) hown ?_;intro w4 hown4 hf4;have c3:=hf4.stay c3 (by simp;exact Nat.ne_of_lt (World.block_lt_of_cell? w2 _ (by assumption))))))
 refine wp_loop_rounds 1 ?_
 rw [rounds_succ]
 go_wp2_with fail
 rw [List.drop_of_length_le (by rw [E0.out];exact Nat.le_refl _),List.append_nil] at hown4
 have hu4:=hown4.all (lo:=0) hdl (Nat.zero_le _)
 have fz:Fr [] w w4:=(fw.then hf3).after hf4 (by simp;exact fw.size)
 refine (trim_any _ 0 _ l hu4 (by omega)).mono ?_
 rintro e w5 ⟨v5,l5,rfl,u5,i5,-,rfl⟩
 rw [hi.val] at i5
 have hl5:=hx.len i5
 go_wp2_with fail
 refine (set_any _ b o 0 false _ l5 (x:Int) (hr.fr0 fz) u5 (by omega) (by simp [i5.val])).mono ?_
 rintro e w6 ⟨rfl,h6,f6,-⟩
 go_wp2
 go_ret
 exact⟨rfl,h6,(fz.mono (by simp)).trans f6 (by simp)⟩
theorem intOr_one (w:World) (b o b2 o2 b3 o3:Nat) (x y:Nat) (hr:IntRoom w b o) (h:IntAt w b2 o2 x) (h':IntAt w b3 o3 y) (hx:Fits x) (hx0:x % 4294967296=0) (hy0:0<y) (hy:y<4294967296) :
  Calls Tryz.prog 127 #[.pointer (some ⟨b,o,none⟩),.pointer (some ⟨b2,o2,none⟩),.pointer (some ⟨b3,o3,none⟩)] w fun e w'=>e=.returned (.pointer (some ⟨b,o,none⟩))∧IntAt w' b o ((x+y:Nat):Int)∧Fr [b] w w':=by
 obtain⟨v,l,c0,c1,-,-,hu,hi⟩:=h.nat
 obtain⟨u,k,c2,c3,-,-,hu',hi'⟩:=h'.nat
 have hl:=hx.len hi
 have hk1:k.length≤1:=hi'.len_of (m:=1) (by simpa using hy)
 have hk2:k.length ≠ 0:=fun hh=>by have:=(hi'.len_zero).1 hh;omega
 obtain⟨d,rfl⟩:∃ d,k=[d]:=by
  cases k with
  | nil=>simp at hk2
  | cons d t=>cases t with | nil=>exact⟨d,rfl⟩ | cons _ _=>simp at hk1
 have hdy:d=y:=by have:=hi'.val;rwa [val_one] at this
 subst hdy
 have hdl:=hi.digs
 clear c0 c2 hk1 hk2
 obtain⟨n,hn⟩:∃ n,n=max l.length 1:=⟨_,rfl⟩
 have hnl:l.length≤n:=by omega
 have hn1:1≤n:=by omega
 have hn2:n≤1073741825:=by omega
 have hmx:max (l.length:Int) (1:Int)=n:=by omega
 obtain⟨ao,cap,rfl,hcap,-⟩:=hu.shape
 obtain⟨ao2,cap2,rfl,hcap2,hc2⟩:=hu'.shape
 obtain⟨b4,o4,rfl,hb4,c4⟩:=hc2 0 (by simp)
 rw [Nat.add_zero] at c4
 have hd0:dg [d] 0=d:=rfl
 rw [hd0] at c4
 clear hc2 hd0
 have Hn:=Go.Lib.hid hn;clear hn
 have e0:(List.replicate n 0).length=n:=by simp
 have E0:=Go.Lib.hid e0;clear e0
 have hor:bits .or .u32 0 (d:Int)=(d:Int):=by have:=u32_or_nat 0 d (by omega) hy;simpa using this
 go_enter Tryz.func127,Tryz.ntmps127
 go_wp2_with fail
 refine region_mono [] 11 [[],[0],[1],[2],[3],[],[5],[6],[7],[8],[4,9]] [none,none,none,none,none,none,none,none,none,none,none] (by kernel_rfl) (by kernel_rfl) ?_
 simp only [Chain,fill,Act.put,List.nil_append,List.cons_append,List.take_succ_cons,List.take_zero,List.drop_succ_cons,List.drop_zero,List.setIfInBounds_toArray,List.set_cons_zero,List.set_cons_succ,Nat.reduceAdd]
 iterate 11 (apply Exists.intro;apply And.intro;·intro vs w2 hf hh K hK;have c1:=hf.stayd c1;have c3:=hf.stayd c3;have c4:=hf.stayd c4;simp only [Held,List.getD_cons_zero,List.getD_cons_succ,Just,and_true] at hh;(try simp only [hh] at hK ⊢);go_simp;exact hK _ _ ⟨rfl,Fr.refl _ _⟩)
 intro vs w2 hf hh
 simp only [HeldAll,Just,and_true,Nat.reduceAdd] at hh
 obtain⟨e0,e1,e2,e3,e4,e5,e6,e7,e8,e9,e10⟩:=hh
 simp only [e0,e1,e2,e3,e4,e5,e6,e7,e8,e9,e10]
 clear e0 e1 e2 e3 e4 e5 e6 e7 e8 e9 e10
 clear vs
 have c1:=hf.stayd c1
 have c3:=hf.stayd c3
 have c4:=hf.stayd c4
 have fw:Fr [] w w2:=((Fr.refl [] w).drew).then hf
 go_wp2_with (first | (at_make;refine make_u32 _ rfl _ _ rfl _ _ n rfl rfl (by first | rfl | omega) (by first | rfl | omega) (by omega) ?_;intro w3 hown hf3;have c1:=hf3.stay c1 (by simp);have c3':=hf3.stay c3 (by simp);have c4':=hf3.stay c4 (by simp)) | ((with_reducible show wpList _ _ _ _ _ _);(refine copy_u32 (op:=⟨some 27,_,_,_,_,_⟩) rfl _ _ rfl w2.heap.size n 0 (List.replicate n 0) l _ (by rw [E0.out];rfl) rfl ((hu.fr0 fw).fr0 hf3) (by rw [E0.out];exact hnl) hown ?_;intro w4 hown4 hf4;have c3:=hf4.stay c3' (by simp;exact Nat.ne_of_lt (World.block_lt_of_cell? w2 _ c3));have c4:=hf4.stay c4' (by simp;exact Nat.ne_of_lt (World.block_lt_of_cell? w2 _ c4)))))
 obtain⟨L,hL⟩:∃ L,L=l++(List.replicate n 0).drop l.length:=⟨_,rfl⟩
 rw [← hL] at hown4
 rw [List.drop_replicate] at hL
 have hLl:L.length=n:=by rw [hL];simp;omega
 have hLv:val L=x:=by rw [hL,val_pad,hi.val]
 have hLd:Digs L:=by rw [hL];exact hdl.append (Digs.replicate _)
 have c5:=hown4.cell 0 (by omega)
 have c6:=hown4.free 0
 rw [dg0_val hLd,hLv,hx0] at c5
 have hset:=val_set0 hLd (by omega) (by rw [hLv];exact hx0) d
 have HL:=Go.Lib.hid hL;clear hL
 have HLl:=Go.Lib.hid hLl;clear hLl
 have HLv:=Go.Lib.hid hLv;clear hLv
 have Hset:=Go.Lib.hid hset;clear hset
 clear c1 hf c3' c4'
 refine wp_loop_rounds 2 ?_
 rw [rounds_succ]
 go_wp2_with fail
 rw [rounds_succ]
 go_wp2_with fail
 have hown5:=hown4.set 0 (d:Int) (by omega)
 rw [Int.toNat_natCast] at hown5
 have hu5:=hown5.all (lo:=0) (hLd.set 0 d hy) (Nat.zero_le _)
 rw [List.length_set,HLl.out] at hu5
 have fz:Fr [] w w4:=(fw.then hf3).after hf4 (by simp;exact fw.size)
 have fz5:Fr [] w (w4.setCell ⟨w2.heap.size,0,none⟩ (.int .u32 (d:Int))):=fz.setCell (.inr (by simpa using fw.size)) _
 refine (trim_any _ 0 _ (L.set 0 d) hu5 (by rw [List.length_set,HLl.out];omega)).mono ?_
 rintro e w5 ⟨v5,l5,rfl,u5,i5,hl5,rfl⟩
 rw [Hset.out,HLv.out] at i5
 rw [List.length_set,HLl.out] at hl5
 go_wp2_with fail
 refine (set_any _ b o 0 false _ l5 ((x+d:Nat):Int) (hr.fr0 fz5) u5 (by omega) (by simp [i5.val])).mono ?_
 rintro e w6 ⟨rfl,h6,f6,-⟩
 go_wp2
 go_ret
 exact⟨rfl,h6,(fz5.mono (by simp)).trans f6 (by simp)⟩
theorem intOr_small (w:World) (b o b2 o2 b3 o3:Nat) (x y:Nat) (hr:IntRoom w b o) (h:IntAt w b2 o2 x) (h':IntAt w b3 o3 y) (hx:Fits x) (hx0:x % 4294967296=0) (hy:y<4294967296) :
  Calls Tryz.prog 127 #[.pointer (some ⟨b,o,none⟩),.pointer (some ⟨b2,o2,none⟩),.pointer (some ⟨b3,o3,none⟩)] w fun e w'=>e=.returned (.pointer (some ⟨b,o,none⟩))∧IntAt w' b o ((x+y:Nat):Int)∧Fr [b] w w':=by
 rcases Nat.eq_zero_or_pos y with rfl | hp
 ·exact intOr_nil w b o b2 o2 b3 o3 x hr h h' hx
 ·exact intOr_one w b o b2 o2 b3 o3 x y hr h h' hx hx0 hp hy
end Go.Proofs.YtcmndpjemdjalaaGreatDoor.Pb
