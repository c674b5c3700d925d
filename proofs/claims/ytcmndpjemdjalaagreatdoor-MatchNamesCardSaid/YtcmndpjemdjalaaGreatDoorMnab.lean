/- Laws that the claimed theorem leans on: no condition of their own beyond their hypotheses. -/
import Derived.Test.YtcmndpjemdjalaaGreatDoorMaas
import Derived.Test.YtcmndpjemdjalaaGreatDoorMaau
import Derived.Test.YtcmndpjemdjalaaGreatDoorMaav
import Derived.Test.YtcmndpjemdjalaaGreatDoorMaaw
import Derived.Test.YtcmndpjemdjalaaGreatDoorMaay
import Derived.Test.YtcmndpjemdjalaaGreatDoorMaba
import Derived.Test.YtcmndpjemdjalaaGreatDoorMabb
set_option maxRecDepth 100000
set_option maxHeartbeats 16000000
namespace Go.Proofs.YtcmndpjemdjalaaGreatDoor
open Go.RowKit
theorem take_bm (w:World) (a b txt:ByteArray) (d:Nat) (places:Int) (l S:List UInt8) (hl:l.length≤65536) (hR:Lib.trimLeftS l [32]=45 :: S) (hb:¬ S=[110,97,110]) :
  Calls Tryz.prog 29 #[planV a b d 2 txt 5 places,.string (strL l)] w fun x w'=>x=.returned (.tuple #[.string (strL (45 :: S)),.bool (finOk (bodyB d places S) ((strL l).size - (strL (45 :: S)).size:Int) 5 (strL l).size)])∧Fr [] w w':=by
 have hp:Lib.hasPrefix (Lib.trimLeftS l [32]) [45]=true:=by rw [hR];rfl
 have hmf:∀ (fn:Fn) (first cap:Array Value) (w:World),(Instr.makeFunc fn first cap).run Tryz.prog w=.ok (.func fn first cap) w:=fun _ _ _ _=>rfl
 have hix:∀ w,(Instr.index 133 (.agg #[.string ⟨#[]⟩,.string ⟨#[43]⟩,.string ⟨#[32]⟩]) (.int .i64 2)).run Tryz.prog w=.ok (.string ⟨#[32]⟩) w:=fun _=>by kernel_rfl
 have hT:=fun W=>trimLeft_blank W l
 have hle:=trimLeft_le l [32]
 generalize Lib.trimLeftS l [32]=R at *
 have hP:=fun W=>hasPrefix_l W R [45]
 simp only [hp] at hP
 have hP':∀ W,Calls Tryz.prog 39 #[.string (strL R),.string ⟨#[45]⟩] W fun x w'=>x=.returned (.bool true)∧w'=W:=hP
 clear hP
 have z1:(strL l).size≤65536:=by rw [strL_size];exact hl
 have z2:(strL R).size≤(strL l).size:=by rw [strL_size,strL_size];exact hle
 subst hR
 have hlS:S.length≤65536:=by simp only [List.length_cons] at hle;omega
 clear hle hp
 have hsl:=slice_one 45 S
 have hone:¬ ((strL (45 :: S)).size:Int)<1:=by rw [strL_size,List.length_cons];omega
 have hone2:(1:Int)≤((strL (45 :: S)).size:Int):=by rw [strL_size,List.length_cons];omega
 have hb2:((strL S).toList==[110,97,110])=false:=by rw [ByteArray.toList_eq,strL_data];simpa using hb
 unfold planV
 go_enter_defers Tryz.func29,Tryz.ntmps29
 go_wp2_with fail
 refine wp_mono (take_begin w a b txt d 2 5 places l) ?_
 rintro e a' W ⟨rfl,bm,br,bu,rfl,h⟩
 have q2:=h.p2
 have q3:=h.p3
 have qs:=h.s.cell
 have qsz:=h.s.frozen
 have qr:=h.r.cell
 have qrz:=h.r.frozen
 have qu:=h.u.cell
 have quz:=h.u.frozen
 have qm:=h.m.cell
 have qmz:=h.m.frozen
 have e1:=h.hm
 have e2:=h.hr
 have e3:=h.hu
 have e4:=h.mr
 have e5:=h.mu
 have e6:=h.ru
 simp only [Exit.then]
 go_wp2_with (first
  | (go_at_call 54;go_loud (refine (hT _).mono ?_;rintro x w1 ⟨rfl,f1⟩;have h:=h.to f1;have q2:=h.p2;have q3:=h.p3;have qs:=h.s.cell;have qr:=h.r.cell;have qrz:=h.r.frozen;have qu:=h.u.cell;have quz:=h.u.frozen;have qm:=h.m.cell;have qmz:=h.m.frozen))
  | (go_at_call 39;go_loud (refine (hP' _).mono ?_;rintro x w2 ⟨rfl,hw⟩;subst hw)))
 go_region
 simp only [Exit.then]
 go_wp2_with fail
 clear hsl hone hone2 hT hP' hb2 hix
 have fZ:Fr [bm,br,bu] w1 ((((((w1.setCell ⟨br,0,none⟩ (.string (strL (45 :: S)))).setCell ⟨bu,0,none⟩ (.int .i64 (((strL l).size:Int) - ((strL (45 :: S)).size:Int)))).setCell ⟨bm,0,none⟩ (.string ⟨#[45]⟩)).setCell ⟨br,0,none⟩ (.string (strL S))).drew)):=(((((Fr.refl [bm,br,bu] w1).setCell (.inl (by simp)) _).setCell (.inl (by simp)) _).setCell (.inl (by simp)) _).setCell (.inl (by simp)) _).drew
 have vr:Var ((((((w1.setCell ⟨br,0,none⟩ (.string (strL (45 :: S)))).setCell ⟨bu,0,none⟩ (.int .i64 (((strL l).size:Int) - ((strL (45 :: S)).size:Int)))).setCell ⟨bm,0,none⟩ (.string ⟨#[45]⟩)).setCell ⟨br,0,none⟩ (.string (strL S))).drew)) br (.string (strL S)):=(((((h.r.set _).other e6 _).other (Ne.symm e4) _).set _).drew)
 have vm:Var ((((((w1.setCell ⟨br,0,none⟩ (.string (strL (45 :: S)))).setCell ⟨bu,0,none⟩ (.int .i64 (((strL l).size:Int) - ((strL (45 :: S)).size:Int)))).setCell ⟨bm,0,none⟩ (.string ⟨#[45]⟩)).setCell ⟨br,0,none⟩ (.string (strL S))).drew)) bm (.string (strL [45])):=((((h.m.other e4 _).other e5 _).set _).other e4 _).drew
 have vu:Var ((((((w1.setCell ⟨br,0,none⟩ (.string (strL (45 :: S)))).setCell ⟨bu,0,none⟩ (.int .i64 (((strL l).size:Int) - ((strL (45 :: S)).size:Int)))).setCell ⟨bm,0,none⟩ (.string ⟨#[45]⟩)).setCell ⟨br,0,none⟩ (.string (strL S))).drew)) bu (.int .i64 (((strL l).size:Int) - ((strL (45 :: S)).size:Int))):=((((h.u.other (Ne.symm e6) _).set _).other (Ne.symm e5) _).other (Ne.symm e6) _).drew
 generalize ((((((w1.setCell ⟨br,0,none⟩ (.string (strL (45 :: S)))).setCell ⟨bu,0,none⟩ (.int .i64 (((strL l).size:Int) - ((strL (45 :: S)).size:Int)))).setCell ⟨bm,0,none⟩ (.string ⟨#[45]⟩)).setCell ⟨br,0,none⟩ (.string (strL S))).drew))=Z at *
 clear q2 q3 qs qsz qr qrz qu quz qm qmz
 have vs:=h.s.fr fZ (by simp;omega)
 have vn:=h.n.fr fZ (by simp;omega)
 have vk:=h.k.fr fZ (by simp;omega)
 have p0:=fZ.stay h.p0 (by simp;omega)
 have p1:=fZ.stay h.p1 (by simp;omega)
 have p2:=fZ.stay h.p2 (by simp;omega)
 have p3:=fZ.stay h.p3 (by simp;omega)
 have p4:=fZ.stay h.p4 (by simp;omega)
 have p5:=fZ.stay h.p5 (by simp;omega)
 have p6:=fZ.stay h.p6 (by simp;omega)
 have cr:=vr.cell
 have G:=h.fr.after fZ (by simp;omega)
 clear fZ h
 refine region_mono [] 4 [[],[],[],[1,2]] [none,none,none,none] (by kernel_rfl) (by kernel_rfl) ?_
 simp only [Chain,fill,Act.put,List.nil_append,List.cons_append,List.take_succ_cons,List.take_zero,List.drop_succ_cons,List.drop_zero,List.setIfInBounds_toArray,List.set_cons_zero,List.set_cons_succ,Nat.reduceAdd]
 iterate 3 (apply Exists.intro;apply And.intro;·intro vs w2 hf hh K hK;have p0:=hf.stayd p0;have p1:=hf.stayd p1;have p2:=hf.stayd p2;have p3:=hf.stayd p3;have p4:=hf.stayd p4;have p5:=hf.stayd p5;have p6:=hf.stayd p6;have cr:=hf.stayd cr;simp only [Held] at hh;(try simp only [] at hK ⊢);go_simp;exact hK _ _ ⟨rfl,Fr.refl _ _⟩)
 apply Exists.intro;apply And.intro
 ·intro vs w2 hf hh K hK;have p0:=hf.stayd p0;have p1:=hf.stayd p1;have p2:=hf.stayd p2;have p3:=hf.stayd p3;have p4:=hf.stayd p4;have p5:=hf.stayd p5;have p6:=hf.stayd p6;have cr:=hf.stayd cr;simp only [Held,List.getD_cons_zero,List.getD_cons_succ,Just,and_true] at hh;(try simp only [hh] at hK ⊢);go_simp;refine (body_l _ a b txt d 2 5 places (S) (by exact hlS)).mono ?_;rintro e w3 ⟨rfl,f3⟩;exact hK _ _ ⟨rfl,f3⟩
 intro vs w2 hf hh
 simp only [HeldAll,Just,and_true,Nat.reduceAdd] at hh
 obtain⟨e0,e1,e2,e3⟩:=hh
 simp only [e0,e1,e2,e3]
 clear e0 e1 e2 e3
 clear vs
 have p0:=hf.stayd p0
 have p1:=hf.stayd p1
 have p2:=hf.stayd p2
 have p3:=hf.stayd p3
 have p4:=hf.stayd p4
 have p5:=hf.stayd p5
 have p6:=hf.stayd p6
 have cr:=hf.stayd cr
 have vn:=vn.drew.fr hf (by simp)
 have vk:=vk.drew.fr hf (by simp)
 have vm:=vm.drew.fr hf (by simp)
 have vu:=vu.drew.fr hf (by simp)
 have vs:=vs.drew.fr hf (by simp)
 have cn:=vn.cell
 have cnz:=vn.frozen
 have ck:=vk.cell
 have ckz:=vk.frozen
 have G2:=G.drew.then hf
 go_wp2_with fail
 have D1:w.heap.size+1+1 ≠ w.heap.size+1+1+1:=by omega
 have vn:=(vn.set (.string (strL (S)))).other D1 (.bool (bodyB d places (S)))
 have vk:=(vk.other (Ne.symm D1) (.string (strL (S)))).set (.bool (bodyB d places (S)))
 have vm:=(vm.other (c:=w.heap.size+1+1) (by omega) (.string (strL (S)))).other (c:=w.heap.size+1+1+1) (by omega) (.bool (bodyB d places (S)))
 have vu:=(vu.other (c:=w.heap.size+1+1) (by omega) (.string (strL (S)))).other (c:=w.heap.size+1+1+1) (by omega) (.bool (bodyB d places (S)))
 have vs:=(vs.other (c:=w.heap.size+1+1) (by omega) (.string (strL (S)))).other (c:=w.heap.size+1+1+1) (by omega) (.bool (bodyB d places (S)))
 have fD:=((Fr.refl [w.heap.size+1+1,w.heap.size+1+1+1] w2).setCell (p:=⟨w.heap.size+1+1,0,none⟩) (.inl (by simp)) (.string (strL (S)))).setCell (p:=⟨w.heap.size+1+1+1,0,none⟩) (.inl (by simp)) (.bool (bodyB d places (S)))
 have p5:=fD.stay p5 (by simp;omega)
 have G3:=G2.after fD (by simp;omega)
 have hsz:¬ 9223372036854775807<(strL [45]).size+(strL (S)).size:=by rw [strL_size,strL_size];simp only [List.length_cons,List.length_nil];omega
 refine leaves_cons (f:=52) (args:=#[.pointer (some ⟨bm,0,none⟩),.pointer (some ⟨w.heap.size+1+1,0,none⟩),.pointer (some ⟨bu,0,none⟩),.pointer (some ⟨w.heap.size+1+1+1,0,none⟩),.pointer (some ⟨w.heap.size+1,0,none⟩),.pointer (some ⟨w.heap.size,0,none⟩)]) (by simp) (by simp [go_sem]) ?_
 refine (takeEnd_any _ bm (w.heap.size+1+1) bu (w.heap.size+1+1+1) (w.heap.size+1) w.heap.size [45] (S) l _ 5 _ vm vn vu vk vs p5 (by omega) (by omega) (by omega) (by omega) (by omega) (by omega) (by omega) hsz).mono ?_
 rintro e u' w3 ⟨rfl,rfl,hn3,hk3,f3⟩
 refine⟨_,results_two rfl _ w3 ⟨w.heap.size+1+1,0,none⟩ ⟨w.heap.size+1+1+1,0,none⟩ _ _ rfl rfl (load_string hn3) (load_bool hk3),?_⟩
 refine⟨rfl,?_⟩
 exact G3.after f3 (by simp;omega)
theorem take_bb (w:World) (a b txt:ByteArray) (d:Nat) (places:Int) (l:List UInt8) (hl:l.length≤65536) (hp:Lib.hasPrefix (Lib.trimLeftS l [32]) [45]=false) (hb:((strL (Lib.trimLeftS l [32])).toList==[110,97,110])=false) (hu:1≤((strL l).size - (strL (Lib.trimLeftS l [32])).size:Int)) :
  Calls Tryz.prog 29 #[planV a b d 2 txt 5 places,.string (strL l)] w fun x w'=>x=.returned (.tuple #[.string (strL (Lib.trimLeftS l [32])),.bool (finOk (bodyB d places (Lib.trimLeftS l [32])) ((strL l).size - (strL (Lib.trimLeftS l [32])).size - 1:Int) 5 (strL l).size)])∧Fr [] w w':=by
 have hmf:∀ (fn:Fn) (first cap:Array Value) (w:World),(Instr.makeFunc fn first cap).run Tryz.prog w=.ok (.func fn first cap) w:=fun _ _ _ _=>rfl
 have hix:∀ w,(Instr.index 133 (.agg #[.string ⟨#[]⟩,.string ⟨#[43]⟩,.string ⟨#[32]⟩]) (.int .i64 2)).run Tryz.prog w=.ok (.string ⟨#[32]⟩) w:=fun _=>by kernel_rfl
 have hT:=fun W=>trimLeft_blank W l
 have hle:=trimLeft_le l [32]
 generalize Lib.trimLeftS l [32]=R at *
 have hP:=fun W=>hasPrefix_l W R [45]
 simp only [hp] at hP
 have hP':∀ W,Calls Tryz.prog 39 #[.string (strL R),.string ⟨#[45]⟩] W fun x w'=>x=.returned (.bool false)∧w'=W:=hP
 clear hP
 have z1:(strL l).size≤65536:=by rw [strL_size];exact hl
 have z2:(strL R).size≤(strL l).size:=by rw [strL_size,strL_size];exact hle
 clear hp
 have hu2:¬ (((strL l).size:Int) - ((strL R).size:Int) - 1<0):=by omega
 unfold planV
 go_enter_defers Tryz.func29,Tryz.ntmps29
 go_wp2_with fail
 refine wp_mono (take_begin w a b txt d 2 5 places l) ?_
 rintro e a' W ⟨rfl,bm,br,bu,rfl,h⟩
 have q2:=h.p2
 have q3:=h.p3
 have qs:=h.s.cell
 have qsz:=h.s.frozen
 have qr:=h.r.cell
 have qrz:=h.r.frozen
 have qu:=h.u.cell
 have quz:=h.u.frozen
 have qm:=h.m.cell
 have qmz:=h.m.frozen
 have e1:=h.hm
 have e2:=h.hr
 have e3:=h.hu
 have e4:=h.mr
 have e5:=h.mu
 have e6:=h.ru
 simp only [Exit.then]
 go_wp2_with (first
  | (go_at_call 54;go_loud (refine (hT _).mono ?_;rintro x w1 ⟨rfl,f1⟩;have h:=h.to f1;have hq:=(((h.u.other (Ne.symm e6) (.string (strL R))).set (.int .i64 (((strL l).size:Int) - ((strL R).size:Int)))).set (.int .i64 (((strL l).size:Int) - ((strL R).size:Int) - 1))).cell;have q2:=h.p2;have q3:=h.p3;have qs:=h.s.cell;have qr:=h.r.cell;have qrz:=h.r.frozen;have qu:=h.u.cell;have quz:=h.u.frozen;have qm:=h.m.cell;have qmz:=h.m.frozen))
  | (go_at_call 39;go_loud (refine (hP' _).mono ?_;rintro x w2 ⟨rfl,hw⟩;subst hw)))
 have fZ:Fr [bm,br,bu] w1 (((w1.setCell ⟨br,0,none⟩ (.string (strL R))).setCell ⟨bu,0,none⟩ (.int .i64 (((strL l).size:Int) - ((strL R).size:Int)))).setCell ⟨bu,0,none⟩ (.int .i64 ((((strL l).size:Int) - ((strL R).size:Int)) - 1))):=(((Fr.refl [bm,br,bu] w1).setCell (.inl (by simp)) _).setCell (.inl (by simp)) _).setCell (.inl (by simp)) _
 have vr:Var (((w1.setCell ⟨br,0,none⟩ (.string (strL R))).setCell ⟨bu,0,none⟩ (.int .i64 (((strL l).size:Int) - ((strL R).size:Int)))).setCell ⟨bu,0,none⟩ (.int .i64 ((((strL l).size:Int) - ((strL R).size:Int)) - 1))) br (.string (strL R)):=((h.r.set _).other e6 _).other e6 _
 have vm:Var (((w1.setCell ⟨br,0,none⟩ (.string (strL R))).setCell ⟨bu,0,none⟩ (.int .i64 (((strL l).size:Int) - ((strL R).size:Int)))).setCell ⟨bu,0,none⟩ (.int .i64 ((((strL l).size:Int) - ((strL R).size:Int)) - 1))) bm (.string (strL [])):=((h.m.other e4 _).other e5 _).other e5 _
 have vu:Var (((w1.setCell ⟨br,0,none⟩ (.string (strL R))).setCell ⟨bu,0,none⟩ (.int .i64 (((strL l).size:Int) - ((strL R).size:Int)))).setCell ⟨bu,0,none⟩ (.int .i64 ((((strL l).size:Int) - ((strL R).size:Int)) - 1))) bu (.int .i64 ((((strL l).size:Int) - ((strL R).size:Int)) - 1)):=((h.u.other (Ne.symm e6) _).set _).set _
 generalize (((w1.setCell ⟨br,0,none⟩ (.string (strL R))).setCell ⟨bu,0,none⟩ (.int .i64 (((strL l).size:Int) - ((strL R).size:Int)))).setCell ⟨bu,0,none⟩ (.int .i64 ((((strL l).size:Int) - ((strL R).size:Int)) - 1)))=Z at *
 clear q2 q3 qs qsz qr qrz qu quz qm qmz
 have vs:=h.s.fr fZ (by simp;omega)
 have vn:=h.n.fr fZ (by simp;omega)
 have vk:=h.k.fr fZ (by simp;omega)
 have p0:=fZ.stay h.p0 (by simp;omega)
 have p1:=fZ.stay h.p1 (by simp;omega)
 have p2:=fZ.stay h.p2 (by simp;omega)
 have p3:=fZ.stay h.p3 (by simp;omega)
 have p4:=fZ.stay h.p4 (by simp;omega)
 have p5:=fZ.stay h.p5 (by simp;omega)
 have p6:=fZ.stay h.p6 (by simp;omega)
 have cr:=vr.cell
 have G:=h.fr.after fZ (by simp;omega)
 clear fZ h
 refine region_mono [] 4 [[],[],[],[1,2]] [none,none,none,none] (by kernel_rfl) (by kernel_rfl) ?_
 simp only [Chain,fill,Act.put,List.nil_append,List.cons_append,List.take_succ_cons,List.take_zero,List.drop_succ_cons,List.drop_zero,List.setIfInBounds_toArray,List.set_cons_zero,List.set_cons_succ,Nat.reduceAdd]
 iterate 3 (apply Exists.intro;apply And.intro;·intro vs w2 hf hh K hK;have p0:=hf.stayd p0;have p1:=hf.stayd p1;have p2:=hf.stayd p2;have p3:=hf.stayd p3;have p4:=hf.stayd p4;have p5:=hf.stayd p5;have p6:=hf.stayd p6;have cr:=hf.stayd cr;simp only [Held] at hh;(try simp only [] at hK ⊢);go_simp;exact hK _ _ ⟨rfl,Fr.refl _ _⟩)
 apply Exists.intro;apply And.intro
 ·intro vs w2 hf hh K hK;have p0:=hf.stayd p0;have p1:=hf.stayd p1;have p2:=hf.stayd p2;have p3:=hf.stayd p3;have p4:=hf.stayd p4;have p5:=hf.stayd p5;have p6:=hf.stayd p6;have cr:=hf.stayd cr;simp only [Held,List.getD_cons_zero,List.getD_cons_succ,Just,and_true] at hh;(try simp only [hh] at hK ⊢);go_simp;refine (body_l _ a b txt d 2 5 places (R) (by omega)).mono ?_;rintro e w3 ⟨rfl,f3⟩;exact hK _ _ ⟨rfl,f3⟩
 intro vs w2 hf hh
 simp only [HeldAll,Just,and_true,Nat.reduceAdd] at hh
 obtain⟨e0,e1,e2,e3⟩:=hh
 simp only [e0,e1,e2,e3]
 clear e0 e1 e2 e3
 clear vs
 have p0:=hf.stayd p0
 have p1:=hf.stayd p1
 have p2:=hf.stayd p2
 have p3:=hf.stayd p3
 have p4:=hf.stayd p4
 have p5:=hf.stayd p5
 have p6:=hf.stayd p6
 have cr:=hf.stayd cr
 have vn:=vn.drew.fr hf (by simp)
 have vk:=vk.drew.fr hf (by simp)
 have vm:=vm.drew.fr hf (by simp)
 have vu:=vu.drew.fr hf (by simp)
 have vs:=vs.drew.fr hf (by simp)
 have cn:=vn.cell
 have cnz:=vn.frozen
 have ck:=vk.cell
 have ckz:=vk.frozen
 have G2:=G.drew.then hf
 go_wp2_with fail
 have D1:w.heap.size+1+1 ≠ w.heap.size+1+1+1:=by omega
 have vn:=(vn.set (.string (strL (R)))).other D1 (.bool (bodyB d places (R)))
 have vk:=(vk.other (Ne.symm D1) (.string (strL (R)))).set (.bool (bodyB d places (R)))
 have vm:=(vm.other (c:=w.heap.size+1+1) (by omega) (.string (strL (R)))).other (c:=w.heap.size+1+1+1) (by omega) (.bool (bodyB d places (R)))
 have vu:=(vu.other (c:=w.heap.size+1+1) (by omega) (.string (strL (R)))).other (c:=w.heap.size+1+1+1) (by omega) (.bool (bodyB d places (R)))
 have vs:=(vs.other (c:=w.heap.size+1+1) (by omega) (.string (strL (R)))).other (c:=w.heap.size+1+1+1) (by omega) (.bool (bodyB d places (R)))
 have fD:=((Fr.refl [w.heap.size+1+1,w.heap.size+1+1+1] w2).setCell (p:=⟨w.heap.size+1+1,0,none⟩) (.inl (by simp)) (.string (strL (R)))).setCell (p:=⟨w.heap.size+1+1+1,0,none⟩) (.inl (by simp)) (.bool (bodyB d places (R)))
 have p5:=fD.stay p5 (by simp;omega)
 have G3:=G2.after fD (by simp;omega)
 have hsz:¬ 9223372036854775807<(strL []).size+(strL (R)).size:=by rw [strL_size,strL_size];simp only [List.length_nil];rw [strL_size,strL_size] at z2;omega
 refine leaves_cons (f:=52) (args:=#[.pointer (some ⟨bm,0,none⟩),.pointer (some ⟨w.heap.size+1+1,0,none⟩),.pointer (some ⟨bu,0,none⟩),.pointer (some ⟨w.heap.size+1+1+1,0,none⟩),.pointer (some ⟨w.heap.size+1,0,none⟩),.pointer (some ⟨w.heap.size,0,none⟩)]) (by simp) (by simp [go_sem]) ?_
 refine (takeEnd_any _ bm (w.heap.size+1+1) bu (w.heap.size+1+1+1) (w.heap.size+1) w.heap.size [] (R) l _ 5 _ vm vn vu vk vs p5 (by omega) (by omega) (by omega) (by omega) (by omega) (by omega) (by omega) hsz).mono ?_
 rintro e u' w3 ⟨rfl,rfl,hn3,hk3,f3⟩
 refine⟨_,results_two rfl _ w3 ⟨w.heap.size+1+1,0,none⟩ ⟨w.heap.size+1+1+1,0,none⟩ _ _ rfl rfl (load_string hn3) (load_bool hk3),?_⟩
 refine⟨rfl,?_⟩
 exact G3.after f3 (by simp;omega)
theorem take_b0 (w:World) (a b txt:ByteArray) (d:Nat) (places:Int) (l:List UInt8) (hl:l.length≤65536) (hR:Lib.trimLeftS l [32]=l) (hp:Lib.hasPrefix (l) [45]=false) (hb:((strL (l)).toList==[110,97,110])=false) :
  Calls Tryz.prog 29 #[planV a b d 2 txt 5 places,.string (strL l)] w fun x w'=>x=.returned (.tuple #[.string ⟨#[]⟩,.bool false])∧Fr [] w w':=by
 have hmf:∀ (fn:Fn) (first cap:Array Value) (w:World),(Instr.makeFunc fn first cap).run Tryz.prog w=.ok (.func fn first cap) w:=fun _ _ _ _=>rfl
 have hix:∀ w,(Instr.index 133 (.agg #[.string ⟨#[]⟩,.string ⟨#[43]⟩,.string ⟨#[32]⟩]) (.int .i64 2)).run Tryz.prog w=.ok (.string ⟨#[32]⟩) w:=fun _=>by kernel_rfl
 have hT:=fun W=>trimLeft_blank W l
 have hle:=trimLeft_le l [32]
 rw [hR] at hT hle
 have hP:=fun W=>hasPrefix_l W l [45]
 simp only [hp] at hP
 have hP':∀ W,Calls Tryz.prog 39 #[.string (strL l),.string ⟨#[45]⟩] W fun x w'=>x=.returned (.bool false)∧w'=W:=hP
 clear hP
 have z1:(strL l).size≤65536:=by rw [strL_size];exact hl
 have z2:(strL l).size≤(strL l).size:=by exact Nat.le_refl _
 clear hp
 have hsub:((strL l).size:Int) - ((strL l).size:Int)=0:=by omega
 unfold planV
 go_enter_defers Tryz.func29,Tryz.ntmps29
 go_wp2_with fail
 refine wp_mono (take_begin w a b txt d 2 5 places l) ?_
 rintro e a' W ⟨rfl,bm,br,bu,rfl,h⟩
 have q2:=h.p2
 have q3:=h.p3
 have qs:=h.s.cell
 have qsz:=h.s.frozen
 have qr:=h.r.cell
 have qrz:=h.r.frozen
 have qu:=h.u.cell
 have quz:=h.u.frozen
 have qm:=h.m.cell
 have qn:=h.n.cell
 have qnz:=h.n.frozen
 have qk:=h.k.cell
 have qkz:=h.k.frozen
 have qmz:=h.m.frozen
 have e1:=h.hm
 have e2:=h.hr
 have e3:=h.hu
 have e4:=h.mr
 have e5:=h.mu
 have e6:=h.ru
 simp only [Exit.then]
 go_wp2_with (first
  | (go_at_call 54;go_loud (refine (hT _).mono ?_;rintro x w1 ⟨rfl,f1⟩;have h:=h.to f1;have hq:=(((h.u.other (Ne.symm e6) (.string (strL l))).set (.int .i64 0)).set (.int .i64 (-1))).cell;have q2:=h.p2;have q3:=h.p3;have qs:=h.s.cell;have qr:=h.r.cell;have qrz:=h.r.frozen;have qu:=h.u.cell;have quz:=h.u.frozen;have qn:=h.n.cell;have qnz:=h.n.frozen;have qk:=h.k.cell;have qkz:=h.k.frozen;have qm:=h.m.cell;have qmz:=h.m.frozen))
  | (go_at_call 39;go_loud (refine (hP' _).mono ?_;rintro x w2 ⟨rfl,hw⟩;subst hw)))
 have fZ:Fr [bm,br,bu,w.heap.size+1+1,w.heap.size+1+1+1] w1 (((((w1.setCell ⟨br,0,none⟩ (.string (strL l))).setCell ⟨bu,0,none⟩ (.int .i64 0)).setCell ⟨bu,0,none⟩ (.int .i64 (-1))).setCell ⟨w.heap.size+1+1,0,none⟩ (.string ⟨#[]⟩)).setCell ⟨w.heap.size+1+1+1,0,none⟩ (.bool false)):=((((((Fr.refl _ w1).setCell (.inl (by simp)) _).setCell (.inl (by simp)) _).setCell (.inl (by simp)) _).setCell (.inl (by simp)) _).setCell (.inl (by simp)) _)
 have vm:Var (((((w1.setCell ⟨br,0,none⟩ (.string (strL l))).setCell ⟨bu,0,none⟩ (.int .i64 0)).setCell ⟨bu,0,none⟩ (.int .i64 (-1))).setCell ⟨w.heap.size+1+1,0,none⟩ (.string ⟨#[]⟩)).setCell ⟨w.heap.size+1+1+1,0,none⟩ (.bool false)) bm (.string (strL [])):=(((((h.m.other (c:=br) (by omega) _).other (c:=bu) (by omega) _).other (c:=bu) (by omega) _).other (c:=w.heap.size+1+1) (by omega) _).other (c:=w.heap.size+1+1+1) (by omega) _)
 have vu:Var (((((w1.setCell ⟨br,0,none⟩ (.string (strL l))).setCell ⟨bu,0,none⟩ (.int .i64 0)).setCell ⟨bu,0,none⟩ (.int .i64 (-1))).setCell ⟨w.heap.size+1+1,0,none⟩ (.string ⟨#[]⟩)).setCell ⟨w.heap.size+1+1+1,0,none⟩ (.bool false)) bu (.int .i64 (-1)):=(((((h.u.other (c:=br) (by omega) _).set _).set _).other (c:=w.heap.size+1+1) (by omega) _).other (c:=w.heap.size+1+1+1) (by omega) _)
 have vn:Var (((((w1.setCell ⟨br,0,none⟩ (.string (strL l))).setCell ⟨bu,0,none⟩ (.int .i64 0)).setCell ⟨bu,0,none⟩ (.int .i64 (-1))).setCell ⟨w.heap.size+1+1,0,none⟩ (.string ⟨#[]⟩)).setCell ⟨w.heap.size+1+1+1,0,none⟩ (.bool false)) (w.heap.size+1+1) (.string (strL [])):=(((((h.n.other (c:=br) (by omega) _).other (c:=bu) (by omega) _).other (c:=bu) (by omega) _).set _).other (c:=w.heap.size+1+1+1) (by omega) _)
 have vk:Var (((((w1.setCell ⟨br,0,none⟩ (.string (strL l))).setCell ⟨bu,0,none⟩ (.int .i64 0)).setCell ⟨bu,0,none⟩ (.int .i64 (-1))).setCell ⟨w.heap.size+1+1,0,none⟩ (.string ⟨#[]⟩)).setCell ⟨w.heap.size+1+1+1,0,none⟩ (.bool false)) (w.heap.size+1+1+1) (.bool false):=(((((h.k.other (c:=br) (by omega) _).other (c:=bu) (by omega) _).other (c:=bu) (by omega) _).other (c:=w.heap.size+1+1) (by omega) _).set _)
 generalize (((((w1.setCell ⟨br,0,none⟩ (.string (strL l))).setCell ⟨bu,0,none⟩ (.int .i64 0)).setCell ⟨bu,0,none⟩ (.int .i64 (-1))).setCell ⟨w.heap.size+1+1,0,none⟩ (.string ⟨#[]⟩)).setCell ⟨w.heap.size+1+1+1,0,none⟩ (.bool false))=Z at *
 have vs:=h.s.fr fZ (by simp;omega)
 have p5:=fZ.stay h.p5 (by simp;omega)
 have G3:=h.fr.after fZ (by simp;omega)
 have hsz:¬ 9223372036854775807<(strL []).size+(strL []).size:=by rw [strL_size];simp
 refine leaves_cons (f:=52) (args:=#[.pointer (some ⟨bm,0,none⟩),.pointer (some ⟨w.heap.size+1+1,0,none⟩),.pointer (some ⟨bu,0,none⟩),.pointer (some ⟨w.heap.size+1+1+1,0,none⟩),.pointer (some ⟨w.heap.size+1,0,none⟩),.pointer (some ⟨w.heap.size,0,none⟩)]) (by simp) (by simp [go_sem]) ?_
 refine (takeEnd_any _ bm (w.heap.size+1+1) bu (w.heap.size+1+1+1) (w.heap.size+1) w.heap.size [] [] l _ 5 _ vm vn vu vk vs p5 (by omega) (by omega) (by omega) (by omega) (by omega) (by omega) (by omega) hsz).mono ?_
 rintro e u' w3 ⟨rfl,rfl,hn3,hk3,f3⟩
 have hk3:Var w3 (w.heap.size+1+1+1) (.bool false):=by simpa [finOk] using hk3
 refine⟨_,results_two rfl _ w3 ⟨w.heap.size+1+1,0,none⟩ ⟨w.heap.size+1+1+1,0,none⟩ _ _ rfl rfl (load_string hn3) (load_bool hk3),?_⟩
 refine⟨rfl,?_⟩
 exact G3.after f3 (by simp;omega)
theorem take_pno (w:World) (a b txt:ByteArray) (d:Nat) (places:Int) (l:List UInt8) (hl:l.length≤65536) (hp:Lib.hasPrefix (Lib.trimLeftS l [32]) [45]=false) (hb:((strL (Lib.trimLeftS l [32])).toList==[110,97,110])=false) (hq:Lib.hasPrefix (Lib.trimLeftS l [32]) [43]=false) :
  Calls Tryz.prog 29 #[planV a b d 5 txt 8 places,.string (strL l)] w fun x w'=>x=.returned (.tuple #[.string ⟨#[]⟩,.bool false])∧Fr [] w w':=by
 have hmf:∀ (fn:Fn) (first cap:Array Value) (w:World),(Instr.makeFunc fn first cap).run Tryz.prog w=.ok (.func fn first cap) w:=fun _ _ _ _=>rfl
 have hix:∀ w,(Instr.index 133 (.agg #[.string ⟨#[]⟩,.string ⟨#[43]⟩,.string ⟨#[32]⟩]) (.int .i64 1)).run Tryz.prog w=.ok (.string ⟨#[43]⟩) w:=fun _=>by kernel_rfl
 have hT:=fun W=>trimLeft_blank W l
 have hle:=trimLeft_le l [32]
 generalize Lib.trimLeftS l [32]=R at *
 have hP:=fun W=>hasPrefix_l W R [45]
 simp only [hp] at hP
 have hP':∀ W,Calls Tryz.prog 39 #[.string (strL R),.string ⟨#[45]⟩] W fun x w'=>x=.returned (.bool false)∧w'=W:=hP
 clear hP
 have z1:(strL l).size≤65536:=by rw [strL_size];exact hl
 have z2:(strL R).size≤(strL l).size:=by rw [strL_size,strL_size];exact hle
 have hQ:∀ W,Calls Tryz.prog 39 #[.string (strL R),.string ⟨#[43]⟩] W fun x w'=>x=.returned (.bool false)∧w'=W:=by
  intro W
  have h:=hasPrefix_l W R [43]
  rw [hq] at h
  exact h
 clear hp hq
 unfold planV
 go_enter_defers Tryz.func29,Tryz.ntmps29
 go_wp2_with fail
 refine wp_mono (take_begin w a b txt d 5 8 places l) ?_
 rintro e a' W ⟨rfl,bm,br,bu,rfl,h⟩
 have q2:=h.p2
 have q3:=h.p3
 have qs:=h.s.cell
 have qsz:=h.s.frozen
 have qr:=h.r.cell
 have qrz:=h.r.frozen
 have qu:=h.u.cell
 have quz:=h.u.frozen
 have qm:=h.m.cell
 have qn:=h.n.cell
 have qnz:=h.n.frozen
 have qk:=h.k.cell
 have qkz:=h.k.frozen
 have qmz:=h.m.frozen
 have e1:=h.hm
 have e2:=h.hr
 have e3:=h.hu
 have e4:=h.mr
 have e5:=h.mu
 have e6:=h.ru
 simp only [Exit.then]
 go_wp2_with (first
  | (go_at_call 54;go_loud (refine (hT _).mono ?_;rintro x w1 ⟨rfl,f1⟩;have h:=h.to f1;have q2:=h.p2;have q3:=h.p3;have qs:=h.s.cell;have qr:=h.r.cell;have qrz:=h.r.frozen;have qu:=h.u.cell;have quz:=h.u.frozen;have qn:=h.n.cell;have qnz:=h.n.frozen;have qk:=h.k.cell;have qkz:=h.k.frozen;have qm:=h.m.cell;have qmz:=h.m.frozen))
  | (go_at_call 39;(with_reducible show Calls _ _ #[_,.string ⟨#[43]⟩] _ _);go_loud (refine (hQ _).mono ?_;rintro x w2 ⟨rfl,hw⟩;subst hw))
  | (go_at_call 39;go_loud (refine (hP' _).mono ?_;rintro x w2 ⟨rfl,hw⟩;subst hw)))
 have fZ:Fr [bm,br,bu,w.heap.size+1+1,w.heap.size+1+1+1] w1 ((((w1.setCell ⟨br,0,none⟩ (.string (strL R))).setCell ⟨bu,0,none⟩ (.int .i64 (((strL l).size:Int) - ((strL R).size:Int)))).setCell ⟨w.heap.size+1+1,0,none⟩ (.string ⟨#[]⟩)).setCell ⟨w.heap.size+1+1+1,0,none⟩ (.bool false)):=(((((Fr.refl _ w1).setCell (.inl (by simp)) _).setCell (.inl (by simp)) _).setCell (.inl (by simp)) _).setCell (.inl (by simp)) _)
 have vm:Var ((((w1.setCell ⟨br,0,none⟩ (.string (strL R))).setCell ⟨bu,0,none⟩ (.int .i64 (((strL l).size:Int) - ((strL R).size:Int)))).setCell ⟨w.heap.size+1+1,0,none⟩ (.string ⟨#[]⟩)).setCell ⟨w.heap.size+1+1+1,0,none⟩ (.bool false)) bm (.string (strL [])):=((((h.m.other (c:=br) (by omega) _).other (c:=bu) (by omega) _).other (c:=w.heap.size+1+1) (by omega) _).other (c:=w.heap.size+1+1+1) (by omega) _)
 have vu:Var ((((w1.setCell ⟨br,0,none⟩ (.string (strL R))).setCell ⟨bu,0,none⟩ (.int .i64 (((strL l).size:Int) - ((strL R).size:Int)))).setCell ⟨w.heap.size+1+1,0,none⟩ (.string ⟨#[]⟩)).setCell ⟨w.heap.size+1+1+1,0,none⟩ (.bool false)) bu (.int .i64 (((strL l).size:Int) - ((strL R).size:Int))):=((((h.u.other (c:=br) (by omega) _).set _).other (c:=w.heap.size+1+1) (by omega) _).other (c:=w.heap.size+1+1+1) (by omega) _)
 have vn:Var ((((w1.setCell ⟨br,0,none⟩ (.string (strL R))).setCell ⟨bu,0,none⟩ (.int .i64 (((strL l).size:Int) - ((strL R).size:Int)))).setCell ⟨w.heap.size+1+1,0,none⟩ (.string ⟨#[]⟩)).setCell ⟨w.heap.size+1+1+1,0,none⟩ (.bool false)) (w.heap.size+1+1) (.string (strL [])):=((((h.n.other (c:=br) (by omega) _).other (c:=bu) (by omega) _).set _).other (c:=w.heap.size+1+1+1) (by omega) _)
 have vk:Var ((((w1.setCell ⟨br,0,none⟩ (.string (strL R))).setCell ⟨bu,0,none⟩ (.int .i64 (((strL l).size:Int) - ((strL R).size:Int)))).setCell ⟨w.heap.size+1+1,0,none⟩ (.string ⟨#[]⟩)).setCell ⟨w.heap.size+1+1+1,0,none⟩ (.bool false)) (w.heap.size+1+1+1) (.bool false):=((((h.k.other (c:=br) (by omega) _).other (c:=bu) (by omega) _).other (c:=w.heap.size+1+1) (by omega) _).set _)
 generalize ((((w1.setCell ⟨br,0,none⟩ (.string (strL R))).setCell ⟨bu,0,none⟩ (.int .i64 (((strL l).size:Int) - ((strL R).size:Int)))).setCell ⟨w.heap.size+1+1,0,none⟩ (.string ⟨#[]⟩)).setCell ⟨w.heap.size+1+1+1,0,none⟩ (.bool false))=Z at *
 have vs:=h.s.fr fZ (by simp;omega)
 have p5:=fZ.stay h.p5 (by simp;omega)
 have G3:=h.fr.after fZ (by simp;omega)
 have hsz:¬ 9223372036854775807<(strL []).size+(strL []).size:=by rw [strL_size];simp
 refine leaves_cons (f:=52) (args:=#[.pointer (some ⟨bm,0,none⟩),.pointer (some ⟨w.heap.size+1+1,0,none⟩),.pointer (some ⟨bu,0,none⟩),.pointer (some ⟨w.heap.size+1+1+1,0,none⟩),.pointer (some ⟨w.heap.size+1,0,none⟩),.pointer (some ⟨w.heap.size,0,none⟩)]) (by simp) (by simp [go_sem]) ?_
 refine (takeEnd_any _ bm (w.heap.size+1+1) bu (w.heap.size+1+1+1) (w.heap.size+1) w.heap.size [] [] l _ 8 _ vm vn vu vk vs p5 (by omega) (by omega) (by omega) (by omega) (by omega) (by omega) (by omega) hsz).mono ?_
 rintro e u' w3 ⟨rfl,rfl,hn3,hk3,f3⟩
 have hk3:Var w3 (w.heap.size+1+1+1) (.bool false):=by simpa [finOk] using hk3
 refine⟨_,results_two rfl _ w3 ⟨w.heap.size+1+1,0,none⟩ ⟨w.heap.size+1+1+1,0,none⟩ _ _ rfl rfl (load_string hn3) (load_bool hk3),?_⟩
 refine⟨rfl,?_⟩
 exact G3.after f3 (by simp;omega)
theorem take_pput (w:World) (a b txt:ByteArray) (d:Nat) (places:Int) (l S:List UInt8) (hl:l.length≤65536) (hR:Lib.trimLeftS l [32]=43 :: S) (hb:¬ S=[110,97,110]) (hnS:namedB S=false) (hu:0<((strL l).size - (strL (43 :: S)).size:Int)) :
  Calls Tryz.prog 29 #[planV a b d 5 txt 8 places,.string (strL l)] w fun x w'=>x=.returned (.tuple #[.string ⟨#[]⟩,.bool false])∧Fr [] w w':=by
 have hp:Lib.hasPrefix (Lib.trimLeftS l [32]) [45]=false:=by rw [hR];rfl
 have hmf:∀ (fn:Fn) (first cap:Array Value) (w:World),(Instr.makeFunc fn first cap).run Tryz.prog w=.ok (.func fn first cap) w:=fun _ _ _ _=>rfl
 have hix:∀ w,(Instr.index 133 (.agg #[.string ⟨#[]⟩,.string ⟨#[43]⟩,.string ⟨#[32]⟩]) (.int .i64 1)).run Tryz.prog w=.ok (.string ⟨#[43]⟩) w:=fun _=>by kernel_rfl
 have hT:=fun W=>trimLeft_blank W l
 have hle:=trimLeft_le l [32]
 generalize Lib.trimLeftS l [32]=R at *
 have hP:=fun W=>hasPrefix_l W R [45]
 simp only [hp] at hP
 have hP':∀ W,Calls Tryz.prog 39 #[.string (strL R),.string ⟨#[45]⟩] W fun x w'=>x=.returned (.bool false)∧w'=W:=hP
 clear hP
 have z1:(strL l).size≤65536:=by rw [strL_size];exact hl
 have z2:(strL R).size≤(strL l).size:=by rw [strL_size,strL_size];exact hle
 have hQ:∀ W,Calls Tryz.prog 39 #[.string (strL R),.string ⟨#[43]⟩] W fun x w'=>x=.returned (.bool true)∧w'=W:=by
  intro W
  have h:=hasPrefix_l W R [43]
  rw [(by rw [hR];rfl:Lib.hasPrefix R [43]=true)] at h
  exact h
 subst hR
 have hs1:∀ W,(Instr.slice 9 (.string (strL (43 :: S))) (some (.int .i64 1)) none none).run Tryz.prog W=.ok (.string (strL S)) W:=fun W=>sliceN_run (43 :: S) 1 (by simp) W
 have hb2:((strL S).toList==[110,97,110])=false:=by rw [ByteArray.toList_eq,strL_data];simpa using hb
 have hb3:((strL (43 :: S)).toList==[110,97,110])=false:=by rw [ByteArray.toList_eq,strL_data];rfl
 have hnm:=fun W=>named_l W S
 simp only [hnS] at hnm
 clear hle hp
 unfold planV
 go_enter_defers Tryz.func29,Tryz.ntmps29
 go_wp2_with fail
 refine wp_mono (take_begin w a b txt d 5 8 places l) ?_
 rintro e a' W ⟨rfl,bm,br,bu,rfl,h⟩
 have q2:=h.p2
 have q3:=h.p3
 have qs:=h.s.cell
 have qsz:=h.s.frozen
 have qr:=h.r.cell
 have qrz:=h.r.frozen
 have qu:=h.u.cell
 have quz:=h.u.frozen
 have qm:=h.m.cell
 have qn:=h.n.cell
 have qnz:=h.n.frozen
 have qk:=h.k.cell
 have qkz:=h.k.frozen
 have qmz:=h.m.frozen
 have e1:=h.hm
 have e2:=h.hr
 have e3:=h.hu
 have e4:=h.mr
 have e5:=h.mu
 have e6:=h.ru
 simp only [Exit.then]
 go_wp2_with (first
  | (go_at_call 54;go_loud (refine (hT _).mono ?_;rintro x w1 ⟨rfl,f1⟩;have h:=h.to f1;have q2:=h.p2;have q3:=h.p3;have qs:=h.s.cell;have qr:=h.r.cell;have qrz:=h.r.frozen;have qu:=h.u.cell;have quz:=h.u.frozen;have qn:=h.n.cell;have qnz:=h.n.frozen;have qk:=h.k.cell;have qkz:=h.k.frozen;have qm:=h.m.cell;have qmz:=h.m.frozen))
  | (go_at_call 55;go_loud (refine (hnm _).mono ?_;rintro x w2 ⟨rfl,hw⟩;subst hw))
  | (go_at_call 39;(with_reducible show Calls _ _ #[_,.string ⟨#[43]⟩] _ _);go_loud (refine (hQ _).mono ?_;rintro x w2 ⟨rfl,hw⟩;subst hw))
  | (go_at_call 39;go_loud (refine (hP' _).mono ?_;rintro x w2 ⟨rfl,hw⟩;subst hw)))
 have fZ:Fr [bm,br,bu,w.heap.size+1+1,w.heap.size+1+1+1] w1 (((((w1.setCell ⟨br,0,none⟩ (.string (strL (43 :: S)))).setCell ⟨bu,0,none⟩ (.int .i64 (((strL l).size:Int) - ((strL (43 :: S)).size:Int)))).setCell ⟨br,0,none⟩ (.string (strL S))).setCell ⟨w.heap.size+1+1,0,none⟩ (.string ⟨#[]⟩)).setCell ⟨w.heap.size+1+1+1,0,none⟩ (.bool false)):=((((((Fr.refl _ w1).setCell (.inl (by simp)) _).setCell (.inl (by simp)) _).setCell (.inl (by simp)) _).setCell (.inl (by simp)) _).setCell (.inl (by simp)) _)
 have vm:Var (((((w1.setCell ⟨br,0,none⟩ (.string (strL (43 :: S)))).setCell ⟨bu,0,none⟩ (.int .i64 (((strL l).size:Int) - ((strL (43 :: S)).size:Int)))).setCell ⟨br,0,none⟩ (.string (strL S))).setCell ⟨w.heap.size+1+1,0,none⟩ (.string ⟨#[]⟩)).setCell ⟨w.heap.size+1+1+1,0,none⟩ (.bool false)) bm (.string (strL [])):=(((((h.m.other (c:=br) (by omega) _).other (c:=bu) (by omega) _).other (c:=br) (by omega) _).other (c:=w.heap.size+1+1) (by omega) _).other (c:=w.heap.size+1+1+1) (by omega) _)
 have vu:Var (((((w1.setCell ⟨br,0,none⟩ (.string (strL (43 :: S)))).setCell ⟨bu,0,none⟩ (.int .i64 (((strL l).size:Int) - ((strL (43 :: S)).size:Int)))).setCell ⟨br,0,none⟩ (.string (strL S))).setCell ⟨w.heap.size+1+1,0,none⟩ (.string ⟨#[]⟩)).setCell ⟨w.heap.size+1+1+1,0,none⟩ (.bool false)) bu (.int .i64 (((strL l).size:Int) - ((strL (43 :: S)).size:Int))):=(((((h.u.other (c:=br) (by omega) _).set _).other (c:=br) (by omega) _).other (c:=w.heap.size+1+1) (by omega) _).other (c:=w.heap.size+1+1+1) (by omega) _)
 have vn:Var (((((w1.setCell ⟨br,0,none⟩ (.string (strL (43 :: S)))).setCell ⟨bu,0,none⟩ (.int .i64 (((strL l).size:Int) - ((strL (43 :: S)).size:Int)))).setCell ⟨br,0,none⟩ (.string (strL S))).setCell ⟨w.heap.size+1+1,0,none⟩ (.string ⟨#[]⟩)).setCell ⟨w.heap.size+1+1+1,0,none⟩ (.bool false)) (w.heap.size+1+1) (.string (strL [])):=(((((h.n.other (c:=br) (by omega) _).other (c:=bu) (by omega) _).other (c:=br) (by omega) _).set _).other (c:=w.heap.size+1+1+1) (by omega) _)
 have vk:Var (((((w1.setCell ⟨br,0,none⟩ (.string (strL (43 :: S)))).setCell ⟨bu,0,none⟩ (.int .i64 (((strL l).size:Int) - ((strL (43 :: S)).size:Int)))).setCell ⟨br,0,none⟩ (.string (strL S))).setCell ⟨w.heap.size+1+1,0,none⟩ (.string ⟨#[]⟩)).setCell ⟨w.heap.size+1+1+1,0,none⟩ (.bool false)) (w.heap.size+1+1+1) (.bool false):=(((((h.k.other (c:=br) (by omega) _).other (c:=bu) (by omega) _).other (c:=br) (by omega) _).other (c:=w.heap.size+1+1) (by omega) _).set _)
 generalize (((((w1.setCell ⟨br,0,none⟩ (.string (strL (43 :: S)))).setCell ⟨bu,0,none⟩ (.int .i64 (((strL l).size:Int) - ((strL (43 :: S)).size:Int)))).setCell ⟨br,0,none⟩ (.string (strL S))).setCell ⟨w.heap.size+1+1,0,none⟩ (.string ⟨#[]⟩)).setCell ⟨w.heap.size+1+1+1,0,none⟩ (.bool false))=Z at *
 have vs:=h.s.fr fZ (by simp;omega)
 have p5:=fZ.stay h.p5 (by simp;omega)
 have G3:=h.fr.after fZ (by simp;omega)
 have hsz:¬ 9223372036854775807<(strL []).size+(strL []).size:=by rw [strL_size];simp
 refine leaves_cons (f:=52) (args:=#[.pointer (some ⟨bm,0,none⟩),.pointer (some ⟨w.heap.size+1+1,0,none⟩),.pointer (some ⟨bu,0,none⟩),.pointer (some ⟨w.heap.size+1+1+1,0,none⟩),.pointer (some ⟨w.heap.size+1,0,none⟩),.pointer (some ⟨w.heap.size,0,none⟩)]) (by simp) (by simp [go_sem]) ?_
 refine (takeEnd_any _ bm (w.heap.size+1+1) bu (w.heap.size+1+1+1) (w.heap.size+1) w.heap.size [] [] l _ 8 _ vm vn vu vk vs p5 (by omega) (by omega) (by omega) (by omega) (by omega) (by omega) (by omega) hsz).mono ?_
 rintro e u' w3 ⟨rfl,rfl,hn3,hk3,f3⟩
 have hk3:Var w3 (w.heap.size+1+1+1) (.bool false):=by simpa [finOk] using hk3
 refine⟨_,results_two rfl _ w3 ⟨w.heap.size+1+1,0,none⟩ ⟨w.heap.size+1+1+1,0,none⟩ _ _ rfl rfl (load_string hn3) (load_bool hk3),?_⟩
 refine⟨rfl,?_⟩
 exact G3.after f3 (by simp;omega)
theorem take_pnm (w:World) (a b txt:ByteArray) (d:Nat) (places:Int) (l S:List UInt8) (hl:l.length≤65536) (hR:Lib.trimLeftS l [32]=43 :: S) (hb:¬ S=[110,97,110]) (hnS:namedB S=true) :
  Calls Tryz.prog 29 #[planV a b d 5 txt 8 places,.string (strL l)] w fun x w'=>x=.returned (.tuple #[.string (strL S),.bool (finOk (bodyB d places S) ((strL l).size - (strL (43 :: S)).size:Int) 8 (strL l).size)])∧Fr [] w w':=by
 have hp:Lib.hasPrefix (Lib.trimLeftS l [32]) [45]=false:=by rw [hR];rfl
 have hmf:∀ (fn:Fn) (first cap:Array Value) (w:World),(Instr.makeFunc fn first cap).run Tryz.prog w=.ok (.func fn first cap) w:=fun _ _ _ _=>rfl
 have hix:∀ w,(Instr.index 133 (.agg #[.string ⟨#[]⟩,.string ⟨#[43]⟩,.string ⟨#[32]⟩]) (.int .i64 1)).run Tryz.prog w=.ok (.string ⟨#[43]⟩) w:=fun _=>by kernel_rfl
 have hT:=fun W=>trimLeft_blank W l
 have hle:=trimLeft_le l [32]
 generalize Lib.trimLeftS l [32]=R at *
 have hP:=fun W=>hasPrefix_l W R [45]
 simp only [hp] at hP
 have hP':∀ W,Calls Tryz.prog 39 #[.string (strL R),.string ⟨#[45]⟩] W fun x w'=>x=.returned (.bool false)∧w'=W:=hP
 clear hP
 have z1:(strL l).size≤65536:=by rw [strL_size];exact hl
 have z2:(strL R).size≤(strL l).size:=by rw [strL_size,strL_size];exact hle
 have hQ:∀ W,Calls Tryz.prog 39 #[.string (strL R),.string ⟨#[43]⟩] W fun x w'=>x=.returned (.bool true)∧w'=W:=by
  intro W
  have h:=hasPrefix_l W R [43]
  rw [(by rw [hR];rfl:Lib.hasPrefix R [43]=true)] at h
  exact h
 subst hR
 have hs1:∀ W,(Instr.slice 9 (.string (strL (43 :: S))) (some (.int .i64 1)) none none).run Tryz.prog W=.ok (.string (strL S)) W:=fun W=>sliceN_run (43 :: S) 1 (by simp) W
 have hb2:((strL S).toList==[110,97,110])=false:=by rw [ByteArray.toList_eq,strL_data];simpa using hb
 have hb3:((strL (43 :: S)).toList==[110,97,110])=false:=by rw [ByteArray.toList_eq,strL_data];rfl
 have hnm:=fun W=>named_l W S
 simp only [hnS] at hnm
 have hlS:S.length≤65536:=by simp only [List.length_cons] at hle;omega
 clear hle hp
 unfold planV
 go_enter_defers Tryz.func29,Tryz.ntmps29
 go_wp2_with fail
 refine wp_mono (take_begin w a b txt d 5 8 places l) ?_
 rintro e a' W ⟨rfl,bm,br,bu,rfl,h⟩
 have q2:=h.p2
 have q3:=h.p3
 have qs:=h.s.cell
 have qsz:=h.s.frozen
 have qr:=h.r.cell
 have qrz:=h.r.frozen
 have qu:=h.u.cell
 have quz:=h.u.frozen
 have qm:=h.m.cell
 have qmz:=h.m.frozen
 have e1:=h.hm
 have e2:=h.hr
 have e3:=h.hu
 have e4:=h.mr
 have e5:=h.mu
 have e6:=h.ru
 simp only [Exit.then]
 go_wp2_with (first
  | (go_at_call 54;go_loud (refine (hT _).mono ?_;rintro x w1 ⟨rfl,f1⟩;have h:=h.to f1;have q2:=h.p2;have q3:=h.p3;have qs:=h.s.cell;have qr:=h.r.cell;have qrz:=h.r.frozen;have qu:=h.u.cell;have quz:=h.u.frozen;have qm:=h.m.cell;have qmz:=h.m.frozen))
  | (go_at_call 55;go_loud (refine (hnm _).mono ?_;rintro x w2 ⟨rfl,hw⟩;subst hw))
  | (go_at_call 39;(with_reducible show Calls _ _ #[_,.string ⟨#[43]⟩] _ _);go_loud (refine (hQ _).mono ?_;rintro x w2 ⟨rfl,hw⟩;subst hw))
  | (go_at_call 39;go_loud (refine (hP' _).mono ?_;rintro x w2 ⟨rfl,hw⟩;subst hw)))
 have fZ:Fr [bm,br,bu] w1 (((w1.setCell ⟨br,0,none⟩ (.string (strL (43 :: S)))).setCell ⟨bu,0,none⟩ (.int .i64 (((strL l).size:Int) - ((strL (43 :: S)).size:Int)))).setCell ⟨br,0,none⟩ (.string (strL S))):=(((Fr.refl [bm,br,bu] w1).setCell (.inl (by simp)) _).setCell (.inl (by simp)) _).setCell (.inl (by simp)) _
 have vr:Var (((w1.setCell ⟨br,0,none⟩ (.string (strL (43 :: S)))).setCell ⟨bu,0,none⟩ (.int .i64 (((strL l).size:Int) - ((strL (43 :: S)).size:Int)))).setCell ⟨br,0,none⟩ (.string (strL S))) br (.string (strL S)):=((h.r.set _).other e6 _).set _
 have vm:Var (((w1.setCell ⟨br,0,none⟩ (.string (strL (43 :: S)))).setCell ⟨bu,0,none⟩ (.int .i64 (((strL l).size:Int) - ((strL (43 :: S)).size:Int)))).setCell ⟨br,0,none⟩ (.string (strL S))) bm (.string (strL [])):=((h.m.other e4 _).other e5 _).other e4 _
 have vu:Var (((w1.setCell ⟨br,0,none⟩ (.string (strL (43 :: S)))).setCell ⟨bu,0,none⟩ (.int .i64 (((strL l).size:Int) - ((strL (43 :: S)).size:Int)))).setCell ⟨br,0,none⟩ (.string (strL S))) bu (.int .i64 (((strL l).size:Int) - ((strL (43 :: S)).size:Int))):=((h.u.other (Ne.symm e6) _).set _).other (Ne.symm e6) _
 generalize (((w1.setCell ⟨br,0,none⟩ (.string (strL (43 :: S)))).setCell ⟨bu,0,none⟩ (.int .i64 (((strL l).size:Int) - ((strL (43 :: S)).size:Int)))).setCell ⟨br,0,none⟩ (.string (strL S)))=Z at *
 clear q2 q3 qs qsz qr qrz qu quz qm qmz
 have vs:=h.s.fr fZ (by simp;omega)
 have vn:=h.n.fr fZ (by simp;omega)
 have vk:=h.k.fr fZ (by simp;omega)
 have p0:=fZ.stay h.p0 (by simp;omega)
 have p1:=fZ.stay h.p1 (by simp;omega)
 have p2:=fZ.stay h.p2 (by simp;omega)
 have p3:=fZ.stay h.p3 (by simp;omega)
 have p4:=fZ.stay h.p4 (by simp;omega)
 have p5:=fZ.stay h.p5 (by simp;omega)
 have p6:=fZ.stay h.p6 (by simp;omega)
 have cr:=vr.cell
 have G:=h.fr.after fZ (by simp;omega)
 clear fZ h
 refine region_mono [] 4 [[],[],[],[1,2]] [none,none,none,none] (by kernel_rfl) (by kernel_rfl) ?_
 simp only [Chain,fill,Act.put,List.nil_append,List.cons_append,List.take_succ_cons,List.take_zero,List.drop_succ_cons,List.drop_zero,List.setIfInBounds_toArray,List.set_cons_zero,List.set_cons_succ,Nat.reduceAdd]
 iterate 3 (apply Exists.intro;apply And.intro;·intro vs w2 hf hh K hK;have p0:=hf.stayd p0;have p1:=hf.stayd p1;have p2:=hf.stayd p2;have p3:=hf.stayd p3;have p4:=hf.stayd p4;have p5:=hf.stayd p5;have p6:=hf.stayd p6;have cr:=hf.stayd cr;simp only [Held] at hh;(try simp only [] at hK ⊢);go_simp;exact hK _ _ ⟨rfl,Fr.refl _ _⟩)
 apply Exists.intro;apply And.intro
 ·intro vs w2 hf hh K hK;have p0:=hf.stayd p0;have p1:=hf.stayd p1;have p2:=hf.stayd p2;have p3:=hf.stayd p3;have p4:=hf.stayd p4;have p5:=hf.stayd p5;have p6:=hf.stayd p6;have cr:=hf.stayd cr;simp only [Held,List.getD_cons_zero,List.getD_cons_succ,Just,and_true] at hh;(try simp only [hh] at hK ⊢);go_simp;refine (body_l _ a b txt d 5 8 places (S) (by exact hlS)).mono ?_;rintro e w3 ⟨rfl,f3⟩;exact hK _ _ ⟨rfl,f3⟩
 intro vs w2 hf hh
 simp only [HeldAll,Just,and_true,Nat.reduceAdd] at hh
 obtain⟨e0,e1,e2,e3⟩:=hh
 simp only [e0,e1,e2,e3]
 clear e0 e1 e2 e3
 clear vs
 have p0:=hf.stayd p0
 have p1:=hf.stayd p1
 have p2:=hf.stayd p2
 have p3:=hf.stayd p3
 have p4:=hf.stayd p4
 have p5:=hf.stayd p5
 have p6:=hf.stayd p6
 have cr:=hf.stayd cr
 have vn:=vn.drew.fr hf (by simp)
 have vk:=vk.drew.fr hf (by simp)
 have vm:=vm.drew.fr hf (by simp)
 have vu:=vu.drew.fr hf (by simp)
 have vs:=vs.drew.fr hf (by simp)
 have cn:=vn.cell
 have cnz:=vn.frozen
 have ck:=vk.cell
 have ckz:=vk.frozen
 have G2:=G.drew.then hf
 go_wp2_with fail
 have D1:w.heap.size+1+1 ≠ w.heap.size+1+1+1:=by omega
 have vn:=(vn.set (.string (strL (S)))).other D1 (.bool (bodyB d places (S)))
 have vk:=(vk.other (Ne.symm D1) (.string (strL (S)))).set (.bool (bodyB d places (S)))
 have vm:=(vm.other (c:=w.heap.size+1+1) (by omega) (.string (strL (S)))).other (c:=w.heap.size+1+1+1) (by omega) (.bool (bodyB d places (S)))
 have vu:=(vu.other (c:=w.heap.size+1+1) (by omega) (.string (strL (S)))).other (c:=w.heap.size+1+1+1) (by omega) (.bool (bodyB d places (S)))
 have vs:=(vs.other (c:=w.heap.size+1+1) (by omega) (.string (strL (S)))).other (c:=w.heap.size+1+1+1) (by omega) (.bool (bodyB d places (S)))
 have fD:=((Fr.refl [w.heap.size+1+1,w.heap.size+1+1+1] w2).setCell (p:=⟨w.heap.size+1+1,0,none⟩) (.inl (by simp)) (.string (strL (S)))).setCell (p:=⟨w.heap.size+1+1+1,0,none⟩) (.inl (by simp)) (.bool (bodyB d places (S)))
 have p5:=fD.stay p5 (by simp;omega)
 have G3:=G2.after fD (by simp;omega)
 have hsz:¬ 9223372036854775807<(strL []).size+(strL (S)).size:=by rw [strL_size,strL_size];simp only [List.length_nil];rw [strL_size,List.length_cons] at z2;rw [strL_size] at z1 z2;omega
 refine leaves_cons (f:=52) (args:=#[.pointer (some ⟨bm,0,none⟩),.pointer (some ⟨w.heap.size+1+1,0,none⟩),.pointer (some ⟨bu,0,none⟩),.pointer (some ⟨w.heap.size+1+1+1,0,none⟩),.pointer (some ⟨w.heap.size+1,0,none⟩),.pointer (some ⟨w.heap.size,0,none⟩)]) (by simp) (by simp [go_sem]) ?_
 refine (takeEnd_any _ bm (w.heap.size+1+1) bu (w.heap.size+1+1+1) (w.heap.size+1) w.heap.size [] (S) l _ 8 _ vm vn vu vk vs p5 (by omega) (by omega) (by omega) (by omega) (by omega) (by omega) (by omega) hsz).mono ?_
 rintro e u' w3 ⟨rfl,rfl,hn3,hk3,f3⟩
 refine⟨_,results_two rfl _ w3 ⟨w.heap.size+1+1,0,none⟩ ⟨w.heap.size+1+1+1,0,none⟩ _ _ rfl rfl (load_string hn3) (load_bool hk3),?_⟩
 refine⟨rfl,?_⟩
 exact G3.after f3 (by simp;omega)
theorem take_pnan (w:World) (a b txt:ByteArray) (d:Nat) (places:Int) (l:List UInt8) (hl:l.length≤65536) (hR:Lib.trimLeftS l [32]=[110,97,110]) :
  Calls Tryz.prog 29 #[planV a b d 5 txt 8 places,.string (strL l)] w fun x w'=>x=.returned (.tuple #[.string (strL [110,97,110]),.bool (finOk (bodyB d places [110,97,110]) ((strL l).size - (strL [110,97,110]).size:Int) 8 (strL l).size)])∧Fr [] w w':=by
 have hp:Lib.hasPrefix (Lib.trimLeftS l [32]) [45]=false:=by rw [hR];rfl
 have hmf:∀ (fn:Fn) (first cap:Array Value) (w:World),(Instr.makeFunc fn first cap).run Tryz.prog w=.ok (.func fn first cap) w:=fun _ _ _ _=>rfl
 have hix:∀ w,(Instr.index 133 (.agg #[.string ⟨#[]⟩,.string ⟨#[43]⟩,.string ⟨#[32]⟩]) (.int .i64 1)).run Tryz.prog w=.ok (.string ⟨#[43]⟩) w:=fun _=>by kernel_rfl
 have hT:=fun W=>trimLeft_blank W l
 have hle:=trimLeft_le l [32]
 generalize Lib.trimLeftS l [32]=R at *
 have hP:=fun W=>hasPrefix_l W R [45]
 simp only [hp] at hP
 have hP':∀ W,Calls Tryz.prog 39 #[.string (strL R),.string ⟨#[45]⟩] W fun x w'=>x=.returned (.bool false)∧w'=W:=hP
 clear hP
 have z1:(strL l).size≤65536:=by rw [strL_size];exact hl
 have z2:(strL R).size≤(strL l).size:=by rw [strL_size,strL_size];exact hle
 clear hp hle
 have hb:((strL R).toList==[110,97,110])=true:=by rw [ByteArray.toList_eq,strL_data,hR];rfl
 have hnm:=fun W=>named_l W R
 simp only [(by rw [hR];rfl:namedB R=true)] at hnm
 have hlR:R.length≤65536:=by rw [hR];decide
 rw [← hR]
 clear hR
 unfold planV
 go_enter_defers Tryz.func29,Tryz.ntmps29
 go_wp2_with fail
 refine wp_mono (take_begin w a b txt d 5 8 places l) ?_
 rintro e a' W ⟨rfl,bm,br,bu,rfl,h⟩
 have q2:=h.p2
 have q3:=h.p3
 have qs:=h.s.cell
 have qsz:=h.s.frozen
 have qr:=h.r.cell
 have qrz:=h.r.frozen
 have qu:=h.u.cell
 have quz:=h.u.frozen
 have qm:=h.m.cell
 have qmz:=h.m.frozen
 have e1:=h.hm
 have e2:=h.hr
 have e3:=h.hu
 have e4:=h.mr
 have e5:=h.mu
 have e6:=h.ru
 simp only [Exit.then]
 go_wp2_with (first
  | (go_at_call 54;go_loud (refine (hT _).mono ?_;rintro x w1 ⟨rfl,f1⟩;have h:=h.to f1;have q2:=h.p2;have q3:=h.p3;have qs:=h.s.cell;have qr:=h.r.cell;have qrz:=h.r.frozen;have qu:=h.u.cell;have quz:=h.u.frozen;have qm:=h.m.cell;have qmz:=h.m.frozen))
  | (go_at_call 55;go_loud (refine (hnm _).mono ?_;rintro x w2 ⟨rfl,hw⟩;subst hw))
  | (go_at_call 39;go_loud (refine (hP' _).mono ?_;rintro x w2 ⟨rfl,hw⟩;subst hw)))
 have fZ:Fr [bm,br,bu] w1 ((w1.setCell ⟨br,0,none⟩ (.string (strL R))).setCell ⟨bu,0,none⟩ (.int .i64 (((strL l).size:Int) - ((strL R).size:Int)))):=((Fr.refl [bm,br,bu] w1).setCell (.inl (by simp)) _).setCell (.inl (by simp)) _
 have vr:Var ((w1.setCell ⟨br,0,none⟩ (.string (strL R))).setCell ⟨bu,0,none⟩ (.int .i64 (((strL l).size:Int) - ((strL R).size:Int)))) br (.string (strL R)):=(h.r.set _).other e6 _
 have vm:Var ((w1.setCell ⟨br,0,none⟩ (.string (strL R))).setCell ⟨bu,0,none⟩ (.int .i64 (((strL l).size:Int) - ((strL R).size:Int)))) bm (.string (strL [])):=(h.m.other e4 _).other e5 _
 have vu:Var ((w1.setCell ⟨br,0,none⟩ (.string (strL R))).setCell ⟨bu,0,none⟩ (.int .i64 (((strL l).size:Int) - ((strL R).size:Int)))) bu (.int .i64 (((strL l).size:Int) - ((strL R).size:Int))):=(h.u.other (Ne.symm e6) _).set _
 generalize ((w1.setCell ⟨br,0,none⟩ (.string (strL R))).setCell ⟨bu,0,none⟩ (.int .i64 (((strL l).size:Int) - ((strL R).size:Int))))=Z at *
 clear q2 q3 qs qsz qr qrz qu quz qm qmz
 have vs:=h.s.fr fZ (by simp;omega)
 have vn:=h.n.fr fZ (by simp;omega)
 have vk:=h.k.fr fZ (by simp;omega)
 have p0:=fZ.stay h.p0 (by simp;omega)
 have p1:=fZ.stay h.p1 (by simp;omega)
 have p2:=fZ.stay h.p2 (by simp;omega)
 have p3:=fZ.stay h.p3 (by simp;omega)
 have p4:=fZ.stay h.p4 (by simp;omega)
 have p5:=fZ.stay h.p5 (by simp;omega)
 have p6:=fZ.stay h.p6 (by simp;omega)
 have cr:=vr.cell
 have G:=h.fr.after fZ (by simp;omega)
 clear fZ h
 refine region_mono [] 4 [[],[],[],[1,2]] [none,none,none,none] (by kernel_rfl) (by kernel_rfl) ?_
 simp only [Chain,fill,Act.put,List.nil_append,List.cons_append,List.take_succ_cons,List.take_zero,List.drop_succ_cons,List.drop_zero,List.setIfInBounds_toArray,List.set_cons_zero,List.set_cons_succ,Nat.reduceAdd]
 iterate 3 (apply Exists.intro;apply And.intro;·intro vs w2 hf hh K hK;have p0:=hf.stayd p0;have p1:=hf.stayd p1;have p2:=hf.stayd p2;have p3:=hf.stayd p3;have p4:=hf.stayd p4;have p5:=hf.stayd p5;have p6:=hf.stayd p6;have cr:=hf.stayd cr;simp only [Held] at hh;(try simp only [] at hK ⊢);go_simp;exact hK _ _ ⟨rfl,Fr.refl _ _⟩)
 apply Exists.intro;apply And.intro
 ·intro vs w2 hf hh K hK;have p0:=hf.stayd p0;have p1:=hf.stayd p1;have p2:=hf.stayd p2;have p3:=hf.stayd p3;have p4:=hf.stayd p4;have p5:=hf.stayd p5;have p6:=hf.stayd p6;have cr:=hf.stayd cr;simp only [Held,List.getD_cons_zero,List.getD_cons_succ,Just,and_true] at hh;(try simp only [hh] at hK ⊢);go_simp;refine (body_l _ a b txt d 5 8 places (R) (by exact hlR)).mono ?_;rintro e w3 ⟨rfl,f3⟩;exact hK _ _ ⟨rfl,f3⟩
 intro vs w2 hf hh
 simp only [HeldAll,Just,and_true,Nat.reduceAdd] at hh
 obtain⟨e0,e1,e2,e3⟩:=hh
 simp only [e0,e1,e2,e3]
 clear e0 e1 e2 e3
 clear vs
 have p0:=hf.stayd p0
 have p1:=hf.stayd p1
 have p2:=hf.stayd p2
 have p3:=hf.stayd p3
 have p4:=hf.stayd p4
 have p5:=hf.stayd p5
 have p6:=hf.stayd p6
 have cr:=hf.stayd cr
 have vn:=vn.drew.fr hf (by simp)
 have vk:=vk.drew.fr hf (by simp)
 have vm:=vm.drew.fr hf (by simp)
 have vu:=vu.drew.fr hf (by simp)
 have vs:=vs.drew.fr hf (by simp)
 have cn:=vn.cell
 have cnz:=vn.frozen
 have ck:=vk.cell
 have ckz:=vk.frozen
 have G2:=G.drew.then hf
 go_wp2_with fail
 have D1:w.heap.size+1+1 ≠ w.heap.size+1+1+1:=by omega
 have vn:=(vn.set (.string (strL (R)))).other D1 (.bool (bodyB d places (R)))
 have vk:=(vk.other (Ne.symm D1) (.string (strL (R)))).set (.bool (bodyB d places (R)))
 have vm:=(vm.other (c:=w.heap.size+1+1) (by omega) (.string (strL (R)))).other (c:=w.heap.size+1+1+1) (by omega) (.bool (bodyB d places (R)))
 have vu:=(vu.other (c:=w.heap.size+1+1) (by omega) (.string (strL (R)))).other (c:=w.heap.size+1+1+1) (by omega) (.bool (bodyB d places (R)))
 have vs:=(vs.other (c:=w.heap.size+1+1) (by omega) (.string (strL (R)))).other (c:=w.heap.size+1+1+1) (by omega) (.bool (bodyB d places (R)))
 have fD:=((Fr.refl [w.heap.size+1+1,w.heap.size+1+1+1] w2).setCell (p:=⟨w.heap.size+1+1,0,none⟩) (.inl (by simp)) (.string (strL (R)))).setCell (p:=⟨w.heap.size+1+1+1,0,none⟩) (.inl (by simp)) (.bool (bodyB d places (R)))
 have p5:=fD.stay p5 (by simp;omega)
 have G3:=G2.after fD (by simp;omega)
 have hsz:¬ 9223372036854775807<(strL []).size+(strL (R)).size:=by rw [strL_size,strL_size];simp only [List.length_nil];rw [strL_size,strL_size] at z2;omega
 refine leaves_cons (f:=52) (args:=#[.pointer (some ⟨bm,0,none⟩),.pointer (some ⟨w.heap.size+1+1,0,none⟩),.pointer (some ⟨bu,0,none⟩),.pointer (some ⟨w.heap.size+1+1+1,0,none⟩),.pointer (some ⟨w.heap.size+1,0,none⟩),.pointer (some ⟨w.heap.size,0,none⟩)]) (by simp) (by simp [go_sem]) ?_
 refine (takeEnd_any _ bm (w.heap.size+1+1) bu (w.heap.size+1+1+1) (w.heap.size+1) w.heap.size [] (R) l _ 8 _ vm vn vu vk vs p5 (by omega) (by omega) (by omega) (by omega) (by omega) (by omega) (by omega) hsz).mono ?_
 rintro e u' w3 ⟨rfl,rfl,hn3,hk3,f3⟩
 refine⟨_,results_two rfl _ w3 ⟨w.heap.size+1+1,0,none⟩ ⟨w.heap.size+1+1+1,0,none⟩ _ _ rfl rfl (load_string hn3) (load_bool hk3),?_⟩
 refine⟨rfl,?_⟩
 exact G3.after f3 (by simp;omega)
end Go.Proofs.YtcmndpjemdjalaaGreatDoor
namespace Go.Proofs.YtcmndpjemdjalaaGreatDoor
open Go.RowKit
theorem parts_zero (w:World):Calls Tryz.prog 42 #[apiPlan (.slice none 0 0) 0 0 0] w fun x w'=>x=.returned (.tuple #[.slice none 0 0,.bool true])∧Fr [] w w':=by
 unfold apiPlan
 have F:=(Fr.refl [] w).alloc (.cells #[.slice none 0 0,.int .i64 0,.int .i64 0,.int .u8 0] 37)
 go_enter Tryz.func42,Tryz.ntmps42
 go_wp2_with fail
 refine wp_loop_rounds 1 ?_
 rw [rounds_succ]
 go_wp2_with fail
 go_ret2
 exact⟨rfl,F⟩
theorem write_zero (w:World) (o:Value):Calls Tryz.prog 43 #[apiPlan o 0 0 0,.slice none 0 0] w fun x w'=>x=.returned (.string ⟨#[]⟩)∧Fr [] w w':=by
 unfold apiPlan
 have fA:=(Fr.refl [] w).alloc (.cells #[o,.int .i64 0,.int .i64 0,.int .u8 0] 37)
 have fB:=(Fr.refl [] (w.alloc (.cells #[o,.int .i64 0,.int .i64 0,.int .u8 0] 37))).alloc (.cells #[.pointer none,.slice none 0 0] 109)
 have rB:=row_new (w.alloc (.cells #[o,.int .i64 0,.int .i64 0,.int .u8 0] 37)) (.cells #[.pointer none,.slice none 0 0] 109)
 rw [World.size_alloc] at rB
 have F:=fA.then fB
 clear fA fB
 go_enter Tryz.func43,Tryz.ntmps43
 go_wp2_with fail
 generalize hW:(w.alloc (.cells #[o,.int .i64 0,.int .i64 0,.int .u8 0] 37)).alloc (.cells #[.pointer none,.slice none 0 0] 109)=W at *
 have hWs:w.heap.size+1≤W.heap.size:=by rw [← hW];simp
 have hB:=fresh_row rB
 refine wp_loop_rounds 1 ?_
 rw [rounds_succ]
 go_wp2_with (go_at_call 36;go_loud (refine (Tryz.Builder_String_any_k _ _ _ _ hB (by omega)).mono ?_;rintro x w4 ⟨rfl,-,hb4,-⟩))
 go_ret
 exact⟨rfl,F.belowB hb4 (by omega)⟩
theorem pieces_zero (w:World) (b:Nat) (h:RdAt w b ⟨#[]⟩ ((0:Nat):Int) (.slice none 0 0) 0 0 0) :
  Calls Tryz.prog 23 #[.pointer (some ⟨b,0,none⟩)] w fun x w'=>x=.panicked [{ v:=thrown 210 0,recovered:=false }]∧Fr [b] w w':=by
 have hmf:∀ (fn:Fn) (first cap:Array Value) (w:World),(Instr.makeFunc fn first cap).run Tryz.prog w=.ok (.func fn first cap) w:=fun _ _ _ _=>rfl
 have hb:=h.lt
 have fA:=(Fr.refl [] w).alloc (.cells #[.slice none 0 0] 68)
 have fB:=(Fr.refl [] (w.alloc (.cells #[.slice none 0 0] 68))).alloc (.cells #[.pointer none,.slice none 0 0] 109)
 have rB:=row_new (w.alloc (.cells #[.slice none 0 0] 68)) (.cells #[.pointer none,.slice none 0 0] 109)
 rw [World.size_alloc] at rB
 have h:=h.fr (fA.then fB) (by simp)
 have F:=(fA.then fB).mono (T:=[b]) (by simp)
 clear fA fB
 go_enter Tryz.func23,Tryz.ntmps23
 generalize hW:(w.alloc (.cells #[.slice none 0 0] 68)).alloc (.cells #[.pointer none,.slice none 0 0] 109)=W at *
 go_wp2_with fail
 refine wp_loop_rounds 1 ?_
 rw [rounds_succ]
 have c0:=h.c0
 have c1:=h.c1
 go_wp2_with fail
 go_region
 simp only [Exit.then]
 have hB:Lib.IsBuilderF 109 5 (w.heap.size+1) (w.heap.size+1) (Lib.byteCells []) W.drew:=fresh_row rB
 go_wp2_with (first
  | (go_at_call 34;go_loud (refine (flush_none _ _ _ hB).mono ?_;rintro x w3 ⟨rfl,hw⟩;subst hw))
  | (go_at_call 40;go_loud (refine (give_any _ _ _ _).mono ?_;rintro x w3 ⟨rfl,hw⟩;subst hw)))
 exact⟨rfl,rfl,F.drew⟩
theorem compile_zero (w:World):Calls Tryz.prog 9 #[.string ⟨#[]⟩] w fun x w'=>∃ p,x=.returned (.tuple #[apiPlan (.slice none 0 0) 0 0 0,.iface 60 (.pointer (some p))])∧Fr [] w w' :=
 compile_thrown w _ 210 0 (by decide) fun W b h=>pieces_zero W b h
theorem text_zero (w:World):Calls Tryz.prog 24 #[apiPlan (.slice none 0 0) 0 0 0] w fun x w'=>x=.returned (.tuple #[.string ⟨#[]⟩,.int .i64 211])∧Fr [] w w':=by
 have hP:=parts_zero
 have hWr:=write_zero
 have hCo:=compile_zero
 unfold apiPlan at *
 have F:=(Fr.refl [] w).alloc (.cells #[.slice none 0 0,.int .i64 0,.int .i64 0,.int .u8 0] 37)
 have c0:=cell_new w #[.slice none 0 0,.int .i64 0,.int .i64 0,.int .u8 0] 37 (0,0) 0 _ rfl
 have c1:=cell_new w #[.slice none 0 0,.int .i64 0,.int .i64 0,.int .u8 0] 37 (0,0) 1 _ rfl
 have c2:=cell_new w #[.slice none 0 0,.int .i64 0,.int .i64 0,.int .u8 0] 37 (0,0) 2 _ rfl
 have c3:=cell_new w #[.slice none 0 0,.int .i64 0,.int .i64 0,.int .u8 0] 37 (0,0) 3 _ rfl
 go_enter Tryz.func24,Tryz.ntmps24
 generalize hW:w.alloc (.cells #[.slice none 0 0,.int .i64 0,.int .i64 0,.int .u8 0] 37)=W at *
 go_wp2_with (first
  | (go_at_call 42;go_loud (refine (hP _).mono ?_;rintro x w1 ⟨rfl,g1⟩;have c0:=g1.stay c0 (by simp);have c1:=g1.stay c1 (by simp);have c2:=g1.stay c2 (by simp);have c3:=g1.stay c3 (by simp);replace F:=F.then g1))
  | (go_at_call 43;go_loud (refine (hWr _ _).mono ?_;rintro x w2 ⟨rfl,g2⟩;have c0:=g2.stay c0 (by simp);have c1:=g2.stay c1 (by simp);have c2:=g2.stay c2 (by simp);have c3:=g2.stay c3 (by simp);replace F:=F.then g2))
  | (go_at_call 9;go_loud (refine (hCo _).mono ?_;rintro x w3 ⟨v,rfl,g3⟩;have fX:=(Fr.refl [] w3).alloc (.cells #[.slice none 0 0,.int .i64 0,.int .i64 0,.int .u8 0] 37);replace F:=(F.then g3).then fX)))
 go_ret2
 exact⟨rfl,F⟩
theorem check_zero (w:World):Calls Tryz.prog 12 #[apiPlan (.slice none 0 0) 0 0 0] w fun x w'=>x=.returned (.int .i64 211)∧Fr [] w w':=by
 have hT:=text_zero
 unfold apiPlan at *
 have F:=(Fr.refl [] w).alloc (.cells #[.slice none 0 0,.int .i64 0,.int .i64 0,.int .u8 0] 37)
 go_enter Tryz.func12,Tryz.ntmps12
 go_wp2_with (go_at_call 24;go_loud (refine (hT _).mono ?_;rintro x w1 ⟨rfl,g1⟩))
 go_ret
 exact⟨rfl,F.then g1⟩
theorem matchRead_zero (w:World) (E F:Int) (s:ByteArray) (mode:Nat) :
  Calls Tryz.prog 8 #[apiPlan (.slice none 0 0) 0 0 0,formV E F,.string s,.int .u8 mode] w fun x w'=>∃ v,x=.returned (.tuple #[.int .u64 0,.int .u8 0,v])∧ErrAt w' 88 v 211 0∧Fr [] w w':=by
 have hCk:=check_zero
 unfold apiPlan formV at *
 have fA:=(Fr.refl [] w).alloc (.cells #[.slice none 0 0,.int .i64 0,.int .i64 0,.int .u8 0] 37)
 have a0:=cell_new w #[.slice none 0 0,.int .i64 0,.int .i64 0,.int .u8 0] 37 (0,0) 0 _ rfl
 have a1:=cell_new w #[.slice none 0 0,.int .i64 0,.int .i64 0,.int .u8 0] 37 (0,0) 1 _ rfl
 have a2:=cell_new w #[.slice none 0 0,.int .i64 0,.int .i64 0,.int .u8 0] 37 (0,0) 2 _ rfl
 have a3:=cell_new w #[.slice none 0 0,.int .i64 0,.int .i64 0,.int .u8 0] 37 (0,0) 3 _ rfl
 have fB:=(Fr.refl [] (w.alloc (.cells #[.slice none 0 0,.int .i64 0,.int .i64 0,.int .u8 0] 37))).alloc (.cells #[.int .i64 E,.int .i64 F] 39)
 have a0:=fB.stay a0 (by simp)
 have a1:=fB.stay a1 (by simp)
 have a2:=fB.stay a2 (by simp)
 have a3:=fB.stay a3 (by simp)
 have fW:=fA.then fB
 clear fA fB
 go_enter Tryz.func8,Tryz.ntmps8
 generalize hW:((w.alloc (.cells #[.slice none 0 0,.int .i64 0,.int .i64 0,.int .u8 0] 37)).alloc (.cells #[.int .i64 E,.int .i64 F] 39))=W at *
 go_wp2_with (first
  | (go_at_call 12;go_loud (refine (hCk _).mono ?_;rintro x w1 ⟨rfl,g1⟩;have G1:=fW.then g1))
  | (go_at_call 18;go_loud (refine (matchNo_any _ _ _).mono ?_;rintro x w3 ⟨v,rfl,hv,g3⟩)))
 go_ret3
 exact⟨v,rfl,hv,G1.then g3⟩
end Go.Proofs.YtcmndpjemdjalaaGreatDoor
