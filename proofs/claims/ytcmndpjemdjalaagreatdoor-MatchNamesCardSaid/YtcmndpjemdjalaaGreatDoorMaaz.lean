/- Laws that the claimed theorem leans on: no condition of their own beyond their hypotheses. -/
import Derived.Test.YtcmndpjemdjalaaGreatDoorMaas
import Derived.Test.YtcmndpjemdjalaaGreatDoorMaau
import Derived.Test.YtcmndpjemdjalaaGreatDoorMaaw
set_option maxRecDepth 100000
set_option maxHeartbeats 16000000
namespace Go.Proofs.YtcmndpjemdjalaaGreatDoor
open Go.RowKit
structure LoopAt (W:World) (bp br bf bu bm bn bk bs:Nat) (a b txt:ByteArray) (d:Nat) (N width places:Int) (l S:List UInt8) (vs1 vn1 vk1:Value):Prop where
 p0:W.cell? ⟨bp,0,none⟩=some (.string a)
 p1:W.cell? ⟨bp,1,none⟩=some (.string b)
 p2:W.cell? ⟨bp,2,none⟩=some (.int .u8 d)
 p3:W.cell? ⟨bp,3,none⟩=some (.int .i64 N)
 p4:W.cell? ⟨bp,4,none⟩=some (.string txt)
 p5:W.cell? ⟨bp,5,none⟩=some (.int .i64 width)
 p6:W.cell? ⟨bp,6,none⟩=some (.int .i64 places)
 s:Var W bs vs1
 n:Var W bn vn1
 k:Var W bk vk1
 m:Var W bm (.string (strL []))
 r:Var W br (.string (strL S))
 u:Var W bu (.int .i64 0)
 f:Var W bf (.string ⟨#[]⟩)
theorem LoopAt.to {W W':World} {bp br bf bu bm bn bk bs:Nat} {a b txt:ByteArray} {d:Nat} {N width places:Int} {l S:List UInt8} {vs1 vn1 vk1:Value} (h:LoopAt W bp br bf bu bm bn bk bs a b txt d N width places l S vs1 vn1 vk1) (hf:Fr [] W W'):LoopAt W' bp br bf bu bm bn bk bs a b txt d N width places l S vs1 vn1 vk1 where
 p0:=hf.stay h.p0 (by simp)
 p1:=hf.stay h.p1 (by simp)
 p2:=hf.stay h.p2 (by simp)
 p3:=hf.stay h.p3 (by simp)
 p4:=hf.stay h.p4 (by simp)
 p5:=hf.stay h.p5 (by simp)
 p6:=hf.stay h.p6 (by simp)
 s:=h.s.fr hf (by simp)
 n:=h.n.fr hf (by simp)
 k:=h.k.fr hf (by simp)
 m:=h.m.fr hf (by simp)
 r:=h.r.fr hf (by simp)
 u:=h.u.fr hf (by simp)
 f:=h.f.fr hf (by simp)
theorem take_z2 (w:World) (a b txt:ByteArray) (d:Nat) (places:Int) (l S:List UInt8) (hl:l.length≤65536) (hlS:l=43 :: S) (hR:Lib.trimLeftS l [32]=l) (hm:Lib.hasPrefix l [45]=false) (hln:(l==[110,97,110])=false) (hSn:(S==[110,97,110])=false)
  (hnS:namedB S=false) (hlen:2<S.length) (hn0:bodyB d places (S.drop 0)=false) (hn1:bodyB d places (S.drop 1)=false) (hi0:∀ W,(Instr.index 9 (.string (strL S)) (.int .i64 0)).run Tryz.prog W=.ok (.int .u8 48) W) (hi1:∀ W,(Instr.index 9 (.string (strL S)) (.int .i64 1)).run Tryz.prog W=.ok (.int .u8 48) W) (hy:bodyB d places (S.drop 2)=true) (hny:namedB (S.drop 2)=false) :
  Calls Tryz.prog 29 #[planV a b d 5 txt 8 places,.string (strL l)] w fun x w'=>x=.returned (.tuple #[.string (strL (S.drop 2)),.bool (finOk true 2 8 (strL l).size)])∧Fr [] w w':=by
 have hmf:∀ (fn:Fn) (first cap:Array Value) (w:World),(Instr.makeFunc fn first cap).run Tryz.prog w=.ok (.func fn first cap) w:=fun _ _ _ _=>rfl
 have hix:∀ w,(Instr.index 133 (.agg #[.string ⟨#[]⟩,.string ⟨#[43]⟩,.string ⟨#[32]⟩]) (.int .i64 1)).run Tryz.prog w=.ok (.string ⟨#[43]⟩) w:=fun _=>by kernel_rfl
 have hT:=fun W=>trimLeft_blank W l
 rw [hR] at hT
 have hP:=fun W=>hasPrefix_l W l [45]
 simp only [hm] at hP
 have hP':∀ W,Calls Tryz.prog 39 #[.string (strL l),.string ⟨#[45]⟩] W fun x w'=>x=.returned (.bool false)∧w'=W:=hP
 clear hP
 have hQ:∀ W,Calls Tryz.prog 39 #[.string (strL l),.string ⟨#[43]⟩] W fun x w'=>x=.returned (.bool true)∧w'=W:=by
  intro W
  have h:=hasPrefix_l W l [43]
  have e:Lib.hasPrefix l [43]=true:=by rw [hlS];simp [Lib.hasPrefix,List.isPrefixOf]
  rw [e] at h
  exact h
 have hs1:∀ W,(Instr.slice 9 (.string (strL l)) (some (.int .i64 1)) none none).run Tryz.prog W=.ok (.string (strL S)) W:=by
  intro W
  have:=sliceN_run l 1 (by rw [hlS];simp) W
  rw [hlS] at this ⊢
  exact this
 have hnm:=fun W=>named_l W S
 simp only [hnS] at hnm
 have hl1:((strL l).toList==[110,97,110])=false:=by rw [ByteArray.toList_eq,strL_data];exact hln
 have hS1:((strL S).toList==[110,97,110])=false:=by rw [ByteArray.toList_eq,strL_data];exact hSn
 have hlS':S.length≤65536:=by rw [hlS] at hl;simp only [List.length_cons] at hl;omega
 have hsl0:∀ W,(Instr.slice 9 (.string (strL S)) (some (.int .i64 0)) none none).run Tryz.prog W=.ok (.string (strL (S.drop 0))) W:=fun W=>sliceN_run S 0 (by omega) W
 have hlt0:(0:Int)<((strL S).size:Int):=by rw [strL_size];omega
 have hsm0:(S.drop 0).length≤65536:=by rw [List.length_drop];omega
 have hsl1:∀ W,(Instr.slice 9 (.string (strL S)) (some (.int .i64 1)) none none).run Tryz.prog W=.ok (.string (strL (S.drop 1))) W:=fun W=>sliceN_run S 1 (by omega) W
 have hlt1:(1:Int)<((strL S).size:Int):=by rw [strL_size];omega
 have hsm1:(S.drop 1).length≤65536:=by rw [List.length_drop];omega
 have hsl2:∀ W,(Instr.slice 9 (.string (strL S)) (some (.int .i64 2)) none none).run Tryz.prog W=.ok (.string (strL (S.drop 2))) W:=fun W=>sliceN_run S 2 (by omega) W
 have hlt2:(2:Int)<((strL S).size:Int):=by rw [strL_size];omega
 have hsm2:(S.drop 2).length≤65536:=by rw [List.length_drop];omega
 have z1:(strL l).size≤65536:=by rw [strL_size];exact hl
 have hsub:((strL l).size:Int) - ((strL l).size:Int)=0:=by omega
 have hsz9:¬ 9223372036854775807<(strL []).size+(strL (S.drop 2)).size:=by rw [strL_size,strL_size];simp only [List.length_nil];omega
 clear hlS hR hm hln hSn hnS hl hlS'
 unfold planV
 go_enter_defers Tryz.func29,Tryz.ntmps29
 go_wp2_with fail
 refine wp_mono (take_begin w a b txt d 5 8 places l) ?_
 rintro e a' W ⟨rfl,bm,br,bu,rfl,h⟩
 have q2:=h.p2
 have q3:=h.p3
 have qs:=h.s.cell
 have qsz:=h.s.frozen
 have qr:=h.r.cell
 have qrz:=h.r.frozen
 have qu:=h.u.cell
 have quz:=h.u.frozen
 have qm:=h.m.cell
 have qmz:=h.m.frozen
 have e1:=h.hm
 have e2:=h.hr
 have e3:=h.hu
 have e4:=h.mr
 have e5:=h.mu
 have e6:=h.ru
 simp only [Exit.then]
 go_wp2_with (first
  | (go_at_call 54;go_loud (refine (hT _).mono ?_;rintro x w1 ⟨rfl,f1⟩;have h:=h.to f1;have q2:=h.p2;have q3:=h.p3;have qs:=h.s.cell;have qr:=h.r.cell;have qrz:=h.r.frozen;have qu:=h.u.cell;have quz:=h.u.frozen;have qm:=h.m.cell;have qmz:=h.m.frozen))
  | (go_at_call 55;go_loud (refine (hnm _).mono ?_;rintro x w2 ⟨rfl,hw⟩;subst hw))
  | (go_at_call 39;(with_reducible show Calls _ _ #[_,.string ⟨#[43]⟩] _ _);go_loud (refine (hQ _).mono ?_;rintro x w2 ⟨rfl,hw⟩;subst hw))
  | (go_at_call 39;go_loud (refine (hP' _).mono ?_;rintro x w2 ⟨rfl,hw⟩;subst hw)))
 have fZ:Fr [bm,br,bu] w1 ((((w1.setCell ⟨br,0,none⟩ (.string (strL l))).setCell ⟨bu,0,none⟩ (.int .i64 0)).setCell ⟨br,0,none⟩ (.string (strL S))).alloc (.cells #[.string ⟨#[]⟩] 9)):=((((Fr.refl [bm,br,bu] w1).setCell (.inl (by simp)) _).setCell (.inl (by simp)) _).setCell (.inl (by simp)) _).alloc _
 have vr:Var ((((w1.setCell ⟨br,0,none⟩ (.string (strL l))).setCell ⟨bu,0,none⟩ (.int .i64 0)).setCell ⟨br,0,none⟩ (.string (strL S))).alloc (.cells #[.string ⟨#[]⟩] 9)) br (.string (strL S)):=(((h.r.set _).other e6 _).set _).fr ((Fr.refl [] _).alloc _) (by simp)
 have vm:Var ((((w1.setCell ⟨br,0,none⟩ (.string (strL l))).setCell ⟨bu,0,none⟩ (.int .i64 0)).setCell ⟨br,0,none⟩ (.string (strL S))).alloc (.cells #[.string ⟨#[]⟩] 9)) bm (.string (strL [])):=(((h.m.other e4 _).other e5 _).other e4 _).fr ((Fr.refl [] _).alloc _) (by simp)
 have vu:Var ((((w1.setCell ⟨br,0,none⟩ (.string (strL l))).setCell ⟨bu,0,none⟩ (.int .i64 0)).setCell ⟨br,0,none⟩ (.string (strL S))).alloc (.cells #[.string ⟨#[]⟩] 9)) bu (.int .i64 0):=(((h.u.other (Ne.symm e6) _).set _).other (Ne.symm e6) _).fr ((Fr.refl [] _).alloc _) (by simp)
 have vf:Var ((((w1.setCell ⟨br,0,none⟩ (.string (strL l))).setCell ⟨bu,0,none⟩ (.int .i64 0)).setCell ⟨br,0,none⟩ (.string (strL S))).alloc (.cells #[.string ⟨#[]⟩] 9)) w1.heap.size (.string ⟨#[]⟩):=var_row (by rw [show w1.heap.size=(((w1.setCell ⟨br,0,none⟩ (.string (strL l))).setCell ⟨bu,0,none⟩ (.int .i64 0)).setCell ⟨br,0,none⟩ (.string (strL S))).heap.size by simp];exact row_new _ _)
 have b1:=h.m.lt
 have b2:=h.r.lt
 have b3:=h.u.lt
 have H:LoopAt ((((w1.setCell ⟨br,0,none⟩ (.string (strL l))).setCell ⟨bu,0,none⟩ (.int .i64 0)).setCell ⟨br,0,none⟩ (.string (strL S))).alloc (.cells #[.string ⟨#[]⟩] 9)) w.heap.size br w1.heap.size bu bm (w.heap.size+1+1) (w.heap.size+1+1+1) (w.heap.size+1) a b txt d 5 8 places l S (.string (strL l)) (.string ⟨#[]⟩) (.bool false) :=
  ⟨fZ.stay h.p0 (by simp;omega),fZ.stay h.p1 (by simp;omega),fZ.stay h.p2 (by simp;omega),fZ.stay h.p3 (by simp;omega),fZ.stay h.p4 (by simp;omega),fZ.stay h.p5 (by simp;omega),fZ.stay h.p6 (by simp;omega),h.s.fr fZ (by simp;omega),h.n.fr fZ (by simp;omega),h.k.fr fZ (by simp;omega),vm,vr,vu,vf⟩
 have G:=h.fr.after fZ (by simp;omega)
 generalize ((((w1.setCell ⟨br,0,none⟩ (.string (strL l))).setCell ⟨bu,0,none⟩ (.int .i64 0)).setCell ⟨br,0,none⟩ (.string (strL S))).alloc (.cells #[.string ⟨#[]⟩] 9))=Z at *
 generalize hbf:w1.heap.size=bf at *
 clear fZ vr vm vu vf h f1 qs qsz qr qrz qu quz qm qmz q2 q3 hT hP' hnm hs1 hQ hl1 hS1 hix hbf
 refine wp_loop_rounds 3 ?_
 have cr:=H.r.cell
 have cp5:=H.p5
 rw [rounds_succ]
 go_wp2_with (go_at_call 57;go_loud (refine (without_no _ _ _ bf bu a b txt d 5 8 places 0 S (S.drop 0) hsm0 H.p0 H.p1 H.p2 H.p3 H.p4 H.p5 H.p6 H.r.cell hsl0 hn0).mono ?_;rintro x w3 ⟨rfl,f3⟩;replace G:=G.then f3;replace H:=H.to f3;have cr:=H.r.cell;have cp5:=H.p5))
 generalize w3=Z at *
 have cr:=H.r.cell
 have cp5:=H.p5
 rw [rounds_succ]
 go_wp2_with (go_at_call 57;go_loud (refine (without_no _ _ _ bf bu a b txt d 5 8 places 1 S (S.drop 1) hsm1 H.p0 H.p1 H.p2 H.p3 H.p4 H.p5 H.p6 H.r.cell hsl1 hn1).mono ?_;rintro x w3 ⟨rfl,f3⟩;replace G:=G.then f3;replace H:=H.to f3;have cr:=H.r.cell;have cp5:=H.p5))
 generalize w3=Z at *
 have cr:=H.r.cell
 have cp5:=H.p5
 rw [rounds_succ]
 go_wp2_with (go_at_call 57;go_loud (refine (without_yes _ _ _ bf bu a b txt d 5 8 places 2 S (S.drop 2) _ _ hsm2 H.p0 H.p1 H.p2 H.p3 H.p4 H.p5 H.p6 H.r.cell H.f H.u (by omega) hsl2 hy hny).mono ?_;rintro x w3 ⟨rfl,vf,vu,f3⟩;have vn:=H.n.fr f3 (by simp;omega);have vk:=H.k.fr f3 (by simp;omega);have vm:=H.m.fr f3 (by simp;omega);have vs:=H.s.fr f3 (by simp;omega);have p5:=f3.stay H.p5 (by simp;omega);replace G:=G.after f3 (by simp;omega);have cf:=vf.cell;have cn:=vn.cell;have cnz:=vn.frozen;have ck:=vk.cell;have ckz:=vk.frozen))
 have D1:w.heap.size+1+1 ≠ w.heap.size+1+1+1:=by omega
 have vn:=(vn.set (.string (strL (S.drop 2)))).other D1 (.bool true)
 have vk:=(vk.other (Ne.symm D1) (.string (strL (S.drop 2)))).set (.bool true)
 have vm:=(vm.other (c:=w.heap.size+1+1) (by omega) (.string (strL (S.drop 2)))).other (c:=w.heap.size+1+1+1) (by omega) (.bool true)
 have vu:=(vu.other (c:=w.heap.size+1+1) (by omega) (.string (strL (S.drop 2)))).other (c:=w.heap.size+1+1+1) (by omega) (.bool true)
 have vs:=(vs.other (c:=w.heap.size+1+1) (by omega) (.string (strL (S.drop 2)))).other (c:=w.heap.size+1+1+1) (by omega) (.bool true)
 have fD:=((Fr.refl [w.heap.size+1+1,w.heap.size+1+1+1] w3).setCell (p:=⟨w.heap.size+1+1,0,none⟩) (.inl (by simp)) (.string (strL (S.drop 2)))).setCell (p:=⟨w.heap.size+1+1+1,0,none⟩) (.inl (by simp)) (.bool true)
 have p5:=fD.stay p5 (by simp;omega)
 have G3:=G.after fD (by simp;omega)
 refine leaves_cons (f:=52) (args:=#[.pointer (some ⟨bm,0,none⟩),.pointer (some ⟨w.heap.size+1+1,0,none⟩),.pointer (some ⟨bu,0,none⟩),.pointer (some ⟨w.heap.size+1+1+1,0,none⟩),.pointer (some ⟨w.heap.size+1,0,none⟩),.pointer (some ⟨w.heap.size,0,none⟩)]) (by simp) (by simp [go_sem]) ?_
 refine (takeEnd_any _ bm (w.heap.size+1+1) bu (w.heap.size+1+1+1) (w.heap.size+1) w.heap.size [] (S.drop 2) l 2 8 true vm vn vu vk vs p5 (by omega) (by omega) (by omega) (by omega) (by omega) (by omega) (by omega) hsz9).mono ?_
 rintro e u' w4 ⟨rfl,rfl,hn4,hk4,f4⟩
 refine⟨_,results_two rfl _ w4 ⟨w.heap.size+1+1,0,none⟩ ⟨w.heap.size+1+1+1,0,none⟩ _ _ rfl rfl (load_string hn4) (load_bool hk4),?_⟩
 refine⟨rfl,?_⟩
 exact G3.after f4 (by simp;omega)
theorem take_z3 (w:World) (a b txt:ByteArray) (d:Nat) (places:Int) (l S:List UInt8) (hl:l.length≤65536) (hlS:l=43 :: S) (hR:Lib.trimLeftS l [32]=l) (hm:Lib.hasPrefix l [45]=false) (hln:(l==[110,97,110])=false) (hSn:(S==[110,97,110])=false)
  (hnS:namedB S=false) (hlen:3<S.length) (hn0:bodyB d places (S.drop 0)=false) (hn1:bodyB d places (S.drop 1)=false) (hn2:bodyB d places (S.drop 2)=false) (hi0:∀ W,(Instr.index 9 (.string (strL S)) (.int .i64 0)).run Tryz.prog W=.ok (.int .u8 48) W) (hi1:∀ W,(Instr.index 9 (.string (strL S)) (.int .i64 1)).run Tryz.prog W=.ok (.int .u8 48) W) (hi2:∀ W,(Instr.index 9 (.string (strL S)) (.int .i64 2)).run Tryz.prog W=.ok (.int .u8 48) W) (hy:bodyB d places (S.drop 3)=true) (hny:namedB (S.drop 3)=false) :
  Calls Tryz.prog 29 #[planV a b d 5 txt 8 places,.string (strL l)] w fun x w'=>x=.returned (.tuple #[.string (strL (S.drop 3)),.bool (finOk true 3 8 (strL l).size)])∧Fr [] w w':=by
 have hmf:∀ (fn:Fn) (first cap:Array Value) (w:World),(Instr.makeFunc fn first cap).run Tryz.prog w=.ok (.func fn first cap) w:=fun _ _ _ _=>rfl
 have hix:∀ w,(Instr.index 133 (.agg #[.string ⟨#[]⟩,.string ⟨#[43]⟩,.string ⟨#[32]⟩]) (.int .i64 1)).run Tryz.prog w=.ok (.string ⟨#[43]⟩) w:=fun _=>by kernel_rfl
 have hT:=fun W=>trimLeft_blank W l
 rw [hR] at hT
 have hP:=fun W=>hasPrefix_l W l [45]
 simp only [hm] at hP
 have hP':∀ W,Calls Tryz.prog 39 #[.string (strL l),.string ⟨#[45]⟩] W fun x w'=>x=.returned (.bool false)∧w'=W:=hP
 clear hP
 have hQ:∀ W,Calls Tryz.prog 39 #[.string (strL l),.string ⟨#[43]⟩] W fun x w'=>x=.returned (.bool true)∧w'=W:=by
  intro W
  have h:=hasPrefix_l W l [43]
  have e:Lib.hasPrefix l [43]=true:=by rw [hlS];simp [Lib.hasPrefix,List.isPrefixOf]
  rw [e] at h
  exact h
 have hs1:∀ W,(Instr.slice 9 (.string (strL l)) (some (.int .i64 1)) none none).run Tryz.prog W=.ok (.string (strL S)) W:=by
  intro W
  have:=sliceN_run l 1 (by rw [hlS];simp) W
  rw [hlS] at this ⊢
  exact this
 have hnm:=fun W=>named_l W S
 simp only [hnS] at hnm
 have hl1:((strL l).toList==[110,97,110])=false:=by rw [ByteArray.toList_eq,strL_data];exact hln
 have hS1:((strL S).toList==[110,97,110])=false:=by rw [ByteArray.toList_eq,strL_data];exact hSn
 have hlS':S.length≤65536:=by rw [hlS] at hl;simp only [List.length_cons] at hl;omega
 have hsl0:∀ W,(Instr.slice 9 (.string (strL S)) (some (.int .i64 0)) none none).run Tryz.prog W=.ok (.string (strL (S.drop 0))) W:=fun W=>sliceN_run S 0 (by omega) W
 have hlt0:(0:Int)<((strL S).size:Int):=by rw [strL_size];omega
 have hsm0:(S.drop 0).length≤65536:=by rw [List.length_drop];omega
 have hsl1:∀ W,(Instr.slice 9 (.string (strL S)) (some (.int .i64 1)) none none).run Tryz.prog W=.ok (.string (strL (S.drop 1))) W:=fun W=>sliceN_run S 1 (by omega) W
 have hlt1:(1:Int)<((strL S).size:Int):=by rw [strL_size];omega
 have hsm1:(S.drop 1).length≤65536:=by rw [List.length_drop];omega
 have hsl2:∀ W,(Instr.slice 9 (.string (strL S)) (some (.int .i64 2)) none none).run Tryz.prog W=.ok (.string (strL (S.drop 2))) W:=fun W=>sliceN_run S 2 (by omega) W
 have hlt2:(2:Int)<((strL S).size:Int):=by rw [strL_size];omega
 have hsm2:(S.drop 2).length≤65536:=by rw [List.length_drop];omega
 have hsl3:∀ W,(Instr.slice 9 (.string (strL S)) (some (.int .i64 3)) none none).run Tryz.prog W=.ok (.string (strL (S.drop 3))) W:=fun W=>sliceN_run S 3 (by omega) W
 have hlt3:(3:Int)<((strL S).size:Int):=by rw [strL_size];omega
 have hsm3:(S.drop 3).length≤65536:=by rw [List.length_drop];omega
 have z1:(strL l).size≤65536:=by rw [strL_size];exact hl
 have hsub:((strL l).size:Int) - ((strL l).size:Int)=0:=by omega
 have hsz9:¬ 9223372036854775807<(strL []).size+(strL (S.drop 3)).size:=by rw [strL_size,strL_size];simp only [List.length_nil];omega
 clear hlS hR hm hln hSn hnS hl hlS'
 unfold planV
 go_enter_defers Tryz.func29,Tryz.ntmps29
 go_wp2_with fail
 refine wp_mono (take_begin w a b txt d 5 8 places l) ?_
 rintro e a' W ⟨rfl,bm,br,bu,rfl,h⟩
 have q2:=h.p2
 have q3:=h.p3
 have qs:=h.s.cell
 have qsz:=h.s.frozen
 have qr:=h.r.cell
 have qrz:=h.r.frozen
 have qu:=h.u.cell
 have quz:=h.u.frozen
 have qm:=h.m.cell
 have qmz:=h.m.frozen
 have e1:=h.hm
 have e2:=h.hr
 have e3:=h.hu
 have e4:=h.mr
 have e5:=h.mu
 have e6:=h.ru
 simp only [Exit.then]
 go_wp2_with (first
  | (go_at_call 54;go_loud (refine (hT _).mono ?_;rintro x w1 ⟨rfl,f1⟩;have h:=h.to f1;have q2:=h.p2;have q3:=h.p3;have qs:=h.s.cell;have qr:=h.r.cell;have qrz:=h.r.frozen;have qu:=h.u.cell;have quz:=h.u.frozen;have qm:=h.m.cell;have qmz:=h.m.frozen))
  | (go_at_call 55;go_loud (refine (hnm _).mono ?_;rintro x w2 ⟨rfl,hw⟩;subst hw))
  | (go_at_call 39;(with_reducible show Calls _ _ #[_,.string ⟨#[43]⟩] _ _);go_loud (refine (hQ _).mono ?_;rintro x w2 ⟨rfl,hw⟩;subst hw))
  | (go_at_call 39;go_loud (refine (hP' _).mono ?_;rintro x w2 ⟨rfl,hw⟩;subst hw)))
 have fZ:Fr [bm,br,bu] w1 ((((w1.setCell ⟨br,0,none⟩ (.string (strL l))).setCell ⟨bu,0,none⟩ (.int .i64 0)).setCell ⟨br,0,none⟩ (.string (strL S))).alloc (.cells #[.string ⟨#[]⟩] 9)):=((((Fr.refl [bm,br,bu] w1).setCell (.inl (by simp)) _).setCell (.inl (by simp)) _).setCell (.inl (by simp)) _).alloc _
 have vr:Var ((((w1.setCell ⟨br,0,none⟩ (.string (strL l))).setCell ⟨bu,0,none⟩ (.int .i64 0)).setCell ⟨br,0,none⟩ (.string (strL S))).alloc (.cells #[.string ⟨#[]⟩] 9)) br (.string (strL S)):=(((h.r.set _).other e6 _).set _).fr ((Fr.refl [] _).alloc _) (by simp)
 have vm:Var ((((w1.setCell ⟨br,0,none⟩ (.string (strL l))).setCell ⟨bu,0,none⟩ (.int .i64 0)).setCell ⟨br,0,none⟩ (.string (strL S))).alloc (.cells #[.string ⟨#[]⟩] 9)) bm (.string (strL [])):=(((h.m.other e4 _).other e5 _).other e4 _).fr ((Fr.refl [] _).alloc _) (by simp)
 have vu:Var ((((w1.setCell ⟨br,0,none⟩ (.string (strL l))).setCell ⟨bu,0,none⟩ (.int .i64 0)).setCell ⟨br,0,none⟩ (.string (strL S))).alloc (.cells #[.string ⟨#[]⟩] 9)) bu (.int .i64 0):=(((h.u.other (Ne.symm e6) _).set _).other (Ne.symm e6) _).fr ((Fr.refl [] _).alloc _) (by simp)
 have vf:Var ((((w1.setCell ⟨br,0,none⟩ (.string (strL l))).setCell ⟨bu,0,none⟩ (.int .i64 0)).setCell ⟨br,0,none⟩ (.string (strL S))).alloc (.cells #[.string ⟨#[]⟩] 9)) w1.heap.size (.string ⟨#[]⟩):=var_row (by rw [show w1.heap.size=(((w1.setCell ⟨br,0,none⟩ (.string (strL l))).setCell ⟨bu,0,none⟩ (.int .i64 0)).setCell ⟨br,0,none⟩ (.string (strL S))).heap.size by simp];exact row_new _ _)
 have b1:=h.m.lt
 have b2:=h.r.lt
 have b3:=h.u.lt
 have H:LoopAt ((((w1.setCell ⟨br,0,none⟩ (.string (strL l))).setCell ⟨bu,0,none⟩ (.int .i64 0)).setCell ⟨br,0,none⟩ (.string (strL S))).alloc (.cells #[.string ⟨#[]⟩] 9)) w.heap.size br w1.heap.size bu bm (w.heap.size+1+1) (w.heap.size+1+1+1) (w.heap.size+1) a b txt d 5 8 places l S (.string (strL l)) (.string ⟨#[]⟩) (.bool false) :=
  ⟨fZ.stay h.p0 (by simp;omega),fZ.stay h.p1 (by simp;omega),fZ.stay h.p2 (by simp;omega),fZ.stay h.p3 (by simp;omega),fZ.stay h.p4 (by simp;omega),fZ.stay h.p5 (by simp;omega),fZ.stay h.p6 (by simp;omega),h.s.fr fZ (by simp;omega),h.n.fr fZ (by simp;omega),h.k.fr fZ (by simp;omega),vm,vr,vu,vf⟩
 have G:=h.fr.after fZ (by simp;omega)
 generalize ((((w1.setCell ⟨br,0,none⟩ (.string (strL l))).setCell ⟨bu,0,none⟩ (.int .i64 0)).setCell ⟨br,0,none⟩ (.string (strL S))).alloc (.cells #[.string ⟨#[]⟩] 9))=Z at *
 generalize hbf:w1.heap.size=bf at *
 clear fZ vr vm vu vf h f1 qs qsz qr qrz qu quz qm qmz q2 q3 hT hP' hnm hs1 hQ hl1 hS1 hix hbf
 refine wp_loop_rounds 4 ?_
 have cr:=H.r.cell
 have cp5:=H.p5
 rw [rounds_succ]
 go_wp2_with (go_at_call 57;go_loud (refine (without_no _ _ _ bf bu a b txt d 5 8 places 0 S (S.drop 0) hsm0 H.p0 H.p1 H.p2 H.p3 H.p4 H.p5 H.p6 H.r.cell hsl0 hn0).mono ?_;rintro x w3 ⟨rfl,f3⟩;replace G:=G.then f3;replace H:=H.to f3;have cr:=H.r.cell;have cp5:=H.p5))
 generalize w3=Z at *
 have cr:=H.r.cell
 have cp5:=H.p5
 rw [rounds_succ]
 go_wp2_with (go_at_call 57;go_loud (refine (without_no _ _ _ bf bu a b txt d 5 8 places 1 S (S.drop 1) hsm1 H.p0 H.p1 H.p2 H.p3 H.p4 H.p5 H.p6 H.r.cell hsl1 hn1).mono ?_;rintro x w3 ⟨rfl,f3⟩;replace G:=G.then f3;replace H:=H.to f3;have cr:=H.r.cell;have cp5:=H.p5))
 generalize w3=Z at *
 have cr:=H.r.cell
 have cp5:=H.p5
 rw [rounds_succ]
 go_wp2_with (go_at_call 57;go_loud (refine (without_no _ _ _ bf bu a b txt d 5 8 places 2 S (S.drop 2) hsm2 H.p0 H.p1 H.p2 H.p3 H.p4 H.p5 H.p6 H.r.cell hsl2 hn2).mono ?_;rintro x w3 ⟨rfl,f3⟩;replace G:=G.then f3;replace H:=H.to f3;have cr:=H.r.cell;have cp5:=H.p5))
 generalize w3=Z at *
 have cr:=H.r.cell
 have cp5:=H.p5
 rw [rounds_succ]
 go_wp2_with (go_at_call 57;go_loud (refine (without_yes _ _ _ bf bu a b txt d 5 8 places 3 S (S.drop 3) _ _ hsm3 H.p0 H.p1 H.p2 H.p3 H.p4 H.p5 H.p6 H.r.cell H.f H.u (by omega) hsl3 hy hny).mono ?_;rintro x w3 ⟨rfl,vf,vu,f3⟩;have vn:=H.n.fr f3 (by simp;omega);have vk:=H.k.fr f3 (by simp;omega);have vm:=H.m.fr f3 (by simp;omega);have vs:=H.s.fr f3 (by simp;omega);have p5:=f3.stay H.p5 (by simp;omega);replace G:=G.after f3 (by simp;omega);have cf:=vf.cell;have cn:=vn.cell;have cnz:=vn.frozen;have ck:=vk.cell;have ckz:=vk.frozen))
 have D1:w.heap.size+1+1 ≠ w.heap.size+1+1+1:=by omega
 have vn:=(vn.set (.string (strL (S.drop 3)))).other D1 (.bool true)
 have vk:=(vk.other (Ne.symm D1) (.string (strL (S.drop 3)))).set (.bool true)
 have vm:=(vm.other (c:=w.heap.size+1+1) (by omega) (.string (strL (S.drop 3)))).other (c:=w.heap.size+1+1+1) (by omega) (.bool true)
 have vu:=(vu.other (c:=w.heap.size+1+1) (by omega) (.string (strL (S.drop 3)))).other (c:=w.heap.size+1+1+1) (by omega) (.bool true)
 have vs:=(vs.other (c:=w.heap.size+1+1) (by omega) (.string (strL (S.drop 3)))).other (c:=w.heap.size+1+1+1) (by omega) (.bool true)
 have fD:=((Fr.refl [w.heap.size+1+1,w.heap.size+1+1+1] w3).setCell (p:=⟨w.heap.size+1+1,0,none⟩) (.inl (by simp)) (.string (strL (S.drop 3)))).setCell (p:=⟨w.heap.size+1+1+1,0,none⟩) (.inl (by simp)) (.bool true)
 have p5:=fD.stay p5 (by simp;omega)
 have G3:=G.after fD (by simp;omega)
 refine leaves_cons (f:=52) (args:=#[.pointer (some ⟨bm,0,none⟩),.pointer (some ⟨w.heap.size+1+1,0,none⟩),.pointer (some ⟨bu,0,none⟩),.pointer (some ⟨w.heap.size+1+1+1,0,none⟩),.pointer (some ⟨w.heap.size+1,0,none⟩),.pointer (some ⟨w.heap.size,0,none⟩)]) (by simp) (by simp [go_sem]) ?_
 refine (takeEnd_any _ bm (w.heap.size+1+1) bu (w.heap.size+1+1+1) (w.heap.size+1) w.heap.size [] (S.drop 3) l 3 8 true vm vn vu vk vs p5 (by omega) (by omega) (by omega) (by omega) (by omega) (by omega) (by omega) hsz9).mono ?_
 rintro e u' w4 ⟨rfl,rfl,hn4,hk4,f4⟩
 refine⟨_,results_two rfl _ w4 ⟨w.heap.size+1+1,0,none⟩ ⟨w.heap.size+1+1+1,0,none⟩ _ _ rfl rfl (load_string hn4) (load_bool hk4),?_⟩
 refine⟨rfl,?_⟩
 exact G3.after f4 (by simp;omega)
end Go.Proofs.YtcmndpjemdjalaaGreatDoor
namespace Go.Proofs.YtcmndpjemdjalaaGreatDoor
open Go.RowKit
theorem field_6s (w:World) (b:Nat) (ops:Value) (h:RdAt w b (strL [123,45,54,115,125]) ((1:Nat):Int) ops 0 0 0) :
  Calls Tryz.prog 41 #[.pointer (some ⟨b,0,none⟩)] w fun x w'=>x=.returned (.agg #[.int .u8 2,.int .i64 8])∧RdAt w' b (strL [123,45,54,115,125]) ((5:Nat):Int) ops 6 (-1) 0∧Fr [b] w w':=by
 have hb:=h.lt
 have r2:=row_new w (.cells #[.int .u8 0,.int .i64 0] 117)
 have F:=(Fr.refl [b] w).alloc (.cells #[.int .u8 0,.int .i64 0] 117)
 have h:=h.alloc (.cells #[.int .u8 0,.int .i64 0] 117)
 have sz:w.heap.size+1≤(w.alloc (.cells #[.int .u8 0,.int .i64 0] 117)).heap.size:=by simp
 go_enter Tryz.func41,Tryz.ntmps41
 generalize hW:w.alloc (.cells #[.int .u8 0,.int .i64 0] 117)=W at *
 go_wp2_with (first
  | (go_at_call 63;(with_reducible show Calls _ _ #[_,.string ⟨#[43,32]⟩] _ _);go_loud (refine (readTake_miss _ b _ _ 1 _ _ _ _ 0 h (by show _<(strL _).size;rw [strL_size];simp) (by rw [strL_size];simp) (by show Lib.indexByte [43,32] 45+1=0;decide) rfl (by omega)).mono ?_;rintro x w1 ⟨rfl,h,g⟩;have r2:=g.row r2 (by simp;omega);have sz:=Nat.le_trans sz g.size;replace F:=F.trans g (by simp);have rT:=row_new w1 (.cells #[.int .u8 0,.int .i64 0] 117);have r2:=((Fr.refl [] w1).alloc (.cells #[.int .u8 0,.int .i64 0] 117)).row r2 (by simp);have h:=h.alloc (.cells #[.int .u8 0,.int .i64 0] 117);replace F:=F.alloc (.cells #[.int .u8 0,.int .i64 0] 117);have szT:w1.heap.size+1≤(w1.alloc (.cells #[.int .u8 0,.int .i64 0] 117)).heap.size:=(by simp)))
  | (go_at_call 63;(with_reducible show Calls _ _ #[_,.string ⟨#[48,45]⟩] _ _);go_loud (refine (readTake_hit _ b _ _ 1 _ _ _ _ 2 h (by show _<(strL _).size;rw [strL_size];simp) (by rw [strL_size];simp) (by show Lib.indexByte [48,45] 45+1=2;decide) (by decide) (by omega)).mono ?_;rintro x w2 ⟨rfl,h,g⟩;have r2:=g.row r2 (by simp;omega);have rT:=g.row rT (by simp;omega);have szT:=Nat.le_trans szT g.size;replace F:=F.trans g (by simp);have d1:w2.cell? ⟨w1.heap.size,1,none⟩=some (.int .i64 0):=(by rw [cell_of_row _ _ 1 _ _ _ rT];rfl);have dz:=frozen_of_row w2 w1.heap.size 1 _ _ rT;have gT:=(Fr.refl [w1.heap.size] w2).setCell (p:=⟨w1.heap.size,1,none⟩) (.inl (by simp)) (.int .i64 8);have rT:=heap_setCell_same w2 w1.heap.size 1 _ _ (.int .i64 8) rT;have r2:=gT.row r2 (by simp;omega);have h:=h.other w1.heap.size 1 (.int .i64 8) (by omega);replace F:=F.setCell (p:=⟨w1.heap.size,1,none⟩) (.inr (by simp;omega)) (.int .i64 8);have szT:w1.heap.size+1≤(w2.setCell ⟨w1.heap.size,1,none⟩ (.int .i64 8)).heap.size:=(by rw [World.size_setCell];exact szT)))
  | (go_at_call 64;(with_reducible show Calls _ _ #[_,.int .u8 49] _ _);go_loud (refine (readDigit_is _ b _ 49 2 _ _ _ _ true h (by show _<(strL _).size;rw [strL_size];simp) (by rw [digitAt,dif_pos (by show _<(strL _).size;rw [strL_size];simp)];show (decide (49≤(54:UInt8).toNat) && decide ((54:UInt8).toNat≤57))=true;decide)).mono ?_;rintro x w3 ⟨rfl,g⟩;have h:=h.fr g (by simp);have r2:=g.row r2 (by simp);have rT:=g.row rT (by simp);have szT:=Nat.le_trans szT g.size;replace F:=F.then g))
  | (go_at_call 65;(with_reducible show Calls _ _ #[_,.int .i64 256,_] _ _);go_loud (refine (readNum _ b _ 2 6 256 _ _ _ _ _ h (by show _<(strL _).size;rw [strL_size];simp) (by rw [strL_size];simp) (by decide) (by show (54:UInt8)=dig 6;decide) (by rw [digitAt,dif_pos (by show _<(strL _).size;rw [strL_size];simp)];show (decide (48≤(115:UInt8).toNat) && decide ((115:UInt8).toNat≤57))=false;decide) (by omega)).mono ?_;rintro x w6 ⟨rfl,h,g⟩;have r2:=g.row r2 (by simp;omega);have rT:=g.row rT (by simp;omega);have szT:=Nat.le_trans szT g.size;replace F:=F.trans g (by simp);have c3:=h.c3;have z3:=h.z 3 (by omega);have h:=h.set3 6;have gS:=(Fr.refl [b] w6).setCell (p:=⟨b,3,none⟩) (.inl (by simp)) (.int .i64 6);have r2:=gS.row r2 (by simp;omega);have rT:=gS.row rT (by simp;omega);replace F:=F.trans gS (by simp);have szS:=gS.size;have szT:=Nat.le_trans szT szS;have c4:=h.c4;have z4:=h.z 4 (by omega);have h:=h.set4 (-1);have gS:=(Fr.refl [b] (w6.setCell ⟨b,3,none⟩ (.int .i64 6))).setCell (p:=⟨b,4,none⟩) (.inl (by simp)) (.int .i64 (-1));have r2:=gS.row r2 (by simp;omega);have rT:=gS.row rT (by simp;omega);replace F:=F.trans gS (by simp);have szS:=gS.size;have szT:=Nat.le_trans szT szS))
  | (go_at_call 63;(with_reducible show Calls _ _ #[_,.string ⟨#[46]⟩] _ _);go_loud (refine (readTake_miss _ b _ _ 3 _ _ _ _ 0 h (by show _<(strL _).size;rw [strL_size];simp) (by rw [strL_size];simp) (by show Lib.indexByte [46] 115+1=0;decide) rfl (by omega)).mono ?_;rintro x w4 ⟨rfl,h,g⟩;have r2:=g.row r2 (by simp;omega);have rT:=g.row rT (by simp;omega);have szT:=Nat.le_trans szT g.size;replace F:=F.trans g (by simp);have c1:=h.c1))
  | (go_at_call 63;(with_reducible show Calls _ _ #[_,.string ⟨#[115,102,101,103,120]⟩] _ _);go_loud (refine (readTake_hit _ b _ _ 3 _ _ _ _ 1 h (by show _<(strL _).size;rw [strL_size];simp) (by rw [strL_size];simp) (by show Lib.indexByte [115,102,101,103,120] 115+1=1;decide) (by decide) (by omega)).mono ?_;rintro x w5 ⟨rfl,h,g⟩;have r2:=g.row r2 (by simp;omega);have rT:=g.row rT (by simp;omega);have szT:=Nat.le_trans szT g.size;replace F:=F.trans g (by simp);have d0:w5.cell? ⟨w1.heap.size,0,none⟩=some (.int .u8 0):=(by rw [cell_of_row _ _ 0 _ _ _ rT];rfl);have dz:=frozen_of_row w5 w1.heap.size 0 _ _ rT)))
 have gT:=(Fr.refl [w1.heap.size] w5).setCell (p:=⟨w1.heap.size,0,none⟩) (.inl (by simp)) (.int .u8 2)
 have rT:=heap_setCell_same w5 w1.heap.size 0 _ _ (.int .u8 2) rT
 have r2:=gT.row r2 (by simp;omega)
 have h:=h.other w1.heap.size 0 (.int .u8 2) (by omega)
 have F:=F.setCell (p:=⟨w1.heap.size,0,none⟩) (.inr (by simp;omega)) (.int .u8 2)
 have szT:w1.heap.size+1≤(w5.setCell ⟨w1.heap.size,0,none⟩ (.int .u8 2)).heap.size:=by rw [World.size_setCell];exact szT
 clear gT d0 dz
 generalize w5.setCell ⟨w1.heap.size,0,none⟩ (.int .u8 2)=Y at *
 have d0:Y.cell? ⟨w1.heap.size,0,none⟩=some (.int .u8 2):=by rw [cell_of_row _ _ 0 _ _ _ rT];rfl
 have c4:=h.c4
 refine region_mono_g [] 14 [[],[0],[1],[2],[3],[3,4],[3],[3,6],[3,7],[3,8],[3,9],[3,5,10],[3,11],[3,12]] [none,none,none,none,none,none,none,none,none,none,none,none,none,none] (by kernel_rfl) (by kernel_rfl) ?_
 simp only [Chain,fill,Act.put,List.nil_append,List.cons_append,List.take_succ_cons,List.take_zero,List.drop_succ_cons,List.drop_zero,List.setIfInBounds_toArray,List.set_cons_zero,List.set_cons_succ,Nat.reduceAdd]
 iterate 11 (apply Exists.intro;apply And.intro;·intro vs w2 hf hh K hK;have d0:=hf.stayd d0;have c4:=hf.stayd c4;simp only [Held,List.getD_cons_zero,List.getD_cons_succ,Just,and_true] at hh;(try simp only [hh] at hK ⊢);go_simp;exact hK _ _ ⟨rfl,Fr.refl _ _⟩)
 apply Exists.intro;apply And.intro
 ·intro vs w2 hf hh K hK;have d0:=hf.stayd d0;have c4:=hf.stayd c4;simp only [Held,List.getD_cons_zero,List.getD_cons_succ,Just,and_true] at hh;(try simp only [hh] at hK ⊢);go_simp;refine (placed_2 _ (-1)).mono ?_;rintro e w6 ⟨rfl,hx⟩;exact hK _ _ ⟨rfl,by rw [hx];exact Fr.refl _ _⟩
 iterate 2 (apply Exists.intro;apply And.intro;·intro vs w2 hf hh K hK;simp only [Held,List.getD_cons_zero,List.getD_cons_succ,Just,and_true] at hh;(try simp only [hh] at hK ⊢);go_simp;exact hK _ _ ⟨rfl,Fr.refl _ _⟩)
 intro vs w2 hf hh
 simp only [HeldAll,Just,and_true,Nat.reduceAdd] at hh
 obtain⟨e0,e1,e2,e3,e4,e5,e6,e7,e8,e9,e10,e11,e12,e13⟩:=hh
 simp only [e0,e1,e2,e3,e4,e5,e6,e7,e8,e9,e10,e11,e12,e13]
 clear e0 e1 e2 e3 e4 e5 e6 e7 e8 e9 e10 e11 e12 e13
 clear vs
 have d0:=hf.stayd d0
 have c4:=hf.stayd c4
 have h:=h.drew.fr hf (by simp)
 have rT:=hf.row (w:=Y.drew) rT (by simp)
 have r2:=hf.row (w:=Y.drew) r2 (by simp)
 have szT:w1.heap.size+1≤w2.heap.size:=Nat.le_trans szT hf.size
 have F:=F.drew.then hf
 have c4:=h.c4
 clear hf d0
 go_wp2_with (first
  | (go_at_call 63;(with_reducible show Calls _ _ #[_,.string ⟨#[125]⟩] _ _);go_loud (refine (readTake_hit _ b _ _ 4 _ _ _ _ 1 h (by show _<(strL _).size;rw [strL_size];simp) (by rw [strL_size];simp) (by show Lib.indexByte [125] 125+1=1;decide) (by decide) (by omega)).mono ?_;rintro x w8 ⟨rfl,h,g⟩;have r2:=g.row r2 (by simp;omega);have rT:=g.row rT (by simp;omega);replace F:=F.trans g (by simp)))
  | ((with_reducible show wpList _ _ _ (⟨some 105,.load 117 (.tmp 3),_,_,_,_⟩ :: _) _ _);go_loud (refine wpList_load_row rfl 117 (.tmp 3) rfl w1.heap.size rfl _ _ _ _ rT Tryz.underlying117 rfl (by kernel_rfl) ?_))
  | ((with_reducible show wpList _ _ _ (⟨none,.store 117 (.tmp 2) (.tmp 105),_,_,_,_⟩ :: _) _ _);go_loud (refine wpList_store_whole rfl 117 (.tmp 2) (.tmp 105) rfl w.heap.size #[.int .u8 2,.int .i64 8] rfl rfl _ _ r2 (by kernel_rfl) rfl (by simp [Value.oneCell']) ?_;intro w9 hn9 g9)))
 (try simp only [Exit.inBlock,Exit.then])
 refine bodyPost_ret (v:=_) (results_cell_row rfl _ _ w.heap.size _ _ _ _ rfl hn9 Tryz.underlying117 rfl (by kernel_rfl)) rfl ?_
 exact⟨rfl,h.fr g9 (by simp;omega),F.trans g9 (by simp)⟩
end Go.Proofs.YtcmndpjemdjalaaGreatDoor
