/- MatchNames (numerallaw22): it answers true; where the listed package-level variables hold what the program's own text lays in them (tied). -/
import Derived.Test.YtcmndpjemdjalaaGreatDoorTie
import Derived.Test.YtcmndpjemdjalaaGreatDoorCards
import Derived.SevenTiedAt
import Derived.Test.YtcmndpjemdjalaaGreatDoorMaau
import Derived.Test.YtcmndpjemdjalaaGreatDoorMaaz
import Derived.Test.YtcmndpjemdjalaaGreatDoorMabb
import Derived.Test.YtcmndpjemdjalaaGreatDoorMabc
import Derived.Test.YtcmndpjemdjalaaGreatDoorMnaa
import Derived.Test.YtcmndpjemdjalaaGreatDoorMnab
import Derived.Test.YtcmndpjemdjalaaGreatDoorMnad
set_option maxRecDepth 100000
set_option maxHeartbeats 16000000
namespace Go.Proofs.YtcmndpjemdjalaaGreatDoor
open Go.RowKit
theorem take_x0 (w:World) (a b txt:ByteArray) (d:Nat) (places:Int) (l:List UInt8) (hl:l.length≤65536) (hR:Lib.trimLeftS l [32]=l) (hm:Lib.hasPrefix l [45]=false) (hln:(l==[110,97,110])=false) (hSn:(l==[110,97,110])=false)
  (hnS:namedB l=false) (hlen:0<l.length)   (hy:bodyB d places (l.drop 0)=true) (hny:namedB (l.drop 0)=false) :
  Calls Tryz.prog 29 #[planV a b d 4 txt 5 places,.string (strL l)] w fun x w'=>x=.returned (.tuple #[.string (strL (l.drop 0)),.bool (finOk true 0 5 (strL l).size)])∧Fr [] w w':=by
 have hmf:∀ (fn:Fn) (first cap:Array Value) (w:World),(Instr.makeFunc fn first cap).run Tryz.prog w=.ok (.func fn first cap) w:=fun _ _ _ _=>rfl
 have hix:∀ w,(Instr.index 133 (.agg #[.string ⟨#[]⟩,.string ⟨#[43]⟩,.string ⟨#[32]⟩]) (.int .i64 0)).run Tryz.prog w=.ok (.string ⟨#[]⟩) w:=fun _=>by kernel_rfl
 have hT:=fun W=>trimLeft_blank W l
 rw [hR] at hT
 have hP:=fun W=>hasPrefix_l W l [45]
 simp only [hm] at hP
 have hP':∀ W,Calls Tryz.prog 39 #[.string (strL l),.string ⟨#[45]⟩] W fun x w'=>x=.returned (.bool false)∧w'=W:=hP
 clear hP
 have hnm:=fun W=>named_l W l
 simp only [hnS] at hnm
 have hl1:((strL l).toList==[110,97,110])=false:=by rw [ByteArray.toList_eq,strL_data];exact hln
 have hS1:((strL l).toList==[110,97,110])=false:=by rw [ByteArray.toList_eq,strL_data];exact hSn
 have hlS':l.length≤65536:=hl
 have hsl0:∀ W,(Instr.slice 9 (.string (strL l)) (some (.int .i64 0)) none none).run Tryz.prog W=.ok (.string (strL (l.drop 0))) W:=fun W=>sliceN_run l 0 (by omega) W
 have hlt0:(0:Int)<((strL l).size:Int):=by rw [strL_size];omega
 have hsm0:(l.drop 0).length≤65536:=by rw [List.length_drop];omega
 have z1:(strL l).size≤65536:=by rw [strL_size];exact hl
 have hsub:((strL l).size:Int) - ((strL l).size:Int)=0:=by omega
 have hsz9:¬ 9223372036854775807<(strL []).size+(strL (l.drop 0)).size:=by rw [strL_size,strL_size];simp only [List.length_nil];omega
 clear hR hm hln hSn hnS hl hlS'
 unfold planV
 go_enter_defers Tryz.func29,Tryz.ntmps29
 go_wp2_with fail
 refine wp_mono (take_begin w a b txt d 4 5 places l) ?_
 rintro e a' W ⟨rfl,bm,br,bu,rfl,h⟩
 have q2:=h.p2
 have q3:=h.p3
 have qs:=h.s.cell
 have qsz:=h.s.frozen
 have qr:=h.r.cell
 have qrz:=h.r.frozen
 have qu:=h.u.cell
 have quz:=h.u.frozen
 have qm:=h.m.cell
 have qmz:=h.m.frozen
 have e1:=h.hm
 have e2:=h.hr
 have e3:=h.hu
 have e4:=h.mr
 have e5:=h.mu
 have e6:=h.ru
 simp only [Exit.then]
 go_wp2_with (first
  | (go_at_call 54;go_loud (refine (hT _).mono ?_;rintro x w1 ⟨rfl,f1⟩;have h:=h.to f1;have q2:=h.p2;have q3:=h.p3;have qs:=h.s.cell;have qr:=h.r.cell;have qrz:=h.r.frozen;have qu:=h.u.cell;have quz:=h.u.frozen;have qm:=h.m.cell;have qmz:=h.m.frozen))
  | (go_at_call 55;go_loud (refine (hnm _).mono ?_;rintro x w2 ⟨rfl,hw⟩;subst hw))
  | (go_at_call 39;go_loud (refine (hP' _).mono ?_;rintro x w2 ⟨rfl,hw⟩;subst hw)))
 have fZ:Fr [bm,br,bu] w1 ((((w1.setCell ⟨br,0,none⟩ (.string (strL l))).setCell ⟨bu,0,none⟩ (.int .i64 0))).alloc (.cells #[.string ⟨#[]⟩] 9)):=((((Fr.refl [bm,br,bu] w1).setCell (.inl (by simp)) _).setCell (.inl (by simp)) _)).alloc _
 have vr:Var ((((w1.setCell ⟨br,0,none⟩ (.string (strL l))).setCell ⟨bu,0,none⟩ (.int .i64 0))).alloc (.cells #[.string ⟨#[]⟩] 9)) br (.string (strL l)):=((h.r.set _).other e6 _).fr ((Fr.refl [] _).alloc _) (by simp)
 have vm:Var ((((w1.setCell ⟨br,0,none⟩ (.string (strL l))).setCell ⟨bu,0,none⟩ (.int .i64 0))).alloc (.cells #[.string ⟨#[]⟩] 9)) bm (.string (strL [])):=((h.m.other e4 _).other e5 _).fr ((Fr.refl [] _).alloc _) (by simp)
 have vu:Var ((((w1.setCell ⟨br,0,none⟩ (.string (strL l))).setCell ⟨bu,0,none⟩ (.int .i64 0))).alloc (.cells #[.string ⟨#[]⟩] 9)) bu (.int .i64 0):=((h.u.other (Ne.symm e6) _).set _).fr ((Fr.refl [] _).alloc _) (by simp)
 have vf:Var ((((w1.setCell ⟨br,0,none⟩ (.string (strL l))).setCell ⟨bu,0,none⟩ (.int .i64 0))).alloc (.cells #[.string ⟨#[]⟩] 9)) w1.heap.size (.string ⟨#[]⟩):=var_row (by rw [show w1.heap.size=(((w1.setCell ⟨br,0,none⟩ (.string (strL l))).setCell ⟨bu,0,none⟩ (.int .i64 0))).heap.size by simp];exact row_new _ _)
 have b1:=h.m.lt
 have b2:=h.r.lt
 have b3:=h.u.lt
 have H:LoopAt ((((w1.setCell ⟨br,0,none⟩ (.string (strL l))).setCell ⟨bu,0,none⟩ (.int .i64 0))).alloc (.cells #[.string ⟨#[]⟩] 9)) w.heap.size br w1.heap.size bu bm (w.heap.size+1+1) (w.heap.size+1+1+1) (w.heap.size+1) a b txt d 4 5 places l l (.string (strL l)) (.string ⟨#[]⟩) (.bool false) :=
  ⟨fZ.stay h.p0 (by simp;omega),fZ.stay h.p1 (by simp;omega),fZ.stay h.p2 (by simp;omega),fZ.stay h.p3 (by simp;omega),fZ.stay h.p4 (by simp;omega),fZ.stay h.p5 (by simp;omega),fZ.stay h.p6 (by simp;omega),h.s.fr fZ (by simp;omega),h.n.fr fZ (by simp;omega),h.k.fr fZ (by simp;omega),vm,vr,vu,vf⟩
 have G:=h.fr.after fZ (by simp;omega)
 generalize ((((w1.setCell ⟨br,0,none⟩ (.string (strL l))).setCell ⟨bu,0,none⟩ (.int .i64 0))).alloc (.cells #[.string ⟨#[]⟩] 9))=Z at *
 generalize hbf:w1.heap.size=bf at *
 clear fZ vr vm vu vf h f1 qs qsz qr qrz qu quz qm qmz q2 q3 hT hP' hnm  hl1 hS1 hix hbf
 refine wp_loop_rounds 1 ?_
 have cr:=H.r.cell
 have cp5:=H.p5
 rw [rounds_succ]
 go_wp2_with (go_at_call 57;go_loud (refine (without_yes _ _ _ bf bu a b txt d 4 5 places 0 l (l.drop 0) _ _ hsm0 H.p0 H.p1 H.p2 H.p3 H.p4 H.p5 H.p6 H.r.cell H.f H.u (by omega) hsl0 hy hny).mono ?_;rintro x w3 ⟨rfl,vf,vu,f3⟩;have vn:=H.n.fr f3 (by simp;omega);have vk:=H.k.fr f3 (by simp;omega);have vm:=H.m.fr f3 (by simp;omega);have vs:=H.s.fr f3 (by simp;omega);have p5:=f3.stay H.p5 (by simp;omega);replace G:=G.after f3 (by simp;omega);have cf:=vf.cell;have cn:=vn.cell;have cnz:=vn.frozen;have ck:=vk.cell;have ckz:=vk.frozen))
 have D1:w.heap.size+1+1 ≠ w.heap.size+1+1+1:=by omega
 have vn:=(vn.set (.string (strL (l.drop 0)))).other D1 (.bool true)
 have vk:=(vk.other (Ne.symm D1) (.string (strL (l.drop 0)))).set (.bool true)
 have vm:=(vm.other (c:=w.heap.size+1+1) (by omega) (.string (strL (l.drop 0)))).other (c:=w.heap.size+1+1+1) (by omega) (.bool true)
 have vu:=(vu.other (c:=w.heap.size+1+1) (by omega) (.string (strL (l.drop 0)))).other (c:=w.heap.size+1+1+1) (by omega) (.bool true)
 have vs:=(vs.other (c:=w.heap.size+1+1) (by omega) (.string (strL (l.drop 0)))).other (c:=w.heap.size+1+1+1) (by omega) (.bool true)
 have fD:=((Fr.refl [w.heap.size+1+1,w.heap.size+1+1+1] w3).setCell (p:=⟨w.heap.size+1+1,0,none⟩) (.inl (by simp)) (.string (strL (l.drop 0)))).setCell (p:=⟨w.heap.size+1+1+1,0,none⟩) (.inl (by simp)) (.bool true)
 have p5:=fD.stay p5 (by simp;omega)
 have G3:=G.after fD (by simp;omega)
 refine leaves_cons (f:=52) (args:=#[.pointer (some ⟨bm,0,none⟩),.pointer (some ⟨w.heap.size+1+1,0,none⟩),.pointer (some ⟨bu,0,none⟩),.pointer (some ⟨w.heap.size+1+1+1,0,none⟩),.pointer (some ⟨w.heap.size+1,0,none⟩),.pointer (some ⟨w.heap.size,0,none⟩)]) (by simp) (by simp [go_sem]) ?_
 refine (takeEnd_any _ bm (w.heap.size+1+1) bu (w.heap.size+1+1+1) (w.heap.size+1) w.heap.size [] (l.drop 0) l 0 5 true vm vn vu vk vs p5 (by omega) (by omega) (by omega) (by omega) (by omega) (by omega) (by omega) hsz9).mono ?_
 rintro e u' w4 ⟨rfl,rfl,hn4,hk4,f4⟩
 refine⟨_,results_two rfl _ w4 ⟨w.heap.size+1+1,0,none⟩ ⟨w.heap.size+1+1+1,0,none⟩ _ _ rfl rfl (load_string hn4) (load_bool hk4),?_⟩
 refine⟨rfl,?_⟩
 exact G3.after f4 (by simp;omega)
theorem take_x1 (w:World) (a b txt:ByteArray) (d:Nat) (places:Int) (l:List UInt8) (hl:l.length≤65536) (hR:Lib.trimLeftS l [32]=l) (hm:Lib.hasPrefix l [45]=false) (hln:(l==[110,97,110])=false) (hSn:(l==[110,97,110])=false)
  (hnS:namedB l=false) (hlen:1<l.length) (hn0:bodyB d places (l.drop 0)=false) (hi0:∀ W,(Instr.index 9 (.string (strL l)) (.int .i64 0)).run Tryz.prog W=.ok (.int .u8 48) W) (hy:bodyB d places (l.drop 1)=true) (hny:namedB (l.drop 1)=false) :
  Calls Tryz.prog 29 #[planV a b d 4 txt 5 places,.string (strL l)] w fun x w'=>x=.returned (.tuple #[.string (strL (l.drop 1)),.bool (finOk true 1 5 (strL l).size)])∧Fr [] w w':=by
 generalize hM:l.drop 1=M at *
 have hmf:∀ (fn:Fn) (first cap:Array Value) (w:World),(Instr.makeFunc fn first cap).run Tryz.prog w=.ok (.func fn first cap) w:=fun _ _ _ _=>rfl
 have hix:∀ w,(Instr.index 133 (.agg #[.string ⟨#[]⟩,.string ⟨#[43]⟩,.string ⟨#[32]⟩]) (.int .i64 0)).run Tryz.prog w=.ok (.string ⟨#[]⟩) w:=fun _=>by kernel_rfl
 have hT:=fun W=>trimLeft_blank W l
 rw [hR] at hT
 have hP:=fun W=>hasPrefix_l W l [45]
 simp only [hm] at hP
 have hP':∀ W,Calls Tryz.prog 39 #[.string (strL l),.string ⟨#[45]⟩] W fun x w'=>x=.returned (.bool false)∧w'=W:=hP
 clear hP
 have hnm:=fun W=>named_l W l
 simp only [hnS] at hnm
 have hl1:((strL l).toList==[110,97,110])=false:=by rw [ByteArray.toList_eq,strL_data];exact hln
 have hS1:((strL l).toList==[110,97,110])=false:=by rw [ByteArray.toList_eq,strL_data];exact hSn
 have hlS':l.length≤65536:=hl
 have hsl0:∀ W,(Instr.slice 9 (.string (strL l)) (some (.int .i64 0)) none none).run Tryz.prog W=.ok (.string (strL (l.drop 0))) W:=fun W=>sliceN_run l 0 (by omega) W
 have hlt0:(0:Int)<((strL l).size:Int):=by rw [strL_size];omega
 have hsm0:(l.drop 0).length≤65536:=by rw [List.length_drop];omega
 have hsl1:∀ W,(Instr.slice 9 (.string (strL l)) (some (.int .i64 1)) none none).run Tryz.prog W=.ok (.string (strL M)) W:=fun W=>by rw [← hM];exact sliceN_run l 1 (by omega) W
 have hlt1:(1:Int)<((strL l).size:Int):=by rw [strL_size];omega
 have hsm1:M.length≤65536:=by rw [← hM,List.length_drop];omega
 have z1:(strL l).size≤65536:=by rw [strL_size];exact hl
 have hsub:((strL l).size:Int) - ((strL l).size:Int)=0:=by omega
 have hsz9:¬ 9223372036854775807<(strL []).size+(strL M).size:=by rw [strL_size,strL_size];simp only [List.length_nil];omega
 clear hM hR hm hln hSn hnS hl hlS'
 unfold planV
 go_enter_defers Tryz.func29,Tryz.ntmps29
 go_wp2_with fail
 refine wp_mono (take_begin w a b txt d 4 5 places l) ?_
 rintro e a' W ⟨rfl,bm,br,bu,rfl,h⟩
 have q2:=h.p2
 have q3:=h.p3
 have qs:=h.s.cell
 have qsz:=h.s.frozen
 have qr:=h.r.cell
 have qrz:=h.r.frozen
 have qu:=h.u.cell
 have quz:=h.u.frozen
 have qm:=h.m.cell
 have qmz:=h.m.frozen
 have e1:=h.hm
 have e2:=h.hr
 have e3:=h.hu
 have e4:=h.mr
 have e5:=h.mu
 have e6:=h.ru
 simp only [Exit.then]
 go_wp2_with (first
  | (go_at_call 54;go_loud (refine (hT _).mono ?_;rintro x w1 ⟨rfl,f1⟩;have h:=h.to f1;have q2:=h.p2;have q3:=h.p3;have qs:=h.s.cell;have qr:=h.r.cell;have qrz:=h.r.frozen;have qu:=h.u.cell;have quz:=h.u.frozen;have qm:=h.m.cell;have qmz:=h.m.frozen))
  | (go_at_call 55;go_loud (refine (hnm _).mono ?_;rintro x w2 ⟨rfl,hw⟩;subst hw))
  | (go_at_call 39;go_loud (refine (hP' _).mono ?_;rintro x w2 ⟨rfl,hw⟩;subst hw)))
 have fZ:Fr [bm,br,bu] w1 ((((w1.setCell ⟨br,0,none⟩ (.string (strL l))).setCell ⟨bu,0,none⟩ (.int .i64 0))).alloc (.cells #[.string ⟨#[]⟩] 9)):=((((Fr.refl [bm,br,bu] w1).setCell (.inl (by simp)) _).setCell (.inl (by simp)) _)).alloc _
 have vr:Var ((((w1.setCell ⟨br,0,none⟩ (.string (strL l))).setCell ⟨bu,0,none⟩ (.int .i64 0))).alloc (.cells #[.string ⟨#[]⟩] 9)) br (.string (strL l)):=((h.r.set _).other e6 _).fr ((Fr.refl [] _).alloc _) (by simp)
 have vm:Var ((((w1.setCell ⟨br,0,none⟩ (.string (strL l))).setCell ⟨bu,0,none⟩ (.int .i64 0))).alloc (.cells #[.string ⟨#[]⟩] 9)) bm (.string (strL [])):=((h.m.other e4 _).other e5 _).fr ((Fr.refl [] _).alloc _) (by simp)
 have vu:Var ((((w1.setCell ⟨br,0,none⟩ (.string (strL l))).setCell ⟨bu,0,none⟩ (.int .i64 0))).alloc (.cells #[.string ⟨#[]⟩] 9)) bu (.int .i64 0):=((h.u.other (Ne.symm e6) _).set _).fr ((Fr.refl [] _).alloc _) (by simp)
 have vf:Var ((((w1.setCell ⟨br,0,none⟩ (.string (strL l))).setCell ⟨bu,0,none⟩ (.int .i64 0))).alloc (.cells #[.string ⟨#[]⟩] 9)) w1.heap.size (.string ⟨#[]⟩):=var_row (by rw [show w1.heap.size=(((w1.setCell ⟨br,0,none⟩ (.string (strL l))).setCell ⟨bu,0,none⟩ (.int .i64 0))).heap.size by simp];exact row_new _ _)
 have b1:=h.m.lt
 have b2:=h.r.lt
 have b3:=h.u.lt
 have H:LoopAt ((((w1.setCell ⟨br,0,none⟩ (.string (strL l))).setCell ⟨bu,0,none⟩ (.int .i64 0))).alloc (.cells #[.string ⟨#[]⟩] 9)) w.heap.size br w1.heap.size bu bm (w.heap.size+1+1) (w.heap.size+1+1+1) (w.heap.size+1) a b txt d 4 5 places l l (.string (strL l)) (.string ⟨#[]⟩) (.bool false) :=
  ⟨fZ.stay h.p0 (by simp;omega),fZ.stay h.p1 (by simp;omega),fZ.stay h.p2 (by simp;omega),fZ.stay h.p3 (by simp;omega),fZ.stay h.p4 (by simp;omega),fZ.stay h.p5 (by simp;omega),fZ.stay h.p6 (by simp;omega),h.s.fr fZ (by simp;omega),h.n.fr fZ (by simp;omega),h.k.fr fZ (by simp;omega),vm,vr,vu,vf⟩
 have G:=h.fr.after fZ (by simp;omega)
 generalize ((((w1.setCell ⟨br,0,none⟩ (.string (strL l))).setCell ⟨bu,0,none⟩ (.int .i64 0))).alloc (.cells #[.string ⟨#[]⟩] 9))=Z at *
 generalize hbf:w1.heap.size=bf at *
 clear fZ vr vm vu vf h f1 qs qsz qr qrz qu quz qm qmz q2 q3 hT hP' hnm  hl1 hS1 hix hbf
 refine wp_loop_rounds 2 ?_
 have cr:=H.r.cell
 have cp5:=H.p5
 rw [rounds_succ]
 go_wp2_with (go_at_call 57;go_loud (refine (without_no _ _ _ bf bu a b txt d 4 5 places 0 l (l.drop 0) hsm0 H.p0 H.p1 H.p2 H.p3 H.p4 H.p5 H.p6 H.r.cell hsl0 hn0).mono ?_;rintro x w3 ⟨rfl,f3⟩;replace G:=G.then f3;replace H:=H.to f3;have cr:=H.r.cell;have cp5:=H.p5))
 generalize w3=Z at *
 have cr:=H.r.cell
 have cp5:=H.p5
 rw [rounds_succ]
 go_wp2_with (go_at_call 57;go_loud (refine (without_yes _ _ _ bf bu a b txt d 4 5 places 1 l M _ _ hsm1 H.p0 H.p1 H.p2 H.p3 H.p4 H.p5 H.p6 H.r.cell H.f H.u (by omega) hsl1 hy hny).mono ?_;rintro x w3 ⟨rfl,vf,vu,f3⟩;have vn:=H.n.fr f3 (by simp;omega);have vk:=H.k.fr f3 (by simp;omega);have vm:=H.m.fr f3 (by simp;omega);have vs:=H.s.fr f3 (by simp;omega);have p5:=f3.stay H.p5 (by simp;omega);replace G:=G.after f3 (by simp;omega);have cf:=vf.cell;have cn:=vn.cell;have cnz:=vn.frozen;have ck:=vk.cell;have ckz:=vk.frozen))
 have D1:w.heap.size+1+1 ≠ w.heap.size+1+1+1:=by omega
 have vn:=(vn.set (.string (strL M))).other D1 (.bool true)
 have vk:=(vk.other (Ne.symm D1) (.string (strL M))).set (.bool true)
 have vm:=(vm.other (c:=w.heap.size+1+1) (by omega) (.string (strL M))).other (c:=w.heap.size+1+1+1) (by omega) (.bool true)
 have vu:=(vu.other (c:=w.heap.size+1+1) (by omega) (.string (strL M))).other (c:=w.heap.size+1+1+1) (by omega) (.bool true)
 have vs:=(vs.other (c:=w.heap.size+1+1) (by omega) (.string (strL M))).other (c:=w.heap.size+1+1+1) (by omega) (.bool true)
 have fD:=((Fr.refl [w.heap.size+1+1,w.heap.size+1+1+1] w3).setCell (p:=⟨w.heap.size+1+1,0,none⟩) (.inl (by simp)) (.string (strL M))).setCell (p:=⟨w.heap.size+1+1+1,0,none⟩) (.inl (by simp)) (.bool true)
 have p5:=fD.stay p5 (by simp;omega)
 have G3:=G.after fD (by simp;omega)
 refine leaves_cons (f:=52) (args:=#[.pointer (some ⟨bm,0,none⟩),.pointer (some ⟨w.heap.size+1+1,0,none⟩),.pointer (some ⟨bu,0,none⟩),.pointer (some ⟨w.heap.size+1+1+1,0,none⟩),.pointer (some ⟨w.heap.size+1,0,none⟩),.pointer (some ⟨w.heap.size,0,none⟩)]) (by simp) (by simp [go_sem]) ?_
 refine (takeEnd_any _ bm (w.heap.size+1+1) bu (w.heap.size+1+1+1) (w.heap.size+1) w.heap.size [] M l 1 5 true vm vn vu vk vs p5 (by omega) (by omega) (by omega) (by omega) (by omega) (by omega) (by omega) hsz9).mono ?_
 rintro e u' w4 ⟨rfl,rfl,hn4,hk4,f4⟩
 refine⟨_,results_two rfl _ w4 ⟨w.heap.size+1+1,0,none⟩ ⟨w.heap.size+1+1+1,0,none⟩ _ _ rfl rfl (load_string hn4) (load_bool hk4),?_⟩
 refine⟨rfl,?_⟩
 exact G3.after f4 (by simp;omega)
end Go.Proofs.YtcmndpjemdjalaaGreatDoor
namespace Go.Proofs.YtcmndpjemdjalaaGreatDoor
open Go.RowKit
theorem by_oneY (w:World) {d:Nat} {N wd pl:Int} {S:ByteArray} (hW:WriteIs d 0 N wd pl S) (hC:CompileIs d 0 N wd pl S) (hd:2≤d∧d≤6) (hN:N=0∨N=8∨N=2∨N=4∨N=5) (l n:List UInt8) (hl:l.length≤65536) (hn:n.length≤65536) (neg:Bool) (t:Txt) (hok:t.Ok) (hr:n=signL neg t.body) (hTab:TabAt 7 Lib.deBruijn32tab w)
  (hT:∀ Y:World,Calls Tryz.prog 29 #[planV ⟨#[]⟩ ⟨#[]⟩ d N ⟨#[]⟩ wd pl,.string (strL l)] Y fun x w'=>x=.returned (.tuple #[.string (strL n),.bool true])∧Fr [] Y w') :
  Calls Tryz.prog 5 #[.string S,.string (strL l)] w fun x w'=>x=.returned (toldV (txtV 11 52 neg 0 t).1 (txtV 11 52 neg 0 t).2 0 0)∧Fr [] w w':=by
 refine by_yes w _ _ wd pl _ _ 0 1 (OneC d N) (OneC.lasts _ _) (fun W _=>compile_oneC hC W) ?_
 rintro g cap W ⟨k0,k1,k2⟩ hf
 have hd1:((d:Int) != 1)=true:=by simp only [bne_iff_ne,ne_eq];omega
 exact matchReadG_yes W 11 52 (.slice (some ⟨g,0,none⟩) 1 cap) (planV ⟨#[]⟩ ⟨#[]⟩ d N ⟨#[]⟩ wd pl) 0 wd pl l 0
  (fun X hX=>check_one X g cap d 0 N wd pl _ hd hN (hX.stay k0 (by simp)) (hX.stay k1 (by simp)) (hX.stay k2 (by simp)) hW hC) (by decide) hl (by decide)
  (fun X hX=>open_one X g cap d 0 N wd pl ⟨#[]⟩ hd1 (hX.stay k0 (by simp)) (hX.stay k1 (by simp)) (hX.stay k2 (by simp)))
  n (fun X=>takenG_yes X _ _ _ _ _ l _ hl hT) hn neg t hok hr (tab_fr hTab hf)
theorem by_oneN (w:World) {d:Nat} {N wd pl:Int} {S:ByteArray} (hW:WriteIs d 0 N wd pl S) (hC:CompileIs d 0 N wd pl S) (hd:2≤d∧d≤6) (hN:N=0∨N=8∨N=2∨N=4∨N=5) (l:List UInt8) (hl:l.length≤65536) (hg:ErrTy w)
  (hT:∀ Y:World,Calls Tryz.prog 29 #[planV ⟨#[]⟩ ⟨#[]⟩ d N ⟨#[]⟩ wd pl,.string (strL l)] Y fun x w'=>∃ n:List UInt8,x=.returned (.tuple #[.string (strL n),.bool false])∧Fr [] Y w') :
  Calls Tryz.prog 5 #[.string S,.string (strL l)] w fun x w'=>x=.returned (toldV 0 0 220 0)∧Fr [] w w':=by
 refine by_no w _ _ wd pl 220 0 0 1 (OneC d N) (OneC.lasts _ _) hg (by decide) (fun W _=>compile_oneC hC W) ?_
 rintro g cap W ⟨k0,k1,k2⟩ hf
 have hd1:((d:Int) != 1)=true:=by simp only [bne_iff_ne,ne_eq];omega
 exact matchReadG_no W 11 52 (.slice (some ⟨g,0,none⟩) 1 cap) (planV ⟨#[]⟩ ⟨#[]⟩ d N ⟨#[]⟩ wd pl) 0 wd pl l 0
  (fun X hX=>check_one X g cap d 0 N wd pl _ hd hN (hX.stay k0 (by simp)) (hX.stay k1 (by simp)) (hX.stay k2 (by simp)) hW hC) (by decide) hl (by decide)
  (fun X hX=>open_one X g cap d 0 N wd pl ⟨#[]⟩ hd1 (hX.stay k0 (by simp)) (hX.stay k1 (by simp)) (hX.stay k2 (by simp)))
  0 (fun X=>takenG_no X _ _ _ _ _ l hl hT)
theorem nm_1 (w:World) (hg:ErrTy w):Calls Tryz.prog 5 #[.string (strL [123,115,125]),.string (strL [48,49])] w fun x w'=>x=.returned (toldV 0 0 220 0)∧Fr [] w w':=by
 have hT:∀ Y:World,Calls Tryz.prog 29 #[planV ⟨#[]⟩ ⟨#[]⟩ 2 0 ⟨#[]⟩ 0 (-1),.string (strL [48,49])] Y fun x w'=>∃ n:List UInt8,x=.returned (.tuple #[.string (strL n),.bool false])∧Fr [] Y w':=by
  intro Y
  obtain h:=take_zero Y ⟨#[]⟩ ⟨#[]⟩ ⟨#[]⟩ 2 (-1) [48,49] (by decide)
  have e:takeOk 2 (-1) [48,49]=false:=by decide
  rw [e] at h
  refine h.mono ?_
  rintro x w' ⟨n,h1,-,h3⟩
  exact⟨n.data.toList,by rw [h1,strL_of],h3⟩
 exact by_oneN w writeIs_s compileIs_s (by omega) (by simp) [48,49] (by decide) hg hT
theorem nm_2 (w:World) (hg:ErrTy w):Calls Tryz.prog 5 #[.string (strL [123,115,125]),.string (strL [45,110,97,110])] w fun x w'=>x=.returned (toldV 0 0 220 0)∧Fr [] w w':=by
 have hT:∀ Y:World,Calls Tryz.prog 29 #[planV ⟨#[]⟩ ⟨#[]⟩ 2 0 ⟨#[]⟩ 0 (-1),.string (strL [45,110,97,110])] Y fun x w'=>∃ n:List UInt8,x=.returned (.tuple #[.string (strL n),.bool false])∧Fr [] Y w':=by
  intro Y
  obtain h:=take_zero Y ⟨#[]⟩ ⟨#[]⟩ ⟨#[]⟩ 2 (-1) [45,110,97,110] (by decide)
  have e:takeOk 2 (-1) [45,110,97,110]=false:=by decide
  rw [e] at h
  refine h.mono ?_
  rintro x w' ⟨n,h1,-,h3⟩
  exact⟨n.data.toList,by rw [h1,strL_of],h3⟩
 exact by_oneN w writeIs_s compileIs_s (by omega) (by simp) [45,110,97,110] (by decide) hg hT
theorem nm_3 (w:World) (hTab:TabAt 7 Lib.deBruijn32tab w):Calls Tryz.prog 5 #[.string (strL [123,115,125]),.string (strL [49,46,53,48])] w fun x w'=>x=.returned (toldV 4609434218613702656 0 0 0)∧Fr [] w w':=by
 have hv:txtV 11 52 false 0 (.dec [49] [53,48] true none)=(4609434218613702656,0):=by decide +kernel
 have hT:∀ Y:World,Calls Tryz.prog 29 #[planV ⟨#[]⟩ ⟨#[]⟩ 2 0 ⟨#[]⟩ 0 (-1),.string (strL [49,46,53,48])] Y fun x w'=>x=.returned (.tuple #[.string (strL [49,46,53,48]),.bool true])∧Fr [] Y w':=by
  intro Y
  obtain h:=take_zero Y ⟨#[]⟩ ⟨#[]⟩ ⟨#[]⟩ 2 (-1) [49,46,53,48] (by decide)
  have e:takeOk 2 (-1) [49,46,53,48]=true:=by decide
  rw [e] at h
  refine h.mono ?_
  rintro x w' ⟨n,h1,h2,h3⟩
  rw [h2 rfl] at h1
  exact⟨h1,h3⟩
 have h:=by_oneY w writeIs_s compileIs_s (by omega) (by simp) [49,46,53,48] [49,46,53,48] (by decide) (by decide) false (.dec [49] [53,48] true none) ⟨by decide,by unfold TenL;decide,by unfold TenL;decide,by decide,by intro x hx;cases hx⟩ rfl hTab hT
 rw [hv] at h
 exact h
theorem nm_4 (w:World) (hTab:TabAt 7 Lib.deBruijn32tab w):Calls Tryz.prog 5 #[.string (strL [123,115,125]),.string (strL [45,105,110,102])] w fun x w'=>x=.returned (toldV 18442240474082181120 0 0 0)∧Fr [] w w':=by
 have hv:txtV 11 52 true 0 .inf=(18442240474082181120,0):=by decide +kernel
 have hT:∀ Y:World,Calls Tryz.prog 29 #[planV ⟨#[]⟩ ⟨#[]⟩ 2 0 ⟨#[]⟩ 0 (-1),.string (strL [45,105,110,102])] Y fun x w'=>x=.returned (.tuple #[.string (strL [45,105,110,102]),.bool true])∧Fr [] Y w':=by
  intro Y
  obtain h:=take_zero Y ⟨#[]⟩ ⟨#[]⟩ ⟨#[]⟩ 2 (-1) [45,105,110,102] (by decide)
  have e:takeOk 2 (-1) [45,105,110,102]=true:=by decide
  rw [e] at h
  refine h.mono ?_
  rintro x w' ⟨n,h1,h2,h3⟩
  rw [h2 rfl] at h1
  exact⟨h1,h3⟩
 have h:=by_oneY w writeIs_s compileIs_s (by omega) (by simp) [45,105,110,102] [45,105,110,102] (by decide) (by decide) true .inf trivial rfl hTab hT
 rw [hv] at h
 exact h
theorem nm_5 (w:World) (hTab:TabAt 7 Lib.deBruijn32tab w):Calls Tryz.prog 5 #[.string (strL [123,32,53,46,48,102,125]),.string (strL [32,32,32,45,55])] w fun x w'=>x=.returned (toldV 13842939354630062080 0 0 0)∧Fr [] w w':=by
 have hv:txtV 11 52 true 0 (.dec [55] [] false none)=(13842939354630062080,0):=by decide +kernel
 have hT:∀ Y:World,Calls Tryz.prog 29 #[planV ⟨#[]⟩ ⟨#[]⟩ 3 2 ⟨#[]⟩ 5 0,.string (strL [32,32,32,45,55])] Y fun x w'=>x=.returned (.tuple #[.string (strL [45,55]),.bool true])∧Fr [] Y w':=by
  intro Y
  have h:=take_bm Y ⟨#[]⟩ ⟨#[]⟩ ⟨#[]⟩ 3 0 [32,32,32,45,55] [55] (by decide) (by decide) (by decide)
  have e1:finOk (bodyB 3 0 [55]) ((strL [32,32,32,45,55]).size - (strL [45,55]).size:Int) 5 (strL [32,32,32,45,55]).size=true:=by rw [strL_size,strL_size];decide
  rw [e1] at h
  exact h
 have h:=by_oneY w writeIs_5f compileIs_5f (by omega) (by simp) [32,32,32,45,55] [45,55] (by decide) (by decide) true (.dec [55] [] false none) ⟨by decide,by unfold TenL;decide,by unfold TenL;decide,by decide,by intro x hx;cases hx⟩ rfl hTab hT
 rw [hv] at h
 exact h
theorem nm_6 (w:World) (hg:ErrTy w):Calls Tryz.prog 5 #[.string (strL [123,32,53,46,48,102,125]),.string (strL [49,50,51,52])] w fun x w'=>x=.returned (toldV 0 0 220 0)∧Fr [] w w':=by
 have hT:∀ Y:World,Calls Tryz.prog 29 #[planV ⟨#[]⟩ ⟨#[]⟩ 3 2 ⟨#[]⟩ 5 0,.string (strL [49,50,51,52])] Y fun x w'=>∃ n:List UInt8,x=.returned (.tuple #[.string (strL n),.bool false])∧Fr [] Y w':=by
  intro Y
  have h:=take_b0 Y ⟨#[]⟩ ⟨#[]⟩ ⟨#[]⟩ 3 0 [49,50,51,52] (by decide) (by decide) (by decide) (by rw [ByteArray.toList_eq,strL_data];decide)
  exact h.mono fun x w' ⟨h1,h2⟩=>⟨[],h1,h2⟩
 exact by_oneN w writeIs_5f compileIs_5f (by omega) (by simp) [49,50,51,52] (by decide) hg hT
theorem nm_7 (w:World) (hTab:TabAt 7 Lib.deBruijn32tab w):Calls Tryz.prog 5 #[.string (strL [123,32,53,46,48,102,125]),.string (strL [32,49,50,51,52,53])] w fun x w'=>x=.returned (toldV 4668012349850910720 0 0 0)∧Fr [] w w':=by
 have hv:txtV 11 52 false 0 (.dec [49,50,51,52,53] [] false none)=(4668012349850910720,0):=by decide +kernel
 have hT:∀ Y:World,Calls Tryz.prog 29 #[planV ⟨#[]⟩ ⟨#[]⟩ 3 2 ⟨#[]⟩ 5 0,.string (strL [32,49,50,51,52,53])] Y fun x w'=>x=.returned (.tuple #[.string (strL [49,50,51,52,53]),.bool true])∧Fr [] Y w':=by
  intro Y
  have e0:Lib.trimLeftS [32,49,50,51,52,53] [32]=[49,50,51,52,53]:=by decide
  have h:=take_bb Y ⟨#[]⟩ ⟨#[]⟩ ⟨#[]⟩ 3 0 [32,49,50,51,52,53] (by decide) (by rw [e0];decide) (by rw [e0,ByteArray.toList_eq,strL_data];decide) (by rw [e0,strL_size,strL_size];decide)
  rw [e0] at h
  have e1:finOk (bodyB 3 0 [49,50,51,52,53]) ((strL [32,49,50,51,52,53]).size - (strL [49,50,51,52,53]).size - 1:Int) 5 (strL [32,49,50,51,52,53]).size=true:=by rw [strL_size,strL_size];decide
  rw [e1] at h
  exact h
 have h:=by_oneY w writeIs_5f compileIs_5f (by omega) (by simp) [32,49,50,51,52,53] [49,50,51,52,53] (by decide) (by decide) false (.dec [49,50,51,52,53] [] false none) ⟨by decide,by unfold TenL;decide,by unfold TenL;decide,by decide,by intro x hx;cases hx⟩ rfl hTab hT
 rw [hv] at h
 exact h
theorem nm_8 (w:World) (hg:ErrTy w):Calls Tryz.prog 5 #[.string (strL [123,120,125]),.string (strL [48,120,50,112,48])] w fun x w'=>x=.returned (toldV 0 0 220 0)∧Fr [] w w':=by
 have hT:∀ Y:World,Calls Tryz.prog 29 #[planV ⟨#[]⟩ ⟨#[]⟩ 6 0 ⟨#[]⟩ 0 (-1),.string (strL [48,120,50,112,48])] Y fun x w'=>∃ n:List UInt8,x=.returned (.tuple #[.string (strL n),.bool false])∧Fr [] Y w':=by
  intro Y
  obtain h:=take_zero Y ⟨#[]⟩ ⟨#[]⟩ ⟨#[]⟩ 6 (-1) [48,120,50,112,48] (by decide)
  have e:takeOk 6 (-1) [48,120,50,112,48]=false:=by decide
  rw [e] at h
  refine h.mono ?_
  rintro x w' ⟨n,h1,-,h3⟩
  exact⟨n.data.toList,by rw [h1,strL_of],h3⟩
 exact by_oneN w writeIs_x compileIs_x (by omega) (by simp) [48,120,50,112,48] (by decide) hg hT
theorem nm_9 (w:World) (hTab:TabAt 7 Lib.deBruijn32tab w):Calls Tryz.prog 5 #[.string (strL [123,48,53,120,125]),.string (strL [48,120,49,112,48])] w fun x w'=>x=.returned (toldV 4607182418800017408 0 0 0)∧Fr [] w w':=by
 have hv:txtV 11 52 false 0 (.hex [49] [] false (some (false,[48])))=(4607182418800017408,0):=by decide +kernel
 have hT:∀ Y:World,Calls Tryz.prog 29 #[planV ⟨#[]⟩ ⟨#[]⟩ 6 4 ⟨#[]⟩ 5 (-1),.string (strL [48,120,49,112,48])] Y fun x w'=>x=.returned (.tuple #[.string (strL [48,120,49,112,48]),.bool true])∧Fr [] Y w':=by
  intro Y
  have h:=take_x0 Y ⟨#[]⟩ ⟨#[]⟩ ⟨#[]⟩ 6 (-1) [48,120,49,112,48] (by decide) (by decide) (by decide) (by decide) (by decide) (by decide) (by decide) (by decide) (by decide)
  have e1:finOk true 0 5 (strL [48,120,49,112,48]).size=true:=by rw [strL_size];decide
  rw [e1] at h
  exact h
 have h:=by_oneY w writeIs_5x compileIs_5x (by omega) (by simp) [48,120,49,112,48] [48,120,49,112,48] (by decide) (by decide) false (.hex [49] [] false (some (false,[48]))) ⟨by decide,by unfold HexL HexB;decide,by unfold HexL HexB;decide,by decide,by intro x hx;cases hx;exact⟨by decide,by show TenL [48];unfold TenL;decide⟩⟩ rfl hTab hT
 rw [hv] at h
 exact h
theorem nm_10 (w:World) (hg:ErrTy w):Calls Tryz.prog 5 #[.string (strL [123,48,53,120,125]),.string (strL [48,48,120,49,112,48])] w fun x w'=>x=.returned (toldV 0 0 220 0)∧Fr [] w w':=by
 have hT:∀ Y:World,Calls Tryz.prog 29 #[planV ⟨#[]⟩ ⟨#[]⟩ 6 4 ⟨#[]⟩ 5 (-1),.string (strL [48,48,120,49,112,48])] Y fun x w'=>∃ n:List UInt8,x=.returned (.tuple #[.string (strL n),.bool false])∧Fr [] Y w':=by
  intro Y
  have h:=take_x1 Y ⟨#[]⟩ ⟨#[]⟩ ⟨#[]⟩ 6 (-1) [48,48,120,49,112,48] (by decide) (by decide) (by decide) (by decide) (by decide) (by decide) (by decide) (by decide) (fun _=>by kernel_rfl) (by decide) (by decide)
  have e1:finOk true 1 5 (strL [48,48,120,49,112,48]).size=false:=by rw [strL_size];decide
  rw [e1] at h
  exact h.mono fun x w' ⟨h1,h2⟩=>⟨_,h1,h2⟩
 exact by_oneN w writeIs_5x compileIs_5x (by omega) (by simp) [48,48,120,49,112,48] (by decide) hg hT
theorem nm_11 (w:World) (hTab:TabAt 7 Lib.deBruijn32tab w):Calls Tryz.prog 5 #[.string (strL [123,43,48,56,115,125]),.string (strL [32,32,32,32,43,105,110,102])] w fun x w'=>x=.returned (toldV 9218868437227405312 0 0 0)∧Fr [] w w':=by
 have hv:txtV 11 52 false 0 .inf=(9218868437227405312,0):=by decide +kernel
 have hT:∀ Y:World,Calls Tryz.prog 29 #[planV ⟨#[]⟩ ⟨#[]⟩ 2 5 ⟨#[]⟩ 8 (-1),.string (strL [32,32,32,32,43,105,110,102])] Y fun x w'=>x=.returned (.tuple #[.string (strL [105,110,102]),.bool true])∧Fr [] Y w':=by
  intro Y
  have h:=take_pnm Y ⟨#[]⟩ ⟨#[]⟩ ⟨#[]⟩ 2 (-1) [32,32,32,32,43,105,110,102] [105,110,102] (by decide) (by decide) (by decide) (by decide)
  have e1:finOk (bodyB 2 (-1) [105,110,102]) ((strL [32,32,32,32,43,105,110,102]).size - (strL [43,105,110,102]).size:Int) 8 (strL [32,32,32,32,43,105,110,102]).size=true:=by rw [strL_size,strL_size];decide
  rw [e1] at h
  exact h
 have h:=by_oneY w writeIs_8s compileIs_8s (by omega) (by simp) [32,32,32,32,43,105,110,102] [105,110,102] (by decide) (by decide) false .inf trivial rfl hTab hT
 rw [hv] at h
 exact h
theorem nm_12 (w:World) (hTab:TabAt 7 Lib.deBruijn32tab w):Calls Tryz.prog 5 #[.string (strL [123,43,48,56,115,125]),.string (strL [32,32,32,32,32,110,97,110])] w fun x w'=>x=.returned (toldV 9221120237041090560 0 0 0)∧Fr [] w w':=by
 have hv:txtV 11 52 false 0 .nan=(9221120237041090560,0):=by decide +kernel
 have hT:∀ Y:World,Calls Tryz.prog 29 #[planV ⟨#[]⟩ ⟨#[]⟩ 2 5 ⟨#[]⟩ 8 (-1),.string (strL [32,32,32,32,32,110,97,110])] Y fun x w'=>x=.returned (.tuple #[.string (strL [110,97,110]),.bool true])∧Fr [] Y w':=by
  intro Y
  have h:=take_pnan Y ⟨#[]⟩ ⟨#[]⟩ ⟨#[]⟩ 2 (-1) [32,32,32,32,32,110,97,110] (by decide) (by decide)
  have e1:finOk (bodyB 2 (-1) [110,97,110]) ((strL [32,32,32,32,32,110,97,110]).size - (strL [110,97,110]).size:Int) 8 (strL [32,32,32,32,32,110,97,110]).size=true:=by rw [strL_size,strL_size];decide
  rw [e1] at h
  exact h
 have h:=by_oneY w writeIs_8s compileIs_8s (by omega) (by simp) [32,32,32,32,32,110,97,110] [110,97,110] (by decide) (by decide) false .nan trivial rfl hTab hT
 rw [hv] at h
 exact h
theorem nm_13 (w:World) (hg:ErrTy w):Calls Tryz.prog 5 #[.string (strL [123,43,48,56,115,125]),.string (strL [48,48,48,48,48,105,110,102])] w fun x w'=>x=.returned (toldV 0 0 220 0)∧Fr [] w w':=by
 have hT:∀ Y:World,Calls Tryz.prog 29 #[planV ⟨#[]⟩ ⟨#[]⟩ 2 5 ⟨#[]⟩ 8 (-1),.string (strL [48,48,48,48,48,105,110,102])] Y fun x w'=>∃ n:List UInt8,x=.returned (.tuple #[.string (strL n),.bool false])∧Fr [] Y w':=by
  intro Y
  have e0:Lib.trimLeftS [48,48,48,48,48,105,110,102] [32]=[48,48,48,48,48,105,110,102]:=by decide
  have h:=take_pno Y ⟨#[]⟩ ⟨#[]⟩ ⟨#[]⟩ 2 (-1) [48,48,48,48,48,105,110,102] (by decide) (by decide) (by rw [e0,ByteArray.toList_eq,strL_data];decide) (by decide)
  exact h.mono fun x w' ⟨h1,h2⟩=>⟨[],h1,h2⟩
 exact by_oneN w writeIs_8s compileIs_8s (by omega) (by simp) [48,48,48,48,48,105,110,102] (by decide) hg hT
theorem nm_14 (w:World) (hg:ErrTy w):Calls Tryz.prog 5 #[.string (strL [123,43,48,56,115,125]),.string (strL [32,32,32,32,43,49,46,53])] w fun x w'=>x=.returned (toldV 0 0 220 0)∧Fr [] w w':=by
 have hT:∀ Y:World,Calls Tryz.prog 29 #[planV ⟨#[]⟩ ⟨#[]⟩ 2 5 ⟨#[]⟩ 8 (-1),.string (strL [32,32,32,32,43,49,46,53])] Y fun x w'=>∃ n:List UInt8,x=.returned (.tuple #[.string (strL n),.bool false])∧Fr [] Y w':=by
  intro Y
  have h:=take_pput Y ⟨#[]⟩ ⟨#[]⟩ ⟨#[]⟩ 2 (-1) [32,32,32,32,43,49,46,53] [49,46,53] (by decide) (by decide) (by decide) (by decide) (by rw [strL_size,strL_size];decide)
  exact h.mono fun x w' ⟨h1,h2⟩=>⟨[],h1,h2⟩
 exact by_oneN w writeIs_8s compileIs_8s (by omega) (by simp) [32,32,32,32,43,49,46,53] (by decide) hg hT
end Go.Proofs.YtcmndpjemdjalaaGreatDoor
namespace Go.Proofs.YtcmndpjemdjalaaGreatDoor
open Go.RowKit
theorem matchNames_any (w:World) (hg:ErrTy w) (hTab:TabAt 7 Lib.deBruijn32tab w):Calls Tryz.prog 3 #[] w fun x w'=>x=.returned (.bool true)∧Fr [] w w':=by
 have hnm_1:∀ W,Fr [] w W→Calls Tryz.prog 5 #[.string ⟨#[123,115,125]⟩,.string ⟨#[48,49]⟩] W fun x w'=>x=.returned (.agg #[.int .u64 0,.int .u8 0,.int .i64 220,.int .i64 0,.bool true])∧Fr [] W w':=fun W hf=>nm_1 W (hg.fr hf)
 have hnm_2:∀ W,Fr [] w W→Calls Tryz.prog 5 #[.string ⟨#[123,115,125]⟩,.string ⟨#[45,110,97,110]⟩] W fun x w'=>x=.returned (.agg #[.int .u64 0,.int .u8 0,.int .i64 220,.int .i64 0,.bool true])∧Fr [] W w':=fun W hf=>nm_2 W (hg.fr hf)
 have hnm_3:∀ W,Fr [] w W→Calls Tryz.prog 5 #[.string ⟨#[123,115,125]⟩,.string ⟨#[49,46,53,48]⟩] W fun x w'=>x=.returned (.agg #[.int .u64 4609434218613702656,.int .u8 0,.int .i64 0,.int .i64 0,.bool true])∧Fr [] W w':=fun W hf=>nm_3 W (tab_fr hTab hf)
 have hnm_4:∀ W,Fr [] w W→Calls Tryz.prog 5 #[.string ⟨#[123,115,125]⟩,.string ⟨#[45,105,110,102]⟩] W fun x w'=>x=.returned (.agg #[.int .u64 18442240474082181120,.int .u8 0,.int .i64 0,.int .i64 0,.bool true])∧Fr [] W w':=fun W hf=>nm_4 W (tab_fr hTab hf)
 have hnm_5:∀ W,Fr [] w W→Calls Tryz.prog 5 #[.string ⟨#[123,32,53,46,48,102,125]⟩,.string ⟨#[32,32,32,45,55]⟩] W fun x w'=>x=.returned (.agg #[.int .u64 13842939354630062080,.int .u8 0,.int .i64 0,.int .i64 0,.bool true])∧Fr [] W w':=fun W hf=>nm_5 W (tab_fr hTab hf)
 have hnm_6:∀ W,Fr [] w W→Calls Tryz.prog 5 #[.string ⟨#[123,32,53,46,48,102,125]⟩,.string ⟨#[49,50,51,52]⟩] W fun x w'=>x=.returned (.agg #[.int .u64 0,.int .u8 0,.int .i64 220,.int .i64 0,.bool true])∧Fr [] W w':=fun W hf=>nm_6 W (hg.fr hf)
 have hnm_7:∀ W,Fr [] w W→Calls Tryz.prog 5 #[.string ⟨#[123,32,53,46,48,102,125]⟩,.string ⟨#[32,49,50,51,52,53]⟩] W fun x w'=>x=.returned (.agg #[.int .u64 4668012349850910720,.int .u8 0,.int .i64 0,.int .i64 0,.bool true])∧Fr [] W w':=fun W hf=>nm_7 W (tab_fr hTab hf)
 have hnm_8:∀ W,Fr [] w W→Calls Tryz.prog 5 #[.string ⟨#[123,120,125]⟩,.string ⟨#[48,120,50,112,48]⟩] W fun x w'=>x=.returned (.agg #[.int .u64 0,.int .u8 0,.int .i64 220,.int .i64 0,.bool true])∧Fr [] W w':=fun W hf=>nm_8 W (hg.fr hf)
 have hnm_9:∀ W,Fr [] w W→Calls Tryz.prog 5 #[.string ⟨#[123,48,53,120,125]⟩,.string ⟨#[48,120,49,112,48]⟩] W fun x w'=>x=.returned (.agg #[.int .u64 4607182418800017408,.int .u8 0,.int .i64 0,.int .i64 0,.bool true])∧Fr [] W w':=fun W hf=>nm_9 W (tab_fr hTab hf)
 have hnm_10:∀ W,Fr [] w W→Calls Tryz.prog 5 #[.string ⟨#[123,48,53,120,125]⟩,.string ⟨#[48,48,120,49,112,48]⟩] W fun x w'=>x=.returned (.agg #[.int .u64 0,.int .u8 0,.int .i64 220,.int .i64 0,.bool true])∧Fr [] W w':=fun W hf=>nm_10 W (hg.fr hf)
 have hnm_11:∀ W,Fr [] w W→Calls Tryz.prog 5 #[.string ⟨#[123,43,48,56,115,125]⟩,.string ⟨#[32,32,32,32,43,105,110,102]⟩] W fun x w'=>x=.returned (.agg #[.int .u64 9218868437227405312,.int .u8 0,.int .i64 0,.int .i64 0,.bool true])∧Fr [] W w':=fun W hf=>nm_11 W (tab_fr hTab hf)
 have hnm_12:∀ W,Fr [] w W→Calls Tryz.prog 5 #[.string ⟨#[123,43,48,56,115,125]⟩,.string ⟨#[32,32,32,32,32,110,97,110]⟩] W fun x w'=>x=.returned (.agg #[.int .u64 9221120237041090560,.int .u8 0,.int .i64 0,.int .i64 0,.bool true])∧Fr [] W w':=fun W hf=>nm_12 W (tab_fr hTab hf)
 have hnm_13:∀ W,Fr [] w W→Calls Tryz.prog 5 #[.string ⟨#[123,43,48,56,115,125]⟩,.string ⟨#[48,48,48,48,48,105,110,102]⟩] W fun x w'=>x=.returned (.agg #[.int .u64 0,.int .u8 0,.int .i64 220,.int .i64 0,.bool true])∧Fr [] W w':=fun W hf=>nm_13 W (hg.fr hf)
 have hnm_14:∀ W,Fr [] w W→Calls Tryz.prog 5 #[.string ⟨#[123,43,48,56,115,125]⟩,.string ⟨#[32,32,32,32,43,49,46,53]⟩] W fun x w'=>x=.returned (.agg #[.int .u64 0,.int .u8 0,.int .i64 220,.int .i64 0,.bool true])∧Fr [] W w':=fun W hf=>nm_14 W (hg.fr hf)
 have n0:∀ W,Calls Tryz.prog 6 #[.int .i64 0] W fun x w'=>x=.returned (.agg #[.int .u64 0,.int .u8 0,.int .i64 220,.int .i64 0,.bool true])∧Fr [] W w':=fun W=>lawNo W 0
 have hAl:∀ W,Fr [] w W→Calls Tryz.prog 11 #[] W fun x w'=>x=.returned (.bool true)∧Fr [] W w':=fun W hf=>alive_any W (hg.fr hf) (tab_fr hTab hf)
 have hCo:∀ W,Calls Tryz.prog 9 #[.string ⟨#[123,115,125]⟩] W fun x w'=>∃ g cap:Nat,x=.returned (.tuple #[apiPlan (.slice (some ⟨g,0,none⟩) 1 cap) 0 (-1) 0,.nilIface])∧OneC 2 0 g cap w'∧Fr [] W w':=fun W=>compile_oneC compileIs_s W
 have hZ:=fun W=>matchRead_zero W 0 0 (strL zerosN) 9
 have hCk:∀ g cap W,OneC 2 0 g cap W→∀ X,Fr [] W X→Calls Tryz.prog 12 #[apiPlan (.slice (some ⟨g,0,none⟩) 1 cap) 0 (-1) 0] X fun x w'=>x=.returned (.int .i64 0)∧Fr [] X w' :=
  fun g cap W h X hX=>check_look X g cap 2 (-1) (by unfold LookOk;omega) (hX.stay h.1 (by simp)) (hX.stay h.2.1 (by simp)) (hX.stay h.2.2 (by simp))
 have hFo:=fun g cap W (h:OneC 2 0 g cap W)=>matchReadG_form W 0 0 (.slice (some ⟨g,0,none⟩) 1 cap) 0 0 (-1) zerosN 9 (hCk g cap W h) (by unfold FormOk;omega)
 have hLo:=fun g cap W (h:OneC 2 0 g cap W)=>matchReadG_long W 5 10 (.slice (some ⟨g,0,none⟩) 1 cap) 0 0 (-1) zerosN 9 (hCk g cap W h) (by unfold FormOk;omega) (by rw [zerosN_length];omega)
 have hMo:∀ g cap W,OneC 2 0 g cap W→Calls Tryz.prog 8 #[apiPlan (.slice (some ⟨g,0,none⟩) 1 cap) 0 (-1) 0,formV 5 10,.string ⟨#[]⟩,.int .u8 9] W fun x w'=>∃ v,x=.returned (.tuple #[.int .u64 0,.int .u8 0,v])∧ErrAt w' 88 v 7 0∧Fr [] W w' :=
  fun g cap W (h:OneC 2 0 g cap W)=>matchReadG_mode W 5 10 (.slice (some ⟨g,0,none⟩) 1 cap) 0 0 (-1) [] 9 (hCk g cap W h) (by unfold FormOk;omega) (by decide) (by decide)
 have hH:=formsHalf_any
 unfold apiPlan formV at *
 have hf0:∀ (b:Int) W,(Instr.field 27 (.agg #[.int .u64 b,.int .u8 0,.int .i64 0,.int .i64 0,.bool true]) 0).run Tryz.prog W=.ok (.int .u64 b) W:=fun _ _=>by kernel_rfl
 have hf3:∀ (b:Int) W,(Instr.field 27 (.agg #[.int .u64 b,.int .u8 0,.int .i64 0,.int .i64 0,.bool true]) 3).run Tryz.prog W=.ok (.bool true) W:=fun _ _=>by kernel_rfl
 have hmk:=run_zeros
 have hcv:∀ W:World,(convert 40 9 (.slice (some ⟨W.heap.size,0,none⟩) 65537 65537)).run Tryz.prog (W.alloc (.cells zerosC 5))=.ok (.string (strL zerosN)) (W.alloc (.cells zerosC 5)):=fun W=>convert_zeros _ _ (fun j hj=>cell_new W zerosC 5 (0,0) j _ (zerosC_at j hj))
 have F:=Fr.refl [] w
 go_enter Tryz.func3,Tryz.ntmps3
 go_wp2_with (first
  | (go_at_call 5;(with_reducible show Calls _ _ #[.string ⟨#[123,115,125]⟩,.string ⟨#[48,49]⟩] _ _);go_loud (refine (hnm_1 _ F).mono ?_;rintro x w1 ⟨rfl,f⟩;replace F:=F.then f;clear f))
  | (go_at_call 5;(with_reducible show Calls _ _ #[.string ⟨#[123,115,125]⟩,.string ⟨#[45,110,97,110]⟩] _ _);go_loud (refine (hnm_2 _ F).mono ?_;rintro x w1 ⟨rfl,f⟩;replace F:=F.then f;clear f))
  | (go_at_call 5;(with_reducible show Calls _ _ #[.string ⟨#[123,115,125]⟩,.string ⟨#[49,46,53,48]⟩] _ _);go_loud (refine (hnm_3 _ F).mono ?_;rintro x w1 ⟨rfl,f⟩;replace F:=F.then f;clear f))
  | (go_at_call 5;(with_reducible show Calls _ _ #[.string ⟨#[123,115,125]⟩,.string ⟨#[45,105,110,102]⟩] _ _);go_loud (refine (hnm_4 _ F).mono ?_;rintro x w1 ⟨rfl,f⟩;replace F:=F.then f;clear f))
  | (go_at_call 5;(with_reducible show Calls _ _ #[.string ⟨#[123,32,53,46,48,102,125]⟩,.string ⟨#[32,32,32,45,55]⟩] _ _);go_loud (refine (hnm_5 _ F).mono ?_;rintro x w1 ⟨rfl,f⟩;replace F:=F.then f;clear f))
  | (go_at_call 5;(with_reducible show Calls _ _ #[.string ⟨#[123,32,53,46,48,102,125]⟩,.string ⟨#[49,50,51,52]⟩] _ _);go_loud (refine (hnm_6 _ F).mono ?_;rintro x w1 ⟨rfl,f⟩;replace F:=F.then f;clear f))
  | (go_at_call 5;(with_reducible show Calls _ _ #[.string ⟨#[123,32,53,46,48,102,125]⟩,.string ⟨#[32,49,50,51,52,53]⟩] _ _);go_loud (refine (hnm_7 _ F).mono ?_;rintro x w1 ⟨rfl,f⟩;replace F:=F.then f;clear f))
  | (go_at_call 5;(with_reducible show Calls _ _ #[.string ⟨#[123,120,125]⟩,.string ⟨#[48,120,50,112,48]⟩] _ _);go_loud (refine (hnm_8 _ F).mono ?_;rintro x w1 ⟨rfl,f⟩;replace F:=F.then f;clear f))
  | (go_at_call 5;(with_reducible show Calls _ _ #[.string ⟨#[123,48,53,120,125]⟩,.string ⟨#[48,120,49,112,48]⟩] _ _);go_loud (refine (hnm_9 _ F).mono ?_;rintro x w1 ⟨rfl,f⟩;replace F:=F.then f;clear f))
  | (go_at_call 5;(with_reducible show Calls _ _ #[.string ⟨#[123,48,53,120,125]⟩,.string ⟨#[48,48,120,49,112,48]⟩] _ _);go_loud (refine (hnm_10 _ F).mono ?_;rintro x w1 ⟨rfl,f⟩;replace F:=F.then f;clear f))
  | (go_at_call 5;(with_reducible show Calls _ _ #[.string ⟨#[123,43,48,56,115,125]⟩,.string ⟨#[32,32,32,32,43,105,110,102]⟩] _ _);go_loud (refine (hnm_11 _ F).mono ?_;rintro x w1 ⟨rfl,f⟩;replace F:=F.then f;clear f))
  | (go_at_call 5;(with_reducible show Calls _ _ #[.string ⟨#[123,43,48,56,115,125]⟩,.string ⟨#[32,32,32,32,32,110,97,110]⟩] _ _);go_loud (refine (hnm_12 _ F).mono ?_;rintro x w1 ⟨rfl,f⟩;replace F:=F.then f;clear f))
  | (go_at_call 5;(with_reducible show Calls _ _ #[.string ⟨#[123,43,48,56,115,125]⟩,.string ⟨#[48,48,48,48,48,105,110,102]⟩] _ _);go_loud (refine (hnm_13 _ F).mono ?_;rintro x w1 ⟨rfl,f⟩;replace F:=F.then f;clear f))
  | (go_at_call 5;(with_reducible show Calls _ _ #[.string ⟨#[123,43,48,56,115,125]⟩,.string ⟨#[32,32,32,32,43,49,46,53]⟩] _ _);go_loud (refine (hnm_14 _ F).mono ?_;rintro x w1 ⟨rfl,f⟩;replace F:=F.then f;clear f))
  | (go_at_call 6;go_loud (refine (n0 _).mono ?_;rintro x w1 ⟨rfl,f⟩;replace F:=F.then f;clear f))
  | (go_at_call 8;go_loud (refine (hZ _).mono ?_;rintro x w1 ⟨v,rfl,he,f⟩;replace F:=(F.then ((Fr.refl [] _).alloc _)).then f;clear f))
  | (go_at_call 7;go_loud (refine (of_M _ 0 0 v 211 0 (hg.fr F) he (by decide)).mono ?_;rintro x w2 ⟨rfl,f⟩;replace F:=F.then f;clear f))
  | (go_at_call 9;go_loud (refine (hCo _).mono ?_;rintro x w3 ⟨g,cap,rfl,hc,f⟩;replace F:=F.then f;clear f)))
 clear hnm_1 hnm_2 hnm_3 hnm_4 hnm_5 hnm_6 hnm_7 hnm_8 hnm_9 hnm_10 hnm_11 hnm_12 hnm_13 hnm_14 n0 hZ hCo hf0 hf3 hmk hcv
 have fP:=(Fr.refl [] w3).alloc (.cells #[.slice (some ⟨g,0,none⟩) 1 cap,.int .i64 0,.int .i64 (-1),.int .u8 0] 37)
 have rP:=row_new w3 (.cells #[.slice (some ⟨g,0,none⟩) 1 cap,.int .i64 0,.int .i64 (-1),.int .u8 0] 37)
 have hc:=OneC.lasts _ _ _ _ _ _ hc fP
 replace F:=F.then fP
 clear fP
 generalize w3.alloc (.cells #[.slice (some ⟨g,0,none⟩) 1 cap,.int .i64 0,.int .i64 (-1),.int .u8 0] 37)=X at *
 have c0:X.cell? ⟨w3.heap.size,0,none⟩=some (.slice (some ⟨g,0,none⟩) 1 cap):=by rw [cell_of_row _ _ 0 _ _ _ rP];rfl
 have c1:X.cell? ⟨w3.heap.size,1,none⟩=some (.int .i64 0):=by rw [cell_of_row _ _ 1 _ _ _ rP];rfl
 have c2:X.cell? ⟨w3.heap.size,2,none⟩=some (.int .i64 (-1)):=by rw [cell_of_row _ _ 2 _ _ _ rP];rfl
 have c3:X.cell? ⟨w3.heap.size,3,none⟩=some (.int .u8 0):=by rw [cell_of_row _ _ 3 _ _ _ rP];rfl
 clear rP
 generalize w3.heap.size=bp at *
 refine region_mono [] 12 [[],[],[],[2],[0,1,3],[4],[4],[4],[5,6,7],[],[9],[8,10]] [none,none,some (ZerosS),none,some (TupErr 5 0),none,none,some (IsErr 5 0),none,none,none,none] (by kernel_rfl) (by kernel_rfl) ?_
 simp only [Chain,fill,Act.put,List.nil_append,List.cons_append,List.take_succ_cons,List.take_zero,List.drop_succ_cons,List.drop_zero,List.setIfInBounds_toArray,List.set_cons_zero,List.set_cons_succ,Nat.reduceAdd]
 iterate 2 (apply Exists.intro;apply And.intro;·intro vs w2 hf hh K hK;have c0:=hf.stayd c0;have c1:=hf.stayd c1;have c2:=hf.stayd c2;have c3:=hf.stayd c3;simp only [Held] at hh;(try simp only [] at hK ⊢);go_simp;exact hK _ _ ⟨rfl,Fr.refl _ _⟩)
 refine⟨ZerosS.lasts,?_,?_⟩
 ·intro vs w2 hf hh K hK;have c0:=hf.stayd c0;have c1:=hf.stayd c1;have c2:=hf.stayd c2;have c3:=hf.stayd c3;simp only [Held] at hh;(try simp only [] at hK ⊢);have hmk:=run_zeros w2;go_simp;exact hK _ _ ⟨zerosS_made w2,(Fr.refl [] w2).alloc _⟩
 apply Exists.intro;apply And.intro
 ·intro vs w2 hf hh K hK;have c0:=hf.stayd c0;have c1:=hf.stayd c1;have c2:=hf.stayd c2;have c3:=hf.stayd c3;simp only [Held,List.getD_cons_zero,List.getD_cons_succ,and_true] at hh;(try simp only [] at hK ⊢);obtain⟨gz,hv,hz⟩:=hh;have hcv:=convert_zeros w2 gz hz;simp only [hv] at hK ⊢;go_simp;exact hK _ _ ⟨rfl,Fr.refl _ _⟩
 refine⟨TupErr.lasts _ _,?_,?_⟩
 ·intro vs w2 hf hh K hK;have c0:=hf.stayd c0;have c1:=hf.stayd c1;have c2:=hf.stayd c2;have c3:=hf.stayd c3;simp only [Held,List.getD_cons_zero,List.getD_cons_succ,Just,and_true] at hh;(try simp only [hh] at hK ⊢);go_simp;refine (hFo _ _ _ (OneC.lasts _ _ _ _ _ _ hc (((Fr.refl [] X).drew).then hf))).mono ?_;rintro x w4 ⟨e,rfl,he,f4⟩;exact hK _ _ ⟨⟨e,rfl,he⟩,f4⟩
 apply Exists.intro;apply And.intro
 ·intro vs w2 hf hh K hK;have c0:=hf.stayd c0;have c1:=hf.stayd c1;have c2:=hf.stayd c2;have c3:=hf.stayd c3;simp only [Held,List.getD_cons_zero,List.getD_cons_succ,and_true] at hh;(try simp only [] at hK ⊢);obtain⟨e,hv,he⟩:=hh;simp only [hv] at hK ⊢;go_simp;exact hK _ _ ⟨rfl,Fr.refl _ _⟩
 apply Exists.intro;apply And.intro
 ·intro vs w2 hf hh K hK;have c0:=hf.stayd c0;have c1:=hf.stayd c1;have c2:=hf.stayd c2;have c3:=hf.stayd c3;simp only [Held,List.getD_cons_zero,List.getD_cons_succ,and_true] at hh;(try simp only [] at hK ⊢);obtain⟨e,hv,he⟩:=hh;simp only [hv] at hK ⊢;go_simp;exact hK _ _ ⟨rfl,Fr.refl _ _⟩
 refine⟨IsErr.lasts _ _,?_,?_⟩
 ·intro vs w2 hf hh K hK;have c0:=hf.stayd c0;have c1:=hf.stayd c1;have c2:=hf.stayd c2;have c3:=hf.stayd c3;simp only [Held,List.getD_cons_zero,List.getD_cons_succ,and_true] at hh;(try simp only [] at hK ⊢);obtain⟨e,hv,he⟩:=hh;simp only [hv] at hK ⊢;go_simp;exact hK _ _ ⟨he,Fr.refl _ _⟩
 apply Exists.intro;apply And.intro
 ·intro vs w2 hf hh K hK;have c0:=hf.stayd c0;have c1:=hf.stayd c1;have c2:=hf.stayd c2;have c3:=hf.stayd c3;simp only [Held,List.getD_cons_zero,List.getD_cons_succ,Just,and_true] at hh;(try simp only [hh] at hK ⊢);obtain⟨h1,h2,h3⟩:=hh;(try simp only [h1,h2] at hK ⊢);go_simp;refine (of_M _ _ _ _ 5 0 (hg.fr (F.drew.then hf)) h3 (by decide)).mono ?_;rintro x w4 ⟨rfl,f4⟩;exact hK _ _ ⟨rfl,f4⟩
 iterate 3 (apply Exists.intro;apply And.intro;·intro vs w2 hf hh K hK;simp only [Held,List.getD_cons_zero,List.getD_cons_succ,Just,and_true] at hh;(try simp only [hh] at hK ⊢);go_simp;exact hK _ _ ⟨rfl,Fr.refl _ _⟩)
 intro vs w2 hf hh
 simp only [HeldAll,Just,and_true,Nat.reduceAdd] at hh
 obtain⟨e0,e1,e2,e3,e4,e5,e6,e7,e8,e9,e10,e11⟩:=hh
 simp only [e0,e1,e3,e5,e6,e8,e9,e10,e11]
 clear e0 e1 e3 e5 e6 e8 e9 e10 e11
 generalize vs 2=v2 at e2 ⊢
 generalize vs 4=v4 at e4 ⊢
 generalize vs 7=v7 at e7 ⊢
 clear vs
 have c0:=hf.stayd c0
 have c1:=hf.stayd c1
 have c2:=hf.stayd c2
 have c3:=hf.stayd c3
 replace F:=F.drew.then hf
 replace hc:=OneC.lasts _ _ _ _ _ _ hc (((Fr.refl [] X).drew).then hf)
 clear hf
 generalize w2=X at *
 go_wp2_with fail
 refine region_mono [] 12 [[],[],[],[2],[0,1,3],[4],[4],[4],[5,6,7],[],[9],[8,10]] [none,none,some (ZerosS),none,some (TupErr 3 0),none,none,some (IsErr 3 0),none,none,none,none] (by kernel_rfl) (by kernel_rfl) ?_
 simp only [Chain,fill,Act.put,List.nil_append,List.cons_append,List.take_succ_cons,List.take_zero,List.drop_succ_cons,List.drop_zero,List.setIfInBounds_toArray,List.set_cons_zero,List.set_cons_succ,Nat.reduceAdd]
 apply Exists.intro;apply And.intro
 ·intro vs w2 hf hh K hK;have c0:=hf.stayd c0;have c1:=hf.stayd c1;have c2:=hf.stayd c2;have c3:=hf.stayd c3;simp only [Held] at hh;(try simp only [] at hK ⊢);go_simp;exact hK _ _ ⟨rfl,Fr.refl _ _⟩
 apply Exists.intro;apply And.intro
 ·intro vs w2 hf hh K hK;have c0:=hf.stayd c0;have c1:=hf.stayd c1;have c2:=hf.stayd c2;have c3:=hf.stayd c3;simp only [Held] at hh;(try simp only [] at hK ⊢);go_simp;refine (hH _).mono ?_;rintro x w4 ⟨rfl,f4⟩;exact hK _ _ ⟨rfl,f4⟩
 refine⟨ZerosS.lasts,?_,?_⟩
 ·intro vs w2 hf hh K hK;have c0:=hf.stayd c0;have c1:=hf.stayd c1;have c2:=hf.stayd c2;have c3:=hf.stayd c3;simp only [Held] at hh;(try simp only [] at hK ⊢);have hmk:=run_zeros w2;go_simp;exact hK _ _ ⟨zerosS_made w2,(Fr.refl [] w2).alloc _⟩
 apply Exists.intro;apply And.intro
 ·intro vs w2 hf hh K hK;have c0:=hf.stayd c0;have c1:=hf.stayd c1;have c2:=hf.stayd c2;have c3:=hf.stayd c3;simp only [Held,List.getD_cons_zero,List.getD_cons_succ,and_true] at hh;(try simp only [] at hK ⊢);obtain⟨gz,hv,hz⟩:=hh;have hcv:=convert_zeros w2 gz hz;simp only [hv] at hK ⊢;go_simp;exact hK _ _ ⟨rfl,Fr.refl _ _⟩
 refine⟨TupErr.lasts _ _,?_,?_⟩
 ·intro vs w2 hf hh K hK;have c0:=hf.stayd c0;have c1:=hf.stayd c1;have c2:=hf.stayd c2;have c3:=hf.stayd c3;simp only [Held,List.getD_cons_zero,List.getD_cons_succ,Just,and_true] at hh;(try simp only [hh] at hK ⊢);go_simp;refine (hLo _ _ _ (OneC.lasts _ _ _ _ _ _ hc (((Fr.refl [] X).drew).then hf))).mono ?_;rintro x w4 ⟨e,rfl,he,f4⟩;exact hK _ _ ⟨⟨e,rfl,he⟩,f4⟩
 apply Exists.intro;apply And.intro
 ·intro vs w2 hf hh K hK;have c0:=hf.stayd c0;have c1:=hf.stayd c1;have c2:=hf.stayd c2;have c3:=hf.stayd c3;simp only [Held,List.getD_cons_zero,List.getD_cons_succ,and_true] at hh;(try simp only [] at hK ⊢);obtain⟨e,hv,he⟩:=hh;simp only [hv] at hK ⊢;go_simp;exact hK _ _ ⟨rfl,Fr.refl _ _⟩
 apply Exists.intro;apply And.intro
 ·intro vs w2 hf hh K hK;have c0:=hf.stayd c0;have c1:=hf.stayd c1;have c2:=hf.stayd c2;have c3:=hf.stayd c3;simp only [Held,List.getD_cons_zero,List.getD_cons_succ,and_true] at hh;(try simp only [] at hK ⊢);obtain⟨e,hv,he⟩:=hh;simp only [hv] at hK ⊢;go_simp;exact hK _ _ ⟨rfl,Fr.refl _ _⟩
 refine⟨IsErr.lasts _ _,?_,?_⟩
 ·intro vs w2 hf hh K hK;have c0:=hf.stayd c0;have c1:=hf.stayd c1;have c2:=hf.stayd c2;have c3:=hf.stayd c3;simp only [Held,List.getD_cons_zero,List.getD_cons_succ,and_true] at hh;(try simp only [] at hK ⊢);obtain⟨e,hv,he⟩:=hh;simp only [hv] at hK ⊢;go_simp;exact hK _ _ ⟨he,Fr.refl _ _⟩
 apply Exists.intro;apply And.intro
 ·intro vs w2 hf hh K hK;have c0:=hf.stayd c0;have c1:=hf.stayd c1;have c2:=hf.stayd c2;have c3:=hf.stayd c3;simp only [Held,List.getD_cons_zero,List.getD_cons_succ,Just,and_true] at hh;(try simp only [hh] at hK ⊢);obtain⟨h1,h2,h3⟩:=hh;(try simp only [h1,h2] at hK ⊢);go_simp;refine (of_M _ _ _ _ 3 0 (hg.fr (F.drew.then hf)) h3 (by decide)).mono ?_;rintro x w4 ⟨rfl,f4⟩;exact hK _ _ ⟨rfl,f4⟩
 iterate 3 (apply Exists.intro;apply And.intro;·intro vs w2 hf hh K hK;simp only [Held,List.getD_cons_zero,List.getD_cons_succ,Just,and_true] at hh;(try simp only [hh] at hK ⊢);go_simp;exact hK _ _ ⟨rfl,Fr.refl _ _⟩)
 intro vs w2 hf hh
 simp only [HeldAll,Just,and_true,Nat.reduceAdd] at hh
 obtain⟨e0,e1,e2,e3,e4,e5,e6,e7,e8,e9,e10,e11⟩:=hh
 simp only [e0,e1,e3,e5,e6,e8,e9,e10,e11]
 clear e0 e1 e3 e5 e6 e8 e9 e10 e11
 generalize vs 2=v2 at e2 ⊢
 generalize vs 4=v4 at e4 ⊢
 generalize vs 7=v7 at e7 ⊢
 clear vs
 have c0:=hf.stayd c0
 have c1:=hf.stayd c1
 have c2:=hf.stayd c2
 have c3:=hf.stayd c3
 replace F:=F.drew.then hf
 replace hc:=OneC.lasts _ _ _ _ _ _ hc (((Fr.refl [] X).drew).then hf)
 clear hf
 generalize w2=X at *
 go_wp2_with fail
 refine region_mono [] 10 [[],[],[0,1],[2],[2],[2],[3,4,5],[],[7],[6,8]] [none,none,some (TupErr 7 0),none,none,some (IsErr 7 0),none,none,none,none] (by kernel_rfl) (by kernel_rfl) ?_
 simp only [Chain,fill,Act.put,List.nil_append,List.cons_append,List.take_succ_cons,List.take_zero,List.drop_succ_cons,List.drop_zero,List.setIfInBounds_toArray,List.set_cons_zero,List.set_cons_succ,Nat.reduceAdd]
 apply Exists.intro;apply And.intro
 ·intro vs w2 hf hh K hK;have c0:=hf.stayd c0;have c1:=hf.stayd c1;have c2:=hf.stayd c2;have c3:=hf.stayd c3;simp only [Held] at hh;(try simp only [] at hK ⊢);go_simp;exact hK _ _ ⟨rfl,Fr.refl _ _⟩
 apply Exists.intro;apply And.intro
 ·intro vs w2 hf hh K hK;have c0:=hf.stayd c0;have c1:=hf.stayd c1;have c2:=hf.stayd c2;have c3:=hf.stayd c3;simp only [Held] at hh;(try simp only [] at hK ⊢);go_simp;refine (hH _).mono ?_;rintro x w4 ⟨rfl,f4⟩;exact hK _ _ ⟨rfl,f4⟩
 refine⟨TupErr.lasts _ _,?_,?_⟩
 ·intro vs w2 hf hh K hK;have c0:=hf.stayd c0;have c1:=hf.stayd c1;have c2:=hf.stayd c2;have c3:=hf.stayd c3;simp only [Held,List.getD_cons_zero,List.getD_cons_succ,Just,and_true] at hh;(try simp only [hh] at hK ⊢);go_simp;refine (hMo _ _ _ (OneC.lasts _ _ _ _ _ _ hc (((Fr.refl [] X).drew).then hf))).mono ?_;rintro x w4 ⟨e,rfl,he,f4⟩;exact hK _ _ ⟨⟨e,rfl,he⟩,f4⟩
 apply Exists.intro;apply And.intro
 ·intro vs w2 hf hh K hK;have c0:=hf.stayd c0;have c1:=hf.stayd c1;have c2:=hf.stayd c2;have c3:=hf.stayd c3;simp only [Held,List.getD_cons_zero,List.getD_cons_succ,and_true] at hh;(try simp only [] at hK ⊢);obtain⟨e,hv,he⟩:=hh;simp only [hv] at hK ⊢;go_simp;exact hK _ _ ⟨rfl,Fr.refl _ _⟩
 apply Exists.intro;apply And.intro
 ·intro vs w2 hf hh K hK;have c0:=hf.stayd c0;have c1:=hf.stayd c1;have c2:=hf.stayd c2;have c3:=hf.stayd c3;simp only [Held,List.getD_cons_zero,List.getD_cons_succ,and_true] at hh;(try simp only [] at hK ⊢);obtain⟨e,hv,he⟩:=hh;simp only [hv] at hK ⊢;go_simp;exact hK _ _ ⟨rfl,Fr.refl _ _⟩
 refine⟨IsErr.lasts _ _,?_,?_⟩
 ·intro vs w2 hf hh K hK;have c0:=hf.stayd c0;have c1:=hf.stayd c1;have c2:=hf.stayd c2;have c3:=hf.stayd c3;simp only [Held,List.getD_cons_zero,List.getD_cons_succ,and_true] at hh;(try simp only [] at hK ⊢);obtain⟨e,hv,he⟩:=hh;simp only [hv] at hK ⊢;go_simp;exact hK _ _ ⟨he,Fr.refl _ _⟩
 apply Exists.intro;apply And.intro
 ·intro vs w2 hf hh K hK;have c0:=hf.stayd c0;have c1:=hf.stayd c1;have c2:=hf.stayd c2;have c3:=hf.stayd c3;simp only [Held,List.getD_cons_zero,List.getD_cons_succ,Just,and_true] at hh;(try simp only [hh] at hK ⊢);obtain⟨h1,h2,h3⟩:=hh;(try simp only [h1,h2] at hK ⊢);go_simp;refine (of_M _ _ _ _ 7 0 (hg.fr (F.drew.then hf)) h3 (by decide)).mono ?_;rintro x w4 ⟨rfl,f4⟩;exact hK _ _ ⟨rfl,f4⟩
 iterate 3 (apply Exists.intro;apply And.intro;·intro vs w2 hf hh K hK;simp only [Held,List.getD_cons_zero,List.getD_cons_succ,Just,and_true] at hh;(try simp only [hh] at hK ⊢);go_simp;exact hK _ _ ⟨rfl,Fr.refl _ _⟩)
 intro vs w2 hf hh
 simp only [HeldAll,Just,and_true,Nat.reduceAdd] at hh
 obtain⟨e0,e1,e2,e3,e4,e5,e6,e7,e8,e9⟩:=hh
 simp only [e0,e1,e3,e4,e6,e7,e8,e9]
 clear e0 e1 e3 e4 e6 e7 e8 e9
 generalize vs 2=v2 at e2 ⊢
 generalize vs 5=v5 at e5 ⊢
 clear vs
 have c0:=hf.stayd c0
 have c1:=hf.stayd c1
 have c2:=hf.stayd c2
 have c3:=hf.stayd c3
 replace F:=F.drew.then hf
 replace hc:=OneC.lasts _ _ _ _ _ _ hc (((Fr.refl [] X).drew).then hf)
 clear hf
 generalize w2=X at *
 go_wp2_with (go_at_call 11;go_loud (refine (hAl _ F).mono ?_;rintro x w5 ⟨rfl,f⟩;replace F:=F.then f;clear f))
 go_ret
 exact⟨rfl,F⟩
end Go.Proofs.YtcmndpjemdjalaaGreatDoor
namespace Go.Proofs.YtcmndpjemdjalaaGreatDoor
open Go.ChangeShapes Go.WideShapes Go.ChangeAt Go.RowKit Go.Joins
theorem matchNames_lifted (os:Os) (started:os.Started) (H:Type) (enc:TypeId × Value→H) :
  ReturnsInHanded {} Tryz.checked os 3 .any (fun w args=>(Rows.matchNamesSpec.pre enc Tryz.prog Tryz.f3 [] false w args∧laidMetH Tryz.prog laidL w)∧sizedMet enc Tryz.prog Tryz.f3 (OpenSpec.ofChange Rows.matchNamesSpec) false w args)
   (Rows.matchNamesSpec.post enc Tryz.prog Tryz.f3 false true false false):=by
 refine returnsInHanded_of_change_and (C:=Tryz.checked) (X:=fun w _=>laidMetH Tryz.prog laidL w) (fun _ _ _ hh h=>h.of_heap hh) own started (by kernel_rfl) Tryz.func3
  (ChangeSpec.witness_shaped (enc:=enc) (C:=Tryz.checked) (os:=os) (X:=fun w _=>laidMetH Tryz.prog laidL w) false (wit os) #[] 8 (wit_os os) (World.shaped_of_ZipB (by kernel_rfl) (by kernel_rfl)) (by kernel_rfl) (by kernel_rfl) (by kernel_rfl) (wit_met os _)) ?_
 intro W base args ds gs before hval0 hW _ _ hL _
 have hW':=hW
 obtain⟨p,q,hA0,hV,rfl,hfz,hnd⟩:=hW
 have hA:DataW.TrodAll enc Tryz.prog W 0 (fun _=>true) true Tryz.f3.params.toList args.toList ds p:=hA0
 rw [Tryz.params3] at hA
 obtain⟨rfl,rfl,rfl⟩:=trodAll_none hA
 obtain⟨rfl,rfl⟩:=trodVars_none hV
 refine (matchNames_any W (errTy_of_laid hL) (tabAt_of_laid hL)).mono fun e W' ⟨he,hf⟩=>?_
 subst he
 refine⟨_,rfl,_,_,_,[],[],[],hW',?_,?_,?_,Below.frame hf.below _,fun h=>by cases h⟩
 ·exact trodAll_mk1 (shut_bool Tryz.underlying4 true)
 ·exact trodAll_mk0
 ·rfl
theorem matchNames_holds:Rows.MatchNamesSaid :=
 OpenClaim.holds_of_wide 3 Tryz.f3 rfl rfl rfl rfl rfl rfl rfl ⟨rfl,rfl,rfl,rfl,rfl⟩ rfl rfl rfl rfl rfl (by kernel_rfl) Tryz.func3 matchNames_closed
  (of_decide_eq_true (by kernel_rfl)) (by unfold Func.isWrapper;rw [if_neg (of_decide_eq_false (by kernel_rfl))];exact⟨rfl,rfl⟩)
  (fun os started H enc _=>matchNames_lifted os started H enc)
theorem matchNamesCard_holds:Rows.MatchNamesCardSaid :=
 Claim7.holds_tied_plain_at .later [] [.data,.data,.data,.data,.handle,.sentinel,.sentinel,.pinned] true (true,"815aa2457ab39d002a4ad3d335f65e58f9fef9fc05b1b11f6e3d08f682a1be46") true
  matchNames_holds (fun _ h=>by cases h) (by kernel_rfl) (fun _ h=>by cases h) matchNames_row_tie rfl ⟨rfl,rfl⟩ (by kernel_rfl) rfl
  (fun f fn hf hfn=>by
   obtain rfl:f=3:=Option.some.inj ((show Tryz.prog.funcNamed "numeral/numerallaw22.MatchNames"=some 3 by kernel_rfl).symm.trans hf) |>.symm
   obtain rfl:fn=Tryz.f3:=(Option.some.inj (Tryz.func3.symm.trans hfn)).symm
   exact⟨by kernel_rfl,fun j t ht=>by
    rw [Tryz.params3] at ht
    simp at ht⟩)
  (by kernel_rfl)
#print axioms matchNamesCard_holds
end Go.Proofs.YtcmndpjemdjalaaGreatDoor
