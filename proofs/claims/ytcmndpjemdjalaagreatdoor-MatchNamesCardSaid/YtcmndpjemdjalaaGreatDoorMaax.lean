/- Laws that the claimed theorem leans on: no condition of their own beyond their hypotheses. -/
import Derived.Test.YtcmndpjemdjalaaGreatDoorMaaw
set_option maxRecDepth 100000
set_option maxHeartbeats 16000000
namespace Go.Proofs.YtcmndpjemdjalaaGreatDoor
open Go.RowKit
def Pcs (lo:Nat) (xs:List Value) (v:Value) (w:World):Prop:=w.ownsRow lo 71 1 v xs.length xs
theorem Pcs.nil (lo:Nat) (w:World):Pcs lo [] (.slice none 0 0) w:=World.ownsRow_nil _ _ _ _
theorem Pcs.fr {lo:Nat} {xs:List Value} {v:Value} {w w':World} {S:List Nat} (h:Pcs lo xs v w) (hf:Fr S w w') (hS:∀ b∈S,b<lo):Pcs lo xs v w':=by
 obtain⟨hl,h⟩:=h
 refine⟨hl,?_⟩
 rcases h with h | ⟨g,cap,cur,rfl,hb,hh,h2⟩
 ·exact .inl h
 ·refine .inr ⟨g,cap,cur,rfl,hb,?_,h2⟩
  rw [hf.block g (Array.getElem?_eq_some_iff.1 hh).1 (fun hg=>by have:=hS g hg;omega)];exact hh
theorem Pcs.others {lo b:Nat} {xs:List Value} {v:Value} {w w':World} (h:Pcs lo xs v w) (hk:Lib.OthersKept 5 (some b) w w') (hb:b<lo):Pcs lo xs v w':=by
 obtain⟨hl,h⟩:=h
 refine⟨hl,?_⟩
 rcases h with h | ⟨g,cap,cur,rfl,hb2,hh,h2⟩
 ·exact .inl h
 ·exact .inr ⟨g,cap,cur,rfl,hb2,row_kept hk hh (by decide) (by omega),h2⟩
theorem Pcs.own {lo:Nat} {xs:List Value} {v:Value} {w:World} (h:Pcs lo xs v w):∀ g,v.ownBlock=some g→lo≤g∧g<w.heap.size:=World.ownsRow.lt h
theorem wp_append_pc (w:World) {o:Oper} {a:Act} {K:Act→World→Prop} {Q:Exit→Act→World→Prop} (s t:Operand)
  (ho:o.op=.call { callee:=.builtin .append,args:=#[s,t],argTypes:=#[68,68] }) (lo:Nat) (v:Value) (xs:List Value) (hs:a.eval s=v) (hp:Pcs lo xs v w) (hn:xs.length≤100) (hlo:lo≤w.heap.size)
  (ad:Addr) (c:Nat) (ht:a.eval t=.slice (some ad) 1 c) (x:Value) (h1:x.oneCell'=true) (hc:w.cell? ad=some x)
  (h:∀ (g:Nat) (cap:Nat) w',Pcs lo (xs++[x]) (.slice (some ⟨g,0,none⟩) (xs.length+1) cap) w'→w.grownBy w' v.ownBlock→K (a.put o.dst (.slice (some ⟨g,0,none⟩) (xs.length+1) cap)) w'):o.wp Tryz.prog a w K Q:=by
 have hib:(Tryz.prog.info? 71).map (fun i=>(i.zero,i.size,i.bytes))=some (some .nilIface,1,16):=by kernel_rfl
 obtain⟨i0,hi,hz0,hz1,hz2⟩:=info_parts hib
 refine wp_append_own w s t 68 ho lo 71 i0 .nilIface 1 16 Tryz.underlying68 hi hz0 hz1 hz2 rfl (by decide) v xs.length xs hs hp ad 1 c [x] ht rfl
  (by
    intro j u hj
    match j,hj with
    | 0,hj=>simp at hj;subst hj;simpa [Addr.add] using hc)
  (by intro u hu;simp at hu;subst hu;exact h1) (by unfold maxLen;omega) (by omega) hlo ?_
 intro v' w' hown hg _
 rcases hown.2 with ⟨-,h0⟩ | ⟨g,cap,cur,rfl,hge,hr,h3⟩
 ·omega
 ·exact h g cap w' (by unfold Pcs;simpa using hown) hg
theorem wpList_append_pc (w:World) {ops:Array Oper} {rest:List Oper} {o:Oper} {a:Act} {Q:Exit→Act→World→Prop} (hgd:o.guard=none) (s t:Operand)
  (ho:o.op=.call { callee:=.builtin .append,args:=#[s,t],argTypes:=#[68,68] }) (lo:Nat) (v:Value) (xs:List Value) (hs:a.eval s=v) (hp:Pcs lo xs v w) (hn:xs.length≤100) (hlo:lo≤w.heap.size)
  (ad:Addr) (c:Nat) (ht:a.eval t=.slice (some ad) 1 c) (x:Value) (h1:x.oneCell'=true) (hc:w.cell? ad=some x)
  (h:∀ (g:Nat) (cap:Nat) w',Pcs lo (xs++[x]) (.slice (some ⟨g,0,none⟩) (xs.length+1) cap) w'→w.grownBy w' v.ownBlock→wpList Tryz.prog ops Q rest (a.put o.dst (.slice (some ⟨g,0,none⟩) (xs.length+1) cap)) w'):wpList Tryz.prog ops Q (o :: rest) a w:=by
 have hib:(Tryz.prog.info? 71).map (fun i=>(i.zero,i.size,i.bytes))=some (some .nilIface,1,16):=by kernel_rfl
 obtain⟨i0,hi,hz0,hz1,hz2⟩:=info_parts hib
 refine wpList_append_own w hgd s t 68 ho lo 71 i0 .nilIface 1 16 Tryz.underlying68 hi hz0 hz1 hz2 rfl (by decide) v xs.length xs hs hp ad 1 c [x] ht rfl
  (by
    intro j u hj
    match j,hj with
    | 0,hj=>simp at hj;subst hj;simpa [Addr.add] using hc)
  (by intro u hu;simp at hu;subst hu;exact h1) (by unfold maxLen;omega) (by omega) hlo ?_
 intro v' w' hown hg _
 rcases hown.2 with ⟨-,h0⟩ | ⟨g,cap,cur,rfl,hge,hr,h3⟩
 ·omega
 ·exact h g cap w' (by unfold Pcs;simpa using hown) hg
theorem RdAt.below {W W':World} {b B:Nat} {s:ByteArray} {at_:Int} {ops:Value} {wd pl:Int} {md:Nat} (h:RdAt W b s at_ ops wd pl md) (hb:Below B W W') (hl:b<B):RdAt W' b s at_ ops wd pl md :=
 ⟨(hb.cell (p:=⟨b,0,none⟩) hl).trans h.c0,(hb.cell (p:=⟨b,1,none⟩) hl).trans h.c1,(hb.cell (p:=⟨b,2,none⟩) hl).trans h.c2,(hb.cell (p:=⟨b,3,none⟩) hl).trans h.c3,(hb.cell (p:=⟨b,4,none⟩) hl).trans h.c4,(hb.cell (p:=⟨b,5,none⟩) hl).trans h.c5,fun i hi=>(hb.frozen (p:=⟨b,i,none⟩) hl).trans (h.z i hi)⟩
theorem builder_low {W:World} {B b k i:Nat} {bs:List Value} (h:Lib.IsBuilderF 109 5 B b bs W) (hk:k<B) (v:Value):Lib.IsBuilderF 109 5 B b bs (W.setCell ⟨k,i,none⟩ v):=by
 have H:∀ p,Lib.BuilderAtF 109 5 B b p bs W→Lib.BuilderAtF 109 5 B b p bs (W.setCell ⟨k,i,none⟩ v):=by
  rintro p ⟨hB,q,hq,ho,hn⟩
  refine⟨hB,q,?_,?_,hn⟩
  ·rw [Below.heap_setCell _ _ _ _ (by simp;omega)];exact hq
  ·refine ho.kept (row:=some k) ⟨rfl,rfl,rfl,by simp [World.setCell],fun j _ hj=>Below.heap_setCell _ _ _ _ (fun e=>hj (by simp [e]))⟩ (.inr ?_)
   intro e;have:=ho.lt k e;omega
 exact h.elim (fun x=>.inl (H _ x)) (fun x=>.inr (H _ x))
theorem string_k (B b:Nat) (l:List UInt8) (w:World) (h:Lib.IsBuilderF 109 5 B b (Lib.byteCells l) w) (hBw:B≤w.heap.size) :
  Calls Tryz.prog 36 #[.pointer (some ⟨b,0,none⟩)] w fun e w'=>e=.returned (.string (strL l))∧(Lib.IsBuilderF 109 5 B b (Lib.byteCells l) w'∧Below B w w'∧Lib.OthersKept 5 (some b) w w'):=Tryz.Builder_String_any_k B b l w h hBw
theorem reset_any (w:World) (b:Nat) (p v:Value) (h:w.heap[b]?=some (.cells #[p,v] 109 (0,0))) :
  Calls Tryz.prog 37 #[.pointer (some ⟨b,0,none⟩)] w fun x w'=>x=.returned (.tuple #[])∧w'=(w.setCell ⟨b,0,none⟩ (.pointer none)).setCell ⟨b,1,none⟩ (.slice none 0 0):=by
 have c0:w.cell? ⟨b,0,none⟩=some p:=by rw [cell_of_row _ _ 0 _ _ _ h];rfl
 have c1:w.cell? ⟨b,1,none⟩=some v:=by rw [cell_of_row _ _ 1 _ _ _ h];rfl
 have z:∀ i,w.frozen? ⟨b,i,none⟩=false:=fun i=>frozen_of_row w _ i _ _ h
 go_enter Tryz.func37,Tryz.ntmps37
 go_wp2_with fail
 go_end0
 exact⟨rfl,rfl⟩
theorem flush_some (w:World) (b4 b3 lo:Nat) (l:List UInt8) (v:Value) (xs:List Value) (h:Lib.IsBuilderF 109 5 b4 b4 (Lib.byteCells l) w) (hl:l ≠ []) (hl2:l.length≤65536)
  (u:w.heap[b3]?=some (.cells #[v] 68 (0,0))) (hp:Pcs lo xs v w) (hn:xs.length≤100) (hb:b3<b4) (hb2:b4<lo) (hlo:lo≤w.heap.size) :
  Calls Tryz.prog 34 #[.pointer (some ⟨b4,0,none⟩),.pointer (some ⟨b3,0,none⟩)] w fun x w'=>x=.returned (.tuple #[])∧∃ (g:Nat) (cap:Nat),w'.heap[b3]?=some (.cells #[.slice (some ⟨g,0,none⟩) (xs.length+1) cap] 68 (0,0))∧Pcs lo (xs++[.iface 111 (.string (strL l))]) (.slice (some ⟨g,0,none⟩) (xs.length+1) cap) w' ∧
   w'.heap[b4]?=some (.cells #[.pointer none,.slice none 0 0] 109 (0,0))∧Below b3 w w':=by
 have hL:=Tryz.Builder_Len_f b4 b4 _ w h
 have hlen:(Lib.byteCells l).length=l.length:=by simp [Lib.byteCells]
 rw [hlen] at hL
 have h0:(0:Int)<(l.length:Int):=by have:=List.length_pos_iff.2 hl;omega
 clear hlen hl
 go_enter Tryz.func34,Tryz.ntmps34
 go_wp2_with (go_at_call 35;go_loud (refine hL.mono ?_;rintro x w1 ⟨rfl,hw⟩;subst hw))
 clear hL h0
 refine wp_region_any (by kernel_rfl) ?_
 have h:=(show Lib.IsBuilderF 109 5 b4 b4 (Lib.byteCells l) w1.drew from h)
 have u:w1.drew.heap[b3]?=_:=u
 have hp:Pcs lo xs v w1.drew:=hp.fr (Fr.refl [] w1).drew (by simp)
 have hlo:lo≤w1.drew.heap.size:=hlo
 have F:Below b3 w1 w1.drew:=⟨rfl,rfl,rfl,Nat.le_refl _,fun _ _=>rfl⟩
 change wpAny _ _ _ _ _ _ _ w1.drew
 generalize w1.drew=W at *
 have o3:W.cell? ⟨b3,0,none⟩=some v:=by rw [cell_of_row _ _ 0 _ _ _ u];rfl
 refine wpAny_step [0,1] (by kernel_rfl) (by decide) (forall2 ?_ ?_)
 ·refine wpOp_of rfl rfl ?_
  go_simp
  refine wpAny_step [1] (by kernel_rfl) (by decide) (forall1 ?_)
  refine wpOp_of rfl rfl ?_
  go_simp
  refine (string_k b4 b4 l W h (by omega)).mono ?_
  rintro x w2 ⟨rfl,h2,g2,k2⟩
  have u:=row_kept k2 u (by decide) (by omega)
  have o3:w2.cell? ⟨b3,0,none⟩=some v:=by rw [cell_of_row _ _ 0 _ _ _ u];rfl
  have hp:=hp.others k2 (by omega)
  have hlo:=Nat.le_trans hlo g2.size
  have F:=F.trans (g2.mono (by omega))
  have hrow:∃ p q,w2.heap[b4]?=some (.cells #[p,q] 109 (0,0)):=by
   rcases h2 with ⟨-,q,hq,-⟩ | ⟨-,q,hq,-⟩
   ·exact⟨_,q,hq⟩
   ·exact⟨_,q,hq⟩
  obtain⟨p,q,hrow⟩:=hrow
  clear h2 k2 g2 h
  refine wpAny_step [2] (by kernel_rfl) (by decide) (forall1 ?_)
  refine wpOp_of rfl rfl ?_
  go_simp
  refine wpAny_step [3] (by kernel_rfl) (by decide) (forall1 ?_)
  refine wpOp_of rfl rfl ?_
  go_simp
  have fA:=(Fr.refl [] w2).alloc (.cells #[.iface 111 (.string (strL l))] 71)
  have hn1:=cell_new w2 #[.iface 111 (.string (strL l))] 71 (0,0) 0 _ rfl
  have u:=fA.row u (by simp)
  have hrow:=fA.row hrow (by simp)
  have hp:=hp.fr fA (by simp)
  have hlo:=Nat.le_trans hlo fA.size
  have F:=F.trans ((Below.refl b3 w2).alloc (by omega) (.cells #[.iface 111 (.string (strL l))] 71))
  clear fA o3
  generalize hX:w2.alloc (.cells #[.iface 111 (.string (strL l))] 71)=X at *
  have o3:X.cell? ⟨b3,0,none⟩=some v:=by rw [cell_of_row _ _ 0 _ _ _ u];rfl
  refine wpAny_step [4] (by kernel_rfl) (by decide) (forall1 ?_)
  refine wpOp_of rfl rfl ?_
  refine wp_append_pc X _ _ rfl lo v xs rfl hp hn hlo _ _ rfl _ rfl hn1 ?_
  intro g9 cap9 w5 hp5 g5
  have hob:=hp.own
  have u:=(g5.block b3 (Array.getElem?_eq_some_iff.1 u).1 (fun e=>by have:=hob b3 e.symm;omega)).trans u
  have hrow:=(g5.block b4 (Array.getElem?_eq_some_iff.1 hrow).1 (fun e=>by have:=hob b4 e.symm;omega)).trans hrow
  have hlo:=Nat.le_trans hlo g5.size
  have F:=F.grown g5 (by omega) (fun k e=>by have:=hob k e;omega)
  clear o3
  have o3:w5.cell? ⟨b3,0,none⟩=some v:=by rw [cell_of_row _ _ 0 _ _ _ u];rfl
  have z3:=frozen_of_row w5 b3 0 _ _ u
  (try simp only [Act.put,List.setIfInBounds_toArray])
  refine wpAny_step [5] (by kernel_rfl) (by decide) (forall1 ?_)
  refine wpOp_of rfl rfl ?_
  go_simp
  have gS:=(Fr.refl [b3] w5).setCell (p:=⟨b3,0,none⟩) (.inl (by simp)) (.slice (some ⟨g9,0,none⟩) (xs.length+1) cap9)
  have u:=heap_setCell_same _ _ 0 _ _ (.slice (some ⟨g9,0,none⟩) (xs.length+1) cap9) u
  have hrow:=gS.row hrow (by simp;omega)
  have hp5:=hp5.fr gS (by simp;omega)
  have F:=F.setCell (p:=⟨b3,0,none⟩) (Nat.le_refl _) (.slice (some ⟨g9,0,none⟩) (xs.length+1) cap9)
  clear gS o3 z3
  generalize w5.setCell ⟨b3,0,none⟩ (.slice (some ⟨g9,0,none⟩) (xs.length+1) cap9)=Y at *
  refine⟨by kernel_rfl,?_⟩
  go_wp2_with (go_at_call 37;go_loud (refine (reset_any _ _ _ _ hrow).mono ?_;rintro x w9 ⟨rfl,hw⟩;subst hw))
  go_end0
  have gR:=((Fr.refl [b4] Y).setCell (p:=⟨b4,0,none⟩) (.inl (by simp)) (.pointer none)).setCell (p:=⟨b4,1,none⟩) (.inl (by simp)) (.slice none 0 0)
  exact⟨rfl,g9,cap9,gR.row u (by simp;omega),hp5.fr gR (by simp;omega),heap_setCell_same _ _ 1 _ _ (.slice none 0 0) (heap_setCell_same _ _ 0 _ _ (.pointer none) hrow),(F.setCell (p:=⟨b4,0,none⟩) (by simp;omega) _).setCell (p:=⟨b4,1,none⟩) (by simp;omega) _⟩
 ·refine wpOp_of rfl rfl ?_
  go_simp
  refine (string_k b4 b4 l W h (by omega)).mono ?_
  rintro x w2 ⟨rfl,h2,g2,k2⟩
  have u:=row_kept k2 u (by decide) (by omega)
  have o3:w2.cell? ⟨b3,0,none⟩=some v:=by rw [cell_of_row _ _ 0 _ _ _ u];rfl
  have hp:=hp.others k2 (by omega)
  have hlo:=Nat.le_trans hlo g2.size
  have F:=F.trans (g2.mono (by omega))
  have hrow:∃ p q,w2.heap[b4]?=some (.cells #[p,q] 109 (0,0)):=by
   rcases h2 with ⟨-,q,hq,-⟩ | ⟨-,q,hq,-⟩
   ·exact⟨_,q,hq⟩
   ·exact⟨_,q,hq⟩
  obtain⟨p,q,hrow⟩:=hrow
  clear h2 k2 g2 h
  refine wpAny_step [0,2] (by kernel_rfl) (by decide) (forall2 ?_ ?_)
  ·refine wpOp_of rfl rfl ?_
   go_simp
   refine wpAny_step [2] (by kernel_rfl) (by decide) (forall1 ?_)
   refine wpOp_of rfl rfl ?_
   go_simp
   refine wpAny_step [3] (by kernel_rfl) (by decide) (forall1 ?_)
   refine wpOp_of rfl rfl ?_
   go_simp
   have fA:=(Fr.refl [] w2).alloc (.cells #[.iface 111 (.string (strL l))] 71)
   have hn1:=cell_new w2 #[.iface 111 (.string (strL l))] 71 (0,0) 0 _ rfl
   have u:=fA.row u (by simp)
   have hrow:=fA.row hrow (by simp)
   have hp:=hp.fr fA (by simp)
   have hlo:=Nat.le_trans hlo fA.size
   have F:=F.trans ((Below.refl b3 w2).alloc (by omega) (.cells #[.iface 111 (.string (strL l))] 71))
   clear fA o3
   generalize hX:w2.alloc (.cells #[.iface 111 (.string (strL l))] 71)=X at *
   have o3:X.cell? ⟨b3,0,none⟩=some v:=by rw [cell_of_row _ _ 0 _ _ _ u];rfl
   refine wpAny_step [4] (by kernel_rfl) (by decide) (forall1 ?_)
   refine wpOp_of rfl rfl ?_
   refine wp_append_pc X _ _ rfl lo v xs rfl hp hn hlo _ _ rfl _ rfl hn1 ?_
   intro g9 cap9 w5 hp5 g5
   have hob:=hp.own
   have u:=(g5.block b3 (Array.getElem?_eq_some_iff.1 u).1 (fun e=>by have:=hob b3 e.symm;omega)).trans u
   have hrow:=(g5.block b4 (Array.getElem?_eq_some_iff.1 hrow).1 (fun e=>by have:=hob b4 e.symm;omega)).trans hrow
   have hlo:=Nat.le_trans hlo g5.size
   have F:=F.grown g5 (by omega) (fun k e=>by have:=hob k e;omega)
   clear o3
   have o3:w5.cell? ⟨b3,0,none⟩=some v:=by rw [cell_of_row _ _ 0 _ _ _ u];rfl
   have z3:=frozen_of_row w5 b3 0 _ _ u
   (try simp only [Act.put,List.setIfInBounds_toArray])
   refine wpAny_step [5] (by kernel_rfl) (by decide) (forall1 ?_)
   refine wpOp_of rfl rfl ?_
   go_simp
   have gS:=(Fr.refl [b3] w5).setCell (p:=⟨b3,0,none⟩) (.inl (by simp)) (.slice (some ⟨g9,0,none⟩) (xs.length+1) cap9)
   have u:=heap_setCell_same _ _ 0 _ _ (.slice (some ⟨g9,0,none⟩) (xs.length+1) cap9) u
   have hrow:=gS.row hrow (by simp;omega)
   have hp5:=hp5.fr gS (by simp;omega)
   have F:=F.setCell (p:=⟨b3,0,none⟩) (Nat.le_refl _) (.slice (some ⟨g9,0,none⟩) (xs.length+1) cap9)
   clear gS o3 z3
   generalize w5.setCell ⟨b3,0,none⟩ (.slice (some ⟨g9,0,none⟩) (xs.length+1) cap9)=Y at *
   refine⟨by kernel_rfl,?_⟩
   go_wp2_with (go_at_call 37;go_loud (refine (reset_any _ _ _ _ hrow).mono ?_;rintro x w9 ⟨rfl,hw⟩;subst hw))
   go_end0
   have gR:=((Fr.refl [b4] Y).setCell (p:=⟨b4,0,none⟩) (.inl (by simp)) (.pointer none)).setCell (p:=⟨b4,1,none⟩) (.inl (by simp)) (.slice none 0 0)
   exact⟨rfl,g9,cap9,gR.row u (by simp;omega),hp5.fr gR (by simp;omega),heap_setCell_same _ _ 1 _ _ (.slice none 0 0) (heap_setCell_same _ _ 0 _ _ (.pointer none) hrow),(F.setCell (p:=⟨b4,0,none⟩) (by simp;omega) _).setCell (p:=⟨b4,1,none⟩) (by simp;omega) _⟩
  ·refine wpOp_of rfl rfl ?_
   go_simp
   refine wpAny_step [0,3] (by kernel_rfl) (by decide) (forall2 ?_ ?_)
   ·refine wpOp_of rfl rfl ?_
    go_simp
    refine wpAny_step [3] (by kernel_rfl) (by decide) (forall1 ?_)
    refine wpOp_of rfl rfl ?_
    go_simp
    have fA:=(Fr.refl [] w2).alloc (.cells #[.iface 111 (.string (strL l))] 71)
    have hn1:=cell_new w2 #[.iface 111 (.string (strL l))] 71 (0,0) 0 _ rfl
    have u:=fA.row u (by simp)
    have hrow:=fA.row hrow (by simp)
    have hp:=hp.fr fA (by simp)
    have hlo:=Nat.le_trans hlo fA.size
    have F:=F.trans ((Below.refl b3 w2).alloc (by omega) (.cells #[.iface 111 (.string (strL l))] 71))
    clear fA o3
    generalize hX:w2.alloc (.cells #[.iface 111 (.string (strL l))] 71)=X at *
    have o3:X.cell? ⟨b3,0,none⟩=some v:=by rw [cell_of_row _ _ 0 _ _ _ u];rfl
    refine wpAny_step [4] (by kernel_rfl) (by decide) (forall1 ?_)
    refine wpOp_of rfl rfl ?_
    refine wp_append_pc X _ _ rfl lo v xs rfl hp hn hlo _ _ rfl _ rfl hn1 ?_
    intro g9 cap9 w5 hp5 g5
    have hob:=hp.own
    have u:=(g5.block b3 (Array.getElem?_eq_some_iff.1 u).1 (fun e=>by have:=hob b3 e.symm;omega)).trans u
    have hrow:=(g5.block b4 (Array.getElem?_eq_some_iff.1 hrow).1 (fun e=>by have:=hob b4 e.symm;omega)).trans hrow
    have hlo:=Nat.le_trans hlo g5.size
    have F:=F.grown g5 (by omega) (fun k e=>by have:=hob k e;omega)
    clear o3
    have o3:w5.cell? ⟨b3,0,none⟩=some v:=by rw [cell_of_row _ _ 0 _ _ _ u];rfl
    have z3:=frozen_of_row w5 b3 0 _ _ u
    (try simp only [Act.put,List.setIfInBounds_toArray])
    refine wpAny_step [5] (by kernel_rfl) (by decide) (forall1 ?_)
    refine wpOp_of rfl rfl ?_
    go_simp
    have gS:=(Fr.refl [b3] w5).setCell (p:=⟨b3,0,none⟩) (.inl (by simp)) (.slice (some ⟨g9,0,none⟩) (xs.length+1) cap9)
    have u:=heap_setCell_same _ _ 0 _ _ (.slice (some ⟨g9,0,none⟩) (xs.length+1) cap9) u
    have hrow:=gS.row hrow (by simp;omega)
    have hp5:=hp5.fr gS (by simp;omega)
    have F:=F.setCell (p:=⟨b3,0,none⟩) (Nat.le_refl _) (.slice (some ⟨g9,0,none⟩) (xs.length+1) cap9)
    clear gS o3 z3
    generalize w5.setCell ⟨b3,0,none⟩ (.slice (some ⟨g9,0,none⟩) (xs.length+1) cap9)=Y at *
    refine⟨by kernel_rfl,?_⟩
    go_wp2_with (go_at_call 37;go_loud (refine (reset_any _ _ _ _ hrow).mono ?_;rintro x w9 ⟨rfl,hw⟩;subst hw))
    go_end0
    have gR:=((Fr.refl [b4] Y).setCell (p:=⟨b4,0,none⟩) (.inl (by simp)) (.pointer none)).setCell (p:=⟨b4,1,none⟩) (.inl (by simp)) (.slice none 0 0)
    exact⟨rfl,g9,cap9,gR.row u (by simp;omega),hp5.fr gR (by simp;omega),heap_setCell_same _ _ 1 _ _ (.slice none 0 0) (heap_setCell_same _ _ 0 _ _ (.pointer none) hrow),(F.setCell (p:=⟨b4,0,none⟩) (by simp;omega) _).setCell (p:=⟨b4,1,none⟩) (by simp;omega) _⟩
   ·refine wpOp_of rfl rfl ?_
    go_simp
    have fA:=(Fr.refl [] w2).alloc (.cells #[.iface 111 (.string (strL l))] 71)
    have hn1:=cell_new w2 #[.iface 111 (.string (strL l))] 71 (0,0) 0 _ rfl
    have u:=fA.row u (by simp)
    have hrow:=fA.row hrow (by simp)
    have hp:=hp.fr fA (by simp)
    have hlo:=Nat.le_trans hlo fA.size
    have F:=F.trans ((Below.refl b3 w2).alloc (by omega) (.cells #[.iface 111 (.string (strL l))] 71))
    clear fA o3
    generalize hX:w2.alloc (.cells #[.iface 111 (.string (strL l))] 71)=X at *
    have o3:X.cell? ⟨b3,0,none⟩=some v:=by rw [cell_of_row _ _ 0 _ _ _ u];rfl
    refine wpAny_step [0] (by kernel_rfl) (by decide) (forall1 ?_)
    refine wpOp_of rfl rfl ?_
    go_simp
    refine wpAny_step [4] (by kernel_rfl) (by decide) (forall1 ?_)
    refine wpOp_of rfl rfl ?_
    refine wp_append_pc X _ _ rfl lo v xs rfl hp hn hlo _ _ rfl _ rfl hn1 ?_
    intro g9 cap9 w5 hp5 g5
    have hob:=hp.own
    have u:=(g5.block b3 (Array.getElem?_eq_some_iff.1 u).1 (fun e=>by have:=hob b3 e.symm;omega)).trans u
    have hrow:=(g5.block b4 (Array.getElem?_eq_some_iff.1 hrow).1 (fun e=>by have:=hob b4 e.symm;omega)).trans hrow
    have hlo:=Nat.le_trans hlo g5.size
    have F:=F.grown g5 (by omega) (fun k e=>by have:=hob k e;omega)
    clear o3
    have o3:w5.cell? ⟨b3,0,none⟩=some v:=by rw [cell_of_row _ _ 0 _ _ _ u];rfl
    have z3:=frozen_of_row w5 b3 0 _ _ u
    (try simp only [Act.put,List.setIfInBounds_toArray])
    refine wpAny_step [5] (by kernel_rfl) (by decide) (forall1 ?_)
    refine wpOp_of rfl rfl ?_
    go_simp
    have gS:=(Fr.refl [b3] w5).setCell (p:=⟨b3,0,none⟩) (.inl (by simp)) (.slice (some ⟨g9,0,none⟩) (xs.length+1) cap9)
    have u:=heap_setCell_same _ _ 0 _ _ (.slice (some ⟨g9,0,none⟩) (xs.length+1) cap9) u
    have hrow:=gS.row hrow (by simp;omega)
    have hp5:=hp5.fr gS (by simp;omega)
    have F:=F.setCell (p:=⟨b3,0,none⟩) (Nat.le_refl _) (.slice (some ⟨g9,0,none⟩) (xs.length+1) cap9)
    clear gS o3 z3
    generalize w5.setCell ⟨b3,0,none⟩ (.slice (some ⟨g9,0,none⟩) (xs.length+1) cap9)=Y at *
    refine⟨by kernel_rfl,?_⟩
    go_wp2_with (go_at_call 37;go_loud (refine (reset_any _ _ _ _ hrow).mono ?_;rintro x w9 ⟨rfl,hw⟩;subst hw))
    go_end0
    have gR:=((Fr.refl [b4] Y).setCell (p:=⟨b4,0,none⟩) (.inl (by simp)) (.pointer none)).setCell (p:=⟨b4,1,none⟩) (.inl (by simp)) (.slice none 0 0)
    exact⟨rfl,g9,cap9,gR.row u (by simp;omega),hp5.fr gR (by simp;omega),heap_setCell_same _ _ 1 _ _ (.slice none 0 0) (heap_setCell_same _ _ 0 _ _ (.pointer none) hrow),(F.setCell (p:=⟨b4,0,none⟩) (by simp;omega) _).setCell (p:=⟨b4,1,none⟩) (by simp;omega) _⟩
end Go.Proofs.YtcmndpjemdjalaaGreatDoor
namespace Go.Proofs.YtcmndpjemdjalaaGreatDoor
open Go.RowKit
def namesV:Value:=.agg #[.string (strL [101,118,101,110]),.string (strL [97,119,97,121]),.string (strL [122,101,114,111]),.string (strL [117,112]),.string (strL [100,111,119,110])]
theorem names_any (w:World):Calls Tryz.prog 109 #[] w fun x w'=>x=.returned namesV∧Fr [] w w':=by
 go_enter Tryz.func109,Tryz.ntmps109
 go_wp2_with fail
 have fA:=(Fr.refl [] w).alloc (.cells #[.string (strL [101,118,101,110]),.string (strL [97,119,97,121]),.string (strL [122,101,114,111]),.string (strL [117,112]),.string (strL [100,111,119,110])] 222)
 have r:=row_new w (.cells #[.string (strL [101,118,101,110]),.string (strL [97,119,97,121]),.string (strL [122,101,114,111]),.string (strL [117,112]),.string (strL [100,111,119,110])] 222)
 refine bodyPost_ret (v:=_) (results_cell_row rfl _ _ w.heap.size _ _ _ _ rfl r Tryz.underlying222 rfl (by kernel_rfl)) rfl ?_
 exact⟨rfl,fA⟩
theorem named_up (w:World):Calls Tryz.prog 105 #[.string (strL [117,112])] w fun x w'=>x=.returned (.tuple #[.int .u8 3,.bool true])∧Fr [] w w':=by
 have i0:∀ w,(Instr.index 222 namesV (.int .i64 0)).run Tryz.prog w=.ok (.string (strL [101,118,101,110])) w:=fun _=>by kernel_rfl
 have i1:∀ w,(Instr.index 222 namesV (.int .i64 1)).run Tryz.prog w=.ok (.string (strL [97,119,97,121])) w:=fun _=>by kernel_rfl
 have i2:∀ w,(Instr.index 222 namesV (.int .i64 2)).run Tryz.prog w=.ok (.string (strL [122,101,114,111])) w:=fun _=>by kernel_rfl
 have i3:∀ w,(Instr.index 222 namesV (.int .i64 3)).run Tryz.prog w=.ok (.string (strL [117,112])) w:=fun _=>by kernel_rfl
 have e0:((strL [101,118,101,110]).toList==(strL [117,112]).toList)=false:=by kernel_rfl
 have e1:((strL [97,119,97,121]).toList==(strL [117,112]).toList)=false:=by kernel_rfl
 have e2:((strL [122,101,114,111]).toList==(strL [117,112]).toList)=false:=by kernel_rfl
 go_enter Tryz.func105,Tryz.ntmps105
 go_wp2_with (go_at_call 109;go_loud (refine (names_any _).mono ?_;rintro x w1 ⟨rfl,g1⟩))
 refine wp_loop_rounds 4 ?_
 rw [rounds_succ]
 go_wp2_with fail
 rw [rounds_succ]
 go_wp2_with fail
 rw [rounds_succ]
 go_wp2_with fail
 rw [rounds_succ]
 go_wp2_with fail
 go_ret2
 exact⟨rfl,g1⟩
theorem name_up (w:World):Calls Tryz.prog 72 #[.int .u8 3] w fun x w'=>x=.returned (.tuple #[.string (strL [117,112]),.int .i64 0])∧Fr [] w w':=by
 have i3:∀ w,(Instr.index 222 namesV (.int .u8 3)).run Tryz.prog w=.ok (.string (strL [117,112])) w:=fun _=>by kernel_rfl
 go_enter Tryz.func72,Tryz.ntmps72
 go_wp2_with (go_at_call 109;go_loud (refine (names_any _).mono ?_;rintro x w1 ⟨rfl,g1⟩))
 go_ret2
 exact⟨rfl,g1⟩
theorem mode_up (w:World) (b:Nat) (ops:Value) (h:RdAt w b (strL [120,61,123,43,48,56,46,51,102,58,117,112,125,33]) ((10:Nat):Int) ops 8 3 0) :
  Calls Tryz.prog 67 #[.pointer (some ⟨b,0,none⟩)] w fun x w'=>x=.returned (.tuple #[])∧RdAt w' b (strL [120,61,123,43,48,56,46,51,102,58,117,112,125,33]) ((12:Nat):Int) ops 8 3 3∧Fr [b] w w':=by
 have s1:∀ w,(Instr.slice 9 (.string (strL [120,61,123,43,48,56,46,51,102,58,117,112,125,33])) (some (.int .i64 10)) none none).run Tryz.prog w=.ok (.string (strL [117,112,125,33])) w:=fun _=>by kernel_rfl
 have s2:∀ w,(Instr.slice 9 (.string (strL [120,61,123,43,48,56,46,51,102,58,117,112,125,33])) (some (.int .i64 10)) (some (.int .i64 12)) none).run Tryz.prog w=.ok (.string (strL [117,112])) w:=fun _=>by kernel_rfl
 have hI:∀ w,Calls Tryz.prog 103 #[.string (strL [117,112,125,33]),.int .u8 125] w fun x w'=>x=.returned (.int .i64 2)∧w'=w:=fun W=>Tryz.strings_IndexByte (strL [117,112,125,33]) 125 W
 generalize strL [120,61,123,43,48,56,46,51,102,58,117,112,125,33]=S at *
 have c0:=h.c0
 have c1:=h.c1
 have z1:=h.z 1 (by omega)
 go_enter Tryz.func67,Tryz.ntmps67
 go_wp2_with (go_at_call 103;go_loud (refine (hI _).mono ?_;rintro x w1 ⟨rfl,hw⟩;subst hw))
 have h:=h.set1 12
 have F:=(Fr.refl [b] w1).setCell (p:=⟨b,1,none⟩) (.inl (by simp)) (.int .i64 12)
 generalize w1.setCell ⟨b,1,none⟩ (.int .i64 12)=Y at *
 clear z1
 have c0:=h.c0
 have c1:=h.c1
 refine region_mono [] 16 [[],[0],[1],[2],[],[],[5],[6],[7],[3,4,8],[9],[10],[11],[11],[12],[13]] [none,none,none,none,none,none,none,none,none,none,none,none,none,none,none,none] (by kernel_rfl) (by kernel_rfl) ?_
 simp only [Chain,fill,Act.put,List.nil_append,List.cons_append,List.take_succ_cons,List.take_zero,List.drop_succ_cons,List.drop_zero,List.setIfInBounds_toArray,List.set_cons_zero,List.set_cons_succ,Nat.reduceAdd]
 iterate 10 (apply Exists.intro;apply And.intro;·intro vs w2 hf hh K hK;have c0:=hf.stayd c0;have c1:=hf.stayd c1;simp only [Held,List.getD_cons_zero,List.getD_cons_succ,Just,and_true] at hh;(try simp only [hh] at hK ⊢);go_simp;exact hK _ _ ⟨rfl,Fr.refl _ _⟩)
 apply Exists.intro;apply And.intro
 ·intro vs w2 hf hh K hK;have c0:=hf.stayd c0;have c1:=hf.stayd c1;simp only [Held,List.getD_cons_zero,List.getD_cons_succ,Just,and_true] at hh;(try simp only [hh] at hK ⊢);go_simp;refine (named_up _).mono ?_;rintro e w6 ⟨rfl,f6⟩;exact hK _ _ ⟨rfl,f6⟩
 iterate 5 (apply Exists.intro;apply And.intro;·intro vs w2 hf hh K hK;simp only [Held,List.getD_cons_zero,List.getD_cons_succ,Just,and_true] at hh;(try simp only [hh] at hK ⊢);go_simp;exact hK _ _ ⟨rfl,Fr.refl _ _⟩)
 intro vs w2 hf hh
 simp only [HeldAll,Just,and_true,Nat.reduceAdd] at hh
 obtain⟨e0,e1,e2,e3,e4,e5,e6,e7,e8,e9,e10,e11,e12,e13,e14,e15⟩:=hh
 simp only [e0,e1,e2,e3,e4,e5,e6,e7,e8,e9,e10,e11,e12,e13,e14,e15]
 clear e0 e1 e2 e3 e4 e5 e6 e7 e8 e9 e10 e11 e12 e13 e14 e15
 clear vs
 have c0:=hf.stayd c0
 have c1:=hf.stayd c1
 have h:=h.drew.fr hf (by simp)
 have F:=F.drew.then hf
 have c5:=h.c5
 have z5:=h.z 5 (by omega)
 go_wp2_with fail
 go_end0
 exact⟨rfl,h.set5 3,F.setCell (.inl (by simp)) _⟩
end Go.Proofs.YtcmndpjemdjalaaGreatDoor
namespace Go.Proofs.YtcmndpjemdjalaaGreatDoor
open Go.RowKit
theorem field_up (w:World) (b:Nat) (ops:Value) (h:RdAt w b (strL [120,61,123,43,48,56,46,51,102,58,117,112,125,33]) ((3:Nat):Int) ops 0 0 0) :
  Calls Tryz.prog 41 #[.pointer (some ⟨b,0,none⟩)] w fun x w'=>x=.returned (.agg #[.int .u8 3,.int .i64 5])∧RdAt w' b (strL [120,61,123,43,48,56,46,51,102,58,117,112,125,33]) ((13:Nat):Int) ops 8 3 3∧Fr [b] w w':=by
 have hb:=h.lt
 have r2:=row_new w (.cells #[.int .u8 0,.int .i64 0] 117)
 have F:=(Fr.refl [b] w).alloc (.cells #[.int .u8 0,.int .i64 0] 117)
 have h:=h.alloc (.cells #[.int .u8 0,.int .i64 0] 117)
 have sz:w.heap.size+1≤(w.alloc (.cells #[.int .u8 0,.int .i64 0] 117)).heap.size:=by simp
 go_enter Tryz.func41,Tryz.ntmps41
 generalize hW:w.alloc (.cells #[.int .u8 0,.int .i64 0] 117)=W at *
 go_wp2_with (first
  | (go_at_call 63;(with_reducible show Calls _ _ #[_,.string ⟨#[43,32]⟩] _ _);go_loud (refine (readTake_hit _ b _ _ 3 _ _ _ _ 1 h (by show _<(strL _).size;rw [strL_size];simp) (by rw [strL_size];simp) (by show Lib.indexByte [43,32] 43+1=1;decide) (by decide) (by omega)).mono ?_;rintro x w1 ⟨rfl,h,g⟩;have r2:=g.row r2 (by simp;omega);have sz:=Nat.le_trans sz g.size;replace F:=F.trans g (by simp);have rT:=row_new w1 (.cells #[.int .u8 0,.int .i64 1] 117);have r2:=((Fr.refl [] w1).alloc (.cells #[.int .u8 0,.int .i64 1] 117)).row r2 (by simp);have h:=h.alloc (.cells #[.int .u8 0,.int .i64 1] 117);replace F:=F.alloc (.cells #[.int .u8 0,.int .i64 1] 117);have szT:w1.heap.size+1≤(w1.alloc (.cells #[.int .u8 0,.int .i64 1] 117)).heap.size:=(by simp)))
  | (go_at_call 63;(with_reducible show Calls _ _ #[_,.string ⟨#[48,45]⟩] _ _);go_loud (refine (readTake_hit _ b _ _ 4 _ _ _ _ 1 h (by show _<(strL _).size;rw [strL_size];simp) (by rw [strL_size];simp) (by show Lib.indexByte [48,45] 48+1=1;decide) (by decide) (by omega)).mono ?_;rintro x w2 ⟨rfl,h,g⟩;have r2:=g.row r2 (by simp;omega);have rT:=g.row rT (by simp;omega);have szT:=Nat.le_trans szT g.size;replace F:=F.trans g (by simp);have d1:w2.cell? ⟨w1.heap.size,1,none⟩=some (.int .i64 1):=(by rw [cell_of_row _ _ 1 _ _ _ rT];rfl);have dz:=frozen_of_row w2 w1.heap.size 1 _ _ rT;have gT:=(Fr.refl [w1.heap.size] w2).setCell (p:=⟨w1.heap.size,1,none⟩) (.inl (by simp)) (.int .i64 5);have rT:=heap_setCell_same w2 w1.heap.size 1 _ _ (.int .i64 5) rT;have r2:=gT.row r2 (by simp;omega);have h:=h.other w1.heap.size 1 (.int .i64 5) (by omega);replace F:=F.setCell (p:=⟨w1.heap.size,1,none⟩) (.inr (by simp;omega)) (.int .i64 5);have szT:w1.heap.size+1≤(w2.setCell ⟨w1.heap.size,1,none⟩ (.int .i64 5)).heap.size:=(by rw [World.size_setCell];exact szT)))
  | (go_at_call 64;(with_reducible show Calls _ _ #[_,.int .u8 49] _ _);go_loud (refine (readDigit_is _ b _ 49 5 _ _ _ _ true h (by show _<(strL _).size;rw [strL_size];simp) (by rw [digitAt,dif_pos (by show _<(strL _).size;rw [strL_size];simp)];show (decide (49≤(56:UInt8).toNat) && decide ((56:UInt8).toNat≤57))=true;decide)).mono ?_;rintro x w3 ⟨rfl,g⟩;have h:=h.fr g (by simp);have r2:=g.row r2 (by simp);have rT:=g.row rT (by simp);have szT:=Nat.le_trans szT g.size;replace F:=F.then g))
  | (go_at_call 65;(with_reducible show Calls _ _ #[_,.int .i64 256,_] _ _);go_loud (refine (readNum _ b _ 5 8 256 _ _ _ _ _ h (by show _<(strL _).size;rw [strL_size];simp) (by rw [strL_size];simp) (by decide) (by show (56:UInt8)=dig 8;decide) (by rw [digitAt,dif_pos (by show _<(strL _).size;rw [strL_size];simp)];show (decide (48≤(46:UInt8).toNat) && decide ((46:UInt8).toNat≤57))=false;decide) (by omega)).mono ?_;rintro x w6 ⟨rfl,h,g⟩;have r2:=g.row r2 (by simp;omega);have rT:=g.row rT (by simp;omega);have szT:=Nat.le_trans szT g.size;replace F:=F.trans g (by simp);have c3:=h.c3;have z3:=h.z 3 (by omega);have h:=h.set3 8;have gS:=(Fr.refl [b] w6).setCell (p:=⟨b,3,none⟩) (.inl (by simp)) (.int .i64 8);have r2:=gS.row r2 (by simp;omega);have rT:=gS.row rT (by simp;omega);replace F:=F.trans gS (by simp);have szS:=gS.size;have szT:=Nat.le_trans szT szS;have c4:=h.c4;have z4:=h.z 4 (by omega);have h:=h.set4 (-1);have gS:=(Fr.refl [b] (w6.setCell ⟨b,3,none⟩ (.int .i64 8))).setCell (p:=⟨b,4,none⟩) (.inl (by simp)) (.int .i64 (-1));have r2:=gS.row r2 (by simp;omega);have rT:=gS.row rT (by simp;omega);replace F:=F.trans gS (by simp);have szS:=gS.size;have szT:=Nat.le_trans szT szS))
  | (go_at_call 63;(with_reducible show Calls _ _ #[_,.string ⟨#[46]⟩] _ _);go_loud (refine (readTake_hit _ b _ _ 6 _ _ _ _ 1 h (by show _<(strL _).size;rw [strL_size];simp) (by rw [strL_size];simp) (by show Lib.indexByte [46] 46+1=1;decide) (by decide) (by omega)).mono ?_;rintro x w4 ⟨rfl,h,g⟩;have r2:=g.row r2 (by simp;omega);have rT:=g.row rT (by simp;omega);have szT:=Nat.le_trans szT g.size;replace F:=F.trans g (by simp)))
  | (go_at_call 64;(with_reducible show Calls _ _ #[_,.int .u8 48] _ _);go_loud (refine (readDigit_is _ b _ 48 7 _ _ _ _ true h (by show _<(strL _).size;rw [strL_size];simp) (by rw [digitAt,dif_pos (by show _<(strL _).size;rw [strL_size];simp)];show (decide (48≤(51:UInt8).toNat) && decide ((51:UInt8).toNat≤57))=true;decide)).mono ?_;rintro x w3 ⟨rfl,g⟩;have h:=h.fr g (by simp);have r2:=g.row r2 (by simp);have rT:=g.row rT (by simp);have szT:=Nat.le_trans szT g.size;replace F:=F.then g))
  | (go_at_call 65;(with_reducible show Calls _ _ #[_,.int .i64 2000,_] _ _);go_loud (refine (readNum _ b _ 7 3 2000 _ _ _ _ _ h (by show _<(strL _).size;rw [strL_size];simp) (by rw [strL_size];simp) (by decide) (by show (51:UInt8)=dig 3;decide) (by rw [digitAt,dif_pos (by show _<(strL _).size;rw [strL_size];simp)];show (decide (48≤(102:UInt8).toNat) && decide ((102:UInt8).toNat≤57))=false;decide) (by omega)).mono ?_;rintro x w6 ⟨rfl,h,g⟩;have r2:=g.row r2 (by simp;omega);have rT:=g.row rT (by simp;omega);have szT:=Nat.le_trans szT g.size;replace F:=F.trans g (by simp);have c4:=h.c4;have z4:=h.z 4 (by omega);have h:=h.set4 3;have gS:=(Fr.refl [b] w6).setCell (p:=⟨b,4,none⟩) (.inl (by simp)) (.int .i64 3);have r2:=gS.row r2 (by simp;omega);have rT:=gS.row rT (by simp;omega);replace F:=F.trans gS (by simp);have szS:=gS.size;have szT:=Nat.le_trans szT szS;have c1:=h.c1))
  | (go_at_call 63;(with_reducible show Calls _ _ #[_,.string ⟨#[115,102,101,103,120]⟩] _ _);go_loud (refine (readTake_hit _ b _ _ 8 _ _ _ _ 2 h (by show _<(strL _).size;rw [strL_size];simp) (by rw [strL_size];simp) (by show Lib.indexByte [115,102,101,103,120] 102+1=2;decide) (by decide) (by omega)).mono ?_;rintro x w5 ⟨rfl,h,g⟩;have r2:=g.row r2 (by simp;omega);have rT:=g.row rT (by simp;omega);have szT:=Nat.le_trans szT g.size;replace F:=F.trans g (by simp);have d0:w5.cell? ⟨w1.heap.size,0,none⟩=some (.int .u8 0):=(by rw [cell_of_row _ _ 0 _ _ _ rT];rfl);have dz:=frozen_of_row w5 w1.heap.size 0 _ _ rT)))
 have gT:=(Fr.refl [w1.heap.size] w5).setCell (p:=⟨w1.heap.size,0,none⟩) (.inl (by simp)) (.int .u8 3)
 have rT:=heap_setCell_same w5 w1.heap.size 0 _ _ (.int .u8 3) rT
 have r2:=gT.row r2 (by simp;omega)
 have h:=h.other w1.heap.size 0 (.int .u8 3) (by omega)
 have F:=F.setCell (p:=⟨w1.heap.size,0,none⟩) (.inr (by simp;omega)) (.int .u8 3)
 have szT:w1.heap.size+1≤(w5.setCell ⟨w1.heap.size,0,none⟩ (.int .u8 3)).heap.size:=by rw [World.size_setCell];exact szT
 clear gT d0 dz
 generalize w5.setCell ⟨w1.heap.size,0,none⟩ (.int .u8 3)=Y at *
 have d0:Y.cell? ⟨w1.heap.size,0,none⟩=some (.int .u8 3):=by rw [cell_of_row _ _ 0 _ _ _ rT];rfl
 have c4:=h.c4
 refine region_mono_g [] 14 [[],[0],[1],[2],[3],[3,4],[3],[3,6],[3,7],[3,8],[3,9],[3,5,10],[3,11],[3,12]] [none,none,none,none,none,none,none,none,none,none,none,none,none,none] (by kernel_rfl) (by kernel_rfl) ?_
 simp only [Chain,fill,Act.put,List.nil_append,List.cons_append,List.take_succ_cons,List.take_zero,List.drop_succ_cons,List.drop_zero,List.setIfInBounds_toArray,List.set_cons_zero,List.set_cons_succ,Nat.reduceAdd]
 iterate 11 (apply Exists.intro;apply And.intro;·intro vs w2 hf hh K hK;have d0:=hf.stayd d0;have c4:=hf.stayd c4;simp only [Held,List.getD_cons_zero,List.getD_cons_succ,Just,and_true] at hh;(try simp only [hh] at hK ⊢);go_simp;exact hK _ _ ⟨rfl,Fr.refl _ _⟩)
 apply Exists.intro;apply And.intro
 ·intro vs w2 hf hh K hK;have d0:=hf.stayd d0;have c4:=hf.stayd c4;simp only [Held,List.getD_cons_zero,List.getD_cons_succ,Just,and_true] at hh;(try simp only [hh] at hK ⊢);go_simp;refine (placed_3 _ 3).mono ?_;rintro e w6 ⟨rfl,hx⟩;exact hK _ _ ⟨rfl,by rw [hx];exact Fr.refl _ _⟩
 iterate 2 (apply Exists.intro;apply And.intro;·intro vs w2 hf hh K hK;simp only [Held,List.getD_cons_zero,List.getD_cons_succ,Just,and_true] at hh;(try simp only [hh] at hK ⊢);go_simp;exact hK _ _ ⟨rfl,Fr.refl _ _⟩)
 intro vs w2 hf hh
 simp only [HeldAll,Just,and_true,Nat.reduceAdd] at hh
 obtain⟨e0,e1,e2,e3,e4,e5,e6,e7,e8,e9,e10,e11,e12,e13⟩:=hh
 simp only [e0,e1,e2,e3,e4,e5,e6,e7,e8,e9,e10,e11,e12,e13]
 clear e0 e1 e2 e3 e4 e5 e6 e7 e8 e9 e10 e11 e12 e13
 clear vs
 have d0:=hf.stayd d0
 have c4:=hf.stayd c4
 have h:=h.drew.fr hf (by simp)
 have rT:=hf.row (w:=Y.drew) rT (by simp)
 have r2:=hf.row (w:=Y.drew) r2 (by simp)
 have szT:w1.heap.size+1≤w2.heap.size:=Nat.le_trans szT hf.size
 have F:=F.drew.then hf
 have c4:=h.c4
 clear hf d0
 go_wp2_with (first
  | (go_at_call 63;(with_reducible show Calls _ _ #[_,.string ⟨#[125]⟩] _ _);go_loud (refine (readTake_hit _ b _ _ 12 _ _ _ _ 1 h (by show _<(strL _).size;rw [strL_size];simp) (by rw [strL_size];simp) (by show Lib.indexByte [125] 125+1=1;decide) (by decide) (by omega)).mono ?_;rintro x w8 ⟨rfl,h,g⟩;have r2:=g.row r2 (by simp;omega);have rT:=g.row rT (by simp;omega);replace F:=F.trans g (by simp)))
  | (go_at_call 63;(with_reducible show Calls _ _ #[_,.string ⟨#[58]⟩] _ _);go_loud (refine (readTake_hit _ b _ _ 9 _ _ _ _ 1 h (by show _<(strL _).size;rw [strL_size];simp) (by rw [strL_size];simp) (by show Lib.indexByte [58] 58+1=1;decide) (by decide) (by omega)).mono ?_;rintro x w8 ⟨rfl,h,g⟩;have r2:=g.row r2 (by simp;omega);have rT:=g.row rT (by simp;omega);have szT:=Nat.le_trans szT g.size;replace F:=F.trans g (by simp)))
  | (go_at_call 67;go_loud (refine (mode_up _ b _ h).mono ?_;rintro x w8 ⟨rfl,h,g⟩;have r2:=g.row r2 (by simp;omega);have rT:=g.row rT (by simp;omega);have szT:=Nat.le_trans szT g.size;replace F:=F.trans g (by simp)))
  | ((with_reducible show wpList _ _ _ (⟨some 105,.load 117 (.tmp 3),_,_,_,_⟩ :: _) _ _);go_loud (refine wpList_load_row rfl 117 (.tmp 3) rfl w1.heap.size rfl _ _ _ _ rT Tryz.underlying117 rfl (by kernel_rfl) ?_))
  | ((with_reducible show wpList _ _ _ (⟨none,.store 117 (.tmp 2) (.tmp 105),_,_,_,_⟩ :: _) _ _);go_loud (refine wpList_store_whole rfl 117 (.tmp 2) (.tmp 105) rfl w.heap.size #[.int .u8 3,.int .i64 5] rfl rfl _ _ r2 (by kernel_rfl) rfl (by simp [Value.oneCell']) ?_;intro w9 hn9 g9)))
 (try simp only [Exit.inBlock,Exit.then])
 refine bodyPost_ret (v:=_) (results_cell_row rfl _ _ w.heap.size _ _ _ _ rfl hn9 Tryz.underlying117 rfl (by kernel_rfl)) rfl ?_
 exact⟨rfl,h.fr g9 (by simp;omega),F.trans g9 (by simp)⟩
end Go.Proofs.YtcmndpjemdjalaaGreatDoor
namespace Go.Proofs.YtcmndpjemdjalaaGreatDoor
open Go.RowKit
def FdAtK (b:Nat) (fd:Value) (S:ByteArray) (at_:Int) (ops:Value) (wd pl:Int) (md:Nat):PropD:=fun _ v w=>v=fd∧RdAt w b S at_ ops wd pl md
theorem FdAtK.lasts (b:Nat) (fd:Value) (S:ByteArray) (at_:Int) (ops:Value) (wd pl:Int) (md:Nat):LastsD [] (FdAtK b fd S at_ ops wd pl md):=fun _ _ _ _ h hf=>⟨h.1,h.2.fr hf (by simp)⟩
theorem FdAtK.looks (b:Nat) (fd:Value) (S:ByteArray) (at_:Int) (ops:Value) (wd pl:Int) (md:Nat) (d:List Nat):LooksD d (FdAtK b fd S at_ ops wd pl md):=fun _ _ _ _ _ h=>h
theorem pieces_up (w:World) (b:Nat) (ops:Value) (h:RdAt w b (strL [120,61,123,43,48,56,46,51,102,58,117,112,125,33]) ((0:Nat):Int) ops 0 0 0) :
  Calls Tryz.prog 23 #[.pointer (some ⟨b,0,none⟩)] w fun x w'=>∃ (g:Nat) (cap:Nat),x=.returned (.slice (some ⟨g,0,none⟩) 3 cap)∧w.heap.size≤g∧w'.cell? ⟨g,0,none⟩=some (.iface 111 (.string (strL [120,61])))∧w'.cell? ⟨g,1,none⟩=some (.iface 117 (.agg #[.int .u8 3,.int .i64 5]))∧w'.cell? ⟨g,2,none⟩=some (.iface 111 (.string (strL [33])))∧RdAt w' b (strL [120,61,123,43,48,56,46,51,102,58,117,112,125,33]) ((14:Nat):Int) ops 8 3 3∧Fr [b] w w':=by
 have hmf:∀ (fn:Fn) (first cap:Array Value) (w:World),(Instr.makeFunc fn first cap).run Tryz.prog w=.ok (.func fn first cap) w:=fun _ _ _ _=>rfl
 have hb:=h.lt
 have hF:=fun W hh=>field_up W b ops hh
 have hsz:((strL [120,61,123,43,48,56,46,51,102,58,117,112,125,33])).size=14:=by rw [strL_size];rfl
 have s3:∀ w,(Instr.slice 9 (.string (strL [120,61,123,43,48,56,46,51,102,58,117,112,125,33])) (some (.int .i64 3)) none none).run Tryz.prog w=.ok (.string (strL [43,48,56,46,51,102,58,117,112,125,33])) w:=fun _=>by kernel_rfl
 have hP:∀ W,Calls Tryz.prog 39 #[.string (strL [43,48,56,46,51,102,58,117,112,125,33]),.string ⟨#[123]⟩] W fun x w'=>x=.returned (.bool false)∧w'=W:=fun W=>hasPrefix_l W [43,48,56,46,51,102,58,117,112,125,33] [123]
 have wb120:∀ W l,Lib.IsBuilderF 109 5 (w.heap.size+1) (w.heap.size+1) (Lib.byteCells l) W→l.length≤65536→w.heap.size+1≤W.heap.size→Calls Tryz.prog 38 #[.pointer (some ⟨w.heap.size+1,0,none⟩),.int .u8 120] W fun e w'=>e=.returned .nilIface∧Lib.IsBuilderF 109 5 (w.heap.size+1) (w.heap.size+1) (Lib.byteCells (l++[120])) w'∧Below (w.heap.size+1) W w'∧Lib.OthersKept 5 (some (w.heap.size+1)) W w':=fun W l=>writeOne _ _ l 120 W
 have wb61:∀ W l,Lib.IsBuilderF 109 5 (w.heap.size+1) (w.heap.size+1) (Lib.byteCells l) W→l.length≤65536→w.heap.size+1≤W.heap.size→Calls Tryz.prog 38 #[.pointer (some ⟨w.heap.size+1,0,none⟩),.int .u8 61] W fun e w'=>e=.returned .nilIface∧Lib.IsBuilderF 109 5 (w.heap.size+1) (w.heap.size+1) (Lib.byteCells (l++[61])) w'∧Below (w.heap.size+1) W w'∧Lib.OthersKept 5 (some (w.heap.size+1)) W w':=fun W l=>writeOne _ _ l 61 W
 have wb33:∀ W l,Lib.IsBuilderF 109 5 (w.heap.size+1) (w.heap.size+1) (Lib.byteCells l) W→l.length≤65536→w.heap.size+1≤W.heap.size→Calls Tryz.prog 38 #[.pointer (some ⟨w.heap.size+1,0,none⟩),.int .u8 33] W fun e w'=>e=.returned .nilIface∧Lib.IsBuilderF 109 5 (w.heap.size+1) (w.heap.size+1) (Lib.byteCells (l++[33])) w'∧Below (w.heap.size+1) W w'∧Lib.OthersKept 5 (some (w.heap.size+1)) W w':=fun W l=>writeOne _ _ l 33 W
 have a0:∀ hp:0<((strL [120,61,123,43,48,56,46,51,102,58,117,112,125,33])).size,(((strL [120,61,123,43,48,56,46,51,102,58,117,112,125,33]))[0]'hp).toNat=120:=fun _=>rfl
 have a1:∀ hp:1<((strL [120,61,123,43,48,56,46,51,102,58,117,112,125,33])).size,(((strL [120,61,123,43,48,56,46,51,102,58,117,112,125,33]))[1]'hp).toNat=61:=fun _=>rfl
 have a2:∀ hp:2<((strL [120,61,123,43,48,56,46,51,102,58,117,112,125,33])).size,(((strL [120,61,123,43,48,56,46,51,102,58,117,112,125,33]))[2]'hp).toNat=123:=fun _=>rfl
 have a13:∀ hp:13<((strL [120,61,123,43,48,56,46,51,102,58,117,112,125,33])).size,(((strL [120,61,123,43,48,56,46,51,102,58,117,112,125,33]))[13]'hp).toNat=33:=fun _=>rfl
 generalize (strL [120,61,123,43,48,56,46,51,102,58,117,112,125,33])=S at *
 generalize (strL [43,48,56,46,51,102,58,117,112,125,33])=R at *
 have fA:=(Fr.refl [] w).alloc (.cells #[.slice none 0 0] 68)
 have fB:=(Fr.refl [] (w.alloc (.cells #[.slice none 0 0] 68))).alloc (.cells #[.pointer none,.slice none 0 0] 109)
 have v3:=fB.row (row_new w (.cells #[.slice none 0 0] 68)) (by simp)
 have rB:=row_new (w.alloc (.cells #[.slice none 0 0] 68)) (.cells #[.pointer none,.slice none 0 0] 109)
 rw [World.size_alloc] at rB
 have h:=h.fr (fA.then fB) (by simp)
 have F:=(fA.then fB).mono (T:=[b]) (by simp)
 clear fA fB
 go_enter Tryz.func23,Tryz.ntmps23
 generalize hW:(w.alloc (.cells #[.slice none 0 0] 68)).alloc (.cells #[.pointer none,.slice none 0 0] 109)=WW at *
 have hXs:w.heap.size+1+1≤WW.heap.size:=by rw [← hW];simp
 have hB:=fresh_row rB
 clear rB
 go_wp2_with fail
 refine wp_loop_rounds 5 ?_
 rw [rounds_succ]
 have c0:=h.c0
 have c1:=h.c1
 have z1:=h.z 1 (by omega)
 go_wp2_with fail
 go_region
 simp only [Exit.then]
 go_wp2_with fail
 go_region
 simp only [Exit.then]
 have hB:Lib.IsBuilderF 109 5 (w.heap.size+1) (w.heap.size+1) (Lib.byteCells []) WW.drew.drew:=hB
 have h:=h.drew.drew
 have F:=F.drew.drew
 have v3:WW.drew.drew.heap[w.heap.size]?=_:=v3
 have hXs:w.heap.size+1+1≤WW.drew.drew.heap.size:=hXs
 clear z1 c0 c1
 generalize WW.drew.drew=W1 at *
 have c0:=h.c0
 have c1:=h.c1
 go_wp2_with (go_at_call 38;go_loud (refine (wb120 _ [] hB (by simp) (by omega)).mono ?_;rintro x W2 ⟨rfl,hB2,hb2,hk2⟩;have h2:=h.below hb2 (by omega);have c1b:=h2.c1;have z1b:=h2.z 1 (by omega)))
 have F:=F.belowB hb2 (by omega)
 have v3:=(hb2.block w.heap.size (by omega)).trans v3
 have hXs:=Nat.le_trans hXs hb2.size
 have gS:=(Fr.refl [b] W2).setCell (p:=⟨b,1,none⟩) (.inl (by simp)) (.int .i64 1)
 have h:=h2.set1 1
 have hB:=builder_low (i:=1) hB2 (show b<w.heap.size+1 by omega) (.int .i64 1)
 have F:=F.trans gS (by simp)
 have v3:=gS.row v3 (by simp;omega)
 have hXs:w.heap.size+1+1≤(W2.setCell ⟨b,1,none⟩ (.int .i64 1)).heap.size:=by rw [World.size_setCell];exact hXs
 clear c0 c1 c1b z1b hb2 hk2 hB2 h2 gS
 generalize W2.setCell ⟨b,1,none⟩ (.int .i64 1)=WW at *
 rw [rounds_succ]
 have c0:=h.c0
 have c1:=h.c1
 have z1:=h.z 1 (by omega)
 go_wp2_with fail
 go_region
 simp only [Exit.then]
 go_wp2_with fail
 go_region
 simp only [Exit.then]
 have hB:Lib.IsBuilderF 109 5 (w.heap.size+1) (w.heap.size+1) (Lib.byteCells [120]) WW.drew.drew:=hB
 have h:=h.drew.drew
 have F:=F.drew.drew
 have v3:WW.drew.drew.heap[w.heap.size]?=_:=v3
 have hXs:w.heap.size+1+1≤WW.drew.drew.heap.size:=hXs
 clear z1 c0 c1
 generalize WW.drew.drew=W1 at *
 have c0:=h.c0
 have c1:=h.c1
 go_wp2_with (go_at_call 38;go_loud (refine (wb61 _ [120] hB (by simp) (by omega)).mono ?_;rintro x W2 ⟨rfl,hB2,hb2,hk2⟩;have h2:=h.below hb2 (by omega);have c1b:=h2.c1;have z1b:=h2.z 1 (by omega)))
 have F:=F.belowB hb2 (by omega)
 have v3:=(hb2.block w.heap.size (by omega)).trans v3
 have hXs:=Nat.le_trans hXs hb2.size
 have gS:=(Fr.refl [b] W2).setCell (p:=⟨b,1,none⟩) (.inl (by simp)) (.int .i64 2)
 have h:=h2.set1 2
 have hB:=builder_low (i:=1) hB2 (show b<w.heap.size+1 by omega) (.int .i64 2)
 have F:=F.trans gS (by simp)
 have v3:=gS.row v3 (by simp;omega)
 have hXs:w.heap.size+1+1≤(W2.setCell ⟨b,1,none⟩ (.int .i64 2)).heap.size:=by rw [World.size_setCell];exact hXs
 clear c0 c1 c1b z1b hb2 hk2 hB2 h2 gS
 generalize W2.setCell ⟨b,1,none⟩ (.int .i64 2)=WW at *
 rw [rounds_succ]
 have c0:=h.c0
 have c1:=h.c1
 have z1:=h.z 1 (by omega)
 go_wp2_with fail
 go_region
 simp only [Exit.then]
 go_wp2_with fail
 go_region
 simp only [Exit.then]
 go_wp2_with fail
 have hB:Lib.IsBuilderF 109 5 (w.heap.size+1) (w.heap.size+1) (Lib.byteCells [120,61]) WW.drew.drew:=hB
 have h:=h.drew.drew
 have F:=F.drew.drew
 have v3:WW.drew.drew.heap[w.heap.size]?=_:=v3
 have hXs:w.heap.size+1+1≤WW.drew.drew.heap.size:=hXs
 clear z1 c0 c1
 generalize WW.drew.drew=X at *
 have c0:=h.c0
 have c1:=h.c1
 have hw3:IntKind.i64.wrap 3=3:=rfl
 have fhB:∀ W',Fr [] X W'→Lib.IsBuilderF 109 5 (w.heap.size+1) (w.heap.size+1) (Lib.byteCells [120,61]) W':=by
  intro W' hf
  have H:∀ p,Lib.BuilderAtF 109 5 (w.heap.size+1) (w.heap.size+1) p (Lib.byteCells [120,61]) X→Lib.BuilderAtF 109 5 (w.heap.size+1) (w.heap.size+1) p (Lib.byteCells [120,61]) W':=by
   rintro p ⟨hB,q,hq,ho,hn⟩
   exact⟨hB,q,hf.row hq (by simp),ho.kept (row:=none) ⟨hf.os,hf.tape,hf.output,hf.size,fun j hj _=>hf.block j hj (by simp)⟩ (by cases q.ownBlock <;> simp),hn⟩
  exact hB.elim (fun x=>.inl (H _ x)) (fun x=>.inr (H _ x))
 clear hB
 refine region_mono [] 14 [[],[0],[1],[2],[],[4],[5],[6],[7],[3,8],[],[10],[11],[9,12]] [none,none,none,none,none,none,none,none,none,none,none,none,none,none] (by kernel_rfl) (by kernel_rfl) ?_
 simp only [Chain,fill,Act.put,List.nil_append,List.cons_append,List.take_succ_cons,List.take_zero,List.drop_succ_cons,List.drop_zero,List.setIfInBounds_toArray,List.set_cons_zero,List.set_cons_succ,Nat.reduceAdd]
 iterate 13 (apply Exists.intro;apply And.intro;·intro vs w2 hf hh K hK;have c0:=hf.stayd c0;have c1:=hf.stayd c1;simp only [Held,List.getD_cons_zero,List.getD_cons_succ,Just,and_true] at hh;(try simp only [hh] at hK ⊢);go_simp;exact hK _ _ ⟨rfl,Fr.refl _ _⟩)
 apply Exists.intro;apply And.intro
 ·intro vs w2 hf hh K hK;have c0:=hf.stayd c0;have c1:=hf.stayd c1;simp only [Held,List.getD_cons_zero,List.getD_cons_succ,Just,and_true] at hh;(try simp only [hh] at hK ⊢);go_simp;refine (hP _).mono ?_;rintro e w3 ⟨rfl,hx⟩;exact hK _ _ ⟨rfl,by rw [hx];exact Fr.refl _ _⟩
 intro vs w2 hf hh
 simp only [HeldAll,Just,and_true,Nat.reduceAdd] at hh
 obtain⟨e0,e1,e2,e3,e4,e5,e6,e7,e8,e9,e10,e11,e12,e13⟩:=hh
 simp only [e0,e1,e2,e3,e4,e5,e6,e7,e8,e9,e10,e11,e12,e13]
 clear e0 e1 e2 e3 e4 e5 e6 e7 e8 e9 e10 e11 e12 e13
 clear vs
 have c0:=hf.stayd c0
 have c1:=hf.stayd c1
 have h:=h.drew.fr hf (by simp)
 have F:=F.drew.then hf
 have v3:=hf.row (w:=X.drew) v3 (by simp)
 have hXs:w.heap.size+1+1≤w2.heap.size:=Nat.le_trans hXs hf.size
 have hB:=fhB w2 ((Fr.refl [] X).drew.then hf)
 have c0:=h.c0
 have c1:=h.c1
 have z1:=h.z 1 (by omega)
 clear hf fhB
 have pn:=Pcs.nil (w.heap.size+1+1) w2
 go_wp2_with (first
  | (go_at_call 34;go_loud (refine (flush_some _ _ _ _ _ _ _ hB (by simp) (by simp) v3 pn (by simp) (by omega) (by omega) hXs).mono ?_;rintro x w3 ⟨rfl,g1,cap1,v3,hp,rB,hb3⟩;have h:=h.below hb3 (by omega);have c0:=h.c0;have c1:=h.c1;have z1:=h.z 1 (by omega))))
 have F:=F.belowB hb3 (by omega)
 have hXs:=Nat.le_trans hXs hb3.size
 have gS:=(Fr.refl [b] w3).setCell (p:=⟨b,1,none⟩) (.inl (by simp)) (.int .i64 3)
 have h:=h.set1 3
 have F:=F.trans gS (by simp)
 have v3:=gS.row v3 (by simp;omega)
 have rB:=gS.row rB (by simp;omega)
 have hp:=hp.fr gS (by simp;omega)
 have hXs:w.heap.size+1+1≤(w3.setCell ⟨b,1,none⟩ (.int .i64 3)).heap.size:=by rw [World.size_setCell];exact hXs
 clear hB c0 c1 z1 hb3 pn gS
 generalize w3.setCell ⟨b,1,none⟩ (.int .i64 3)=Y at *
 simp only [List.nil_append,List.length_nil,Nat.zero_add] at v3 hp
 have o3:Y.cell? ⟨w.heap.size,0,none⟩=some (.slice (some ⟨g1,0,none⟩) 1 cap1):=by rw [cell_of_row _ _ 0 _ _ _ v3];rfl
 have hYb:b<Y.heap.size:=h.lt
 refine region_mono_x [b] (fun w w'=>Fr [b] w w') (fun W=>RdAt W b S ((3:Nat):Int) ops 0 0 0) 2 [1] 5 [[],[],[1],[2],[3]] [none,none,some (FdAtK b (.agg #[.int .u8 3,.int .i64 5]) S 13 ops 8 3 3),none,some (Sole (PtrTo b (.iface 117 (.agg #[.int .u8 3,.int .i64 5]))))] (by kernel_rfl) (by kernel_rfl) (fun _ _ h=>h) (fun _ _ h hf=>h.fr hf (by simp)) (h.drew) ?_
 simp only [ChainX,fill,Act.put,List.nil_append,List.cons_append,List.take_succ_cons,List.take_zero,List.drop_succ_cons,List.drop_zero,List.setIfInBounds_toArray,List.set_cons_zero,List.set_cons_succ,Nat.reduceAdd]
 iterate 2 (apply Exists.intro;apply And.intro;·intro vs w2 hf hr hh K hK;have hK:=fun v w9 h=>hK v w9 (Eff.and (by decide) h);have o3:=Fr.staydx hf o3 (by simp <;> omega);simp only [HeldD] at hh;(try simp only [] at hK ⊢);go_simp;exact hK _ _ ⟨rfl,Fr.refl _ _⟩)
 refine⟨⟨FdAtK.lasts _ _ _ _ _ _ _ _,(by first | exact fun _=>by contradiction | exact by contradiction | simp),FdAtK.looks _ _ _ _ _ _ _ _ _⟩,?_,?_⟩
 ·intro vs w2 hf hr hh K hK;have o3:=Fr.staydx hf o3 (by simp <;> omega);simp only [HeldD,Sole,List.getD_cons_zero,List.getD_cons_succ,Just,and_true] at hh;(try simp only [hh] at hK ⊢);go_simp;go_simp;refine (hF _ (hr.out (by decide))).mono ?_;rintro e w6 ⟨rfl,h6,f6⟩;exact hK _ _ ⟨⟨rfl,h6⟩,Eff.loud f6⟩
 apply Exists.intro;apply And.intro
 ·intro vs w2 hf hr hh K hK;have hK:=fun v w9 h=>hK v w9 (Eff.and (by decide) h);have o3:=Fr.staydx hf o3 (by simp <;> omega);simp only [HeldD,List.getD_cons_zero,List.getD_cons_succ,and_true] at hh;(try simp only [] at hK ⊢);obtain⟨hv,-⟩:=hh;simp only [hv] at hK ⊢;go_simp;exact hK _ _ ⟨rfl,Fr.refl _ _⟩
 refine⟨⟨Sole.lasts (PtrTo.lasts _ _),(by first | exact fun _=>Sole.lastsX (PtrTo.lastsX _ _) | exact Sole.lastsX (PtrTo.lastsX _ _)),Sole.looks _ _⟩,?_,?_⟩
 ·intro vs w2 hf hr hh K hK;have hK:=fun v w9 h=>hK v w9 (Eff.and (by decide) h);have o3:=Fr.staydx hf o3 (by simp <;> omega);simp only [HeldD,Sole,List.getD_cons_zero,List.getD_cons_succ,Just,and_true] at hh;(try simp only [hh] at hK ⊢);go_simp;exact hK _ _ ⟨⟨w2.heap.size,rfl,(by have:=hf.size;simp at this;omega),cell_new w2 _ _ _ 0 _ rfl⟩,(Fr.refl [] w2).alloc _⟩
 intro vs w2 hf hh
 simp only [HeldAllD,Sole,Just,and_true,Nat.reduceAdd] at hh
 obtain⟨e0,e1,e2,e3,e4⟩:=hh
 simp only [e0,e1,e3]
 clear e0 e1 e3
 generalize vs 2=v2 at e2 e4 ⊢
 generalize vs 4=v4 at e2 e4 ⊢
 try clear vs
 have o3:=Fr.staydx hf o3 (by simp <;> omega)
 obtain⟨rfl,h⟩:=e2
 obtain⟨g5,rfl,-,hgc⟩:=e4
 have F:=F.drew.trans hf (by simp)
 have v3:=hf.row (w:=Y.drew) v3 (by simp;omega)
 have rB:=hf.row (w:=Y.drew) rB (by simp;omega)
 have hp:=hp.fr ((Fr.refl [b] Y).drew.trans hf (by simp)) (by simp;omega)
 have hXs:w.heap.size+1+1≤w2.heap.size:=by have:=hf.size;simp at this;omega
 clear hf o3
 go_wp2_with (at_builtin;refine wpList_append_pc _ rfl _ _ rfl (w.heap.size+1+1) _ _ rfl hp (by simp) hXs _ _ rfl _ rfl hgc ?_;intro g2 cap2 w9 hp9 g9;have hob:=hp.own;have v3:=(g9.block w.heap.size (by omega) (fun e=>by have:=hob w.heap.size e.symm;omega)).trans v3;have rB:=(g9.block (w.heap.size+1) (by omega) (fun e=>by have:=hob (w.heap.size+1) e.symm;omega)).trans rB;have h:=h.below ((Below.refl (w.heap.size+1+1) w2).grown g9 hXs (fun k e=>(hob k e).1)) (by omega);have F:=F.belowB ((Below.refl (w.heap.size+1+1) w2).grown g9 hXs (fun k e=>(hob k e).1)) (by omega);have hXs:=Nat.le_trans hXs g9.size;have u3:=var_row v3;have o3:=u3.cell;have z3:=u3.frozen)
 simp only [List.length_singleton,Nat.reduceAdd,List.cons_append,List.nil_append] at *
 have gV:=(Fr.refl [w.heap.size] w9).setCell (p:=⟨w.heap.size,0,none⟩) (.inl (by simp)) (.slice (some ⟨g2,0,none⟩) 2 cap2)
 have h:=h.other w.heap.size 0 (.slice (some ⟨g2,0,none⟩) 2 cap2) (by omega)
 have v3:=heap_setCell_same _ _ 0 _ _ (.slice (some ⟨g2,0,none⟩) 2 cap2) v3
 have rB:=gV.row rB (by simp)
 have hp:=hp9.fr gV (by simp;omega)
 have F:=F.setCell (p:=⟨w.heap.size,0,none⟩) (.inr (Nat.le_refl _)) (.slice (some ⟨g2,0,none⟩) 2 cap2)
 have hXs:w.heap.size+1+1≤(w9.setCell ⟨w.heap.size,0,none⟩ (.slice (some ⟨g2,0,none⟩) 2 cap2)).heap.size:=by rw [World.size_setCell];exact hXs
 clear gV o3 z3 u3 hp9 g9 hob hgc hYb
 generalize w9.setCell ⟨w.heap.size,0,none⟩ (.slice (some ⟨g2,0,none⟩) 2 cap2)=WW at *
 have hB:=fresh_row rB
 clear rB
 rw [rounds_succ]
 have c0:=h.c0
 have c1:=h.c1
 have z1:=h.z 1 (by omega)
 go_wp2_with fail
 go_region
 simp only [Exit.then]
 go_wp2_with fail
 go_region
 simp only [Exit.then]
 have hB:Lib.IsBuilderF 109 5 (w.heap.size+1) (w.heap.size+1) (Lib.byteCells []) WW.drew.drew:=hB
 have h:=h.drew.drew
 have F:=F.drew.drew
 have v3:WW.drew.drew.heap[w.heap.size]?=_:=v3
 have hXs:w.heap.size+1+1≤WW.drew.drew.heap.size:=hXs
 have hp:=hp.fr (Fr.refl [] WW).drew.drew (by simp)
 clear z1 c0 c1
 generalize WW.drew.drew=W1 at *
 have c0:=h.c0
 have c1:=h.c1
 go_wp2_with (go_at_call 38;go_loud (refine (wb33 _ [] hB (by simp) (by omega)).mono ?_;rintro x W2 ⟨rfl,hB2,hb2,hk2⟩;have h2:=h.below hb2 (by omega);have c1b:=h2.c1;have z1b:=h2.z 1 (by omega)))
 have F:=F.belowB hb2 (by omega)
 have v3:=(hb2.block w.heap.size (by omega)).trans v3
 have hXs:=Nat.le_trans hXs hb2.size
 have hp:=hp.others hk2 (by omega)
 have gS:=(Fr.refl [b] W2).setCell (p:=⟨b,1,none⟩) (.inl (by simp)) (.int .i64 14)
 have h:=h2.set1 14
 have hB:=builder_low (i:=1) hB2 (show b<w.heap.size+1 by omega) (.int .i64 14)
 have F:=F.trans gS (by simp)
 have v3:=gS.row v3 (by simp;omega)
 have hXs:w.heap.size+1+1≤(W2.setCell ⟨b,1,none⟩ (.int .i64 14)).heap.size:=by rw [World.size_setCell];exact hXs
 have hp:=hp.fr gS (by simp;omega)
 clear c0 c1 c1b z1b hb2 hk2 hB2 h2 gS
 generalize W2.setCell ⟨b,1,none⟩ (.int .i64 14)=WW at *
 rw [rounds_succ]
 have c0:=h.c0
 have c1:=h.c1
 go_wp2_with fail
 go_region
 simp only [Exit.then]
 have hB:Lib.IsBuilderF 109 5 (w.heap.size+1) (w.heap.size+1) (Lib.byteCells [33]) WW.drew:=hB
 have h:=h.drew
 have F:=F.drew
 have v3:WW.drew.heap[w.heap.size]?=_:=v3
 have hXs:w.heap.size+1+1≤WW.drew.heap.size:=hXs
 have hp:=hp.fr (Fr.refl [] WW).drew (by simp)
 generalize WW.drew=W1 at *
 go_wp2_with (first
  | (go_at_call 34;go_loud (refine (flush_some _ _ _ _ _ _ _ hB (by simp) (by simp) v3 hp (by simp) (by omega) (by omega) hXs).mono ?_;rintro x w3 ⟨rfl,g1,cap1,v3,hp,rB,hb3⟩;have h:=h.below hb3 (by omega);have F:=F.belowB hb3 (by omega);have o3:w3.cell? ⟨w.heap.size,0,none⟩=some _:=(by rw [cell_of_row _ _ 0 _ _ _ v3];rfl))))
 go_ret
 exact⟨g1,cap1,rfl,(by have:=(World.ownsRow.lt hp g1 rfl).1;omega),World.ownsRow.cells hp rfl 0 _ rfl,World.ownsRow.cells hp rfl 1 _ rfl,World.ownsRow.cells hp rfl 2 _ rfl,h,F⟩
end Go.Proofs.YtcmndpjemdjalaaGreatDoor
