/- Laws that the claimed theorem leans on: no condition of their own beyond their hypotheses. -/
import Derived.Deep.CutBlock
import Derived.Laws.BitsAllLaws
import Derived.Test.YtcmndpjemdjalaaGreatDoorMaac
set_option maxRecDepth 100000
set_option maxHeartbeats 16000000
namespace Go.Proofs.YtcmndpjemdjalaaGreatDoor
open Go.RowKit
theorem guess_init {q Y U P yl y2 top ul u2 num:Nat} (hY:Y=yl+P * (y2+4294967296 * top)) (hU:U=ul+P * (u2+4294967296 * num)) (hul:ul<P) (hu2:u2<4294967296) (hq:q * Y≤U) (ht:0<top):q≤num / top:=by
 rw [Nat.le_div_iff_mul_le ht]
 rcases Nat.lt_or_ge num (q * top) with h | h
 ·exfalso
  have h1:(num+1) * (4294967296 * P)≤q * top * (4294967296 * P):=Nat.mul_le_mul_right _ h
  have h2:q * Y=q * yl+q * P * y2+q * top * (4294967296 * P):=by rw [hY];grind
  have h3:P * (u2+1)≤P * 4294967296:=Nat.mul_le_mul_left _ (by omega)
  have h4:U=ul+P * u2+num * (4294967296 * P):=by rw [hU];grind
  rw [Nat.mul_add,Nat.mul_one] at h3
  rw [Nat.add_mul,Nat.one_mul] at h1
  omega
 ·exact h
theorem guess_less {q Y U P yl y2 top ul u2 num g r:Nat} (hY:Y=yl+P * (y2+4294967296 * top)) (hU:U=ul+P * (u2+4294967296 * num)) (hul:ul<P) (hq:q * Y≤U) (hg:g * top+r=num) (hc:r * 4294967296+u2<g * y2):q<g:=by
 rcases Nat.lt_or_ge q g with h | h
 ·exact h
 ·exfalso
  have h1:g * Y≤q * Y:=Nat.mul_le_mul_right _ h
  have h2:g * Y=g * yl+P * (g * y2)+P * (4294967296 * (g * top)):=by rw [hY];grind
  have h3:P * (r * 4294967296+u2+1)≤P * (g * y2):=Nat.mul_le_mul_left _ hc
  have h4:P * (r * 4294967296+u2+1)+P * (4294967296 * (g * top))=P * (u2+4294967296 * num)+P:=by rw [← hg];grind
  omega
theorem guess_end {q Y U P yl y2 top ul u2 num g:Nat} (hY:Y=yl+P * (y2+4294967296 * top)) (hU:U=ul+P * (u2+4294967296 * num)) (hyl:yl<P) (hq:U<(q+1) * Y) (hg:g * (y2+4294967296 * top)≤u2+4294967296 * num) (hg2:g≤y2+4294967296 * top+1):g≤q+1:=by
 rcases Nat.lt_or_ge (q+1) g with h | h
 ·exfalso
  obtain⟨g',rfl⟩:∃ g',g=g'+1:=⟨g - 1,by omega⟩
  have h1:(q+1) * Y≤g' * Y:=Nat.mul_le_mul_right _ (by omega)
  have h2:g' * Y=g' * yl+P * (g' * (y2+4294967296 * top)):=by rw [hY];grind
  have h3:g' * yl≤g' * P:=Nat.mul_le_mul_left _ (by omega)
  have h4:P * ((g'+1) * (y2+4294967296 * top))≤P * (u2+4294967296 * num):=Nat.mul_le_mul_left _ hg
  have h5:P * g'≤P * (y2+4294967296 * top):=Nat.mul_le_mul_left _ (by omega)
  have h6:P * ((g'+1) * (y2+4294967296 * top))=P * (g' * (y2+4294967296 * top))+P * (y2+4294967296 * top):=by grind
  have h7:g' * P=P * g':=Nat.mul_comm _ _
  omega
 ·exact h
def part (L:List Nat) (j i:Nat):Nat:=val ((L.drop j).take i)
theorem part_zero (L:List Nat) (j:Nat):part L j 0=0:=by simp [part,val]
theorem part_succ (L:List Nat) (j i:Nat):part L j (i+1)=part L j i+4294967296 ^ i * dg L (j+i):=by
 unfold part;rw [val_take_any,dg_drop]
theorem part_congr {L M:List Nat} {j:Nat}:∀ {i:Nat},(∀ p,j≤p→p<j+i→dg L p=dg M p)→part L j i=part M j i
 | 0,_=>by rw [part_zero,part_zero]
 | i+1,h=>by rw [part_succ,part_succ,part_congr (fun p h1 h2=>h p h1 (by omega)),h (j+i) (by omega) (by omega)]
theorem part_set (L:List Nat) (j i x:Nat) (h:j+i<L.length):part (L.set (j+i) x) j (i+1)=part L j i+4294967296 ^ i * x:=by
 rw [part_succ,dg_set_self _ _ _ h,part_congr (fun p h1 h2=>dg_set_ne L (j+i) p x (by omega))]
theorem part_lt {L:List Nat} (hd:Digs L) (j i:Nat):part L j i<4294967296 ^ i:=by
 have h:=((hd.drop j).take i).lt
 have h2:=Nat.pow_le_pow_right (show 0<4294967296 by omega) (show ((L.drop j).take i).length≤i by rw [List.length_take];omega)
 unfold part;omega
theorem msub_step {F' F G Yi Ui P r g y u c c':Nat} (h:F+g * Yi=Ui+c * P) (hs:F'=F+P * r) (ht:r+g * y+c=u+4294967296 * c') (_:G=G) :
  F'+g * (Yi+P * y)=Ui+P * u+c' * (P * 4294967296):=by
 have h2:P * (r+g * y+c)=P * (u+4294967296 * c'):=by rw [ht]
 simp only [Nat.mul_add] at h2 ⊢
 have e1:g * (P * y)=P * (g * y):=by grind
 have e2:c' * (P * 4294967296)=P * (4294967296 * c'):=by grind
 have e3:c * P=P * c:=Nat.mul_comm _ _
 omega
theorem msub_rel {w wr:World} {g j i n G c b:Nat} {L0 L y:List Nat} {T Pc:Int} (hi:i<n) (hjn:j+n<L.length) (hL:Hid (L.length=L0.length)) (hdL:Digs L) (hown:Own wr g L) (hfr:Fr [g] w wr)
  (hG:G<4294967296) (hc:c<4294967296) (hb:b≤1) (hv:Hid (part L j i+G * val (y.take i)=part L0 j i+(c+b) * 4294967296 ^ i)) (hsame:Hid (∀ p,p<j∨j+i≤p→dg L p=dg L0 p))
  (d1:dg L (j+i)<4294967296) (d2:dg y i<4294967296)
  (hp:Pc=(G:Int) * (dg y i:Int)+(c:Int)) (hT:T=((dg L (j+i):Int) - Pc % 4294967296 - (b:Int)) % 18446744073709551616) :
  ∃ (i' c' b':Nat) (L':List Nat),Value.int .i64 ((i:Int)+1)=.int .i64 i'∧Value.int .u64 (Pc / 4294967296)=.int .u64 c'∧Value.int .u64 (T / 9223372036854775808)=.int .u64 b'∧i'≤n∧c'<4294967296∧b'≤1 ∧
   Hid (L'.length=L0.length)∧Digs L'∧Own (wr.setCell ⟨g,j+i,none⟩ (.int .u32 (T % 4294967296))) g L'∧Fr [g] w (wr.setCell ⟨g,j+i,none⟩ (.int .u32 (T % 4294967296))) ∧
   Hid (part L' j i'+G * val (y.take i')=part L0 j i'+(c'+b') * 4294967296 ^ i')∧Hid (∀ p,p<j∨j+i'≤p→dg L' p=dg L0 p):=by
 have hLl:=hL.out
 have hm:=mul_lt hG d2
 obtain⟨p,hpp⟩:∃ p,p=G * dg y i+c:=⟨_,rfl⟩
 have hpb:p<18446744073709551616:=by omega
 have hPc:Pc=(p:Int):=by rw [hp,hpp];simp
 subst hPc
 have o1:=hown.set (j+i) (T % 4294967296) (by omega)
 have hsd:=hsame.out (j+i) (by omega)
 refine⟨i+1,p / 4294967296,(T / 9223372036854775808).toNat,L.set (j+i) (T % 4294967296).toNat,rfl,by rw [Int.natCast_ediv];rfl,by rw [Int.toNat_of_nonneg (by omega)],by omega,by omega,by omega,Go.Lib.hid (by rw [List.length_set];exact hLl),hdL.set _ _ (by omega),o1,hfr.setCell (.inl (by simp)) _,Go.Lib.hid ?_,Go.Lib.hid ?_⟩
 ·rw [part_succ L0,val_take_any y,Nat.pow_succ,← hsd]
  exact msub_step (G:=G) hv.out (part_set L j i _ (by omega)) (by omega) rfl
 ·intro q hq
  rw [dg_set_ne _ _ _ _ (by omega)];exact hsame.out q (by omega)
theorem madd_step {F' F Yi Fi P r y f c c':Nat} (h:F+c * P=Fi+Yi) (hs:F'=F+P * r) (ht:f+y+c=4294967296 * c'+r):F'+c' * (P * 4294967296)=Fi+P * f+(Yi+P * y):=by grind
theorem madd_rel {w wr:World} {g j i n c:Nat} {L0 L y:List Nat} {T:Int} (hi:i<n) (hjn:j+n<L.length) (hL:Hid (L.length=L0.length)) (hdL:Digs L) (hown:Own wr g L) (hfr:Fr [g] w wr)
  (hc:c≤1) (hv:Hid (part L j i+c * 4294967296 ^ i=part L0 j i+val (y.take i))) (hsame:Hid (∀ p,p<j∨j+i≤p→dg L p=dg L0 p))
  (d1:dg L (j+i)<4294967296) (d2:dg y i<4294967296) (hT:T=(dg L (j+i):Int)+(dg y i:Int)+(c:Int)) :
  ∃ (i' c':Nat) (L':List Nat),Value.int .i64 ((i:Int)+1)=.int .i64 i'∧Value.int .u64 (T / 4294967296)=.int .u64 c'∧i'≤n∧c'≤1 ∧
   Hid (L'.length=L0.length)∧Digs L'∧Own (wr.setCell ⟨g,j+i,none⟩ (.int .u32 (T % 4294967296))) g L'∧Fr [g] w (wr.setCell ⟨g,j+i,none⟩ (.int .u32 (T % 4294967296))) ∧
   Hid (part L' j i'+c' * 4294967296 ^ i'=part L0 j i'+val (y.take i'))∧Hid (∀ p,p<j∨j+i'≤p→dg L' p=dg L0 p):=by
 have hLl:=hL.out
 have hsd:=hsame.out (j+i) (by omega)
 obtain⟨t,ht⟩:∃ t:Nat,t=dg L (j+i)+dg y i+c:=⟨_,rfl⟩
 have hTt:T=(t:Int):=by rw [hT,ht];simp
 subst hTt
 have o1:=hown.set (j+i) ((t:Int) % 4294967296) (by omega)
 have e1:((t:Int) % 4294967296).toNat=t % 4294967296:=by omega
 rw [e1] at o1
 refine⟨i+1,t / 4294967296,_,rfl,by rw [Int.natCast_ediv];rfl,by omega,by omega,Go.Lib.hid (by rw [List.length_set];exact hLl),hdL.set _ _ (by omega),o1,hfr.setCell (.inl (by simp)) _,Go.Lib.hid ?_,Go.Lib.hid ?_⟩
 ·rw [part_succ L0,val_take_any y,Nat.pow_succ,← hsd]
  exact madd_step hv.out (part_set L j i _ (by omega)) (by rw [← ht];exact (Nat.div_add_mod _ _).symm)
 ·intro q hq
  rw [dg_set_ne _ _ _ _ (by omega)];exact hsame.out q (by omega)
theorem fig_yes {U Y Un un F G c q P:Nat} (hU:U=Un+P * un) (hF:F+G * Y=Un+c * P) (_hFP:F<P) (hY:Y<P) (hq:q=U / Y) (hY0:0<Y) (hG1:q≤G) (_:G≤q+1) (hc:c≤un):G=q∧un=c∧F=U % Y:=by
 have h1:U=F+G * Y+P * (un - c):=by
  have:P * un=P * c+P * (un - c):=by rw [← Nat.mul_add,Nat.add_sub_cancel' hc]
  rw [Nat.mul_comm c P] at hF;omega
 have h2:G * Y≤U:=by omega
 have h3:G≤U / Y:=(Nat.le_div_iff_mul_le hY0).2 h2
 have hGq:G=q:=by omega
 have h4:=Nat.div_add_mod U Y
 have h5:=Nat.mod_lt U hY0
 rw [← hq,← hGq,Nat.mul_comm] at h4
 have h6:F+P * (un - c)=U % Y:=by omega
 have h7:un - c=0:=by
  rcases Nat.eq_zero_or_pos (un - c) with h | h
  ·exact h
  ·have:=Nat.mul_le_mul_left P h;omega
 rw [h7] at h6
 exact⟨hGq,by omega,by omega⟩
theorem fig_no {U Y Un un F G c q P F2 c2:Nat} (hU:U=Un+P * un) (hF:F+G * Y=Un+c * P) (hFP:F<P) (hY:Y<P) (hq:q=U / Y) (hY0:0<Y) (hG1:q≤G) (hG2:G≤q+1) (hc:un<c)
  (hF2:F2+c2 * P=F+Y) (hF2P:F2<P) (hc2:c2≤1):G=q+1∧c=un+1∧c2=1∧F2=U % Y:=by
 have h1:U+P * (c - un)=F+G * Y:=by
  have:P * c=P * un+P * (c - un):=by rw [← Nat.mul_add,Nat.add_sub_cancel' (by omega)]
  rw [Nat.mul_comm c P] at hF;omega
 have hP:P≤P * (c - un):=Nat.le_mul_of_pos_right _ (by omega)
 have hGq:G=q+1:=by
  rcases Nat.lt_or_ge q G with h | h
  ·omega
  ·have hGe:G=q:=by omega
   have h4:=Nat.div_mul_le_self U Y
   rw [← hq,← hGe] at h4
   omega
 have h4:=Nat.div_add_mod U Y
 have h5:=Nat.mod_lt U hY0
 rw [← hq,Nat.mul_comm] at h4
 subst hGq
 rw [Nat.add_mul,Nat.one_mul] at h1
 have h6:U % Y+P * (c - un)=F2+c2 * P:=by omega
 have h7:c - un=1:=by
  rcases Nat.lt_or_ge 1 (c - un) with h | h
  ·have:=Nat.mul_le_mul_left P h
   have h8:c2 * P≤1 * P:=Nat.mul_le_mul_right _ hc2
   omega
  ·omega
 rw [h7,Nat.mul_one] at h6
 have h9:c2=1:=by
  rcases Nat.eq_zero_or_pos c2 with h | h
  ·rw [h,Nat.zero_mul] at h6;omega
  ·omega
 rw [h9,Nat.one_mul] at h6
 exact⟨rfl,by omega,h9,by omega⟩
theorem fig_U (L:List Nat) (j m:Nat):part L j (m+3)=part L j m+4294967296 ^ m * (dg L (j+m)+4294967296 * (dg L (j+(m+2)) * 4294967296+dg L (j+(m+1)))):=by
 rw [part_succ,part_succ,part_succ,Nat.pow_succ,Nat.pow_succ];grind
theorem fig_Y (y:List Nat) (m:Nat) (hm:y.length=m+2):val y=val (y.take m)+4294967296 ^ m * (dg y m+4294967296 * dg y (m+1)):=by
 have e:=val_take_any y (m+1)
 rw [take_all y (m+1+1) (by omega),val_take_any y m,Nat.pow_succ] at e
 rw [e];grind
structure FigG (L y:List Nat) (j m q G r:Nat):Prop where
 num:G * dg y (m+1)+r=dg L (j+(m+2)) * 4294967296+dg L (j+(m+1))
 lo:q≤G
 hi:G≤4294967297
 rest:r<4294967296
theorem fig_facts {L y:List Nat} {j m q:Nat} (_hdL:Digs L) (hdy:Digs y) (hm:y.length=m+2) (_htop:2147483648≤dg y (m+1)) (hlt:part L j (m+3)<4294967296 * val y) (hq:q=part L j (m+3) / val y):q * val y≤part L j (m+3)∧part L j (m+3)<(q+1) * val y∧q<4294967296∧0<val y∧dg L (j+(m+2))≤dg y (m+1):=by
 have hY0:0<val y:=by
  rcases Nat.eq_zero_or_pos (val y) with h | h
  ·rw [h] at hlt;omega
  ·exact h
 have h1:=Nat.div_mul_le_self (part L j (m+3)) (val y)
 have h2:=Nat.lt_div_mul_add (a:=part L j (m+3)) hY0
 rw [← hq] at h1 h2
 refine⟨h1,by rw [Nat.add_mul,Nat.one_mul];exact h2,?_,hY0,?_⟩
 ·rw [hq,Nat.div_lt_iff_lt_mul hY0];exact hlt
 ·rcases Nat.lt_or_ge (dg y (m+1)) (dg L (j+(m+2))) with h | h
  ·exfalso
   have e1:=fig_U L j m
   have e2:=fig_Y y m hm
   have b1:=(hdy.take m).lt
   rw [List.length_take,Nat.min_eq_left (by omega)] at b1
   have b2:=dg_lt hdy m
   have h3:=Nat.mul_le_mul_left (4294967296 ^ m) (show dg y m+1≤4294967296 by omega)
   have h4:=Nat.mul_le_mul_left (4294967296 ^ m * 4294967296 * 4294967296) (show dg y (m+1)+1≤dg L (j+(m+2)) by omega)
   have h5:part L j (m+3) ≥ 4294967296 ^ m * 4294967296 * 4294967296 * dg L (j+(m+2)):=by
    have h8:4294967296 ^ m * (dg L (j+m)+4294967296 * (dg L (j+(m+2)) * 4294967296+dg L (j+(m+1))))=4294967296 ^ m * dg L (j+m)+4294967296 ^ m * 4294967296 * 4294967296 * dg L (j+(m+2))+4294967296 ^ m * 4294967296 * dg L (j+(m+1)):=by grind
    rw [e1,h8];omega
   have h6:4294967296 * val y<4294967296 ^ m * 4294967296 * 4294967296 * (dg y (m+1)+1):=by
    have:4294967296 * val y=4294967296 * val (y.take m)+4294967296 * (4294967296 ^ m * dg y m)+4294967296 ^ m * 4294967296 * 4294967296 * dg y (m+1):=by rw [e2];grind
    have h7:4294967296 ^ m * 4294967296 * 4294967296 * (dg y (m+1)+1)=4294967296 ^ m * 4294967296 * 4294967296 * dg y (m+1)+4294967296 ^ m * 4294967296 * 4294967296:=by grind
    rw [Nat.mul_add,Nat.mul_one] at h3
    omega
   omega
  ·exact h
theorem fig_init {L y:List Nat} {j m q:Nat} (hdL:Digs L) (hdy:Digs y) (hm:y.length=m+2) (htop:2147483648≤dg y (m+1)) (hlt:part L j (m+3)<4294967296 * val y) (hq:q=part L j (m+3) / val y):FigG L y j m q ((dg L (j+(m+2)) * 4294967296+dg L (j+(m+1))) / dg y (m+1)) ((dg L (j+(m+2)) * 4294967296+dg L (j+(m+1))) % dg y (m+1)):=by
 obtain⟨f1,f2,f3,f4,f5⟩:=fig_facts hdL hdy hm htop hlt hq
 have d1:=dg_lt hdL (j+(m+1))
 have d2:=dg_lt hdL (j+m)
 have d3:=dg_lt hdy (m+1)
 refine⟨by rw [Nat.mul_comm];exact Nat.div_add_mod _ _,?_,?_,?_⟩
 ·exact guess_init (fig_Y y m hm) (fig_U L j m) (part_lt hdL j m) d2 f1 (by omega)
 ·have h1:dg L (j+(m+2)) * 4294967296≤dg y (m+1) * 4294967296:=Nat.mul_le_mul_right _ f5
  have h2:(dg L (j+(m+2)) * 4294967296+dg L (j+(m+1))) / dg y (m+1)<4294967298:=by
   rw [Nat.div_lt_iff_lt_mul (by omega)];omega
  omega
 ·have:=Nat.mod_lt (dg L (j+(m+2)) * 4294967296+dg L (j+(m+1))) (show 0<dg y (m+1) by omega)
  omega
theorem fig_step {L y:List Nat} {j m q:Nat} (hdL:Digs L) (hdy:Digs y) (hm:y.length=m+2) (htop:2147483648≤dg y (m+1)) (hlt:part L j (m+3)<4294967296 * val y) (hq:q=part L j (m+3) / val y) {G r:Nat} (h:FigG L y j m q G r) (hc:4294967296≤G∨r * 4294967296+dg L (j+m)<G * dg y m) :
  1≤G∧(r+dg y (m+1)<4294967296→FigG L y j m q (G - 1) (r+dg y (m+1)))∧(4294967296≤r+dg y (m+1)→q≤G - 1∧G - 1≤q+1∧G - 1<4294967296):=by
 obtain⟨f1,f2,f3,f4,f5⟩:=fig_facts hdL hdy hm htop hlt hq
 have hlt2:q<G:=by
  rcases hc with hc | hc
  ·omega
  ·exact guess_less (fig_Y y m hm) (fig_U L j m) (part_lt hdL j m) f1 h.num hc
 obtain⟨G',rfl⟩:∃ G',G=G'+1:=⟨G - 1,by omega⟩
 have hn:=h.num
 rw [Nat.add_mul,Nat.one_mul] at hn
 have hn2:G' * dg y (m+1)+(r+dg y (m+1))=dg L (j+(m+2)) * 4294967296+dg L (j+(m+1)):=by omega
 have hhi:=h.hi
 simp only [Nat.add_sub_cancel]
 refine⟨by omega,fun hr=>⟨hn2,by omega,by omega,hr⟩,fun hr=>⟨by omega,?_,?_⟩⟩
 ·have b1:=(hdy.take m).lt
  rw [List.length_take,Nat.min_eq_left (by omega)] at b1
  have b2:=dg_lt hdy m
  refine guess_end (g:=G') (fig_Y y m hm) (fig_U L j m) b1 f2 ?_ (by omega)
  have h1:G' * dg y m≤4294967296 * 4294967295:=Nat.mul_le_mul (by omega) (by omega)
  have h2:G' * (dg y m+4294967296 * dg y (m+1))=G' * dg y m+4294967296 * (G' * dg y (m+1)):=by grind
  omega
 ·have d1:=dg_lt hdL (j+(m+1))
  have h1:dg L (j+(m+2)) * 4294967296≤dg y (m+1) * 4294967296:=Nat.mul_le_mul_right _ f5
  rcases Nat.lt_or_ge G' 4294967296 with h2 | h2
  ·exact h2
  ·have:=Nat.mul_le_mul_right (dg y (m+1)) h2;omega
theorem fig_done {L y:List Nat} {j m q:Nat} (hdL:Digs L) (hdy:Digs y) (hm:y.length=m+2) (htop:2147483648≤dg y (m+1)) (hlt:part L j (m+3)<4294967296 * val y) (hq:q=part L j (m+3) / val y) {G r:Nat} (h:FigG L y j m q G r) (hc:G * dg y m≤r * 4294967296+dg L (j+m)) (hG:G<4294967296):q≤G∧G≤q+1:=by
 obtain⟨f1,f2,f3,f4,f5⟩:=fig_facts hdL hdy hm htop hlt hq
 refine⟨h.lo,?_⟩
 have b1:=(hdy.take m).lt
 rw [List.length_take,Nat.min_eq_left (by omega)] at b1
 have hn:=h.num
 refine guess_end (g:=G) (fig_Y y m hm) (fig_U L j m) b1 f2 ?_ (by omega)
 have h2:G * (dg y m+4294967296 * dg y (m+1))=G * dg y m+4294967296 * (G * dg y (m+1)):=by grind
 omega
theorem fig_no1 {U Y Un un F G c q P:Nat} (hU:U=Un+P * un) (hF:F+G * Y=Un+c * P) (hFP:F<P) (hY:Y<P) (hq:q=U / Y) (_hY0:0<Y) (hG1:q≤G) (hG2:G≤q+1) (hc:un<c):G=q+1∧c=un+1:=by
 have h1:U+P * (c - un)=F+G * Y:=by
  have:P * c=P * un+P * (c - un):=by rw [← Nat.mul_add,Nat.add_sub_cancel' (by omega)]
  rw [Nat.mul_comm c P] at hF;omega
 have hP:P≤P * (c - un):=Nat.le_mul_of_pos_right _ (by omega)
 have h4:=Nat.div_mul_le_self U Y
 rw [← hq] at h4
 have hGq:G=q+1:=by
  rcases Nat.lt_or_ge q G with h | h
  ·omega
  ·have hGe:G=q:=by omega
   rw [← hGe] at h4
   omega
 subst hGq
 rw [Nat.add_mul,Nat.one_mul] at h1
 refine⟨rfl,?_⟩
 rcases Nat.lt_or_ge 1 (c - un) with h | h
 ·have:=Nat.mul_le_mul_left P h;omega
 ·omega
theorem and_mask (x:Int) (h0:0≤x) (h1:x≤18446744073709551615):bits .and .u64 x 4294967295=x % 4294967296:=by
 obtain⟨n,rfl⟩:=Int.eq_ofNat_of_zero_le h0
 have h:=u64_and_nat n 4294967295 (by omega) (by omega)
 rw [show ((4294967295:Nat):Int)=4294967295 from rfl] at h
 rw [h,show (4294967295:Nat)=2 ^ 32 - 1 from rfl,Nat.and_two_pow_sub_one_eq_mod]
 rfl
end Go.Proofs.YtcmndpjemdjalaaGreatDoor
namespace Go.Proofs.YtcmndpjemdjalaaGreatDoor
open Go.RowKit
def Apart (g:Nat) (v:Value):Prop:=∀ p n c,v=.slice (some p) n c→p.block ≠ g
theorem Apart.of_old {w:World} {lo g:Nat} {v:Value} {l:List Nat} (h:U32 w lo v l) (hg:w.heap.size≤g):Apart g v:=by
 intro p n c e
 rcases h.2 with ⟨h',_⟩ | ⟨b,o,cap,cur,fr,hv,hc,hlo,hh,r⟩
 ·rw [h'] at e;cases e
 ·rw [hv] at e;cases e
  have:=(Array.getElem?_eq_some_iff.1 hh).1
  show b ≠ g;omega
theorem U32.grownA {w w':World} {lo g:Nat} {v:Value} {l:List Nat} (h:U32 w lo v l) (hf:Fr [g] w w') (ha:Apart g v):U32 w' lo v l:=by
 refine⟨h.1,h.2.imp id ?_⟩
 rintro ⟨b,o,cap,cur,fr,hv,hc,hlo,hh,r⟩
 exact⟨b,o,cap,cur,fr,hv,hc,hlo,(hf.block b (Array.getElem?_eq_some_iff.1 hh).1 (by simp;exact ha _ _ _ hv)).trans hh,r⟩
theorem part_all (L:List Nat) (k:Nat):part L 0 k=val (L.take k):=by simp [part]
theorem part_split (L:List Nat) (j:Nat):∀ k,part L 0 (j+k)=part L 0 j+4294967296 ^ j * part L j k
 | 0=>by rw [part_zero];simp
 | k+1=>by
  rw [← Nat.add_assoc,part_succ,part_split L j k,part_succ,Nat.zero_add,Nat.pow_add]
  grind
structure DivG (n A D J:Nat) (L Q:List Nat):Prop where
 digL:Digs L
 digQ:Digs Q
 len:L.length=Q.length+n
 le:J≤Q.length
 eq:A=D * (4294967296 ^ J * val (Q.drop J))+part L 0 (J+n)
 lt:part L 0 (J+n)<4294967296 ^ J * D
theorem DivG.fits {n A D J:Nat} {L Q:List Nat} (h:DivG n A D (J+1) L Q):part L J (n+1)<4294967296 * D:=by
 have h1:=h.lt
 have e:J+1+n=J+(n+1):=by omega
 rw [e,part_split,Nat.pow_succ,Nat.mul_assoc] at h1
 have h2:4294967296 ^ J * part L J (n+1)<4294967296 ^ J * (4294967296 * D):=by omega
 exact Nat.lt_of_mul_lt_mul_left h2
theorem DivG.turn {n A D J:Nat} {L Q L':List Nat} (h:DivG n A D (J+1) L Q) (hd:Digs L') (hl:L'.length=L.length) (hlow:∀ p,p<J∨J+n<p→dg L' p=dg L p)
  (hm:part L' J n=part L J (n+1) % D):DivG n A D J L' (Q.set J (part L J (n+1) / D)):=by
 have hfit:=h.fits
 have hD:0<D:=by
  rcases Nat.eq_zero_or_pos D with h0 | h0
  ·rw [h0] at hfit;omega
  ·exact h0
 have hq:part L J (n+1) / D<4294967296:=by rw [Nat.div_lt_iff_lt_mul hD];exact hfit
 have hle:=h.le
 have e0:part L' 0 J=part L 0 J:=part_congr (fun p _ h2=>hlow p (.inl (by omega)))
 have e1:part L' 0 (J+n)=part L 0 J+4294967296 ^ J * (part L J (n+1) % D):=by rw [part_split,e0,hm]
 have e2:J+1+n=J+(n+1):=by omega
 have heq:=h.eq
 have hlt:=h.lt
 rw [e2,part_split] at heq
 have hlowlt:=part_lt h.digL 0 J
 refine⟨hd,h.digQ.set _ _ hq,by rw [hl,List.length_set];exact h.len,by rw [List.length_set];omega,?_,?_⟩
 ·rw [e1,val_drop_one,dg_set_self _ _ _ (by omega)]
  have e3:(Q.set J (part L J (n+1) / D)).drop (J+1)=Q.drop (J+1):=by rw [List.drop_set];simp
  rw [e3,heq]
  have e4:=Nat.div_add_mod (part L J (n+1)) D
  generalize part L J (n+1) / D=q at *
  generalize part L J (n+1) % D=r at *
  rw [← e4,Nat.pow_succ]
  grind
 ·rw [e1]
  have hr:part L J (n+1) % D+1≤D:=Nat.mod_lt _ hD
  have:=Nat.mul_le_mul_left (4294967296 ^ J) hr
  rw [Nat.mul_add,Nat.mul_one] at this
  omega
theorem DivG.done {n A D:Nat} {L Q:List Nat} (h:DivG n A D 0 L Q):val Q=A / D∧val (L.take n)=A % D:=by
 have h1:=h.eq
 have h2:=h.lt
 simp only [Nat.pow_zero,Nat.one_mul,List.drop_zero,Nat.zero_add,part_all] at h1 h2
 have hD:0<D:=by omega
 subst h1
 constructor
 ·rw [Nat.mul_add_div hD,Nat.div_eq_of_lt h2];rfl
 ·rw [Nat.mul_add_mod,Nat.mod_eq_of_lt h2]
theorem DivG.start {n A D k:Nat} {L:List Nat} (hd:Digs L) (hl:L.length=k+n) (hv:val L=A) (hlt:A<4294967296 ^ k * D):DivG n A D k L (List.replicate k 0):=by
 have e:part L 0 (k+n)=A:=by rw [part_all,← hl,List.take_of_length_le (Nat.le_refl _),hv]
 refine⟨hd,Digs.replicate _,by simp [hl],by simp,?_,by rw [e];exact hlt⟩
 rw [e]
 simp [val]
theorem shift_top {y:List Nat} {d m:Nat} (id:Is y d) (hm:y.length=m+2) :
  ∃ s:Nat,s≤31∧(32 - (Go.Lib.bitLen (dg y (m+1)):Int))=(s:Int)∧0<d∧(∀ l,Is l (d * 2 ^ s)→l.length=m+2∧2147483648≤dg l (m+1)):=by
 have hd1:=dg_lt id.digs (m+1)
 have hne:dg y (m+1) ≠ 0:=by
  apply id.norm
  rw [List.getLast?_eq_getElem?,hm,dg_get _ _ (by omega)]
  simp [hm]
 have hb:=bitLen_le32 _ hd1
 have hp:=bitLen_pos hne
 have h1:=bitLen_lo hne
 have h2:=bitLen_hi (dg y (m+1))
 rw [lib_bitLen _ (by omega)]
 have hv:d=part y 0 (m+1)+4294967296 ^ (m+1) * dg y (m+1):=by
  have:=part_succ y 0 (m+1)
  rw [part_all,show m+1+1=y.length from hm.symm,List.take_of_length_le (Nat.le_refl _),id.val,Nat.zero_add] at this
  exact this
 have hl:=part_lt id.digs 0 (m+1)
 obtain⟨k,hk⟩:∃ k,bitLen (dg y (m+1))=k+1:=⟨_,(Nat.sub_add_cancel hp).symm⟩
 rw [hk] at hb h1 h2 ⊢
 simp only [Nat.add_sub_cancel] at h1
 have es:2 ^ k * 2 ^ (31 - k)=2147483648:=by rw [← Nat.pow_add,show k+(31 - k)=31 by omega]
 have e3:0<4294967296 ^ (m+1):=Nat.pow_pos (by omega)
 have hpos:0<2 ^ (31 - k):=Nat.pow_pos (by omega)
 refine⟨31 - k,by omega,by omega,?_,?_⟩
 ·have:0<4294967296 ^ (m+1) * dg y (m+1):=Nat.mul_pos e3 (by omega)
  omega
 ·intro l il
  have hlo:4294967296 ^ (m+1) * 2147483648≤d * 2 ^ (31 - k):=by
   rw [← es,← Nat.mul_assoc]
   apply Nat.mul_le_mul_right
   have:=Nat.mul_le_mul_left (4294967296 ^ (m+1)) h1
   omega
  have hhi:d * 2 ^ (31 - k)<4294967296 ^ (m+2):=by
   have h3:d<4294967296 ^ (m+1) * 2 ^ (k+1):=by
    have:=Nat.mul_le_mul_left (4294967296 ^ (m+1)) (show dg y (m+1)+1≤2 ^ (k+1) from h2)
    rw [Nat.mul_add,Nat.mul_one] at this
    omega
   have h4:=Nat.mul_lt_mul_of_pos_right h3 hpos
   have e6:2 ^ (k+1) * 2 ^ (31 - k)=4294967296:=by rw [Nat.pow_succ,Nat.mul_right_comm,es]
   rw [Nat.mul_assoc,e6] at h4
   rw [Nat.pow_succ _ (m+1)]
   exact h4
  have hlen:=il.len_of hhi
  have hlt:=il.lt
  have e5:l.length=m+2:=by
   rcases Nat.lt_or_ge l.length (m+2) with h | h
   ·have:=Nat.pow_le_pow_right (show 0<4294967296 by omega) (show l.length≤m+1 by omega)
    omega
   ·omega
  refine⟨e5,?_⟩
  have hv2:d * 2 ^ (31 - k)=part l 0 (m+1)+4294967296 ^ (m+1) * dg l (m+1):=by
   have:=part_succ l 0 (m+1)
   rw [part_all,show m+1+1=l.length from e5.symm,List.take_of_length_le (Nat.le_refl _),il.val,Nat.zero_add] at this
   exact this
  have hl2:=part_lt il.digs 0 (m+1)
  rcases Nat.lt_or_ge (dg l (m+1)) 2147483648 with h | h
  ·have:=Nat.mul_le_mul_left (4294967296 ^ (m+1)) (show dg l (m+1)+1≤2147483648 from h)
   rw [Nat.mul_add,Nat.mul_one] at this
   omega
  ·exact h
theorem shift_fits {x y lx:List Nat} {a d m k s:Nat} (ia:Is x a) (id:Is y d) (hm:y.length=m+2) (hk:x.length=k+(m+2)) (hs:s≤31) (ix:Is lx (a * 2 ^ s)) :
  lx.length≤k+(m+3)∧a * 2 ^ s<4294967296 ^ (k+1) * (d * 2 ^ s):=by
 have ha:=ia.lt
 have hd:=id.ge (by omega)
 rw [hk] at ha
 rw [hm] at hd
 have hp:0<2 ^ s:=Nat.pow_pos (by omega)
 have hp2:2 ^ s≤4294967296:=by
  have:=Nat.pow_le_pow_right (show 0<2 by omega) (show s≤32 by omega)
  exact this
 constructor
 ·apply ix.len_of
  rw [show k+(m+3)=(k+(m+2))+1 by omega,Nat.pow_succ]
  exact Nat.lt_of_lt_of_le (Nat.mul_lt_mul_of_pos_right ha hp) (Nat.mul_le_mul_left _ hp2)
 ·rw [← Nat.mul_assoc]
  apply Nat.mul_lt_mul_of_pos_right _ hp
  apply Nat.lt_of_lt_of_le ha
  rw [show k+(m+2)=(k+1)+(m+1) by omega,Nat.pow_add]
  exact Nat.mul_le_mul_left _ hd
end Go.Proofs.YtcmndpjemdjalaaGreatDoor
namespace Go.Proofs.YtcmndpjemdjalaaGreatDoor.Pb
open Go.RowKit
theorem figure_any (w:World) (g j lo cap m:Nat) (u:Value) (L y:List Nat) (hown:Own w g L) (hdL:Digs L) (hy:U32 w lo u y) (hlo:Apart g u) (hm:y.length=m+2) (hb:L.length≤4294967296) (hj:j+m+2<L.length)
  (htop:2147483648≤dg y (m+1)) (hlt:part L j (m+3)<4294967296 * val y) :
  Calls Tryz.prog 280 #[.slice (some ⟨g,j,none⟩) (m+3) cap,u] w fun e w'=>∃ L',e=.returned (.int .u32 ((part L j (m+3) / val y:Nat):Int))∧Own w' g L'∧Digs L'∧L'.length=L.length ∧
   (∀ p,p<j∨j+m+2<p→dg L' p=dg L p)∧part L' j (m+2)=part L j (m+3) % val y∧dg L' (j+m+2)=0∧Fr [g] w w':=by
 have hdy:=hy.digs
 have Hy:=Go.Lib.hid hy
 obtain⟨ao2,cap2,rfl,hcap2,hc2⟩:=hy.shape
 obtain⟨b2,o2,rfl,hbw2,-⟩:=hc2 0 (by omega)
 have cy:∀ (W:World),Fr [g] w W→∀ i,i<m+2→W.cell? ⟨b2,o2+i,none⟩=some (.int .u32 (dg y i:Nat)):=fun W hW i hi=>by
  obtain⟨ao3,cap3,hs3,_,hc3⟩:=((Hy.out).grownA hW hlo).shape
  obtain⟨b3,o3,hbo,_,hcell⟩:=hc3 i (by omega)
  simp only [Value.slice.injEq,true_and] at hs3
  obtain⟨h3,_⟩:=hs3
  rw [hbo] at h3
  simp only [Option.some.injEq,Addr.mk.injEq,and_true] at h3
  obtain⟨rfl,rfl⟩:=h3
  exact hcell
 have Cy:=Go.Lib.hid cy;clear cy hc2 hy
 have Hm:=Go.Lib.hid hm
 rw [hm]
 clear hm
 obtain⟨q,hq⟩:∃ q,q=part L j (m+3) / val y:=⟨_,rfl⟩
 have Hq:=Go.Lib.hid hq
 rw [← hq]
 clear hq
 have Hlt:=Go.Lib.hid hlt;clear hlt
 have Htop:=Go.Lib.hid htop
 have d0:=dg_lt hdL (j+(m+2))
 have d1:=dg_lt hdL (j+(m+1))
 have d2:=dg_lt hdL (j+m)
 have e1:=dg_lt hdy (m+1)
 have e2:=dg_lt hdy m
 have c0:=hown.cell (j+(m+2)) (by omega)
 have c1:=hown.cell (j+(m+1)) (by omega)
 have c2:=Cy.out w (Fr.refl _ _) (m+1) (by omega)
 have hor:=or64i (dg L (j+(m+2))) (dg L (j+(m+1))) d0 d1
 have i1:(m:Int)+1<(m:Int)+3:=by omega
 have i2:(m:Int)+2<(m:Int)+3:=by omega
 have i3:(m:Int)+1<(m:Int)+2:=by omega
 go_enter Tryz.func280,Tryz.ntmps280
 go_wp2
 go_quiet (fail)
 go_upto_block 0 with (fail)
 clear hor c0 c1 c2
 go_cut [8,9] (fun s8 s9 wc=>∃ G:Nat,s8=.int .u64 G∧q≤G∧G≤q+1∧G<4294967296∧Fr [] w wc)
 case first =>
  go_wp2
  go_loopw [8,9] (fun s8 s9 wr=>∃ G r:Nat,s8=.int .u64 G∧s9=.int .u64 r∧FigG L y j m q G r∧Fr [] w wr)
   (fun s8 _ _=>(intOf s8).toNat)
  case atStart=>exact⟨_,_,by rw [Int.natCast_ediv];rfl,by rw [Int.natCast_emod];rfl,fig_init hdL hdy Hm.out Htop.out Hlt.out Hq.out,(Fr.refl _ _).drewN _⟩
  case round =>
   obtain⟨G,r,rfl,rfl,hG,hfr⟩:=hrel
   have hst:=fun hc=>fig_step hdL hdy Hm.out Htop.out Hlt.out Hq.out hG hc
   have hdn:=fun hc h=>fig_done hdL hdy Hm.out Htop.out Hlt.out Hq.out hG hc h
   have g1:=hG.hi
   have g2:=hG.rest
   have HG:=Go.Lib.hid hG;clear hG
   have Hst:=Go.Lib.hid hst;clear hst
   have Hdn:=Go.Lib.hid hdn;clear hdn
   by_cases hB:4294967296≤G
   ·have hB1:(4294967296:Int)≤(G:Int):=by omega
    have hB2:decide ((4294967296:Int)≤(G:Int))=true:=by simp;omega
    obtain⟨s1,s2,s3⟩:=Hst.out (.inl hB)
    clear hB hB2
    have S2:=Go.Lib.hid s2;clear s2
    have S3:=Go.Lib.hid s3;clear s3
    by_cases hR:r+dg y (m+1)<4294967296
    ·have hR1:¬ (4294967296:Int)≤(r:Int)+(dg y (m+1):Int):=by omega
     have hR2:decide ((4294967296:Int)≤(r:Int)+(dg y (m+1):Int))=false:=by simp;omega
     have HR:=Go.Lib.hid hR;clear hR
     go_wp2
     go_quiet (fail)
     go_wp2
     refine⟨?_,?measure⟩
     iterate 31 apply Exists.intro
     refine⟨?rel,rfl⟩
     case rel=>exact⟨G - 1,r+dg y (m+1),by congr 1;omega,by simp,S2.out HR.out,hfr.drewN _⟩
     case measure=>simp [intOf];omega
    ·have hR1:(4294967296:Int)≤(r:Int)+(dg y (m+1):Int):=by omega
     have hR2:decide ((4294967296:Int)≤(r:Int)+(dg y (m+1):Int))=true:=by simp;omega
     have s4:=Go.Lib.hid (S3.out (by omega));clear hR
     go_wp2
     go_quiet (fail)
     go_wp2
     go_meet
     case rel=>exact⟨G - 1,by congr 1;omega,s4.out.1,s4.out.2.1,s4.out.2.2,hfr.drewN _⟩
   ·have hB1:¬ (4294967296:Int)≤(G:Int):=by omega
    have hB2:decide ((4294967296:Int)≤(G:Int))=false:=by simp;omega
    have k2:=hown.fr hfr (by simp)
    have c3:=k2.cell (j+m) (by omega)
    have c4:=Cy.out _ (hfr.mono (T:=[g]) (by simp)) m (by omega)
    clear k2 hB
    have hor2:=or64i r (dg L (j+m)) g2 d2
    obtain⟨m0,m1⟩:=mul_ltI (a:=G) (b:=dg y m) (by omega) e2
    have p1:IntKind.u64.wrap ((G:Int) * (dg y m:Int))=(G:Int) * (dg y m:Int):=IntWalk.u64_in _ (by omega)
    have i4:(m:Int)<(m:Int)+3:=by omega
    have i5:(m:Int)<(m:Int)+2:=by omega
    by_cases hC:r * 4294967296+dg L (j+m)<G * dg y m
    ·have hC1:(r:Int) * 4294967296+(dg L (j+m):Int)<(G:Int) * (dg y m:Int):=by have:=Int.ofNat_lt.2 hC;simpa using this
     have hC2:decide ((r:Int) * 4294967296+(dg L (j+m):Int)<(G:Int) * (dg y m:Int))=true:=decide_eq_true hC1
     obtain⟨s1,s2,s3⟩:=Hst.out (.inr hC)
     clear hC
     have S2:=Go.Lib.hid s2;clear s2
     have S3:=Go.Lib.hid s3;clear s3
     by_cases hR:r+dg y (m+1)<4294967296
     ·have hR1:¬ (4294967296:Int)≤(r:Int)+(dg y (m+1):Int):=by omega
      have hR2:decide ((4294967296:Int)≤(r:Int)+(dg y (m+1):Int))=false:=by simp;omega
      have HR:=Go.Lib.hid hR;clear hR
      go_wp2
      go_quiet (fail)
      go_wp2
      refine⟨?_,?measure⟩
      iterate 31 apply Exists.intro
      refine⟨?rel,rfl⟩
      case rel=>exact⟨G - 1,r+dg y (m+1),by congr 1;omega,by simp,S2.out HR.out,hfr.drewN _⟩
      case measure=>simp [intOf];omega
     ·have hR1:(4294967296:Int)≤(r:Int)+(dg y (m+1):Int):=by omega
      have hR2:decide ((4294967296:Int)≤(r:Int)+(dg y (m+1):Int))=true:=by simp;omega
      have s4:=Go.Lib.hid (S3.out (by omega));clear hR
      go_wp2
      go_quiet (fail)
      go_wp2
      go_meet
      case rel=>exact⟨G - 1,by congr 1;omega,s4.out.1,s4.out.2.1,s4.out.2.2,hfr.drewN _⟩
    ·have hC1:¬ (r:Int) * 4294967296+(dg L (j+m):Int)<(G:Int) * (dg y m:Int):=by
      intro h
      apply hC
      have h2:(((r * 4294967296+dg L (j+m):Nat)):Int)<((G * dg y m:Nat):Int):=by simpa using h
      exact Int.ofNat_lt.1 h2
     have hC2:decide ((r:Int) * 4294967296+(dg L (j+m):Int)<(G:Int) * (dg y m:Int))=false:=decide_eq_false hC1
     have HC:=Go.Lib.hid hC;clear hC
     go_wp2
     go_quiet (fail)
     go_wp2
     go_meet
     case rel=>exact⟨G,rfl,(Hdn.out (by have:=HC.out;omega) (by omega)).1,(Hdn.out (by have:=HC.out;omega) (by omega)).2,by omega,hfr.drewN _⟩
 case rest =>
  obtain⟨G,rfl,q1,q2,hG,hfr0⟩:=hcut
  have hown0:=hown.fr hfr0 (by simp)
  have hf0:=hfr0.mono (T:=[g]) (by simp)
  clear hown hfr0
  go_wp2
  go_loopw [10,11,12] (fun s10 s11 s12 wr=>∃ (i c b:Nat) (M:List Nat),s12=.int .i64 i∧s10=.int .u64 c∧s11=.int .u64 b∧i≤m+2∧c<4294967296∧b≤1∧Hid (M.length=L.length)∧Digs M∧Own wr g M∧Fr [g] w wr ∧
    Hid (part M j i+G * val (y.take i)=part L j i+(c+b) * 4294967296 ^ i)∧Hid (∀ p,p<j∨j+i≤p→dg M p=dg L p))
   (fun _ _ s12 _=>m+2 - (intOf s12).toNat)
  case atStart=>exact⟨0,0,0,L,rfl,rfl,rfl,Nat.zero_le _,by omega,by omega,Go.Lib.hid rfl,hdL,hown0,hf0,Go.Lib.hid (by simp [part,val]),Go.Lib.hid (fun _ _=>rfl)⟩
  case round =>
   obtain⟨i,c,b,M,rfl,rfl,rfl,hi,hc,hb1,hM,hdM,hownr,hfr,hv,hsame⟩:=hrel
   clear hown0 hf0
   by_cases hlti:i<m+2
   ·have hcx:=hownr.cell (j+i) (by rw [hM.out];omega)
    have hfx:=hownr.free (j+i)
    have hcy:=Cy.out _ hfr i hlti
    have b1:=dg_lt hdM (j+i)
    have b2':=dg_lt hdy i
    obtain⟨m0,m1⟩:=mul_ltI (a:=G) (b:=dg y i) hG b2'
    have hand:=and_mask ((G:Int) * (dg y i:Int)+(c:Int)) (by omega) (by omega)
    go_wp2
    go_roundw
    case rel=>exact msub_rel (n:=m+2) hlti (by rw [hM.out];omega) hM hdM hownr hfr hG hc hb1 hv hsame b1 b2' rfl (by simp only [IntKind.wrap_u64];omega)
    case measure=>simp [intOf];omega
   ·obtain rfl:i=m+2:=by omega
    have hcx:=hownr.cell (j+(m+2)) (by rw [hM.out];omega)
    have hfx:=hownr.free (j+(m+2))
    have hun:dg M (j+(m+2))=dg L (j+(m+2)):=hsame.out _ (by omega)
    have HU:=part_succ L j (m+2)
    have HFP:=part_lt hdM j (m+2)
    have HYP:=hdy.lt
    rw [Hm.out] at HYP
    have HV:=hv.out
    rw [take_all y (m+2) (by rw [Hm.out];exact Nat.le_refl _)] at HV
    obtain⟨f1,f2,f3,f4,f5⟩:=fig_facts hdL hdy Hm.out Htop.out Hlt.out Hq.out
    rw [hun] at hcx
    by_cases hge:c+b≤dg L (j+(m+2))
    ·have hY:=Go.Lib.hid (fig_yes HU HV HFP HYP Hq.out f4 q1 q2 hge)
     clear HU HFP HYP HV f1 f2
     go_wp2
     go_ret
     have ho:=hownr.set (j+(m+2)) ((dg L (j+(m+2)):Int) - c - b) (by omega)
     obtain⟨y1,y2,y3⟩:=hY.out
     have e0:((dg L (j+(m+2)):Int) - c - b).toNat=0:=by omega
     rw [e0] at ho
     have hl:=hM.out
     refine⟨M.set (j+(m+2)) 0,ret_int (by rw [y1]),ho,hdM.set _ _ (by omega),by rw [List.length_set];exact hl,?_,?_,?_,hfr.setCell (.inl (by simp)) _⟩
     ·intro p hp
      rw [dg_set_ne _ _ _ _ (by omega)];exact hsame.out p (by omega)
     ·rw [part_congr (M:=M) (fun p h1 h2=>dg_set_ne M (j+(m+2)) p 0 (by omega))];exact y3
     ·exact dg_set_self M (j+(m+2)) 0 (by omega)
    ·have hN:=fig_no1 HU HV HFP HYP Hq.out f4 q1 q2 (by omega)
     have HN:=Go.Lib.hid hN
     have hw:IntKind.u64.wrap (IntKind.u64.wrap ((dg L (j+(m+2)):Int) - (c:Int)) - (b:Int))=18446744073709551615:=by simp only [IntKind.wrap_u64];omega
     have HVh:=Go.Lib.hid HV
     have HUh:=Go.Lib.hid HU
     have HFPh:=Go.Lib.hid HFP
     have HYPh:=Go.Lib.hid HYP
     clear HU HFP HYP HV f1 f2 hN
     have ho:=hownr.set (j+(m+2)) (4294967295:Int) (by omega)
     have hd1:=hdM.set (j+(m+2)) 4294967295 (by omega)
     have hf1:=hfr.setCell (p:=⟨g,j+(m+2),none⟩) (.inl (by simp)) (.int .u32 4294967295)
     have hM1:(M.set (j+(m+2)) 4294967295).length=L.length:=by rw [List.length_set];exact hM.out
     have hF1:part (M.set (j+(m+2)) 4294967295) j (m+2)=part M j (m+2):=part_congr (fun p h1 h2=>dg_set_ne M (j+(m+2)) p 4294967295 (by omega))
     have hs1:∀ p,p ≠ j+(m+2)→dg (M.set (j+(m+2)) 4294967295) p=dg M p:=fun p hp=>dg_set_ne M (j+(m+2)) p _ (by omega)
     have ht1:dg (M.set (j+(m+2)) 4294967295) (j+(m+2))=4294967295:=dg_set_self M _ _ (by rw [hM.out];omega)
     have e429:(4294967295:Int).toNat=4294967295:=rfl
     rw [e429] at ho
     generalize M.set (j+(m+2)) 4294967295=M1 at *
     have HM1:=Go.Lib.hid hM1;clear hM1
     have HF1:=Go.Lib.hid hF1;clear hF1
     have Hs1:=Go.Lib.hid hs1;clear hs1
     have Ht1:=Go.Lib.hid ht1;clear ht1 e429
     have Hun:=Go.Lib.hid hun;clear hun
     go_wp2
     clear hw hcx hfx
     obtain⟨wo,hwo⟩:∃ wo:World,wo=wr.setCell ⟨g,j+(m+2),none⟩ (.int .u32 4294967295):=⟨_,rfl⟩
     rw [← hwo] at ho hf1 ⊢
     clear hwo hfr hownr
     go_loopw [16,17] (fun s16 s17 wr=>∃ (i c2:Nat) (K:List Nat),s17=.int .i64 i∧s16=.int .u64 c2∧i≤m+2∧c2≤1∧Hid (K.length=M1.length)∧Digs K∧Own wr g K∧Fr [g] w wr ∧
       Hid (part K j i+c2 * 4294967296 ^ i=part M1 j i+val (y.take i))∧Hid (∀ p,p<j∨j+i≤p→dg K p=dg M1 p))
      (fun _ s17 _=>m+2 - (intOf s17).toNat)
     case atStart=>exact⟨0,0,M1,rfl,rfl,Nat.zero_le _,by omega,Go.Lib.hid rfl,hd1,ho,hf1,Go.Lib.hid (by simp [part,val]),Go.Lib.hid (fun _ _=>rfl)⟩
     case round =>
      obtain⟨i,c2,K,rfl,rfl,hi2,hc2,hK,hdK,hownk,hfk,hvk,hsk⟩:=hrel
      clear ho hf1
      by_cases hlt3:i<m+2
      ·have hcx:=hownk.cell (j+i) (by rw [hK.out,HM1.out];omega)
       have hfx:=hownk.free (j+i)
       have hcy:=Cy.out _ hfk i hlt3
       have b1:=dg_lt hdK (j+i)
       have b2':=dg_lt hdy i
       have j1:(i:Int)<(m:Int)+3:=by omega
       have j2:(i:Int)<(m:Int)+2:=by omega
       have w1:IntKind.u64.wrap ((dg K (j+i):Int)+(dg y i:Int))=(dg K (j+i):Int)+(dg y i:Int):=IntWalk.u64_in _ (by omega)
       have w2:IntKind.u64.wrap ((dg K (j+i):Int)+(dg y i:Int)+(c2:Int))=(dg K (j+i):Int)+(dg y i:Int)+(c2:Int):=IntWalk.u64_in _ (by omega)
       go_wp2
       go_quiet (fail)
       go_wp2
       go_roundw
       case rel=>exact madd_rel (wr:=wr.drewN _) (n:=m+2) hlt3 (by rw [hK.out,HM1.out];omega) hK hdK hownk (hfk.drewN _) hc2 hvk hsk b1 b2' rfl
       case measure=>simp [intOf];omega
      ·obtain rfl:i=m+2:=by omega
       have hcx:=hownk.cell (j+(m+2)) (by rw [hK.out,HM1.out];omega)
       have hfx:=hownk.free (j+(m+2))
       have hkn:dg K (j+(m+2))=4294967295:=by rw [hsk.out _ (by omega)];exact Ht1.out
       rw [hkn] at hcx
       have HVK:=hvk.out
       rw [take_all y (m+2) (by rw [Hm.out];exact Nat.le_refl _),HF1.out] at HVK
       have hY:=fig_no HUh.out HVh.out HFPh.out HYPh.out Hq.out f4 q1 q2 (by omega) HVK (part_lt hdK j (m+2)) hc2
       obtain⟨y1,y2,y3,y4⟩:=hY
       subst y3
       have ho2:=hownk.set (j+(m+2)) (0:Int) (by omega)
       have HY1:=Go.Lib.hid y1
       have HY4:=Go.Lib.hid y4
       have hg1:1≤G:=by omega
       clear y1 y2 y4 HVK hkn
       have hw2:IntKind.u32.wrap ((4294967295:Int)+1)=0:=by rfl
       go_wp2
       go_ret
       have hl:=hK.out
       have hl1:=HM1.out
       refine⟨K.set (j+(m+2)) 0,ret_int (by have:=HY1.out;omega),ho2,hdK.set _ _ (by omega),by rw [List.length_set,hl];exact hl1,?_,?_,?_,hfk.setCell (.inl (by simp)) _⟩
       ·intro p hp
        rw [dg_set_ne _ _ _ _ (by omega),hsk.out p (by omega),Hs1.out p (by omega)];exact hsame.out p (by omega)
       ·rw [part_congr (M:=K) (fun p h1 h2=>dg_set_ne K (j+(m+2)) p 0 (by omega))];exact HY4.out
       ·exact dg_set_self K (j+(m+2)) 0 (by omega)
end Go.Proofs.YtcmndpjemdjalaaGreatDoor.Pb
namespace Go.Proofs.YtcmndpjemdjalaaGreatDoor.Pb
open Go.RowKit
theorem div_less (w:World) (lo lo2:Nat) (v u:Value) (x y:List Nat) (a d:Nat) (hx:U32 w lo v x) (hy:U32 w lo2 u y) (ia:Is x a) (id:Is y d) (hnx:x.length≤1073741824) (hny:y.length≤1073741824) (hlt:a<d) :
  Calls Tryz.prog 257 #[v,u] w fun e w'=>∃ q r l m,e=.returned (.tuple #[q,r])∧U32 w' w.heap.size q l∧U32 w' w.heap.size r m∧Is l (a / d)∧Is m (a % d)∧Fr [] w w':=by
 have H:=Go.Lib.hid (cmpI_lt hlt)
 have hd0:a / d=0:=Nat.div_eq_of_lt hlt
 have hm0:a % d=a:=Nat.mod_eq_of_lt hlt
 rw [hd0,hm0]
 clear hd0 hm0
 go_enter Tryz.func257,Tryz.ntmps257
 go_wp2_with fail
 refine (cmpWords_any _ lo lo2 _ _ x y a d hx hy ia id (by omega) (by omega)).mono ?_
 rintro e w1 ⟨rfl,f1⟩
 rw [H.out]
 have hx1:=hx.fr0 f1
 go_wp2_with fail
 refine (copied_any _ lo _ x hx1 (by omega)).mono ?_
 rintro e w2 ⟨v2,rfl,u2,f2⟩
 go_wp2
 go_ret2
 exact⟨_,_,[],x,rfl,U32.nil _ _,u2.mono f1.size,Is.nil,ia,f1.then f2⟩
theorem Own.one (w:World) (x:Nat):Own (w.alloc (.cells #[.int .u32 (x:Int)] 208)) w.heap.size [x]:=by
 unfold Own
 rw [heap_alloc_new]
 simp [u32s]
theorem div_one (w:World) (lo lo2:Nat) (v u:Value) (x y:List Nat) (a d:Nat) (hx:U32 w lo v x) (hy:U32 w lo2 u y) (ia:Is x a) (id:Is y d) (hnx:x.length≤1073741824) (hge:d≤a) (h1:y.length=1) :
  Calls Tryz.prog 257 #[v,u] w fun e w'=>∃ q r l m,e=.returned (.tuple #[q,r])∧U32 w' w.heap.size q l∧U32 w' w.heap.size r m∧Is l (a / d)∧Is m (a % d)∧Fr [] w w':=by
 have hcmp:0≤cmpI a d:=by unfold cmpI;split <;> (try split) <;> omega
 obtain⟨d0,rfl⟩:∃ d0,y=[d0]:=by
  cases y with
  | nil=>simp at h1
  | cons z t=>cases t with
   | nil=>exact⟨z,rfl⟩
   | cons _ _=>simp at h1
 have hdv:d=d0:=by rw [← id.val];simp [val]
 subst hdv
 have hdb:=id.digs.head
 have hdp:0<d:=by have:=id.norm d (by simp);omega
 have hdx:=hx.digs
 have Hy:=Go.Lib.hid hy
 obtain⟨ao2,cap2,rfl,hcap2,hc2⟩:=hy.shape
 obtain⟨b2,o2,rfl,hbw2,hcell⟩:=hc2 0 (by simp)
 clear hc2 hy h1
 simp only [Nat.add_zero] at hcell
 have ed:dg [d] 0=d:=rfl
 rw [ed] at hcell
 have Iav:=Go.Lib.hid ia.val
 go_enter Tryz.func257,Tryz.ntmps257
 go_wp2_with fail
 refine (cmpWords_any _ lo lo2 _ _ x [d] a d hx Hy.out ia id (by omega) (by simp)).mono ?_
 rintro e w1 ⟨rfl,f1⟩
 have hx1:=hx.fr0 f1
 have hcell1:=(f1.cell (p:=⟨b2,o2,none⟩) hbw2 (by simp)).trans hcell
 generalize cmpI a d=cc at *
 have hncc:¬ cc<0:=by omega
 go_wp2_with fail
 refine (divSmall_any _ lo _ x d hx1 (by omega) hdp hdb).mono ?_
 rintro e w2 ⟨v2,l2,rfl,u2,i2,f2⟩
 rw [Iav.out] at i2 ⊢
 have hr:a % d<4294967296:=Nat.lt_trans (Nat.mod_lt _ hdp) hdb
 have hu:=(Own.one w2 (a % d)).all (lo:=w2.heap.size) (Digs.nil.cons hr) (Nat.le_refl _)
 have hv1:val [a % d]=a % d:=by simp [val]
 go_wp2_with fail
 refine (trim_any _ w2.heap.size _ [a % d] hu (by simp)).mono ?_
 rintro e w3 ⟨v3,l3,rfl,u3,i3,-,rfl⟩
 rw [hv1] at i3
 go_wp2
 go_ret2
 exact⟨_,_,l2,l3,rfl,(u2.fr0 ((Fr.refl [] w2).alloc _)).mono f1.size,u3.mono (Nat.le_trans f1.size f2.size),i2,i3,(f1.then f2).alloc _⟩
end Go.Proofs.YtcmndpjemdjalaaGreatDoor.Pb
namespace Go.Proofs.YtcmndpjemdjalaaGreatDoor.Pb
open Go.RowKit
theorem div_many (w:World) (lo lo2:Nat) (v u:Value) (x y:List Nat) (a d m:Nat) (hx:U32 w lo v x) (hy:U32 w lo2 u y) (ia:Is x a) (id:Is y d) (hnx:x.length≤1073741824) (hge:d≤a) (hm:y.length=m+2) :
  Calls Tryz.prog 257 #[v,u] w fun e w'=>∃ q r l k,e=.returned (.tuple #[q,r])∧U32 w' w.heap.size q l∧U32 w' w.heap.size r k∧Is l (a / d)∧Is k (a % d)∧Fr [] w w':=by
 have hcmp:0≤cmpI a d:=by unfold cmpI;split <;> (try split) <;> omega
 have hxy:y.length≤x.length:=id.len_le ia hge
 have hdx:=hx.digs
 have hdy:=hy.digs
 obtain⟨s,hs,hsv,hd0,hTop⟩:=shift_top id hm
 have HTop:=Go.Lib.hid hTop;clear hTop
 obtain⟨k,hk⟩:∃ k,x.length=k+(m+2):=⟨x.length - (m+2),by omega⟩
 have hFits:=fun lx ix=>shift_fits (lx:=lx) ia id hm hk hs ix
 have HFits:=Go.Lib.hid hFits;clear hFits
 have hd1:=dg_lt hdy (m+1)
 have Hx:=Go.Lib.hid hx
 have Hy:=Go.Lib.hid hy
 obtain⟨ao,cap,rfl,hcap,-⟩:=hx.shape
 obtain⟨ao2,cap2,rfl,hcap2,hc2⟩:=hy.shape
 obtain⟨b2,o2,rfl,hbw2,hcell⟩:=hc2 (m+1) (by omega)
 clear hc2 hx hy
 have Iav:=Go.Lib.hid ia
 have Idv:=Go.Lib.hid id
 have Hm:=Go.Lib.hid hm
 have Hk:=Go.Lib.hid hk
 rw [hm] at Hy hcap2 ⊢
 rw [hk] at Hx hcap hnx ⊢
 clear ia id hm hk
 go_enter Tryz.func257,Tryz.ntmps257
 go_wp2_with fail
 refine (cmpWords_any _ lo lo2 _ _ x y a d Hx.out Hy.out Iav.out Idv.out (by rw [Hk.out];omega) (by rw [Hm.out];omega)).mono ?_
 rintro e w1 ⟨rfl,f1⟩
 have hcell1:=(f1.cell (p:=⟨b2,o2+(m+1),none⟩) hbw2 (by simp)).trans hcell
 generalize cmpI a d=cc at *
 have hncc:¬ cc<0:=by omega
 have hm2:(((m+2:Nat):Int)==1)=false:=by simp;omega
 have em:(((m+2:Nat):Int) - 1)=((m+1:Nat):Int):=by omega
 have hx1:=Hx.out.fr0 f1
 have hy1:=Hy.out.fr0 f1
 go_wp2_with fail
 refine (Tryz.bits_LeadingZeros32 _ _ (by omega) (by omega)).mono ?_
 rintro e w1' ⟨rfl,rfl⟩
 have hsv2:(32 - (Go.Lib.bitLen (dg y (m+1):Int).toNat:Int))=(s:Int):=by rw [Int.toNat_natCast];exact hsv
 rw [hsv2]
 go_wp2_with fail
 refine (up_any _ lo2 _ y s hy1 (by rw [Hm.out];omega) (by omega)).mono ?_
 rintro e w2 ⟨v2,ly,rfl,u2,i2,f2⟩
 rw [Idv.out.val] at i2
 obtain⟨hly,htop⟩:=HTop.out ly i2
 have Hly:=Go.Lib.hid hly
 have I2v:=Go.Lib.hid i2.val
 have Htop:=Go.Lib.hid htop;clear htop
 have U2:=Go.Lib.hid u2
 obtain⟨ao3,cap3,hv2,hcap3,-⟩:=u2.shape
 rw [hly] at hv2 hcap3
 subst hv2
 clear u2 hly
 have hx2:=hx1.fr0 f2
 go_wp2_with (at_make;refine make_u32 _ rfl _ _ rfl _ _ (k+(m+3)) rfl rfl (by omega) (by omega) (by omega) ?_;intro w3 hown hf3)
 have hx3:=hx2.fr0 hf3
 refine (up_any _ lo _ x s hx3 (by rw [Hk.out];omega) (by omega)).mono ?_
 rintro e w4 ⟨v4,lx,rfl,u4,i4,f4⟩
 rw [Iav.out.val] at i4
 obtain⟨hlx,hfit⟩:=HFits.out lx i4
 have hown4:=hown.fr f4 (by simp)
 have e0:(List.replicate (k+(m+3)) 0).length=k+(m+3):=by simp
 have E0:=Go.Lib.hid e0;clear e0
 have hf04:=((f1.then f2).then hf3).then f4
 have ef1:w.heap.size≤w1'.heap.size:=f1.size
 have ef2:w1'.heap.size≤w2.heap.size:=f2.size
 go_wp2_with (first | (at_make;refine make_u32 _ rfl _ _ rfl _ _ (k+1) rfl rfl (by omega) (by omega) (by omega) ?_;intro w6 hownq hf6) | ((with_reducible show wpList _ _ _ _ _ _);(refine copy_u32 (op:=⟨some 53,_,_,_,_,_⟩) rfl _ _ rfl w2.heap.size (k+(m+3)) w3.heap.size (List.replicate (k+(m+3)) 0) lx _ (by rw [E0.out];rfl) rfl u4 (by rw [E0.out];exact hlx) hown4 ?_;intro w5 hown5 hf5)))
 have dl0:Digs (lx++(List.replicate (k+(m+3)) 0).drop lx.length):=i4.digs.append ((Digs.replicate _).drop _)
 have vl0:val (lx++(List.replicate (k+(m+3)) 0).drop lx.length)=a * 2 ^ s:=by
  rw [val_append,List.drop_replicate,val_replicate,Nat.mul_zero,Nat.add_zero];exact i4.val
 have ll0:(lx++(List.replicate (k+(m+3)) 0).drop lx.length).length=(k+1)+(m+2):=by simp;omega
 have hg0:=Go.Lib.hid (DivG.start dl0 ll0 vl0 hfit)
 have hu6:=hown5.fr hf6 (by simp)
 have hgg:=hown5.lt
 clear hown hown4 hown5 E0 dl0 vl0 ll0 hfit hlx u4
 generalize lx++(List.replicate (k+(m+3)) 0).drop lx.length=L0 at hg0 hu6
 have ef3:=hf3.size
 have ef4:=f4.size
 have ef5:=hf5.size
 have ef6:=hf6.size
 have ha1:=Apart.of_old U2.out (Nat.le_refl _)
 have ha2:=Apart.of_old (g:=w5.heap.size) U2.out (by omega)
 have hy6:U32 w6 0 _ ly:=((((U2.out.fr0 hf3).fr0 f4).grownA hf5 ha1).fr0 hf6).mono (Nat.zero_le _)
 have hf06:Fr [] w w6:=(hf04.trans hf5 (by intro t ht;simp at ht;subst ht;right;omega)).then hf6
 have HA1:=Go.Lib.hid ha1
 have HA2:=Go.Lib.hid ha2
 have HY6:=Go.Lib.hid hy6
 have hg2:=hownq.lt
 clear ha1 ha2 hy6 hf04 hf3 f4 hf5 hf6 hx1 hx2 hx3 hy1 f2 f1 i4 U2
 have hlyl:=Hly.out
 go_loopw [13] (fun i wr=>∃ (J:Nat) (L Q:List Nat),i=.int .i64 ((J:Int) - 1)∧J≤k+1∧Hid (DivG (m+2) (a * 2 ^ s) (d * 2 ^ s) J L Q)∧Hid (Q.length=k+1)∧Own wr w2.heap.size L∧Own wr w5.heap.size Q∧Fr [] w wr∧Hid (U32 wr 0 (.slice ao3 (m+2) cap3) ly))
  (fun i _=>(intOf i+1).toNat)
 case atStart=>exact⟨k+1,L0,_,by simp,Nat.le_refl _,hg0,Go.Lib.hid (by simp),hu6,hownq,hf06,HY6⟩
 case round =>
  obtain⟨J,L,Q,rfl,hJ,hG,hQ,hou,hoq,hfr,hyr⟩:=hrel
  clear hu6 hownq hf06 HY6 hg0
  rcases J with _ | J
  ·have hdone:=hG.out.done
   have hqu:U32 wr w.heap.size (.slice (some ⟨w5.heap.size,0,none⟩) (k+1) (k+1)) Q:=by
    have:=hoq.all (lo:=w.heap.size) hG.out.digQ (by omega)
    rw [hQ.out] at this;exact this
   have hlu:U32 wr w.heap.size (.slice (some ⟨w2.heap.size,0,none⟩) (m+2) (k+(m+3))) (L.take (m+2)):=by
    have:=hou.u32 (lo:=w.heap.size) hG.out.digL (by omega) (m+2) (by rw [hG.out.len];omega)
    have e:L.length=k+(m+3):=by rw [hG.out.len,hQ.out];omega
    rw [e] at this;exact this
   have hlt2:(L.take (m+2)).length≤m+2:=by rw [List.length_take];omega
   have Tq:∀ W,Fr [] wr W→_:=fun W (hW:Fr [] wr W)=>trim_any W w.heap.size _ Q (hqu.fr0 hW) (by rw [hQ.out];omega)
   have Tu:∀ W,Fr [] wr W→_:=fun W (hW:Fr [] wr W)=>trim_any W w.heap.size _ _ (hlu.fr0 hW) (by omega)
   have TQ:=Go.Lib.hid Tq;clear Tq
   have TU:=Go.Lib.hid Tu;clear Tu
   have frd:=(Fr.refl [] wr).drew
   have hval1:val Q=a / d:=by rw [hdone.1];exact Nat.mul_div_mul_right _ _ (Nat.pow_pos (by omega))
   have hval2:val (L.take (m+2)) / 2 ^ s=a % d:=by rw [hdone.2,Nat.mul_mod_mul_right];exact Nat.mul_div_cancel _ (Nat.pow_pos (by omega))
   have HV1:=Go.Lib.hid hval1
   have HV2:=Go.Lib.hid hval2
   clear hdone hqu hlu hval1 hval2 hou hoq hyr hG
   go_wp2_with fail
   go_region_with (first | (go_at_call_of 172 (w5.heap.size);refine (TQ.out _ ?_).mono ?_;(first | exact frd | exact frd.then fd);rintro e w' ⟨vq,lq,rfl,uq,iq,llq,rfl⟩) | (go_at_call_of 172 (w2.heap.size);refine (TU.out _ ?_).mono ?_;exact frd;rintro e w' ⟨vu,lu,rfl,uu,iu,llu,rfl⟩) | (go_at_call 204;refine (down_any _ w.heap.size _ lu s uu ?_ ?_).mono ?_;omega;omega;rintro e w' ⟨vr,lr,rfl,ur,ir,fd⟩))
   all_goals
    rw [HV1.out] at iq
    rw [iu.val,HV2.out] at ir
    go_wp2
    go_ret2
    have hsz:w.heap.size≤wr.drew.heap.size:=hfr.size
    have ur2:=ur.mono hsz
    have hend:=(hfr.drew).then fd
    first
    | exact⟨vq,vr,lq,lr,rfl,uq.fr0 fd,ur2,iq,ir,hend⟩
    | exact⟨vq,vr,lq,lr,rfl,uq,ur2,iq,ir,hend⟩
  ·have ek:(((J+1:Nat):Int) - 1)=(J:Int):=by omega
   rw [ek]
   clear ek
   go_wp2_with fail
   have hsl:J+(m+2)+1 - J=m+3:=by omega
   rw [hsl]
   clear hsl
   have hLlen:L.length=k+(m+3):=by rw [hG.out.len,hQ.out];omega
   refine (figure_any wr w2.heap.size J 0 _ m _ L ly hou hG.out.digL hyr.out HA1.out Hly.out (by rw [hLlen];omega) (by rw [hLlen];omega) Htop.out (by rw [I2v.out];exact hG.out.fits)).mono ?_
   rintro e w7 ⟨L',rfl,ho7,hd7,hl7,hlow7,hm7,-,hf7⟩
   rw [I2v.out] at hm7 ⊢
   have hq7:=hoq.fr hf7 (by simp;omega)
   have hcq:=hq7.cell J (by rw [hQ.out];omega)
   have hfq:=hq7.free J
   have hG7:=Go.Lib.hid (hG.out.turn hd7 hl7 (fun p hp=>hlow7 p (by omega)) hm7)
   have hfr7:Fr [] w w7:=hfr.trans hf7 (by intro t ht;simp at ht;subst ht;right;omega)
   have hy7:=Go.Lib.hid (hyr.out.grownA hf7 HA1.out)
   clear hd7 hl7 hlow7 hm7 hou hoq hfr hyr hG hLlen
   generalize hqv:part L J (m+3) / (d * 2 ^ s)=qq at hG7 ⊢
   clear hqv
   go_wp2
   go_roundw
   case rel=>exact⟨J,L',Q.set J qq,rfl,by omega,hG7,Go.Lib.hid (by rw [List.length_set];exact hQ.out),ho7.fr ((Fr.refl [w5.heap.size] _).setCell (.inl (by simp)) _) (by simp;omega),by simpa using hq7.set J qq (Int.natCast_nonneg _),hfr7.setCell (.inr (by show w.heap.size≤w5.heap.size;omega)) _,Go.Lib.hid (hy7.out.grownA ((Fr.refl [w5.heap.size] _).setCell (.inl (by simp)) _) HA2.out)⟩
   case measure=>simp [intOf]
theorem div_any (w:World) (lo lo2:Nat) (v u:Value) (x y:List Nat) (a d:Nat) (hx:U32 w lo v x) (hy:U32 w lo2 u y) (ia:Is x a) (id:Is y d) (hnx:x.length≤1073741824) (hny:y.length≤1073741824) (hd:0<d) :
  Calls Tryz.prog 257 #[v,u] w fun e w'=>∃ q r l k,e=.returned (.tuple #[q,r])∧U32 w' w.heap.size q l∧U32 w' w.heap.size r k∧Is l (a / d)∧Is k (a % d)∧Fr [] w w':=by
 rcases Nat.lt_or_ge a d with h | h
 ·exact div_less w lo lo2 v u x y a d hx hy ia id hnx hny h
 ·have h0:y.length ≠ 0:=fun h0=>by have:=id.len_zero.1 h0;omega
  rcases Nat.lt_or_ge y.length 2 with h2 | h2
  ·exact div_one w lo lo2 v u x y a d hx hy ia id hnx h (by omega)
  ·obtain⟨m,hm⟩:∃ m,y.length=m+2:=⟨y.length - 2,by omega⟩
   exact div_many w lo lo2 v u x y a d m hx hy ia id hnx h hm
end Go.Proofs.YtcmndpjemdjalaaGreatDoor.Pb
namespace Go.Proofs.YtcmndpjemdjalaaGreatDoor
open Go.RowKit
def IntAt (w:World) (b o:Nat) (n:Int):Prop :=
 ∃ cur t v l,w.heap[b]?=some (.cells cur t (0,0))∧t ≠ 208∧cur[o]?=some (.bool (decide (n<0)))∧cur[o+1]?=some v∧U32 w 0 v l∧Is l n.natAbs
theorem IntAt.lt {w:World} {b o:Nat} {n:Int} (h:IntAt w b o n):b<w.heap.size:=by
 obtain⟨cur,t,v,l,hh,_⟩:=h
 exact (Array.getElem?_eq_some_iff.1 hh).1
theorem IntAt.fr {w w':World} {b o:Nat} {n:Int} {S:List Nat} (h:IntAt w b o n) (hf:Fr S w w') (hS:NoWord S w) (hb:b ∉ S):IntAt w' b o n:=by
 obtain⟨cur,t,v,l,hh,ht,h1,h2,hu,hi⟩:=h
 exact⟨cur,t,v,l,(hf.block b (Array.getElem?_eq_some_iff.1 hh).1 hb).trans hh,ht,h1,h2,hu.fr hf hS,hi⟩
theorem IntAt.fr0 {w w':World} {b o:Nat} {n:Int} (h:IntAt w b o n) (hf:Fr [] w w'):IntAt w' b o n:=h.fr hf (NoWord.nil _) (by simp)
theorem IntAt.noWord {w:World} {b o:Nat} {n:Int} (h:IntAt w b o n):NoWord [b] w:=by
 obtain⟨cur,t,v,l,hh,ht,_⟩:=h
 exact NoWord.of_type hh ht
theorem IntAt.cells {w:World} {b o:Nat} {n:Int} (h:IntAt w b o n) :
  ∃ v l,w.cell? ⟨b,o,none⟩=some (.bool (decide (n<0)))∧w.cell? ⟨b,o+1,none⟩=some v∧w.frozen? ⟨b,o,none⟩=false∧w.frozen? ⟨b,o+1,none⟩=false∧U32 w 0 v l∧Is l n.natAbs:=by
 obtain⟨cur,t,v,l,hh,ht,h1,h2,hu,hi⟩:=h
 exact⟨v,l,by rw [cell_of_row w b o cur t _ hh];exact h1,by rw [cell_of_row w b (o+1) cur t _ hh];exact h2,frozen_of_row w b o _ _ hh,frozen_of_row w b (o+1) _ _ hh,hu,hi⟩
def IntRoom (w:World) (b o:Nat):Prop:=∃ cur t,w.heap[b]?=some (.cells cur t (0,0))∧t ≠ 208∧o+1<cur.size
theorem IntAt.room {w:World} {b o:Nat} {n:Int} (h:IntAt w b o n):IntRoom w b o:=by
 obtain⟨cur,t,v,l,hh,ht,h1,h2,_⟩:=h
 exact⟨cur,t,hh,ht,(Array.getElem?_eq_some_iff.1 h2).1⟩
theorem IntRoom.lt {w:World} {b o:Nat} (h:IntRoom w b o):b<w.heap.size:=by
 obtain⟨cur,t,hh,_⟩:=h
 exact (Array.getElem?_eq_some_iff.1 hh).1
theorem IntRoom.noWord {w:World} {b o:Nat} (h:IntRoom w b o):NoWord [b] w:=by
 obtain⟨cur,t,hh,ht,_⟩:=h
 exact NoWord.of_type hh ht
theorem IntRoom.fr {w w':World} {b o:Nat} {S:List Nat} (h:IntRoom w b o) (hf:Fr S w w') (hb:b ∉ S):IntRoom w' b o:=by
 obtain⟨cur,t,hh,ht,h1⟩:=h
 exact⟨cur,t,(hf.block b (Array.getElem?_eq_some_iff.1 hh).1 hb).trans hh,ht,h1⟩
theorem IntRoom.fr0 {w w':World} {b o:Nat} (h:IntRoom w b o) (hf:Fr [] w w'):IntRoom w' b o:=h.fr hf (by simp)
theorem IntRoom.cells {w:World} {b o:Nat} (h:IntRoom w b o):(∃ u,w.cell? ⟨b,o,none⟩=some u)∧(∃ u,w.cell? ⟨b,o+1,none⟩=some u)∧w.frozen? ⟨b,o,none⟩=false∧w.frozen? ⟨b,o+1,none⟩=false:=by
 obtain⟨cur,t,hh,ht,h1⟩:=h
 refine⟨⟨cur[o],by rw [cell_of_row w b o cur t _ hh];simp [show o<cur.size by omega]⟩,⟨cur[o+1],by rw [cell_of_row w b (o+1) cur t _ hh];simp [h1]⟩,frozen_of_row w b o _ _ hh,frozen_of_row w b (o+1) _ _ hh⟩
theorem IntRoom.set {w:World} {b o:Nat} {v:Value} {l:List Nat} {N:Nat} {neg:Bool} {n:Int} (h:IntRoom w b o) (hu:U32 w 0 v l) (hi:Is l N) (hn:n.natAbs=N) (hb:neg=decide (n<0)) :
  IntAt ((w.setCell ⟨b,o+1,none⟩ v).setCell ⟨b,o,none⟩ (.bool neg)) b o n:=by
 subst hn;subst hb
 obtain⟨cur,t,hh,ht,h1⟩:=h
 have hf:Fr [b] w ((w.setCell ⟨b,o+1,none⟩ v).setCell ⟨b,o,none⟩ (.bool (decide (n<0)))):=((Fr.refl [b] w).setCell (.inl (by simp)) _).setCell (.inl (by simp)) _
 have e1:=heap_setCell_same w b (o+1) _ _ v hh
 have e2:=heap_setCell_same _ b o _ _ (.bool (decide (n<0))) e1
 refine⟨_,t,v,l,e2,ht,?_,?_,hu.fr hf (NoWord.of_type hh ht),hi⟩
 ·rw [Array.getElem?_setIfInBounds_self_of_lt];simp;omega
 ·rw [Array.getElem?_setIfInBounds_ne (by omega),Array.getElem?_setIfInBounds_self_of_lt];exact h1
def Fits (n:Nat):Prop:=∃ m,m≤1073741824∧n<4294967296 ^ m
theorem Fits.len {l:List Nat} {n:Nat} (h:Fits n) (hi:Is l n):l.length≤1073741824:=by
 obtain⟨m,h1,h2⟩:=h
 exact Nat.le_trans (hi.len_of h2) h1
theorem Fits.le {n m:Nat} (h:Fits n) (hm:m≤n):Fits m:=by
 obtain⟨k,h1,h2⟩:=h
 exact⟨k,h1,Nat.lt_of_le_of_lt hm h2⟩
theorem Fits.of_bits {n k:Nat} (h:n<2 ^ k) (hk:k≤34359738368):Fits n:=by
 refine⟨(k+31) / 32,by omega,Nat.lt_of_lt_of_le h ?_⟩
 rw [show (4294967296:Nat)=2 ^ 32 from rfl,← Nat.pow_mul]
 exact Nat.pow_le_pow_right (by omega) (by omega)
end Go.Proofs.YtcmndpjemdjalaaGreatDoor
namespace Go.Proofs.YtcmndpjemdjalaaGreatDoor
open Go.RowKit
theorem dg_of_val (l:List Nat) (hd:Digs l) (k:Nat):dg l k=val l / 4294967296 ^ k % 4294967296:=by
 rcases Nat.lt_or_ge k l.length with h | h
 ·rw [val_take_drop l k (by omega)]
  have h1:=(hd.take k).lt
  rw [List.length_take,Nat.min_eq_left (by omega)] at h1
  rw [Nat.add_mul_div_left _ _ (pow_pos' k),Nat.div_eq_of_lt h1,Nat.zero_add]
  have h2:l.drop k=dg l k :: l.drop (k+1):=by
   rw [dg_get l k h];exact (List.getElem_cons_drop h).symm
  rw [h2,val_cons,Nat.add_mul_mod_self_left,Nat.mod_eq_of_lt (dg_lt hd k)]
 ·rw [dg_out l k h,Nat.div_eq_of_lt (Nat.lt_of_lt_of_le hd.lt (Nat.pow_le_pow_right (by omega) h))]
theorem bit_words (l:List Nat) (hd:Digs l) (m:Nat):dg l (m / 32) / 2 ^ (m % 32) % 2=val l / 2 ^ m % 2:=by
 have e:(dg l (m / 32)).testBit (m % 32)=(val l).testBit m:=by
  rw [dg_of_val l hd,show (4294967296:Nat)=2 ^ 32 from rfl,← Nat.pow_mul,Nat.testBit_mod_two_pow,Nat.testBit_div_two_pow]
  have h1:m % 32<32:=Nat.mod_lt _ (by omega)
  simp only [h1,decide_true,Bool.true_and]
  congr 1;omega
 rw [Nat.testBit_eq_decide_div_mod_eq,Nat.testBit_eq_decide_div_mod_eq] at e
 have h1:=Nat.mod_two_eq_zero_or_one (dg l (m / 32) / 2 ^ (m % 32))
 have h2:=Nat.mod_two_eq_zero_or_one (val l / 2 ^ m)
 by_cases h3:dg l (m / 32) / 2 ^ (m % 32) % 2=1
 ·simp only [h3,decide_true] at e;rw [h3];exact (of_decide_eq_true e.symm).symm
 ·simp only [h3,decide_false] at e;have:=of_decide_eq_false e.symm;omega
theorem bit_test (l:List Nat) (hd:Digs l) (m:Nat):(bits BinOp.and IntKind.u32 (((dg l (m / 32):Nat):Int) / 2 ^ (m % 32)) 1==1)=decide (val l / 2 ^ m % 2=1):=by
 have h1:(((dg l (m / 32):Nat):Int) / 2 ^ (m % 32))=((dg l (m / 32) / 2 ^ (m % 32):Nat):Int):=by simp
 have h2:dg l (m / 32) / 2 ^ (m % 32)<4294967296:=Nat.lt_of_le_of_lt (Nat.div_le_self _ _) (dg_lt hd _)
 rw [h1,show (1:Int)=((1:Nat):Int) from rfl,u32_and_nat _ 1 h2 (by omega),Nat.and_one_is_mod,bit_words l hd m]
 by_cases h:val l / 2 ^ m % 2=1
 ·simp [h]
 ·have:val l / 2 ^ m % 2=0:=by omega
  simp [this]
theorem half_bit (y m:Nat):y / 2 ^ m=2 * (y / 2 ^ (m+1))+y / 2 ^ m % 2:=by
 rw [Nat.pow_succ,← Nat.div_div_eq_div_mul];omega
end Go.Proofs.YtcmndpjemdjalaaGreatDoor
