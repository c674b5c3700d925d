/- Laws that the claimed theorem leans on: no condition of their own beyond their hypotheses. -/
import Derived.Lib.SlBytesRow
import Derived.Test.YtcmndpjemdjalaaGreatDoorMaao
import Derived.Test.YtcmndpjemdjalaaGreatDoorMaap
set_option maxRecDepth 100000
set_option maxHeartbeats 16000000
namespace Go.Proofs.YtcmndpjemdjalaaGreatDoor
open Go.RowKit
theorem sixW_le (c:Nat):(sixW c).1<256∧((sixW c).2=1∨sixW c=(0,0)):=by
 unfold sixW
 by_cases h:48≤c∧c≤57
 ·rw [if_pos h];exact⟨by show c - 48<256;omega,.inl rfl⟩
 ·rw [if_neg h]
  by_cases h:97≤c∧c≤102
  ·rw [if_pos h];exact⟨by show c - 87<256;omega,.inl rfl⟩
  ·rw [if_neg h]
   by_cases h:65≤c∧c≤70
   ·rw [if_pos h];exact⟨by show c - 55<256;omega,.inl rfl⟩
   ·rw [if_neg h];exact⟨by decide,.inr rfl⟩
theorem sixW_not95 (c:Nat) (h:(sixW c).2=1):c ≠ 95∧c<128:=by
 unfold sixW at h
 by_cases h1:48≤c∧c≤57
 ·omega
 ·rw [if_neg h1] at h
  by_cases h2:97≤c∧c≤102
  ·omega
  ·rw [if_neg h2] at h
   by_cases h3:65≤c∧c≤70
   ·omega
   ·rw [if_neg h3] at h;simp at h
theorem rowSixteen (w:World) (b:Nat) (r:ByteArray) (D T:List UInt8) (h:ScanAt w b r) (hr:r.data.toList=D++T) (hs:r.size≤65536) (hD:∀ x∈D,(sixW x.toNat).2=1) (hT:Behind sixW T) :
  Calls Tryz.prog 200 #[.pointer (some ⟨b,0,none⟩),.func (.func 155) #[] #[]] w fun x w'=>∃ v r',x=.returned v∧OwnC w' w.heap.size v (worths sixW D)∧r'.data.toList=T∧ScanAt w' b r'∧Fr [b] w w':=by
 have hh:=h
 obtain⟨a,h⟩:=h
 have c0:w.cell? ⟨b,0,none⟩=some (.string r):=by rw [cell_of_row _ _ _ _ _ _ h];rfl
 have c2:w.cell? ⟨b,2,none⟩=some (.int .i64 0):=by rw [cell_of_row _ _ _ _ _ _ h];rfl
 have hhead:∀ k,∀ y∈(D.drop k++T).head?,y.toNat ≠ 95:=by
  intro k y hy
  rcases hd:D.drop k with _ | ⟨z,l⟩
  ·rw [hd] at hy;exact (hT y (by simpa using hy)).2.2
  ·rw [hd] at hy
   simp at hy
   subst hy
   exact (sixW_not95 _ (hD z (List.mem_of_mem_drop (by rw [hd];simp)))).1
 have hS:=fun W=>Tryz.strings_HasPrefix r under W
 rw [hr,no_under _ (by simpa using hhead 0)] at hS
 unfold under at hS
 clear h
 go_enter Tryz.func200,Tryz.ntmps200
 go_wp2_with (go_at_call 39;refine (hS _).mono ?_;rintro e w1 ⟨rfl,rfl⟩)
 have hlen:r.size=D.length+T.length:=by rw [Go.Lib.size_eq,hr,List.length_append]
 have hDl:D.length≤65536:=by omega
 go_loopw [5] (fun v wr=>∃ k r',k≤D.length∧r'.data.toList=D.drop k++T∧ScanAt wr b r'∧OwnC wr w1.heap.size v (worths sixW (D.take k))∧Fr [b] w1 wr) (fun v _=>D.length - sliceLen v)
 case atStart=>exact⟨0,r,Nat.zero_le _,by simpa using hr,hh,OwnC.nil _ _,Fr.refl _ _⟩
 case round =>
  obtain⟨k,r',hk,hr',hsc,hown,hfr⟩:=hrel
  have hsc':=hsc
  obtain⟨a',hrow⟩:=hsc'
  have d0:wr.cell? ⟨b,0,none⟩=some (.string r'):=by rw [cell_of_row _ _ _ _ _ _ hrow];rfl
  have d2:wr.cell? ⟨b,2,none⟩=some (.int .i64 0):=by rw [cell_of_row _ _ _ _ _ _ hrow];rfl
  have hlen':r'.size=D.length - k+T.length:=by rw [Go.Lib.size_eq,hr',List.length_append,List.length_drop]
  clear hS c0 c2 hrow
  by_cases hkl:k<D.length
  ·have h0:0<r'.size:=by omega
   have hx:r'[0]=D[k]:=by
    rw [← getD_at r' 0 h0,hr',List.drop_eq_getElem_cons hkl];rfl
   have hxd:=hD D[k] (List.getElem_mem hkl)
   have hx2:=sixW_not95 _ hxd
   have hx3:=sixW_le D[k].toNat
   obtain⟨y,hy⟩:∃ y,(sixW D[k].toNat).1=y:=⟨_,rfl⟩
   rw [hy] at hx3
   have hyl:y<256:=hx3.1
   have hbl:=hsc.lt
   have hbb:b<w1.heap.size:=hh.lt
   have hU:=fun W=>Tryz.strings_HasPrefix (tailB r' 1) under W
   have ht1:(tailB r' 1).data.toList=D.drop (k+1)++T:=by rw [tailB_data,hr',List.drop_eq_getElem_cons hkl];rfl
   rw [ht1,no_under _ (hhead (k+1))] at hU
   unfold under at hU
   have hlk:(worths sixW (D.take k)).length=k:=by simp [worths];omega
   have hnew:worths sixW (D.take (k+1))=worths sixW (D.take k)++[y]:=by rw [worths,worths,List.take_succ_eq_append_getElem hkl,List.map_append,List.map_singleton,hy]
   obtain⟨ao,cap,rfl,hcapL,-⟩:=hown.u8.shape
   have Hnew:=Go.Lib.hid hnew
   have Hlk:=Go.Lib.hid hlk
   have Ht1:=Go.Lib.hid ht1
   clear hnew hlk ht1 hr' hr hlen
   go_wp2_with (first
    | (go_at_call 155;refine (lexSixteen_at _ r' h0).mono ?_;rw [hx,hxd,hy];rintro e w2 ⟨rfl,f2⟩;have fA:=(Fr.refl [] w2).alloc (.cells #[.int .u8 (y:Int)] 5);have hoA:=(hown.kept0 f2).kept0 fA;have scA:=(hsc.fr f2 (by simp)).fr fA (by simp);have cA:=cell_new w2 #[.int .u8 (y:Int)] 5 (0,0) 0 _ rfl;have fsz:=f2.size;have fsz2:=hfr.size)
    | (at_builtin;refine append_u8 _ rfl _ _ rfl w1.heap.size _ _ rfl hoA w2.heap.size 1 y rfl hyl cA (by have:=Hlk.out;omega) (by simp;omega) ?_;intro v' w3 hown3 hfr3;have sc3:=hoA.growScan scA hbb hfr3;have F3:=hoA.grow ((hfr.then f2).then fA) (Nat.le_refl _) hfr3;have z3:=sc3.cells)
    | (go_at_call 153;refine (scanSkip _ b r' 1 sc3 (by omega)).mono ?_;rintro e w4 ⟨rfl,sc4,f4⟩;have z4:=sc4.cells;obtain⟨z40,z42⟩:=z4;have o4:=hown3.keptLow f4 hbb;have F4:=F3.trans f4 (fun t ht=>.inl ht))
    | (go_at_call 39;refine (hU _).mono ?_;rintro e w5 ⟨rfl,h5⟩;subst h5))
   refine⟨⟨k+1,tailB r' 1,hkl,Ht1.out,sc4,by rw [Hnew.out];exact o4,F4⟩,?_⟩
   rw [o4.len,List.length_append]
   have:=Hlk.out
   simp only [sliceLen,List.length_singleton]
   omega
  ·obtain rfl:k=D.length:=by omega
   rw [List.take_length] at hown
   rw [List.drop_length,List.nil_append] at hr'
   by_cases h0:0<r'.size
   ·have hy:=hT r'[0] (by rw [← getD_at r' 0 h0,hr'];cases T with | nil=>rw [Go.Lib.size_eq,hr'] at h0;simp at h0 | cons y T=>simp)
    have hz:=(sixW_le r'[0].toNat).2.resolve_left (by omega)
    have hd:=hy.1
    clear hy
    go_wp2_with (go_at_call 155;refine (lexSixteen_at _ r' h0).mono ?_;rw [hz];rintro e w2 ⟨rfl,f2⟩)
    go_ret
    exact⟨_,r',rfl,hown.kept0 f2,hr',hsc.fr f2 (by simp),hfr.then f2⟩
   ·go_wp2_with (go_at_call 155;refine (lexSixteen_end _ r' (by omega)).mono ?_;rintro e w2 ⟨rfl,f2⟩)
    go_ret
    exact⟨_,r',rfl,hown.kept0 f2,hr',hsc.fr f2 (by simp),hfr.then f2⟩
end Go.Proofs.YtcmndpjemdjalaaGreatDoor
namespace Go.Proofs.YtcmndpjemdjalaaGreatDoor
open Go.RowKit
theorem has_one {r:ByteArray} {c:UInt8}:Lib.hasPrefix r.data.toList (⟨#[c]⟩:ByteArray).data.toList=(r.data.toList.head? == some c):=by
 rcases r.data.toList with _ | ⟨y,l⟩
 ·rfl
 ·show List.isPrefixOf [c] (y :: l)=(some y==some c)
  by_cases h:c=y
  ·subst h;simp [List.isPrefixOf]
  ·have a:(c==y)=false:=beq_eq_false_iff_ne.2 h
   have b:(y==c)=false:=beq_eq_false_iff_ne.2 (Ne.symm h)
   simp [List.isPrefixOf,a,b]
theorem has_minus2 {r:ByteArray} (h:∀ y∈r.data.toList.head?,y.toNat<128):Lib.hasPrefix r.data.toList (⟨#[0xe2,0x88,0x92]⟩:ByteArray).data.toList=false:=by
 rcases hr:r.data.toList with _ | ⟨y,l⟩
 ·rfl
 ·show List.isPrefixOf [0xe2,0x88,0x92] (y :: l)=false
  rw [hr] at h
  have h1:=h y (by simp)
  have h2:¬ (0xe2:UInt8)=y:=by rintro rfl;simp at h1
  simp [List.isPrefixOf,h2]
theorem scanMinus_no (w:World) (b:Nat) (r:ByteArray) (h:ScanAt w b r) (hr:∀ y∈r.data.toList.head?,y.toNat<128∧y.toNat ≠ 43∧y.toNat ≠ 45) :
  Calls Tryz.prog 110 #[.pointer (some ⟨b,0,none⟩)] w fun x w'=>x=.returned (.bool false)∧Fr [] w w':=by
 have k1:Lib.hasPrefix r.data.toList (⟨#[43]⟩:ByteArray).data.toList=false:=by
  rw [has_one,beq_eq_false_iff_ne];intro he;have:=(hr 43 (by rw [he];simp)).2.1;simp at this
 have k2:Lib.hasPrefix r.data.toList (⟨#[45]⟩:ByteArray).data.toList=false:=by
  rw [has_one,beq_eq_false_iff_ne];intro he;have:=(hr 45 (by rw [he];simp)).2.2;simp at this
 have k3:=has_minus2 (r:=r) (fun y hy=>(hr y hy).1)
 go_enter Tryz.func110,Tryz.ntmps110
 go_wp2_with (first
  | (go_at_call_of 150 (Value.string ⟨#[43]⟩);refine (scanHas_no _ b r _ h k1).mono ?_;rintro e w1 ⟨rfl,f1⟩;have h1:=h.fr f1 (by simp))
  | (go_at_call_of 150 (Value.string ⟨#[45]⟩);refine (scanHas_no _ b r _ h1 k2).mono ?_;rintro e w2 ⟨rfl,f2⟩;have h2:=h1.fr f2 (by simp))
  | (go_at_call 150;refine (scanHas_no _ b r _ h2 k3).mono ?_;rintro e w3 ⟨rfl,f3⟩))
 go_ret
 exact⟨rfl,(f1.then f2).then f3⟩
theorem scanMinus_yes (w:World) (b:Nat) (r:ByteArray) (h:ScanAt w b r) (hr:r.data.toList.head?=some 45) :
  Calls Tryz.prog 110 #[.pointer (some ⟨b,0,none⟩)] w fun x w'=>x=.returned (.bool true)∧ScanAt w' b (tailB r 1)∧Fr [b] w w':=by
 have k1:Lib.hasPrefix r.data.toList (⟨#[43]⟩:ByteArray).data.toList=false:=by
  rw [has_one,hr];rfl
 have k2:Lib.hasPrefix r.data.toList (⟨#[45]⟩:ByteArray).data.toList=true:=by
  rw [has_one,hr];rfl
 go_enter Tryz.func110,Tryz.ntmps110
 go_wp2_with (first
  | (go_at_call_of 150 (Value.string ⟨#[43]⟩);refine (scanHas_no _ b r _ h k1).mono ?_;rintro e w1 ⟨rfl,f1⟩;have h1:=h.fr f1 (by simp))
  | (go_at_call 150;refine (scanHas_yes _ b r _ h1 k2).mono ?_;rintro e w2 ⟨rfl,h2,f2⟩))
 go_ret
 exact⟨rfl,h2,(f1.mono (by simp)).trans f2 (fun t ht=>.inl ht)⟩
theorem mustTen (w:World) (b:Nat) (r:ByteArray) (D T:List UInt8) (h:ScanAt w b r) (hr:r.data.toList=D++T) (h0:0<D.length) (hs:r.size≤65536) (hD:∀ x∈D,(tenW x.toNat).2=1) (hT:Behind tenW T) :
  Calls Tryz.prog 201 #[.pointer (some ⟨b,0,none⟩),.func (.func 111) #[] #[]] w fun x w'=>∃ v r',x=.returned v∧OwnC w' w.heap.size v (worths tenW D)∧r'.data.toList=T∧ScanAt w' b r'∧Fr [b] w w':=by
 go_enter Tryz.func201,Tryz.ntmps201
 go_wp2_with (go_at_call 200;refine (rowTen _ b r D T h hr hs hD hT).mono ?_;rintro e w1 ⟨v,r',rfl,ho,hr',h1,f1⟩;have hl:=ho.u8.shape;obtain⟨ao,cap,rfl,hcap,-⟩:=hl;have hn:¬ (((worths tenW D).length:Nat):Int)=0:=by simp [worths];intro hh;rw [hh] at h0;simp at h0)
 go_ret
 exact⟨_,r',rfl,ho,hr',h1,f1⟩
theorem mantissa_wholeTen (w:World) (b:Nat) (r:ByteArray) (D T:List UInt8) (h:ScanAt w b r) (hr:r.data.toList=D++T) (h0:0<D.length) (hs:r.size≤65536) (hD:∀ x∈D,(tenW x.toNat).2=1) (hT:Behind tenW T) (hp:T.head? ≠ some 46) :
  Calls Tryz.prog 154 #[.pointer (some ⟨b,0,none⟩),.func (.func 111) #[] #[]] w fun x w'=>∃ v r',x=.returned (.tuple #[v,.int .i64 0])∧OwnC w' w.heap.size v (worths tenW D)∧r'.data.toList=T∧ScanAt w' b r'∧Fr [b] w w':=by
 go_enter Tryz.func154,Tryz.ntmps154
 go_wp2_with (first
  | (go_at_call 200;refine (rowTen _ b r D T h hr hs hD hT).mono ?_;rintro e w1 ⟨v,r',rfl,ho,hr',h1,f1⟩;have hl:=ho.u8.shape;obtain⟨ao,cap,rfl,hcap,-⟩:=hl;have hn:¬ (((worths tenW D).length:Nat):Int)=0:=by simp [worths];intro hh;rw [hh] at h0;simp at h0)
  | (go_at_call 150;refine (scanHas_no _ b r' _ h1 (by rw [has_one,hr',beq_eq_false_iff_ne];exact hp)).mono ?_;rintro e w2 ⟨rfl,f2⟩))
 go_ret2
 exact⟨_,r',rfl,ho.kept0 f2,hr',h1.fr f2 (by simp),f1.then f2⟩
theorem mantissa_pointTen (w:World) (b:Nat) (r:ByteArray) (D B T:List UInt8) (h:ScanAt w b r) (hr:r.data.toList=D++46 :: (B++T)) (h0:0<D.length) (hs:r.size≤65536) (hD:∀ x∈D,(tenW x.toNat).2=1) (hB:∀ x∈B,(tenW x.toNat).2=1) (hT:Behind tenW T) :
  Calls Tryz.prog 154 #[.pointer (some ⟨b,0,none⟩),.func (.func 111) #[] #[]] w fun x w'=>∃ v r',x=.returned (.tuple #[v,.int .i64 B.length])∧OwnC w' w.heap.size v (worths tenW (D++B))∧r'.data.toList=T∧ScanAt w' b r'∧Fr [b] w w':=by
 have hlen:r.size=D.length+(1+(B.length+T.length)):=by rw [Go.Lib.size_eq,hr];simp;omega
 go_enter Tryz.func154,Tryz.ntmps154
 have hbw:=h.lt
 go_wp2_with (first
  | (go_at_call 200;refine (rowTen _ b r D (46 :: (B++T)) h hr hs hD (by intro y hy;simp at hy;subst hy;decide)).mono ?_;rintro e w1 ⟨v,r',rfl,ho,hr',h1,f1⟩;obtain⟨ao,cap,rfl,hcap,-⟩:=ho.u8.shape)
  | (go_at_call 150;refine (scanHas_yes _ b r' _ h1 (by rw [has_one,hr'];rfl)).mono ?_;rintro e w2 ⟨rfl,h2,f2⟩))
 have ht:(tailB r' (⟨#[46]⟩:ByteArray).size).data.toList=B++T:=by rw [tailB_data,hr'];rfl
 have hts:(tailB r' (⟨#[46]⟩:ByteArray).size).size≤65536:=by rw [Go.Lib.size_eq,ht,List.length_append];omega
 have fsz:=f1.size
 have fsz2:=f2.size
 refine (rowTen _ b _ B T h2 ht hts hB hT).mono ?_
 rintro e w3 ⟨v2,r3,rfl,ho3,hr3,h3,f3⟩
 obtain⟨ao2,cap2,rfl,hcap2,-⟩:=ho3.u8.shape
 have ho1:=(ho.keptLow f2 hbw).keptLow f3 hbw
 have F3:=(f1.trans f2 (fun t ht=>.inl ht)).trans f3 (fun t ht=>.inl ht)
 have hl1:(worths tenW D).length=D.length:=by simp [worths]
 have hl2:(worths tenW B).length=B.length:=by simp [worths]
 have hn:¬ (((worths tenW D).length:Nat):Int)+(((worths tenW B).length:Nat):Int)=0:=by omega
 have hdb:worths tenW (D++B)=worths tenW D++worths tenW B:=by simp [worths]
 have H1:=Go.Lib.hid hl1
 have H2:=Go.Lib.hid hl2
 have Hdb:=Go.Lib.hid hdb
 have hb1:(worths tenW D).length≤65536:=by omega
 have hb2:(worths tenW B).length≤65536:=by omega
 clear hl1 hl2 hdb hr ht hlen
 go_wp2_with (at_builtin;go_loud (refine append_u8s _ rfl _ _ rfl w.heap.size _ _ rfl ho1 _ _ _ rfl ho3 (by omega) (by have:=f3.size;omega) ?_;intro v' w4 ho4 hg4))
 go_ret2
 exact⟨v',r3,(by rw [← H2.out];rfl),by rw [Hdb.out];exact ho4,hr3,ho1.growScan h3 hbw hg4,ho1.grow F3 (Nat.le_refl _) hg4⟩
end Go.Proofs.YtcmndpjemdjalaaGreatDoor
namespace Go.Proofs.YtcmndpjemdjalaaGreatDoor
open Go.RowKit
theorem mantissa_wholeSix (w:World) (b:Nat) (r:ByteArray) (D T:List UInt8) (h:ScanAt w b r) (hr:r.data.toList=D++T) (h0:0<D.length) (hs:r.size≤65536) (hD:∀ x∈D,(sixW x.toNat).2=1) (hT:Behind sixW T) (hp:T.head? ≠ some 46) :
  Calls Tryz.prog 154 #[.pointer (some ⟨b,0,none⟩),.func (.func 155) #[] #[]] w fun x w'=>∃ v r',x=.returned (.tuple #[v,.int .i64 0])∧OwnC w' w.heap.size v (worths sixW D)∧r'.data.toList=T∧ScanAt w' b r'∧Fr [b] w w':=by
 go_enter Tryz.func154,Tryz.ntmps154
 go_wp2_with (first
  | (go_at_call 200;refine (rowSixteen _ b r D T h hr hs hD hT).mono ?_;rintro e w1 ⟨v,r',rfl,ho,hr',h1,f1⟩;have hl:=ho.u8.shape;obtain⟨ao,cap,rfl,hcap,-⟩:=hl;have hn:¬ (((worths sixW D).length:Nat):Int)=0:=by simp [worths];intro hh;rw [hh] at h0;simp at h0)
  | (go_at_call 150;refine (scanHas_no _ b r' _ h1 (by rw [has_one,hr',beq_eq_false_iff_ne];exact hp)).mono ?_;rintro e w2 ⟨rfl,f2⟩))
 go_ret2
 exact⟨_,r',rfl,ho.kept0 f2,hr',h1.fr f2 (by simp),f1.then f2⟩
theorem mantissa_pointSix (w:World) (b:Nat) (r:ByteArray) (D B T:List UInt8) (h:ScanAt w b r) (hr:r.data.toList=D++46 :: (B++T)) (h0:0<D.length) (hs:r.size≤65536) (hD:∀ x∈D,(sixW x.toNat).2=1) (hB:∀ x∈B,(sixW x.toNat).2=1) (hT:Behind sixW T) :
  Calls Tryz.prog 154 #[.pointer (some ⟨b,0,none⟩),.func (.func 155) #[] #[]] w fun x w'=>∃ v r',x=.returned (.tuple #[v,.int .i64 B.length])∧OwnC w' w.heap.size v (worths sixW (D++B))∧r'.data.toList=T∧ScanAt w' b r'∧Fr [b] w w':=by
 have hlen:r.size=D.length+(1+(B.length+T.length)):=by rw [Go.Lib.size_eq,hr];simp;omega
 go_enter Tryz.func154,Tryz.ntmps154
 have hbw:=h.lt
 go_wp2_with (first
  | (go_at_call 200;refine (rowSixteen _ b r D (46 :: (B++T)) h hr hs hD (by intro y hy;simp at hy;subst hy;decide)).mono ?_;rintro e w1 ⟨v,r',rfl,ho,hr',h1,f1⟩;obtain⟨ao,cap,rfl,hcap,-⟩:=ho.u8.shape)
  | (go_at_call 150;refine (scanHas_yes _ b r' _ h1 (by rw [has_one,hr'];rfl)).mono ?_;rintro e w2 ⟨rfl,h2,f2⟩))
 have ht:(tailB r' (⟨#[46]⟩:ByteArray).size).data.toList=B++T:=by rw [tailB_data,hr'];rfl
 have hts:(tailB r' (⟨#[46]⟩:ByteArray).size).size≤65536:=by rw [Go.Lib.size_eq,ht,List.length_append];omega
 have fsz:=f1.size
 have fsz2:=f2.size
 refine (rowSixteen _ b _ B T h2 ht hts hB hT).mono ?_
 rintro e w3 ⟨v2,r3,rfl,ho3,hr3,h3,f3⟩
 obtain⟨ao2,cap2,rfl,hcap2,-⟩:=ho3.u8.shape
 have ho1:=(ho.keptLow f2 hbw).keptLow f3 hbw
 have F3:=(f1.trans f2 (fun t ht=>.inl ht)).trans f3 (fun t ht=>.inl ht)
 have hl1:(worths sixW D).length=D.length:=by simp [worths]
 have hl2:(worths sixW B).length=B.length:=by simp [worths]
 have hn:¬ (((worths sixW D).length:Nat):Int)+(((worths sixW B).length:Nat):Int)=0:=by omega
 have hdb:worths sixW (D++B)=worths sixW D++worths sixW B:=by simp [worths]
 have H1:=Go.Lib.hid hl1
 have H2:=Go.Lib.hid hl2
 have Hdb:=Go.Lib.hid hdb
 have hb1:(worths sixW D).length≤65536:=by omega
 have hb2:(worths sixW B).length≤65536:=by omega
 clear hl1 hl2 hdb hr ht hlen
 go_wp2_with (at_builtin;go_loud (refine append_u8s _ rfl _ _ rfl w.heap.size _ _ rfl ho1 _ _ _ rfl ho3 (by omega) (by have:=f3.size;omega) ?_;intro v' w4 ho4 hg4))
 go_ret2
 exact⟨v',r3,(by rw [← H2.out];rfl),by rw [Hdb.out];exact ho4,hr3,ho1.growScan h3 hbw hg4,ho1.grow F3 (Nat.le_refl _) hg4⟩
end Go.Proofs.YtcmndpjemdjalaaGreatDoor
namespace Go.Proofs.YtcmndpjemdjalaaGreatDoor
open Go.RowKit
def signL (sgn:Bool) (l:List UInt8):List UInt8:=if sgn then 45 :: l else l
theorem scanMinus_sgn (w:World) (b:Nat) (r:ByteArray) (sgn:Bool) (D:List UInt8) (h:ScanAt w b r) (hr:r.data.toList=signL sgn D) (hD:∀ y∈D.head?,y.toNat<128∧y.toNat ≠ 43∧y.toNat ≠ 45) :
  Calls Tryz.prog 110 #[.pointer (some ⟨b,0,none⟩)] w fun x w'=>∃ r',x=.returned (.bool sgn)∧r'.data.toList=D∧ScanAt w' b r'∧Fr [b] w w':=by
 cases sgn with
 | false=>exact (scanMinus_no w b r h (by rw [hr];exact hD)).mono (fun e w' ⟨h1,h2⟩=>⟨r,h1,hr,h.fr h2 (by simp),h2.mono (by simp)⟩)
 | true=>exact (scanMinus_yes w b r h (by rw [hr];rfl)).mono (fun e w' ⟨h1,h2,h3⟩=>⟨_,h1,by rw [tailB_data,hr];rfl,h2,h3⟩)
def expStep (n d:Nat):Nat:=min (10 * n+d) 68719476736
def expN (l:List Nat):Nat:=l.foldl expStep 0
theorem expN_snoc (l:List Nat) (d:Nat):expN (l++[d])=expStep (expN l) d:=by unfold expN;rw [List.foldl_append];rfl
theorem expStep_le (n d:Nat):expStep n d≤68719476736:=Nat.min_le_right _ _
theorem expN_le (l:List Nat):expN l≤68719476736:=by
 rcases List.eq_nil_or_concat l with rfl | ⟨k,d,rfl⟩
 ·exact Nat.zero_le _
 ·rw [List.concat_eq_append,expN_snoc];exact expStep_le _ _
def expS (sgn:Bool) (n:Nat):Int:=if sgn then -(n:Int) else n
theorem exponent_some (w:World) (b:Nat) (r t:ByteArray) (c:UInt8) (sgn:Bool) (D:List UInt8) (h:ScanAt w b r) (hr:r.data.toList=c :: signL sgn D) (h0:0<D.length) (hs:r.size≤65536) (hD:∀ x∈D,(tenW x.toNat).2=1)
  (ht:t.data.toList=[c]) (hc:¬ (65≤c.toNat∧c.toNat≤90)) :
  Calls Tryz.prog 156 #[.pointer (some ⟨b,0,none⟩),.string t] w fun x w'=>∃ r',x=.returned (.int .i64 (expS sgn (expN (worths tenW D))))∧r'.data.toList=[]∧ScanAt w' b r'∧Fr [b] w w':=by
 have hts:t.size=1:=by rw [Go.Lib.size_eq,ht];rfl
 have hbw:=h.lt
 have hhead:∀ y∈D.head?,y.toNat<128∧y.toNat ≠ 43∧y.toNat ≠ 45:=by
  intro y hy
  have h1:=hD y (List.mem_of_mem_head? hy)
  unfold tenW at h1
  by_cases h2:48≤y.toNat∧y.toNat≤57
  ·omega
  ·rw [if_neg h2] at h1;simp at h1
 have hrl:r.size=1+(signL sgn D).length:=by rw [Go.Lib.size_eq,hr];simp;omega
 have hsl:D.length≤(signL sgn D).length:=by cases sgn <;> simp [signL]
 have hfold:∀ i,i<t.size→lowB (r.data.toList.getD i 0).toNat=(t.data.toList.getD i 0).toNat:=by
  intro i hi
  rw [hr,ht]
  obtain rfl:i=0:=by omega
  show lowB c.toNat=c.toNat
  unfold lowB;rw [if_neg hc]
 go_enter Tryz.func156,Tryz.ntmps156
 go_wp2_with (first
  | (go_at_call 112;go_loud (refine (scanFold_yes _ b r t h (by omega) hs hfold).mono ?_;rintro e w1 ⟨rfl,h1,f1⟩;rw [hts] at h1;have hr1:(tailB r 1).data.toList=signL sgn D:=by rw [tailB_data,hr];rfl))
  | (go_at_call 110;go_loud (refine (scanMinus_sgn _ b _ sgn D h1 hr1 hhead).mono ?_;rintro e w2 ⟨r2,rfl,hr2,h2,f2⟩))
  | (go_at_call 201;go_loud (refine (mustTen _ b r2 D [] h2 (by rw [hr2,List.append_nil]) h0 (by rw [Go.Lib.size_eq,hr2];omega) hD (by intro y hy;simp at hy)).mono ?_;rintro e w3 ⟨v,r3,rfl,ho,hr3,h3,f3⟩;obtain⟨ao,cap,rfl,hcap,hcell⟩:=ho.u8.shape)))
 have F3:=(f1.trans f2 (fun t ht=>.inl ht)).trans f3 (fun t ht=>.inl ht)
 have hwl:(worths tenW D).length=D.length:=by simp [worths]
 have hlb:(worths tenW D).length≤65536:=by omega
 have hby:=ho.1
 have h3':=h3
 clear hwl hfold hr ht hrl hsl hhead hr1 hr2 h1 h2 h3
 generalize hL:worths tenW D=L at *
 go_loop [6,18] (fun a i=>∃ (i' q:Nat),i=.int .i64 i'∧a=.int .i64 q∧i'≤L.length∧Hid (q=expN (L.take i'))) (fun _ i=>L.length - (intOf i).toNat)
 case atStart=>exact⟨0,0,rfl,rfl,Nat.zero_le _,Go.Lib.hid rfl⟩
 case round =>
  obtain⟨i',q,rfl,rfl,hi,hq⟩:=hrel
  by_cases hlt:i'<L.length
  ·obtain⟨g,o,rfl,hg,hcl⟩:=hcell i' hlt
   have hd:dg L i'<256:=byt_lt hby i'
   have hq1:q≤68719476736:=by rw [hq.out];exact expN_le _
   have hnx:expN (L.take (i'+1))=expStep q (dg L i'):=by rw [List.take_succ_eq_append_getElem hlt,expN_snoc,← hq.out,dg_get L i' hlt]
   have Hnx:=Go.Lib.hid hnx
   clear hnx
   go_wp2
   go_round
   case rel=>exact⟨i'+1,expStep q (dg L i'),rfl,by unfold expStep;congr 1;omega,hlt,Go.Lib.hid Hnx.out.symm⟩
   case measure=>simp [intOf];omega
  ·obtain rfl:i'=L.length:=by omega
   have hq2:=hq.out
   rw [List.take_length] at hq2
   have hq1:q≤68719476736:=by rw [hq.out];exact expN_le _
   cases sgn with
   | false =>
    go_wp2
    go_ret
    exact⟨by rw [← hq2];rfl,r3,by simpa using hr3,h3',F3⟩
   | true =>
    go_wp2
    go_ret
    exact⟨by rw [← hq2];rfl,r3,by simpa using hr3,h3',F3⟩
theorem exponent_none (w:World) (b:Nat) (r t:ByteArray) (h:ScanAt w b r) (hr:r.size<t.size) :
  Calls Tryz.prog 156 #[.pointer (some ⟨b,0,none⟩),.string t] w fun x w'=>x=.returned (.int .i64 0)∧Fr [] w w':=by
 go_enter Tryz.func156,Tryz.ntmps156
 go_wp2_with (go_at_call 112;refine (scanFold_short _ b r t h hr).mono ?_;rintro e w1 ⟨rfl,f1⟩)
 go_ret
 exact⟨rfl,f1⟩
theorem clipV_any (w:World) (n:Int):Calls Tryz.prog 161 #[.int .i64 n] w fun x w'=>x=.returned (.int .i64 (max (-1073741824) (min n 1073741824)))∧w'=w:=by
 go_enter Tryz.func161,Tryz.ntmps161
 go_wp2
 go_ret
 exact⟨rfl,rfl⟩
end Go.Proofs.YtcmndpjemdjalaaGreatDoor
namespace Go.Proofs.YtcmndpjemdjalaaGreatDoor
open Go.RowKit
def pointL (p:Bool) (B:List UInt8):List UInt8:=if p then 46 :: B else []
def expL (c:UInt8):Option (Bool × List UInt8)→List UInt8
 | none=>[]
 | some (sgn,D)=>c :: signL sgn D
def expO:Option (Bool × List UInt8)→Int
 | none=>0
 | some (sgn,D)=>expS sgn (expN (worths tenW D))
def ExpOk (E:Option (Bool × List UInt8)):Prop:=∀ x∈E,0<x.2.length∧∀ y∈x.2,(tenW y.toNat).2=1
theorem expO_le (E:Option (Bool × List UInt8)):-68719476736≤expO E∧expO E≤68719476736:=by
 rcases E with _ | ⟨sgn,D⟩
 ·simp [expO]
 ·have:=expN_le (worths tenW D)
  cases sgn <;> simp only [expO,expS] <;> simp <;> omega
theorem mantissaTen (w:World) (b:Nat) (r:ByteArray) (A B T:List UInt8) (p:Bool) (h:ScanAt w b r) (hr:r.data.toList=A++(pointL p B++T)) (h0:0<A.length) (hs:r.size≤65536) (hA:∀ x∈A,(tenW x.toNat).2=1) (hB:∀ x∈B,(tenW x.toNat).2=1) (hpB:p=false→B=[]) (hT:Behind tenW T) (hT2:T.head? ≠ some 46) :
  Calls Tryz.prog 154 #[.pointer (some ⟨b,0,none⟩),.func (.func 111) #[] #[]] w fun x w'=>∃ v r',x=.returned (.tuple #[v,.int .i64 B.length])∧OwnC w' w.heap.size v (worths tenW (A++B))∧r'.data.toList=T∧ScanAt w' b r'∧Fr [b] w w':=by
 cases p with
 | false =>
  obtain rfl:=hpB rfl
  rw [List.append_nil]
  exact mantissa_wholeTen w b r A T h hr h0 hs hA hT hT2
 | true=>exact mantissa_pointTen w b r A B T h hr h0 hs hA hB hT
theorem exponentAny (w:World) (b:Nat) (r t:ByteArray) (c:UInt8) (E:Option (Bool × List UInt8)) (h:ScanAt w b r) (hr:r.data.toList=expL c E) (hE:ExpOk E) (hs:r.size≤65536) (ht:t.data.toList=[c]) (hc:¬ (65≤c.toNat∧c.toNat≤90)) :
  Calls Tryz.prog 156 #[.pointer (some ⟨b,0,none⟩),.string t] w fun x w'=>∃ r',x=.returned (.int .i64 (expO E))∧r'.data.toList=[]∧ScanAt w' b r'∧Fr [b] w w':=by
 rcases E with _ | ⟨sgn,D⟩
 ·refine (exponent_none w b r t h ?_).mono (fun e w' ⟨h1,h2⟩=>⟨r,h1,hr,h.fr h2 (by simp),h2.mono (by simp)⟩)
  rw [Go.Lib.size_eq,Go.Lib.size_eq,hr,ht];simp [expL]
 ·have hD:=hE (sgn,D) rfl
  exact exponent_some w b r t c sgn D h hr hD.1 hs hD.2 ht hc
def decT (L:List UInt8):List UInt8:=Lib.trimLeftS L [48]
def decS (L:List UInt8):List UInt8:=Lib.trimRightS (decT L) [48]
def clipI (n:Int):Int:=max (-1073741824) (min n 1073741824)
def decE (L:List UInt8) (x:Int):Int:=if decS L=[] then 0 else clipI (x+(decT L).length - (decS L).length)
def strL (l:List UInt8):ByteArray:=⟨l.toArray⟩
@[simp] theorem strL_data (l:List UInt8):(strL l).data.toList=l:=by simp [strL]
theorem strL_size (l:List UInt8):(strL l).size=l.length:=by rw [Go.Lib.size_eq,strL_data]
theorem decT_le (L:List UInt8):(decT L).length≤L.length:=by unfold decT Lib.trimLeftS;exact (List.dropWhile_sublist _).length_le
theorem decS_le (L:List UInt8):(decS L).length≤(decT L).length:=by
 unfold decS Lib.trimRightS
 rw [List.length_reverse]
 have:=(List.dropWhile_sublist (fun x=>[(48:UInt8)].contains x) (l:=(decT L).reverse)).length_le
 rwa [List.length_reverse] at this
def decNum (neg:Bool) (s:ByteArray) (e:Int):Value:=.agg #[.int .u8 1,.bool neg,.bool neg,.string s,.int .i64 e,.bool false,.slice none 0 0,.int .i64 0,.int .u64 0]
theorem worths_back (L:List UInt8) (h:∀ x∈L,(tenW x.toNat).2=1):(worths tenW L).map (·+ 48)=L.map UInt8.toNat:=by
 unfold worths
 rw [List.map_map]
 apply List.map_congr_left
 intro x hx
 have h1:=h x hx
 unfold tenW at h1
 by_cases h2:48≤x.toNat∧x.toNat≤57
 ·show (tenW x.toNat).1+48=x.toNat
  unfold tenW;rw [if_pos h2];show x.toNat - 48+48=x.toNat;omega
 ·rw [if_neg h2] at h1;simp at h1
theorem worth9 (L:List UInt8) (i:Nat):dg (worths tenW L) i≤9:=by
 rcases Nat.lt_or_ge i (worths tenW L).length with h | h
 ·rw [dg_get _ i h]
  simp only [worths,List.getElem_map]
  unfold tenW
  by_cases h2:48≤(L[i]'(by simpa [worths] using h)).toNat∧(L[i]'(by simpa [worths] using h)).toNat≤57
  ·rw [if_pos h2];show _ - 48≤9;omega
  ·rw [if_neg h2];simp
 ·rw [dg_out _ i h];omega
theorem map_step (f:Nat→Nat) (L:List Nat) (i:Nat) (h:i<L.length):((L.take i).map f++L.drop i).set i (f L[i])=(L.take (i+1)).map f++L.drop (i+1):=by
 rw [List.take_succ_eq_append_getElem h,List.drop_eq_getElem_cons h,List.map_append,List.append_assoc]
 rw [List.set_append_right _ _ (by simp;omega)]
 rw [List.length_map,List.length_take,Nat.min_eq_left (Nat.le_of_lt h),Nat.sub_self,List.set_cons_zero,List.map_singleton];rfl
theorem map_at (f:Nat→Nat) (L:List Nat) (i:Nat) (h:i<L.length):dg ((L.take i).map f++L.drop i) i=dg L i:=by
 have hl:i<((L.take i).map f++L.drop i).length:=by simp;omega
 rw [dg_get _ i hl,dg_get _ i h,List.getElem_append_right (by simp;omega)]
 simp [Nat.min_eq_left (Nat.le_of_lt h)]
theorem map_len (f:Nat→Nat) (L:List Nat) (i:Nat):((L.take i).map f++L.drop i).length=L.length:=by
 simp only [List.length_append,List.length_map,List.length_take,List.length_drop];omega
theorem wpList_store_whole {ops:Array Oper} {rest:List Oper} {o:Oper} {a:Act} {w:World} {Q:Exit→Act→World→Prop} (hgd:o.guard=none) (ty:TypeId) (x y:Operand) (ho:o.op=.store ty x y)
  (g:Nat) (cells:Array Value) (hx:a.eval x=.pointer (some ⟨g,0,none⟩)) (hy:a.eval y=.agg cells)
  (t:TypeId) (old:Array Value) (hg:w.heap[g]?=some (.cells old t (0,0))) (hi:(Tryz.prog.info? ty).map (·.size)=some cells.size)
  (hold:old.size=cells.size) (h1:cells.all (·.oneCell')=true)
  (h:∀ w',w'.heap[g]?=some (.cells cells t (0,0))→Fr [g] w w'→wpList Tryz.prog ops Q rest (a.put o.dst undef) w'):wpList Tryz.prog ops Q (o :: rest) a w :=
 wpList_plain hgd fun _ hK=>wp_store_row ty x y ho g cells hx hy t old hg hi hold h1 (hK _ _ (h _ (setRow_heap w g old cells t _ hg) ⟨rfl,rfl,rfl,by simp [World.setRow],fun k _ hk=>setRow_other w g k cells (fun e=>hk (by simp [e]))⟩))
theorem scanDecimal (w:World) (b:Nat) (r:ByteArray) (A B:List UInt8) (p:Bool) (E:Option (Bool × List UInt8)) (neg:Bool) (h:ScanAt w b r) (hr:r.data.toList=A++(pointL p B++expL 101 E)) (h0:0<A.length) (hs:r.size≤65536) (hA:∀ x∈A,(tenW x.toNat).2=1) (hB:∀ x∈B,(tenW x.toNat).2=1) (hpB:p=false→B=[]) (hE:ExpOk E) :
  Calls Tryz.prog 114 #[.pointer (some ⟨b,0,none⟩),.bool neg] w fun x w'=>∃ r',x=.returned (decNum neg (strL (decS (A++B))) (decE (A++B) (expO E - B.length)))∧r'.data.toList=[]∧ScanAt w' b r'∧Fr [b] w w':=by
 have hbw:=h.lt
 have hbeh:Behind tenW (expL 101 E):=by
  intro y hy
  rcases E with _ | ⟨sgn,D⟩
  ·simp [expL] at hy
  ·simp [expL] at hy;subst hy;decide
 have hne46:(expL 101 E).head? ≠ some 46:=by
  rcases E with _ | ⟨sgn,D⟩ <;> simp [expL]
 have hlen:r.size=A.length+((pointL p B).length+(expL 101 E).length):=by rw [Go.Lib.size_eq,hr];simp
 have hpl:B.length≤(pointL p B).length:=by
  cases p with
  | false=>simp [hpB rfl]
  | true=>simp [pointL]
 have hxo:=expO_le E
 obtain⟨xo,hxo'⟩:∃ xo,expO E=xo:=⟨_,rfl⟩
 have hrow:=row_new w (.cells #[.int .u8 0,.bool false,.bool false,.string ⟨#[]⟩,.int .i64 0,.bool false,.slice none 0 0,.int .i64 0,.int .u64 0] 83)
 have fA:=(Fr.refl [] w).alloc (.cells #[.int .u8 0,.bool false,.bool false,.string ⟨#[]⟩,.int .i64 0,.bool false,.slice none 0 0,.int .i64 0,.int .u64 0] 83)
 have hA1:=h.fr fA (by simp)
 go_enter Tryz.func114,Tryz.ntmps114
 generalize hW:w.alloc (.cells #[.int .u8 0,.bool false,.bool false,.string ⟨#[]⟩,.int .i64 0,.bool false,.slice none 0 0,.int .i64 0,.int .u64 0] 83)=W at *
 have hWs:W.heap.size=w.heap.size+1:=by rw [← hW];simp
 go_wp2_with (first
  | (go_at_call 154;go_loud (refine (mantissaTen _ b r A B (expL 101 E) p hA1 hr h0 hs hA hB hpB hbeh hne46).mono ?_;rintro e w1 ⟨v,r1,rfl,ho1,hr1,h1,f1⟩))
  | (go_at_call 156;go_loud (refine (exponentAny _ b r1 _ 101 E h1 hr1 hE (by rw [Go.Lib.size_eq,hr1];omega) rfl (by decide)).mono ?_;rintro e w2 ⟨r2,rfl,hr2,h2,f2⟩;rw [hxo'];obtain⟨ao,cap,rfl,hcap,-⟩:=ho1.u8.shape)))
 clear hW
 have hbW:b<W.heap.size:=hA1.lt
 have ho2:=ho1.keptLow f2 hbW
 have f3:=f1.trans f2 (fun t ht=>.inl ht)
 have hworth:=worth9 (A++B)
 have hback:=worths_back (A++B) (fun x hx=>(List.mem_append.1 hx).elim (hA x) (hB x))
 have hNl:(worths tenW (A++B)).length=A.length+B.length:=by simp [worths]
 have hN1:(worths tenW (A++B)).length≤65536:=by omega
 have hN0:0<(worths tenW (A++B)).length:=by omega
 have hBl:B.length≤65536:=by omega
 have HNl:=Go.Lib.hid hNl
 have Hback:=Go.Lib.hid hback
 have hxo2:-68719476736≤xo∧xo≤68719476736:=by rw [← hxo'];exact hxo
 have Hxo:=Go.Lib.hid hxo'
 clear hback hNl hlen hr hr1 ho1 h1 f1 f2 hbeh hne46 hxo hxo'
 generalize hL:worths tenW (A++B)=L at *
 go_loopw [23] (fun i wr=>∃ (i':Nat),i=.int .i64 i'∧i'≤L.length∧OwnC wr W.heap.size (.slice ao L.length cap) ((L.take i').map (·+ 48)++L.drop i')∧ScanAt wr b r2∧Fr [b] W wr) (fun i _=>L.length - (intOf i).toNat)
 case atStart=>exact⟨0,rfl,Nat.zero_le _,by simpa using ho2,h2,f3⟩
 case round =>
  obtain⟨i',rfl,hi,hoM,hsc,hfr⟩:=hrel
  by_cases hlt:i'<L.length
  ·rcases hoM.shape with ⟨-,hnil⟩ | ⟨g,cap',cur,hv2,hgb,hgh,hcapM,-,-,hcur⟩
   ·have:=map_len (·+ 48) L i';rw [hnil] at this;simp at this;omega
   ·simp only [Value.slice.injEq] at hv2
    obtain⟨rfl,-,rfl⟩:=hv2
    have hcell:wr.cell? ⟨g,i',none⟩=some (.int .u8 (dg L i':Nat)):=by rw [cell_of_row _ _ _ _ _ _ hgh,← map_at (·+ 48) L i' hlt];exact hcur i' (by rw [map_len];exact hlt)
    have hfz:=frozen_of_row wr g i' _ _ hgh
    have hd:=hworth i'
    have hset:=hoM.set i' (dg L i'+48) (by rw [map_len];exact hlt) (by omega)
    rw [dg_get L i' hlt,map_step (·+ 48) L i' hlt,← dg_get L i' hlt] at hset
    have hfs:Fr [g] wr (wr.setCell ⟨g,i',none⟩ (.int .u8 ((dg L i'+48:Nat):Int))):=(Fr.refl [g] wr).setCell (.inl (by simp)) _
    have hsc':=hsc.fr hfs (by simp;omega)
    have hfr':=hfr.after hfs (by simpa using hgb)
    rw [Int.natCast_add] at hset hsc' hfr'
    have Hset:=Go.Lib.hid hset
    have Hfr:=Go.Lib.hid hfr'
    have Hsc:=Go.Lib.hid hsc'
    clear hset hfr' hsc' hfs hcur hgh hoM
    go_wp2
    go_roundw
    case rel=>exact⟨i'+1,rfl,hlt,Hset.out,Hsc.out,Hfr.out⟩
    case measure=>simp [intOf];omega
  ·obtain rfl:i'=L.length:=by omega
   rw [List.take_length,List.drop_length,List.append_nil,Hback.out] at hoM
   have hLl:L.length=(strL (A++B)).size:=by rw [strL_size,List.length_append,HNl.out]
   obtain⟨g,cap',cur,rfl,hgh,hcur⟩:∃ g cap' cur,ao=some ⟨g,0,none⟩∧wr.heap[g]?=some (.cells cur 5 (0,0))∧∀ i,i<L.length→cur[i]?=some (.int .u8 (dg ((A++B).map UInt8.toNat) i:Nat)):=by
    rcases hoM.shape with ⟨-,hnil⟩ | ⟨g,cap',cur,hv2,hgb,hgh,hcapM,-,-,hcur⟩
    ·have:=HNl.out;rw [List.map_eq_nil_iff,List.append_eq_nil_iff] at hnil;rw [hnil.1] at h0;simp at h0
    ·simp only [Value.slice.injEq] at hv2
     refine⟨g,cap',cur,hv2.1,hgh,fun i hi=>hcur i ?_⟩
     rw [List.length_map,List.length_append,← HNl.out];exact hi
   have hcv:(convert 40 9 (.slice (some ⟨g,0,none⟩) (strL (A++B)).size cap)).run Tryz.prog wr=.ok (.string (strL (A++B))) wr:=by
    refine Go.Lib.run_convert_whole wr _ 5 _ und_u8s (by kernel_rfl) und_strS g 0 (strL (A++B)) ?_ cap
    intro i hi
    rw [Nat.zero_add,cell_of_row _ _ _ _ _ _ hgh,hcur i (by omega)]
    have hil:i<(A++B).length:=by rwa [strL_size] at hi
    rw [dg_get _ i (by simpa using hil),← getD_at (strL (A++B)) i hi,strL_data]
    rw [List.getElem_map];simp only [List.getD,List.getElem?_eq_getElem hil,Option.getD_some]
   have hasc:=Go.Proofs.ascii_of_all (l:=[(48:UInt8)]) (by decide)
   have hTL:∀ W,Calls Tryz.prog 54 #[.string (strL (A++B)),.string ⟨#[48]⟩] W fun e w'=>e=.returned (.string (strL (decT (A++B))))∧Below W.heap.size W w':=by
    intro W;have h9:=Tryz.strings_TrimLeft (strL (A++B)) ⟨#[48]⟩ W (by decide) hasc;rw [strL_data] at h9;exact h9
   have hTR:∀ W,Calls Tryz.prog 53 #[.string (strL (decT (A++B))),.string ⟨#[48]⟩] W fun e w'=>e=.returned (.string (strL (decS (A++B))))∧Below W.heap.size W w':=by
    intro W;have h9:=Tryz.strings_TrimRight (strL (decT (A++B))) ⟨#[48]⟩ W (by rw [strL_size];have:=decT_le (A++B);rw [List.length_append] at this;have:=HNl.out;omega) (by decide) hasc;rw [strL_data] at h9;exact h9
   have hrow3:wr.heap[w.heap.size]?=some (.cells #[.int .u8 0,.bool false,.bool false,.string ⟨#[]⟩,.int .i64 0,.bool false,.slice none 0 0,.int .i64 0,.int .u64 0] 83 (0,0)):=hfr.row hrow (by simp;omega)
   have hts:=decT_le (A++B)
   have hss:=decS_le (A++B)
   rw [List.length_append,← HNl.out] at hts
   have htz:(strL (decT (A++B))).size=(decT (A++B)).length:=strL_size _
   have hsz:(strL (decS (A++B))).size=(decS (A++B)).length:=strL_size _
   obtain⟨S,hS⟩:∃ S,strL (decS (A++B))=S:=⟨_,rfl⟩
   obtain⟨T,hT⟩:∃ T,strL (decT (A++B))=T:=⟨_,rfl⟩
   rw [hS] at hTR hsz
   rw [hT] at hTL hTR htz
   by_cases hz:decS (A++B)=[]
   ·have hE0:decE (A++B) (xo - B.length)=0:=by unfold decE;rw [if_pos hz]
    obtain rfl:S=⟨#[]⟩:=by rw [← hS,hz];rfl
    have HE0:=Go.Lib.hid hE0
    have HS:=Go.Lib.hid hS
    clear hE0 hcur hgh hS hT hz
    go_wp2_with (first
     | (go_at_call 54;go_loud (refine (hTL _).mono ?_;rintro e w4 ⟨rfl,hb4⟩;have f4:=Fr.of_below hb4))
     | (go_at_call 53;go_loud (refine (hTR _).mono ?_;rintro e w5 ⟨rfl,hb5⟩;have f5:=Fr.of_below hb5;have hr5:=f5.row (f4.row hrow3 (by simp)) (by simp);have fD:=(Fr.refl [] w5).alloc (.cells #[.bool neg,.string ⟨#[]⟩,.int .i64 0] 76);have hrX:=fD.row hr5 (by simp)))
     | ((with_reducible show wpList _ _ _ (⟨none,.store 83 (.tmp 4) (.tmp 54),_,_,_,_⟩ :: _) _ _);go_loud (refine wpList_store_whole rfl 83 (.tmp 4) (.tmp 54) rfl w.heap.size _ rfl rfl _ _ hrX (by kernel_rfl) rfl (by simp [Value.oneCell']) ?_;intro w6 hr6 f6)))
    (try simp only [Exit.inBlock,Exit.then])
    refine bodyPost_ret (v:=decNum neg ⟨#[]⟩ 0) (results_cell_row rfl _ _ w.heap.size _ _ _ _ rfl hr6 Tryz.underlying83 rfl (by kernel_rfl)) rfl ?_
    exact⟨r2,by rw [HS.out,Hxo.out,HE0.out],hr2,(((hsc.fr f4 (by simp)).fr f5 (by simp)).fr fD (by simp)).fr f6 (by simp;omega),(((((fA.mono (by simp)).trans hfr (fun t ht=>.inl ht)).then f4).then f5).then fD).after f6 (by simp)⟩
   ·have hE1:decE (A++B) (xo - B.length)=clipI (xo - B.length+(decT (A++B)).length - (decS (A++B)).length):=by unfold decE;rw [if_neg hz]
    have hne:¬ S=⟨#[]⟩:=by intro he;apply hz;rw [← hS] at he;have h9:=congrArg (fun x:ByteArray=>x.data.toList) he;rw [strL_data] at h9;exact h9
    obtain⟨E0,hE0⟩:∃ E0,clipI (xo - B.length+(decT (A++B)).length - (decS (A++B)).length)=E0:=⟨_,rfl⟩
    rw [hE0] at hE1
    have hnb:¬ S=ByteArray.empty:=hne
    have hnE:S.toList.isEmpty=false:=notEmpty (by rw [← hS,strL_size];exact List.length_pos_iff.2 hz)
    rw [← htz,← hsz] at hE0
    have hTz:T.size≤65536:=by omega
    have hSz:S.size≤T.size:=by omega
    have HE1:=Go.Lib.hid hE1
    unfold clipI at hE0
    have HE0:=Go.Lib.hid hE0
    have HS:=Go.Lib.hid hS
    clear hE1 hE0 hcur hgh hS hT hz htz hsz hss hts
    go_wp2_with (first
     | (go_at_call 54;go_loud (refine (hTL _).mono ?_;rintro e w4 ⟨rfl,hb4⟩;have f4:=Fr.of_below hb4))
     | (go_at_call 53;go_loud (refine (hTR _).mono ?_;rintro e w5 ⟨rfl,hb5⟩;have f5:=Fr.of_below hb5;have hr5:=f5.row (f4.row hrow3 (by simp)) (by simp);have fD:=(Fr.refl [] w5).alloc (.cells #[.bool neg,.string S,.int .i64 E0] 76);have hrX:=fD.row hr5 (by simp)))
     | (go_at_call 161;go_loud (refine (clipV_any _ _).mono ?_;rintro e w7 ⟨rfl,rfl⟩;rw [HE0.out]))
     | ((with_reducible show wpList _ _ _ (⟨none,.store 83 (.tmp 4) (.tmp 54),_,_,_,_⟩ :: _) _ _);go_loud (refine wpList_store_whole rfl 83 (.tmp 4) (.tmp 54) rfl w.heap.size _ rfl rfl _ _ hrX (by kernel_rfl) rfl (by simp [Value.oneCell']) ?_;intro w6 hr6 f6)))
    (try simp only [Exit.inBlock,Exit.then])
    refine bodyPost_ret (v:=decNum neg S E0) (results_cell_row rfl _ _ w.heap.size _ _ _ _ rfl hr6 Tryz.underlying83 rfl (by kernel_rfl)) rfl ?_
    exact⟨r2,by rw [HS.out,Hxo.out,HE1.out],hr2,(((hsc.fr f4 (by simp)).fr f5 (by simp)).fr fD (by simp)).fr f6 (by simp;omega),(((((fA.mono (by simp)).trans hfr (fun t ht=>.inl ht)).then f4).then f5).then fD).after f6 (by simp)⟩
end Go.Proofs.YtcmndpjemdjalaaGreatDoor
namespace Go.Proofs.YtcmndpjemdjalaaGreatDoor
open Go.RowKit
open Pb
theorem OwnS.grew {w w':World} {base:Nat} {v:Value} {L:List Nat} (h:OwnS w base v L) (hg:∀ S,(∀ g,v.ownBlock=some g→g∈S)→Fr S w w'):∃ S,(∀ s∈S,base≤s)∧Fr S w w':=by
 rcases h.shape with ⟨rfl,-⟩ | ⟨g,cap,cur,rfl,hb,-⟩
 ·exact⟨[],by simp,hg [] (fun g hg=>by have h:(none:Option Nat)=some g:=hg;cases h)⟩
 ·exact⟨[g],by simpa using hb,hg [g] (fun g' hg=>by have h:some g=some g':=hg;cases h;simp)⟩
def Upto (base:Nat) (w w':World):Prop:=∃ S,(∀ s∈S,base≤s)∧Fr S w w'
theorem Upto.refl (base:Nat) (w:World):Upto base w w:=⟨[],by simp,Fr.refl _ _⟩
theorem Upto.trans {base:Nat} {a b c:World} (h:Upto base a b) (k:Upto base b c):Upto base a c:=by
 obtain⟨S,hS,f⟩:=h
 obtain⟨T,hT,g⟩:=k
 refine⟨S++T,?_,(f.mono (by simp +contextual)).trans (g.mono (T:=S++T) (by simp +contextual)) (fun t ht=>.inl ht)⟩
 intro s hs
 rcases List.mem_append.1 hs with h | h
 ·exact hS s h
 ·exact hT s h
theorem Upto.of_fr {base:Nat} {S:List Nat} {w w':World} (h:Fr S w w') (hS:∀ s∈S,base≤s):Upto base w w':=⟨S,hS,h⟩
theorem Upto.fr {base:Nat} {w w':World} (h:Upto base w w') (hb:w.heap.size≤base):Fr [] w w':=by
 obtain⟨S,hS,f⟩:=h
 exact (Fr.refl [] w).after f (fun s hs=>Nat.le_trans hb (hS s hs))
theorem Upto.size {base:Nat} {w w':World} (h:Upto base w w'):w.heap.size≤w'.heap.size:=by
 obtain⟨S,hS,f⟩:=h
 exact f.size
theorem carry_lt32 {c d f:Nat} (hc:c<4294967296) (hd:d<4294967296) (hf:f<4294967296):(c+d * f) / 4294967296<4294967296:=by
 rw [Nat.div_lt_iff_lt_mul (by omega)]
 have:d * f≤4294967295 * 4294967295:=Nat.mul_le_mul (by omega) (by omega)
 omega
theorem mulSmall_own (w:World) (base:Nat) (v:Value) (L:List Nat) (m c:Nat) (hown0:OwnS w base v L) (hm:m<4294967296) (hc:c<4294967296) (hl:L.length≤1048576) (hb:base≤w.heap.size) :
  Calls Tryz.prog 244 #[v,.int .u32 m,.int .u32 c] w fun e w'=>∃ v' L',e=.returned v'∧OwnS w' base v' L'∧val L'=val L * m+c∧L'.length≤L.length+1∧Upto base w w':=by
 obtain⟨ao,cap,rfl,hcapL,-⟩:=hown0.u32.shape
 go_enter Tryz.func244,Tryz.ntmps244
 go_wp2
 go_loopw [7,8] (fun a i wr2=>∃ (j q':Nat) (M:List Nat),i=.int .i64 j∧a=.int .u64 q'∧j≤L.length∧Hid (M.length=L.length)∧OwnS wr2 base (.slice ao L.length cap) M∧q'<4294967296∧Hid (val (M.take j)+q' * 4294967296 ^ j=val (L.take j) * m+c)∧Hid (∀ p,j≤p→dg M p=dg L p)∧Upto base w wr2) (fun _ i _=>L.length - (intOf i).toNat)
 case atStart=>exact⟨0,c,L,rfl,rfl,Nat.zero_le _,Go.Lib.hid rfl,hown0,hc,Go.Lib.hid (by simp [val]),Go.Lib.hid (fun _ _=>rfl),Upto.refl _ _⟩
 case round =>
  obtain⟨j,q',M,rfl,rfl,hj,hML,hownM,hq'F,hvM,hzM,hfrM⟩:=hrel
  clear hown0
  by_cases hjl:j<L.length
  ·rcases hownM.shape with ⟨-,h2⟩ | ⟨g,cap',cur,hv2,hgb,hgh,hcapM,-,-,hcur⟩
   ·have:=hML.out;rw [h2] at this;simp at this;omega
   ·simp at hv2
    obtain⟨rfl,-,rfl⟩:=hv2
    have hcell:wr.cell? ⟨g,j,none⟩=some (.int .u32 (dg M j:Nat)):=by rw [cell_of_row _ _ _ _ _ _ hgh];exact hcur j (by rw [hML.out];exact hjl)
    have hfz:=frozen_of_row wr g j _ _ hgh
    have hdM:=dg_lt hownM.1 j
    have hset:=hownM.set j ((q'+dg M j * m) % 4294967296) (by rw [hML.out];exact hjl) (by omega)
    have hmul:(dg M j:Int) * (m:Int)≤18446744065119617025:=by
     have h1:dg M j * m≤4294967295 * 4294967295:=Nat.mul_le_mul (by omega) (by omega)
     have h2:((dg M j * m:Nat):Int)≤18446744065119617025:=by omega
     rwa [Int.natCast_mul] at h2
    have hmul0:(0:Int)≤(dg M j:Int) * (m:Int):=Int.mul_nonneg (by omega) (by omega)
    have hw1:IntKind.u64.wrap ((dg M j:Int) * (m:Int))=(dg M j:Int) * (m:Int):=IntWalk.u64_in _ (by omega)
    have hdz:=hzM.out j (Nat.le_refl _)
    have hstep:=muladd_step M L j q' m c hjl (by rw [hML.out];exact hjl) hvM.out (q'+dg M j * m) (by rw [hdz])
    have hcar:=carry_lt32 hq'F hdM hm
    have Hst:=Go.Lib.hid hstep
    have Hcar:=Go.Lib.hid hcar
    have HzM:=hzM
    clear hstep hcar hdz hcur hgh hownM hzM hvM
    have hcast:(((q'+dg M j * m) % 4294967296:Nat):Int)=((dg M j:Int) * (m:Int)+(q':Int)) % 4294967296:=by
     rw [← Int.natCast_mul,Int.add_comm,← Int.natCast_add];rfl
    have hcast2:(((q'+dg M j * m) / 4294967296:Nat):Int)=((dg M j:Int) * (m:Int)+(q':Int)) / 4294967296:=by
     rw [← Int.natCast_mul,Int.add_comm,← Int.natCast_add];rfl
    rw [hcast] at hset
    have Hcast2:=Go.Lib.hid hcast2
    clear hcast hcast2
    have hfs:Upto base w (wr.setCell ⟨g,j,none⟩ (.int .u32 (((dg M j:Int) * (m:Int)+(q':Int)) % 4294967296))):=hfrM.trans (Upto.of_fr ((Fr.refl [g] wr).setCell (.inl (by simp)) _) (by simpa using hgb))
    have Hset:=Go.Lib.hid hset
    have Hfs:=Go.Lib.hid hfs
    clear hset hfs
    go_wp2
    go_roundw
    case rel=>exact⟨j+1,(q'+dg M j * m) / 4294967296,M.set j ((q'+dg M j * m) % 4294967296),rfl,by rw [Hcast2.out],hjl,Go.Lib.hid (by rw [List.length_set];exact hML.out),Hset.out,Hcar.out,Hst,Go.Lib.hid (fun p hp=>by rw [dg_set_ne _ _ _ _ (by omega)];exact HzM.out p (by omega)),Hfs.out⟩
    case measure=>simp [intOf];omega
  ·obtain rfl:j=L.length:=by omega
   have hML':=hML.out
   have hvM':=hvM.out
   rw [← hML',List.take_of_length_le (Nat.le_refl _),hML',List.take_of_length_le (Nat.le_refl _)] at hvM'
   by_cases hq0:q'=0
   ·have hval:val M=val L * m+c:=by rw [hq0] at hvM';simpa using hvM'
    have HM':=Go.Lib.hid hML'
    have Hval:=Go.Lib.hid hval
    subst hq0
    clear hval hvM' hML' hML hvM hzM
    go_wp2
    go_ret
    exact⟨_,M,rfl,hownM,Hval.out,by rw [HM'.out];omega,hfrM⟩
   ·have hq1:(0:Int)<(q':Int):=by omega
    have hval:val (M++[q'])=val L * m+c:=by
     rw [val_append]
     rw [hML']
     have h1:val [q']=q':=by simp [val]
     rw [h1,Nat.mul_comm (4294967296 ^ L.length)]
     exact hvM'
    have HM':=Go.Lib.hid hML'
    have Hval:=Go.Lib.hid hval
    have fnew:=(Fr.refl [] wr).alloc (.cells #[.int .u32 (q':Int)] 208)
    have hownA:=hownM.kept0 fnew
    have hcA:=cell_new wr #[.int .u32 (q':Int)] 208 (0,0) 0 _ rfl
    have hszA:=hfrM.size
    clear hval hvM' hML' hML hvM hzM
    go_wp2_with (at_builtin;go_loud (refine append_u32 _ rfl _ _ rfl base _ M rfl hownA wr.heap.size 1 q' rfl hq'F hcA (by have:=HM'.out;omega) (by simp;omega) ?_;intro v' w' hown' hfr'))
    go_ret
    exact⟨_,M++[q'],rfl,hown',Hval.out,by have:=HM'.out;simp;omega,(hfrM.trans (Upto.of_fr fnew (by simp))).trans (hownA.grew hfr')⟩
end Go.Proofs.YtcmndpjemdjalaaGreatDoor
namespace Go.Proofs.YtcmndpjemdjalaaGreatDoor
open Go.RowKit
open Pb
theorem len16 {l:List Nat} {x:Nat} (h:Is l (16 ^ x)):l.length≤x+1:=by
 apply h.len_of
 exact Nat.lt_of_le_of_lt (Nat.pow_le_pow_left (by omega) x) (Nat.pow_lt_pow_succ (by omega))
theorem is_single (x:Nat) (h0:0<x) (h:x<4294967296):Is [x] x:=⟨by intro d hd;simp at hd;omega,Norm.of_last (.inr (by simpa using Nat.ne_of_gt h0)),by simp [val]⟩
theorem i64_and1 (n:Int):bits .and .i64 n 1=n % 2:=by
 have h127:(BitVec.ofInt 64 1).toNat=2 ^ 1 - 1:=by decide
 have key:(BitVec.ofInt 64 n &&& BitVec.ofInt 64 1).toNat=(n % ((2 ^ 64:Nat):Int)).toNat % 2 ^ 1:=by
  rw [BitVec.toNat_and,BitVec.toNat_ofInt,h127,Nat.and_two_pow_sub_one_eq_mod]
 show IntKind.i64.wrap ((BitVec.ofInt 64 n &&& BitVec.ofInt 64 1).toNat:Nat)=n % 2
 rw [key,IntKind.wrap_i64]
 omega
theorem power_16 (w:World) (n:Nat) (hn:n≤65536) :
  Calls Tryz.prog 242 #[.int .i64 16,.int .i64 n] w fun e w'=>∃ v l,e=.returned v∧U32 w' w.heap.size v l∧Is l (16 ^ n)∧Fr [] w w':=by
 have fA:=(Fr.refl [] w).alloc (.cells #[.int .u32 1] 208)
 have hrow:=row_new w (.cells #[.int .u32 1] 208)
 have hu0:=u32_row _ w.heap.size [1] (by intro d hd;simp at hd;omega) hrow
 go_enter Tryz.func242,Tryz.ntmps242
 go_wp2
 go_loopw [5,6] (fun v i wr=>∃ (c:Nat) (l:List Nat),i=.int .i64 ((c:Int) - 1)∧c≤63∧U32 wr w.heap.size v l∧Is l (16 ^ (n / 2 ^ c))∧Fr [] w wr) (fun _ i _=>(intOf i+1).toNat)
 case atStart=>exact⟨63,[1],rfl,by omega,hu0,by rw [Nat.div_eq_of_lt (Nat.lt_of_le_of_lt hn (by decide))];exact is_single 1 (by omega) (by omega),fA⟩
 case round =>
  obtain⟨c,l,rfl,hc,hu,hi,hfr⟩:=hrel
  rcases c with _ | k
  ·have h1:¬ (0:Int)≤((0:Nat):Int) - 1:=by omega
   rw [Nat.pow_zero,Nat.div_one] at hi
   obtain⟨ao,cap,rfl,hcap,-⟩:=hu.shape
   go_wp2_with fail
   go_ret
   exact⟨_,rfl,l,hu,hi,hfr⟩
  ·obtain⟨m,hm⟩:∃ m,n / 2 ^ (k+1)=m:=⟨_,rfl⟩
   rw [hm] at hi
   have hm1:m≤65536:=by rw [← hm];exact Nat.le_trans (Nat.div_le_self _ _) hn
   have hl16:=len16 hi
   have e1:(((k+1:Nat):Int) - 1)=(k:Int):=by omega
   have hk:n / 2 ^ k=2 * m+n / 2 ^ k % 2:=by rw [← hm,Nat.pow_succ,← Nat.div_div_eq_div_mul];omega
   obtain⟨bt,hbt⟩:∃ bt,n / 2 ^ k % 2=bt:=⟨_,rfl⟩
   rw [hbt] at hk
   have hbt2:bt=0∨bt=1:=by omega
   obtain⟨ao,cap,rfl,hcap,hcell⟩:=hu.shape
   have hpow:16 ^ (2 * m)=16 ^ m * 16 ^ m:=by rw [← Nat.pow_add];congr 1;omega
   have hand:bits .and .i64 ((n:Int) / 2 ^ k) 1=(bt:Int):=by
    rw [i64_and1,← hbt,show ((n:Int) / 2 ^ k)=((n / 2 ^ k:Nat):Int) by simp]
    rfl
   have hiv:=hi.val
   have hfin:∀ l2,Is l2 (16 ^ (2 * m) * 16 ^ bt)→Is l2 (16 ^ (n / 2 ^ k)):=fun l2 h=>by rw [hk,Nat.pow_add];exact h
   have Hfin:=Go.Lib.hid hfin
   have Hpow:=Go.Lib.hid hpow
   have hl30:l.length≤1073741824:=by omega
   have hul:=hu.mono (Nat.zero_le _)
   have hszw:=hfr.size
   clear hfin hbt hk hm hpow
   rw [e1]
   by_cases hm0:m=0
   ·subst hm0
    obtain rfl:=is_one hi
    obtain⟨g,o,rfl,hg,hcl⟩:=hcell 0 (by simp)
    have hcl':wr.cell? ⟨g,o,none⟩=some (.int .u32 1):=by simpa [dg] using hcl
    rcases hbt2 with rfl | rfl
    ·go_wp2_with fail
     go_roundw
     case rel=>exact⟨k,[1],rfl,by omega,hu,Hfin.out _ (by simpa using hi),hfr⟩
     case measure=>simp [intOf] <;> omega
    ·have fB:=(Fr.refl [] wr).alloc (.cells #[.int .u32 16] 208)
     have huB:=u32_row _ wr.heap.size [16] (by intro d hd;simp at hd;omega) (row_new wr (.cells #[.int .u32 16] 208))
     have hulB:=hul.fr0 fB
     go_wp2_with (go_at_call 170;go_loud (refine (mul_any _ 0 _ _ _ [1] [16] hulB huB (by simp) (by simp)).mono ?_;rintro e w3 ⟨v3,l3,rfl,hu3,hi3,f3⟩))
     go_roundw
     case rel=>exact⟨k,l3,rfl,by omega,hu3.mono (by simp;omega),Hfin.out _ (by simpa [val] using hi3),(hfr.then fB).then f3⟩
     case measure=>simp [intOf] <;> omega
   ·have h16:16≤16 ^ m:=by
     have:(16:Nat) ^ 1≤16 ^ m:=Nat.pow_le_pow_right (by omega) (by omega)
     simpa using this
    obtain⟨g,o,rfl,hg,hcl⟩:=hcell 0 (by rcases l with _ | ⟨x,l⟩;(rw [← hiv] at h16;simp [val] at h16);simp)
    have hcl':wr.cell? ⟨g,o,none⟩=some (.int .u32 (dg l 0:Nat)):=by simpa using hcl
    have hne:(1:Int)<(l.length:Int)∨¬ (1:Int)<(l.length:Int)∧(1:Int)<(dg l 0:Nat):=by
     rcases l with _ | ⟨x,_ | ⟨y,l⟩⟩
     ·rw [← hiv] at h16;simp [val] at h16
     ·right;rw [← hiv] at h16;simp [val] at h16;simp [dg];omega
     ·left;simp;omega
    have hl0:(0:Int)<(l.length:Int):=by rcases l with _ | ⟨x,l⟩;(rw [← hiv] at h16;simp [val] at h16);simp
    rcases hbt2 with rfl | rfl
    ·rcases hne with hne | ⟨hne,hne2⟩
     all_goals
      go_wp2_with (go_at_call 170;go_loud (refine (mul_any _ 0 0 _ _ l l hul hul hl30 hl30).mono ?_;rintro e w2 ⟨v2,l2,rfl,hu2,hi2,f2⟩))
      go_roundw
      case rel=>exact⟨k,l2,rfl,by omega,hu2.mono hszw,Hfin.out _ (by rw [hiv,← Hpow.out] at hi2;simpa using hi2),hfr.then f2⟩
      case measure=>simp [intOf] <;> omega
    ·rcases hne with hne | ⟨hne,hne2⟩
     all_goals
      go_wp2_with (first
       | (go_at_call_of 170 l.length;go_loud (refine (mul_any _ 0 0 _ _ l l hul hul hl30 hl30).mono ?_;rintro e w2 ⟨v2,l2,rfl,hu2,hi2,f2⟩;rw [hiv,← Hpow.out] at hi2;have hl2:=len16 hi2;obtain⟨ao2,cap2,rfl,hcap2,-⟩:=hu2.shape;have fB:=(Fr.refl [] w2).alloc (.cells #[.int .u32 16] 208);have huB:=u32_row _ w2.heap.size [16] (by intro d hd;simp at hd;omega) (row_new w2 (.cells #[.int .u32 16] 208));have hul2:=hu2.fr0 fB;have hsz2:=f2.size))
       | (go_at_call 170;go_loud (refine (mul_any _ _ _ _ _ l2 [16] hul2 huB (by omega) (by simp)).mono ?_;rintro e w3 ⟨v3,l3,rfl,hu3,hi3,f3⟩)))
      go_roundw
      case rel=>exact⟨k,l3,rfl,by omega,hu3.mono (by simp;omega),Hfin.out _ (by rw [hi2.val] at hi3;simpa [val] using hi3),((hfr.then f2).then fB).then f3⟩
      case measure=>simp [intOf] <;> omega
end Go.Proofs.YtcmndpjemdjalaaGreatDoor
namespace Go.Proofs.YtcmndpjemdjalaaGreatDoor
open Go.RowKit
open Pb
def hexW (b:UInt8):Nat:=if b.toNat≤57 then b.toNat - 48 else b.toNat - 87
def HexB (b:UInt8):Prop:=(48≤b.toNat∧b.toNat≤57)∨(97≤b.toNat∧b.toNat≤102)
def HexL (l:List UInt8):Prop:=∀ b∈l,HexB b
theorem hexW_lt {b:UInt8} (h:HexB b):hexW b<16:=by
 unfold hexW
 rcases h with h | h
 ·rw [if_pos h.2];omega
 ·rw [if_neg (by omega)];omega
def hexV (l:List UInt8):Nat:=l.foldl (fun a b=>16 * a+hexW b) 0
theorem hexV_from (l:List UInt8):∀ a,l.foldl (fun a b=>16 * a+hexW b) a=a * 16 ^ l.length+hexV l:=by
 induction l with
 | nil=>intro a;simp [hexV]
 | cons b l ih =>
  intro a
  simp only [List.foldl_cons,List.length_cons,hexV]
  rw [ih,ih (16 * 0+hexW b),Nat.pow_succ]
  grind
theorem hexV_append (k l:List UInt8):hexV (k++l)=hexV k * 16 ^ l.length+hexV l:=by
 unfold hexV
 rw [List.foldl_append,hexV_from]
 rfl
theorem hexV_snoc (k:List UInt8) (b:UInt8):hexV (k++[b])=16 * hexV k+hexW b:=by
 unfold hexV
 rw [List.foldl_append]
 rfl
theorem hexV_lt (l:List UInt8) (h:HexL l):hexV l<16 ^ l.length:=by
 induction l with
 | nil=>simp [hexV]
 | cons b l ih =>
  have h1:=ih (fun b hb=>h b (by simp [hb]))
  have h2:=hexW_lt (h b (by simp))
  have h4:hexV (b :: l)=hexW b * 16 ^ l.length+hexV l:=by
   show l.foldl (fun a b=>16 * a+hexW b) (16 * 0+hexW b)=_
   rw [hexV_from,Nat.mul_zero,Nat.zero_add]
  rw [h4,List.length_cons,Nat.pow_succ]
  have h3:hexW b * 16 ^ l.length≤15 * 16 ^ l.length:=Nat.mul_le_mul_right _ (by omega)
  omega
theorem worth_hex (w:World) (b:UInt8) (h:HexB b) :
  Calls Tryz.prog 243 #[.int .u8 b.toNat] w fun e w'=>e=.returned (.int .u32 (hexW b:Nat))∧w'=w:=by
 unfold hexW
 rcases h with ⟨h1,h2⟩ | ⟨h1,h2⟩
 ·rw [if_pos h2]
  generalize b.toNat=c at *
  have k1:(48:Int)≤(c:Int):=by omega
  have k2:(c:Int)≤57:=by omega
  have k3:(((c - 48:Nat)):Int)=(c:Int) - 48:=by omega
  rw [k3]
  go_enter Tryz.func243,Tryz.ntmps243
  go_wp2
  go_ret
  exact⟨rfl,rfl⟩
 ·rw [if_neg (by omega)]
  generalize b.toNat=c at *
  have k0:(48:Int)≤(c:Int):=by omega
  have k1:¬ (c:Int)≤57:=by omega
  have k2:(97:Int)≤(c:Int):=by omega
  have k4:(c:Int)≤122:=by omega
  have k3:(((c - 87:Nat)):Int)=(c:Int) - 97+10:=by omega
  rw [k3]
  go_enter Tryz.func243,Tryz.ntmps243
  go_wp2
  go_ret
  exact⟨rfl,rfl⟩
theorem read_short (w:World) (s:ByteArray) (hx:HexL s.data.toList) (hs:s.size≤300) :
  Calls Tryz.prog 202 #[.string s,.int .i64 16] w fun e w'=>∃ v l,e=.returned (.tuple #[v,.bool true])∧U32 w' w.heap.size v l∧val l=hexV s.data.toList∧l.length≤s.size∧Fr [] w w':=by
 have hs1:¬ (300:Int)<(s.size:Int):=by omega
 go_enter Tryz.func202,Tryz.ntmps202
 go_wp2_with fail
 go_loopw [11,12,13,14] (fun v tv sv i wr=>∃ (n t sm:Nat) (L:List Nat),i=.int .i64 n∧tv=.int .u32 t∧sv=.int .u32 sm∧n≤s.size∧t≤268435455∧sm<t∧OwnS wr w.heap.size v L∧L.length≤n∧Hid (val L * t+sm=hexV (s.data.toList.take n))∧(n=s.size→t=1)∧Upto w.heap.size w wr) (fun _ _ _ i _=>s.size - (intOf i).toNat)
 case atStart=>exact⟨0,1,0,[],rfl,rfl,rfl,Nat.zero_le _,by omega,by omega,OwnS.nil _ _,Nat.le_refl _,Go.Lib.hid (by simp [val,hexV]),fun _=>rfl,Upto.refl _ _⟩
 case round =>
  obtain⟨n,t,sm,L,rfl,rfl,rfl,hn,ht,hsm,hown,hlen,hval,hend,hup⟩:=hrel
  obtain⟨ao,cap,rfl,hcap,-⟩:=hown.u32.shape
  by_cases hlt:n<s.size
  ·have hb:=hx s[n] (by rw [ByteArray.getElem_eq_getElem_data];simp)
   have hw16:=hexW_lt hb
   have hWt:=fun W=>worth_hex W s[n] hb
   have hnl:n<s.data.toList.length:=by rw [← Go.Lib.size_eq];exact hlt
   have hstep:hexV (s.data.toList.take (n+1))=16 * hexV (s.data.toList.take n)+hexW s[n]:=by
    rw [List.take_succ_eq_append_getElem hnl,hexV_snoc];rfl
   generalize hexW s[n]=d at *
   have hv1:val L * (t * 16)+(sm * 16+d)=hexV (s.data.toList.take (n+1)):=by
    rw [hstep,← hval.out,Nat.mul_add,← Nat.mul_assoc,Nat.mul_comm (val L * t) 16,Nat.mul_comm sm 16,Nat.add_assoc]
   have Hv1:=Go.Lib.hid hv1
   clear hstep hv1 hnl hb hval hx
   have d16:¬ (16:Int)≤(d:Int):=by omega
   have hMS:=fun (W:World) (h1:OwnS W w.heap.size (.slice ao L.length cap) L) (h2:w.heap.size≤W.heap.size)=>mulSmall_own W w.heap.size _ L (t * 16) (sm * 16+d) h1 (by omega) (by omega) (by omega) h2
   rw [show ((t * 16:Nat):Int)=(t:Int) * 16 by simp,show ((sm * 16+d:Nat):Int)=(sm:Int) * 16+(d:Int) by simp] at hMS
   by_cases hf1:(268435455:Int)<(t:Int) * 16
   ·have hf2:True:=trivial
    go_wp2_with (first
     | (go_at_call 243;go_loud (refine (hWt _).mono ?_;rintro e w1 ⟨rfl,rfl⟩))
     | (go_at_call 244;go_loud (refine (hMS _ hown hup.size).mono ?_;rintro e w2 ⟨v2,L2,rfl,hown2,hv2,hl2,hup2⟩)))
    have q1:val L2 * 1+0=hexV (s.data.toList.take (n+1)):=by rw [hv2,Nat.mul_one,Nat.add_zero];exact Hv1.out
    have q2:L2.length≤n+1:=by omega
    have q3:=hup.trans hup2
    go_roundw
    case rel=>exact⟨n+1,1,0,L2,rfl,rfl,rfl,hlt,by omega,by omega,hown2,q2,Go.Lib.hid q1,fun _=>rfl,q3⟩
    case measure=>show s.size - ((n:Int)+1).toNat<s.size - ((n:Int)).toNat;omega
   ·by_cases hf2:(n:Int)=(s.size:Int) - 1
    ·have hf3:((n:Int)==(s.size:Int) - 1)=true:=by rw [beq_iff_eq];exact hf2
     clear hf2
     go_wp2_with (first
      | (go_at_call 243;go_loud (refine (hWt _).mono ?_;rintro e w1 ⟨rfl,rfl⟩))
      | (go_at_call 244;go_loud (refine (hMS _ hown hup.size).mono ?_;rintro e w2 ⟨v2,L2,rfl,hown2,hv2,hl2,hup2⟩)))
     have q1:val L2 * 1+0=hexV (s.data.toList.take (n+1)):=by rw [hv2,Nat.mul_one,Nat.add_zero];exact Hv1.out
     have q2:L2.length≤n+1:=by omega
     have q3:=hup.trans hup2
     go_roundw
     case rel=>exact⟨n+1,1,0,L2,rfl,rfl,rfl,hlt,by omega,by omega,hown2,q2,Go.Lib.hid q1,fun _=>rfl,q3⟩
     case measure=>show s.size - ((n:Int)+1).toNat<s.size - ((n:Int)).toNat;omega
    ·have hf3:((n:Int)==(s.size:Int) - 1)=false:=by rw [beq_eq_false_iff_ne];exact hf2
     go_wp2_with (go_at_call 243;go_loud (refine (hWt _).mono ?_;rintro e w1 ⟨rfl,rfl⟩))
     go_roundw
     case rel=>exact⟨n+1,t * 16,sm * 16+d,L,rfl,by simp,by simp,hlt,by omega,by omega,hown,by omega,Hv1,fun he=>by omega,hup⟩
     case measure=>show s.size - ((n:Int)+1).toNat<s.size - ((n:Int)).toNat;omega
  ·obtain rfl:n=s.size:=by omega
   obtain rfl:=hend rfl
   obtain rfl:sm=0:=by omega
   have hv:=hval.out
   rw [Go.Lib.size_eq,List.take_length] at hv
   go_wp2_with fail
   go_ret2
   exact⟨_,rfl,L,hown.u32,by rw [← hv];omega,hlen,hup.fr (Nat.le_refl _)⟩
end Go.Proofs.YtcmndpjemdjalaaGreatDoor
