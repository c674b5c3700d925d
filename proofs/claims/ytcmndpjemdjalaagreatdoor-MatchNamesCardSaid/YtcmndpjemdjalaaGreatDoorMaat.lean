/- Laws that the claimed theorem leans on: no condition of their own beyond their hypotheses. -/
import Derived.Laws.ResultCell
import Derived.Test.YtcmndpjemdjalaaGreatDoorMaao
import Derived.Test.YtcmndpjemdjalaaGreatDoorMaap
import Derived.Test.YtcmndpjemdjalaaGreatDoorMaar
set_option maxRecDepth 100000
set_option maxHeartbeats 16000000
namespace Go.Proofs.YtcmndpjemdjalaaGreatDoor
open Go.RowKit
open Pb
theorem payload_none (w:World) (b:Nat) (r:ByteArray) (h:ScanAt w b r) (hr:r.data.toList=[]) :
  Calls Tryz.prog 115 #[.pointer (some ⟨b,0,none⟩)] w fun x w'=>x=.returned (.int .u64 0)∧Fr [] w w':=by
 go_enter Tryz.func115,Tryz.ntmps115
 go_wp2_with (go_at_call 150;refine (scanHas_no _ b r _ h (by rw [has_one,hr];rfl)).mono ?_;rintro e w1 ⟨rfl,f1⟩)
 go_ret
 exact⟨rfl,f1⟩
def sInfinity:ByteArray:=⟨#[105,110,102,105,110,105,116,121]⟩
def sInf:ByteArray:=⟨#[105,110,102]⟩
def sNan:ByteArray:=⟨#[110,97,110]⟩
theorem number_hex (w:World) (b:Nat) (r:ByteArray) (A B:List UInt8) (p:Bool) (E:Option (Bool × List UInt8)) (neg:Bool) (h:ScanAt w b r) (hr:r.data.toList=signL neg (48 :: 120 :: (A++(pointL p B++expL 112 E)))) (hs:r.size≤65536) (hok:(Txt.hex A B p E).Ok) (hTab:TabAt 7 Lib.deBruijn32tab w) :
  Calls Tryz.prog 74 #[.pointer (some ⟨b,0,none⟩)] w fun x w'=>∃ r' hv,x=.returned hv∧HexPost w' neg (hexV (A++B)) (expO E - 4 * (B.length:Int)) hv∧r'.data.toList=[]∧ScanAt w' b r'∧Fr [b] w w':=by
 have hbw:=h.lt
 obtain⟨h0,hA,hB,hpB,hE⟩:=hok
 have hb7:b ≠ 7:=by
  rintro rfl
  have t0:=hTab 0 (by decide)
  rw [h.cells.1] at t0
  cases t0
 have hrow:=row_new w (.cells #[.int .u8 0,.bool false,.bool false,.string ⟨#[]⟩,.int .i64 0,.bool false,.slice none 0 0,.int .i64 0,.int .u64 0] 83)
 have fA:=(Fr.refl [] w).alloc (.cells #[.int .u8 0,.bool false,.bool false,.string ⟨#[]⟩,.int .i64 0,.bool false,.slice none 0 0,.int .i64 0,.int .u64 0] 83)
 have hA1:=h.fr fA (by simp)
 generalize hW:w.alloc (.cells #[.int .u8 0,.bool false,.bool false,.string ⟨#[]⟩,.int .i64 0,.bool false,.slice none 0 0,.int .i64 0,.int .u64 0] 83)=W at *
 have hWs:W.heap.size=w.heap.size+1:=by rw [← hW];simp
 have hsn:∀ y∈(48 :: 120 :: (A++(pointL p B++expL 112 E))).head?,y.toNat<128∧y.toNat ≠ 43∧y.toNat ≠ 45:=by intro y hy;simp at hy;subst hy;decide
 have hsl:(48 :: 120 :: (A++(pointL p B++expL 112 E))).length≤r.size:=by rw [Go.Lib.size_eq,hr];cases neg <;> simp [signL]
 go_enter Tryz.func74,Tryz.ntmps74
 go_wp2_with (first
  | (go_at_call 110;go_loud (refine (scanMinus_sgn _ b r neg _ hA1 hr hsn).mono ?_;rintro e w1 ⟨r1,rfl,hr1,h1,f1⟩;have hl1:r1.size≤65536:=(by rw [Go.Lib.size_eq,hr1];omega);have h10:0<r1.size:=(by rw [Go.Lib.size_eq,hr1];simp);have hr10:r1[0]=48:=(by rw [← getD_at r1 0 h10,hr1];rfl);have hz1:r1.size=(48 :: 120 :: (A++(pointL p B++expL 112 E))).length:=(by rw [Go.Lib.size_eq,hr1]);obtain⟨c10,c12⟩:=h1.cells))
  | (go_at_call_of 39 (Value.string ⟨#[95]⟩);go_loud (refine (Tryz.strings_HasPrefix r1 under _).mono ?_;rw [hr1,no_under _ (by intro y hy;simp at hy;subst hy;decide)];rintro e w2 ⟨rfl,hw2⟩;subst hw2))
  | (go_at_call 111;go_loud (refine (lexTen_at _ r1 h10 (by rw [hr10];decide)).mono ?_;rw [hr10];rintro e w3 ⟨rfl,f3⟩;have h3:=h1.fr f3 (by simp);obtain⟨c30,c32⟩:=h3.cells))
  | (go_at_call 112;go_loud (refine (scanFold_yes _ b r1 s0x h3 (by rw [hz1];show 2≤_;simp only [List.length_cons];omega) hl1 (by intro i hi;rw [hr1];have hi2:i<2:=hi;rcases i with _ | _ | i;(show lowB (48:UInt8).toNat=(48:UInt8).toNat;decide);(show lowB (120:UInt8).toNat=(120:UInt8).toNat;decide);omega)).mono ?_;rintro e w4 ⟨rfl,h4,f4⟩;have hr4:(tailB r1 s0x.size).data.toList=A++(pointL p B++expL 112 E):=(by rw [tailB_data,hr1];rfl);have hl4:(tailB r1 s0x.size).size≤65536:=(by rw [tailB_size];omega)))
  | (go_at_call 113;go_loud (refine (scanHex _ b _ A B p E neg h4 hr4 h0 hl4 hA hB hpB hE (fun j hj=>((fA.mono (T:=[b]) (by simp)).trans (((f1.then f3).trans f4 (fun t ht=>.inl ht))) (fun t ht=>.inl ht)).stay (hTab j hj) (by simp;omega))).mono ?_;rintro e w5 ⟨r5,hv,rfl,hpost,hr5,h5,f5⟩;obtain⟨hneg,v5,l5,e5,rfl,hpost⟩:=hpost;have hvo:v5.oneCell'=true:=(by rcases hpost with ⟨-,-,rfl,-⟩ | ⟨-,-,hu,-⟩;rfl;(obtain⟨ao,cap,rfl,-,-⟩:=hu.shape;rfl));unfold hexNum;have G5:=(((f1.then f3).trans f4 (fun t ht=>.inl ht)).trans f5 (fun t ht=>.inl ht));have hrow5:=G5.row hrow (by simp;omega)))
  | ((with_reducible show wpList _ _ _ (⟨none,.store 83 (.tmp 2) (.tmp 30),_,_,_,_⟩ :: _) _ _);go_loud (refine wpList_store_whole rfl 83 (.tmp 2) (.tmp 30) rfl w.heap.size _ rfl rfl _ _ hrow5 (by kernel_rfl) rfl (by simp [Value.oneCell'];exact hvo) ?_;intro w6 hr9 f6;have h6:=h5.fr f6 (by simp;omega))))
 (try simp only [Exit.inBlock,Exit.then])
 refine bodyPost_ret (v:=_) (results_cell_row rfl _ _ w.heap.size _ _ _ _ rfl hr9 Tryz.underlying83 rfl (by kernel_rfl)) rfl ?_
 have hpost':(hexV (A++B)=0∧hneg=false∧v5=.slice none 0 0∧l5=[]∧e5=0)∨(0<hexV (A++B)∧hneg=neg∧U32 w6 0 v5 l5∧Is l5 (hexV (A++B) / 2 ^ zerosV (hexV (A++B)))∧e5=clipI (expO E - 4 * (B.length:Int)+(zerosV (hexV (A++B)):Nat))) :=
  hpost.imp id (fun ⟨p1,p2,p3,p4⟩=>⟨p1,p2,p3.fr f6 (NoWord.of_type hrow5 (by decide)),p4⟩)
 exact⟨r5,_,rfl,⟨hneg,v5,l5,e5,rfl,hpost'⟩,hr5,h6,((fA.mono (by simp)).trans G5 (fun t ht=>.inl ht)).after f6 (by simp)⟩
theorem number_inf (w:World) (b:Nat) (r:ByteArray)  (neg:Bool) (h:ScanAt w b r) (hr:r.data.toList=signL neg ([105,110,102]:List UInt8)) (hs:r.size≤65536) :
  Calls Tryz.prog 74 #[.pointer (some ⟨b,0,none⟩)] w fun x w'=>∃ r',x=.returned (nameNum 3 neg)∧r'.data.toList=[]∧ScanAt w' b r'∧Fr [b] w w':=by
 have hbw:=h.lt
 have hrow:=row_new w (.cells #[.int .u8 0,.bool false,.bool false,.string ⟨#[]⟩,.int .i64 0,.bool false,.slice none 0 0,.int .i64 0,.int .u64 0] 83)
 have fA:=(Fr.refl [] w).alloc (.cells #[.int .u8 0,.bool false,.bool false,.string ⟨#[]⟩,.int .i64 0,.bool false,.slice none 0 0,.int .i64 0,.int .u64 0] 83)
 have hA1:=h.fr fA (by simp)
 generalize hW:w.alloc (.cells #[.int .u8 0,.bool false,.bool false,.string ⟨#[]⟩,.int .i64 0,.bool false,.slice none 0 0,.int .i64 0,.int .u64 0] 83)=W at *
 have hWs:W.heap.size=w.heap.size+1:=by rw [← hW];simp
 have hsn:∀ y∈([105,110,102]:List UInt8).head?,y.toNat<128∧y.toNat ≠ 43∧y.toNat ≠ 45:=by intro y hy;simp at hy;subst hy;decide
 have hsl:([105,110,102]:List UInt8).length≤r.size:=by rw [Go.Lib.size_eq,hr];cases neg <;> simp [signL]
 go_enter Tryz.func74,Tryz.ntmps74
 go_wp2_with (first
  | (go_at_call 110;go_loud (refine (scanMinus_sgn _ b r neg _ hA1 hr hsn).mono ?_;rintro e w1 ⟨r1,rfl,hr1,h1,f1⟩;have hl1:r1.size≤65536:=(by rw [Go.Lib.size_eq,hr1];omega);have h10:0<r1.size:=(by rw [Go.Lib.size_eq,hr1];simp);have hr10:r1[0]=105:=(by rw [← getD_at r1 0 h10,hr1];rfl);have hz1:r1.size=([105,110,102]:List UInt8).length:=(by rw [Go.Lib.size_eq,hr1]);obtain⟨c10,c12⟩:=h1.cells))
  | (go_at_call_of 39 (Value.string ⟨#[95]⟩);go_loud (refine (Tryz.strings_HasPrefix r1 under _).mono ?_;rw [hr1,no_under _ (by intro y hy;simp at hy;subst hy;decide)];rintro e w2 ⟨rfl,hw2⟩;subst hw2))
  | (go_at_call 111;go_loud (refine (lexTen_at _ r1 h10 (by rw [hr10];decide)).mono ?_;rw [hr10];rintro e w3 ⟨rfl,f3⟩;have h3:=h1.fr f3 (by simp);obtain⟨c30,c32⟩:=h3.cells))
  | (go_at_call_of 112 (Value.string ⟨#[48,120]⟩);go_loud (refine (scanFold_no _ b r1 s0x 0 h3 (by rw [hz1];decide) hl1 (by decide) (by intro i hi;omega) (by rw [hr1];decide)).mono ?_;rintro e w4 ⟨rfl,f4⟩;have h4:=h3.fr f4 (by simp);obtain⟨c40,c42⟩:=h4.cells))
  | (go_at_call_of 39 (Value.string ⟨#[46]⟩);go_loud (refine (Tryz.strings_HasPrefix r1 ⟨#[46]⟩ _).mono ?_;rw [has_one,hr1,show (([105,110,102]:List UInt8).head? == some 46)=false from rfl];rintro e w5 ⟨rfl,hw5⟩;subst hw5))
  | (go_at_call_of 112 (Value.string ⟨#[105,110,102,105,110,105,116,121]⟩);go_loud (refine (scanFold_short _ b r1 sInfinity h4 (by rw [hz1];decide)).mono ?_;rintro e w6 ⟨rfl,f6⟩;have h6:=h4.fr f6 (by simp)))
  | (go_at_call 112;go_loud (refine (scanFold_yes _ b r1 sInf h6 (by rw [hz1];decide) hl1 (by intro i hi;rw [hr1];have hi2:i<3:=hi;rcases i with _ | _ | _ | i;decide;decide;decide;omega)).mono ?_;rintro e w7 ⟨rfl,h7,f7⟩;have hr7:(tailB r1 sInf.size).data.toList=[]:=(by rw [tailB_data,hr1];rfl);have G7:=((((f1.then f3).then f4).then f6).trans f7 (fun t ht=>.inl ht));have hrow7:=G7.row hrow (by simp;omega)))
  | ((with_reducible show wpList _ _ _ (⟨none,.store 83 (.tmp 2) (.tmp 52),_,_,_,_⟩ :: _) _ _);go_loud (refine wpList_store_whole rfl 83 (.tmp 2) (.tmp 52) rfl w.heap.size _ rfl rfl _ _ hrow7 (by kernel_rfl) rfl (by simp [Value.oneCell']) ?_;intro w9 hr9 f9;have h9:=h7.fr f9 (by simp;omega))))
 (try simp only [Exit.inBlock,Exit.then])
 refine bodyPost_ret (v:=_) (results_cell_row rfl _ _ w.heap.size _ _ _ _ rfl hr9 Tryz.underlying83 rfl (by kernel_rfl)) rfl ?_
 exact⟨_,rfl,hr7,h9,((fA.mono (by simp)).trans G7 (fun t ht=>.inl ht)).after f9 (by simp)⟩
theorem number_nan (w:World) (b:Nat) (r:ByteArray)  (neg:Bool) (h:ScanAt w b r) (hr:r.data.toList=signL neg ([110,97,110]:List UInt8)) (hs:r.size≤65536) :
  Calls Tryz.prog 74 #[.pointer (some ⟨b,0,none⟩)] w fun x w'=>∃ r',x=.returned (nameNum 4 neg)∧r'.data.toList=[]∧ScanAt w' b r'∧Fr [b] w w':=by
 have hbw:=h.lt
 have hrow:=row_new w (.cells #[.int .u8 0,.bool false,.bool false,.string ⟨#[]⟩,.int .i64 0,.bool false,.slice none 0 0,.int .i64 0,.int .u64 0] 83)
 have fA:=(Fr.refl [] w).alloc (.cells #[.int .u8 0,.bool false,.bool false,.string ⟨#[]⟩,.int .i64 0,.bool false,.slice none 0 0,.int .i64 0,.int .u64 0] 83)
 have hA1:=h.fr fA (by simp)
 generalize hW:w.alloc (.cells #[.int .u8 0,.bool false,.bool false,.string ⟨#[]⟩,.int .i64 0,.bool false,.slice none 0 0,.int .i64 0,.int .u64 0] 83)=W at *
 have hWs:W.heap.size=w.heap.size+1:=by rw [← hW];simp
 have hsn:∀ y∈([110,97,110]:List UInt8).head?,y.toNat<128∧y.toNat ≠ 43∧y.toNat ≠ 45:=by intro y hy;simp at hy;subst hy;decide
 have hsl:([110,97,110]:List UInt8).length≤r.size:=by rw [Go.Lib.size_eq,hr];cases neg <;> simp [signL]
 go_enter Tryz.func74,Tryz.ntmps74
 go_wp2_with (first
  | (go_at_call 110;go_loud (refine (scanMinus_sgn _ b r neg _ hA1 hr hsn).mono ?_;rintro e w1 ⟨r1,rfl,hr1,h1,f1⟩;have hl1:r1.size≤65536:=(by rw [Go.Lib.size_eq,hr1];omega);have h10:0<r1.size:=(by rw [Go.Lib.size_eq,hr1];simp);have hr10:r1[0]=110:=(by rw [← getD_at r1 0 h10,hr1];rfl);have hz1:r1.size=([110,97,110]:List UInt8).length:=(by rw [Go.Lib.size_eq,hr1]);obtain⟨c10,c12⟩:=h1.cells))
  | (go_at_call_of 39 (Value.string ⟨#[95]⟩);go_loud (refine (Tryz.strings_HasPrefix r1 under _).mono ?_;rw [hr1,no_under _ (by intro y hy;simp at hy;subst hy;decide)];rintro e w2 ⟨rfl,hw2⟩;subst hw2))
  | (go_at_call 111;go_loud (refine (lexTen_at _ r1 h10 (by rw [hr10];decide)).mono ?_;rw [hr10];rintro e w3 ⟨rfl,f3⟩;have h3:=h1.fr f3 (by simp);obtain⟨c30,c32⟩:=h3.cells))
  | (go_at_call_of 112 (Value.string ⟨#[48,120]⟩);go_loud (refine (scanFold_no _ b r1 s0x 0 h3 (by rw [hz1];decide) hl1 (by decide) (by intro i hi;omega) (by rw [hr1];decide)).mono ?_;rintro e w4 ⟨rfl,f4⟩;have h4:=h3.fr f4 (by simp);obtain⟨c40,c42⟩:=h4.cells))
  | (go_at_call_of 39 (Value.string ⟨#[46]⟩);go_loud (refine (Tryz.strings_HasPrefix r1 ⟨#[46]⟩ _).mono ?_;rw [has_one,hr1,show (([110,97,110]:List UInt8).head? == some 46)=false from rfl];rintro e w5 ⟨rfl,hw5⟩;subst hw5))
  | (go_at_call_of 112 (Value.string ⟨#[105,110,102,105,110,105,116,121]⟩);go_loud (refine (scanFold_short _ b r1 sInfinity h4 (by rw [hz1];decide)).mono ?_;rintro e w6 ⟨rfl,f6⟩;have h6:=h4.fr f6 (by simp)))
  | (go_at_call_of 112 (Value.string ⟨#[105,110,102]⟩);go_loud (refine (scanFold_no _ b r1 sInf 0 h6 (by rw [hz1];decide) hl1 (by decide) (by intro i hi;omega) (by rw [hr1];decide)).mono ?_;rintro e w7 ⟨rfl,f7⟩;have h7:=h6.fr f7 (by simp)))
  | (go_at_call 112;go_loud (refine (scanFold_yes _ b r1 sNan h7 (by rw [hz1];decide) hl1 (by intro i hi;rw [hr1];have hi2:i<3:=hi;rcases i with _ | _ | _ | i;decide;decide;decide;omega)).mono ?_;rintro e w8 ⟨rfl,h8,f8⟩;have hr7:(tailB r1 sNan.size).data.toList=[]:=(by rw [tailB_data,hr1];rfl)))
  | (go_at_call 115;go_loud (refine (payload_none _ b _ h8 hr7).mono ?_;rintro e w10 ⟨rfl,f10⟩;have h10':=h8.fr f10 (by simp);have G7:=((((((f1.then f3).then f4).then f6).then f7).trans f8 (fun t ht=>.inl ht)).then f10);have hrow7:=G7.row hrow (by simp;omega)))
  | ((with_reducible show wpList _ _ _ (⟨none,.store 83 (.tmp 2) (.tmp 59),_,_,_,_⟩ :: _) _ _);go_loud (refine wpList_store_whole rfl 83 (.tmp 2) (.tmp 59) rfl w.heap.size _ rfl rfl _ _ hrow7 (by kernel_rfl) rfl (by simp [Value.oneCell']) ?_;intro w9 hr9 f9;have h9:=h10'.fr f9 (by simp;omega))))
 (try simp only [Exit.inBlock,Exit.then])
 refine bodyPost_ret (v:=_) (results_cell_row rfl _ _ w.heap.size _ _ _ _ rfl hr9 Tryz.underlying83 rfl (by kernel_rfl)) rfl ?_
 exact⟨_,rfl,hr7,h9,((fA.mono (by simp)).trans G7 (fun t ht=>.inl ht)).after f9 (by simp)⟩
end Go.Proofs.YtcmndpjemdjalaaGreatDoor
namespace Go.Proofs.YtcmndpjemdjalaaGreatDoor
open Go.RowKit
open Pb
theorem scanNumber (w:World) (b:Nat) (r:ByteArray) (t:Txt) (neg:Bool) (h:ScanAt w b r) (hr:r.data.toList=signL neg t.body) (hs:r.size≤65536) (hok:t.Ok) (hTab:TabAt 7 Lib.deBruijn32tab w) :
  Calls Tryz.prog 74 #[.pointer (some ⟨b,0,none⟩)] w fun x w'=>∃ r' hv,x=.returned hv∧NumPost w' neg hv t∧r'.data.toList=[]∧ScanAt w' b r'∧Fr [b] w w':=by
 cases t with
 | dec A B p E=>exact (number_dec w b r A B p E neg h hr hs hok).mono (fun e w' ⟨r',h1,h2,h3,h4⟩=>⟨r',_,h1,rfl,h2,h3,h4⟩)
 | hex A B p E=>exact (number_hex w b r A B p E neg h hr hs hok hTab).mono (fun e w' ⟨r',hv,h1,h2,h3⟩=>⟨r',hv,h1,h2,h3⟩)
 | inf=>exact (number_inf w b r neg h hr hs).mono (fun e w' ⟨r',h1,h2,h3,h4⟩=>⟨r',_,h1,rfl,h2,h3,h4⟩)
 | nan=>exact (number_nan w b r neg h hr hs).mono (fun e w' ⟨r',h1,h2,h3,h4⟩=>⟨r',_,h1,rfl,h2,h3,h4⟩)
theorem NumPost.fr {w w':World} {neg:Bool} {hv:Value} {t:Txt} {S:List Nat} (h:NumPost w neg hv t) (hf:Fr S w w') (hS:NoWord S w):NumPost w' neg hv t:=by
 cases t with
 | dec=>exact h
 | inf=>exact h
 | nan=>exact h
 | hex A B p E =>
  obtain⟨hneg,v,l,e,h1,h2⟩:=h
  exact⟨hneg,v,l,e,h1,h2.imp id (fun ⟨p1,p2,p3,p4⟩=>⟨p1,p2,p3.fr hf hS,p4⟩)⟩
theorem NumPost.cells {w:World} {neg:Bool} {hv:Value} {t:Txt} (h:NumPost w neg hv t):∃ cs:Array Value,hv=.agg cs∧cs.size=9∧cs.all (·.oneCell')=true:=by
 cases t with
 | dec=>exact⟨_,h,rfl,by simp [Value.oneCell']⟩
 | inf=>exact⟨_,h,rfl,by simp [Value.oneCell']⟩
 | nan=>exact⟨_,h,rfl,by simp [Value.oneCell']⟩
 | hex A B p E =>
  obtain⟨hneg,v,l,e,h1,h2⟩:=h
  have hvo:v.oneCell'=true:=by
   rcases h2 with ⟨-,-,rfl,-⟩ | ⟨-,-,hu,-⟩
   ·rfl
   ·obtain⟨ao,cap,rfl,-,-⟩:=hu.shape;rfl
  exact⟨_,h1,rfl,by simp [Value.oneCell'];exact hvo⟩
theorem results_cell_row_tmp {fn:Func} {p u:Tmp} {ty:TypeId} (h:fn.results=#[.cell p ty,.tmp u]) (tmps:Array Value) (w:World) (g:Nat) (t:TypeId) (cs:Array Value) (fr:Nat × Nat) (d:TypeDesc)
  (hp:tmps.getD p undef=.pointer (some ⟨g,0,none⟩)) (hg:w.heap[g]?=some (.cells cs t fr))
  (hd:(match d with | .struct _ | .array _ _=>true | _=>false)=true) (hu:Tryz.prog.underlying ty=some d) (hi:(Tryz.prog.info? ty).map (·.size)=some cs.size) :
  (results fn tmps).run Tryz.prog w=.ok (.tuple #[.agg cs,tmps.getD u undef]) w:=by
 have hl:(loadVar ty ⟨g,0,none⟩).run Tryz.prog w=.ok (.agg cs) w:=by
  cases d with
  | struct f=>exact run_loadVar_row w g t ty cs fr _ hg hu rfl hi
  | array n e=>exact run_loadVar_row w g t ty cs fr _ hg hu rfl hi
  | _=>simp at hd
 rw [results_cell_tmp h,hp]
 simp [asAddr,hl,Result.andThen,Sem.run_pure]
theorem lexRead_any (w:World) (s:ByteArray) (t:Txt) (neg:Bool) (hr:s.data.toList=signL neg t.body) (hs:s.size≤65536) (hok:t.Ok) (hTab:TabAt 7 Lib.deBruijn32tab w) :
  Calls Tryz.prog 45 #[.string s] w fun x w'=>∃ hv,x=.returned (.tuple #[hv,.nilIface])∧NumPost w' neg hv t∧Fr [] w w':=by
 have hrow:=row_new w (.cells #[.int .u8 0,.bool false,.bool false,.string ⟨#[]⟩,.int .i64 0,.bool false,.slice none 0 0,.int .i64 0,.int .u64 0] 83)
 have fA:=(Fr.refl [] w).alloc (.cells #[.int .u8 0,.bool false,.bool false,.string ⟨#[]⟩,.int .i64 0,.bool false,.slice none 0 0,.int .i64 0,.int .u64 0] 83)
 generalize hW:w.alloc (.cells #[.int .u8 0,.bool false,.bool false,.string ⟨#[]⟩,.int .i64 0,.bool false,.slice none 0 0,.int .i64 0,.int .u64 0] 83)=W at *
 have hWs:W.heap.size=w.heap.size+1:=by rw [← hW];simp
 have hsb:¬ (65536:Int)<(s.size:Int):=by omega
 have fS:=(Fr.refl [] W).alloc (.cells #[.string s,.int .i64 0,.int .i64 0] 169)
 have hsc:ScanAt (W.alloc (.cells #[.string s,.int .i64 0,.int .i64 0] 169)) W.heap.size s:=⟨0,row_new W _⟩
 have hrow1:=fS.row hrow (by simp)
 generalize hV:W.alloc (.cells #[.string s,.int .i64 0,.int .i64 0] 169)=V at *
 have hVs:V.heap.size=W.heap.size+1:=by rw [← hV];simp
 have hTab':TabAt 7 Lib.deBruijn32tab V:=fun j hj=>(fA.then fS).stay (hTab j hj) (by simp)
 clear hTab
 rw [hWs] at hsc hVs
 go_enter Tryz.func45,Tryz.ntmps45
 go_wp2_with (first
  | (go_at_call 74;go_loud (refine (scanNumber _ (w.heap.size+1) s t neg hsc hr hs hok hTab').mono ?_;rintro e w1 ⟨r1,hv,rfl,hp,hr1,h1,f1⟩;obtain⟨cs,rfl,hcs,hco⟩:=hp.cells;obtain rfl:r1=⟨#[]⟩:=(by apply ByteArray.ext;apply Array.toList_inj.1;exact hr1);have fsz:=f1.size;have fB:=(Fr.refl [] w1).alloc (.cells #[.int .u8 0,.bool false,.bool false,.string ⟨#[]⟩,.int .i64 0,.bool false,.slice none 0 0,.int .i64 0,.int .u64 0] 83);have hrN:=row_new w1 (.cells #[.int .u8 0,.bool false,.bool false,.string ⟨#[]⟩,.int .i64 0,.bool false,.slice none 0 0,.int .i64 0,.int .u64 0] 83)))
  | ((with_reducible show wpList _ _ _ (⟨none,.store 83 (.tmp 5) (.tmp 18),_,_,_,_⟩ :: _) _ _);go_loud (refine wpList_store_whole rfl 83 (.tmp 5) (.tmp 18) rfl w1.heap.size cs rfl rfl _ _ hrN (by rw [hcs];kernel_rfl) (by rw [hcs];rfl) hco ?_;intro w2 hn2 f2;have h2:=(h1.fr fB (by simp)).fr f2 (by simp;omega);obtain⟨c20,c22⟩:=h2.cells;have hp2:=(hp.fr fB (NoWord.nil _)).fr f2 (NoWord.of_type hrN (by decide));have G2:=((f1.then fB).after f2 (by simp;omega));have hr2:=G2.row hrow1 (by simp)))
  | ((with_reducible show wpList _ _ _ (⟨some 51,.load 83 (.tmp 5),_,_,_,_⟩ :: _) _ _);go_loud (refine wpList_load_row rfl 83 (.tmp 5) rfl w1.heap.size rfl _ _ _ _ hn2 Tryz.underlying83 rfl (by rw [hcs];kernel_rfl) ?_))
  | ((with_reducible show wpList _ _ _ (⟨none,.store 83 (.tmp 2) (.tmp 51),_,_,_,_⟩ :: _) _ _);go_loud (refine wpList_store_whole rfl 83 (.tmp 2) (.tmp 51) rfl w.heap.size cs rfl rfl _ _ hr2 (by rw [hcs];kernel_rfl) (by rw [hcs];rfl) hco ?_;intro w3 hn3 f3;have hp3:=hp2.fr f3 (NoWord.of_type hr2 (by decide));have G3:=(fA.then fS).after G2 (by simp))))
 (try simp only [Exit.inBlock,Exit.then])
 refine bodyPost_ret (v:=_) (results_cell_row_tmp rfl _ _ w.heap.size _ _ _ _ rfl hn3 rfl Tryz.underlying83 (by rw [hcs];kernel_rfl)) rfl ?_
 exact⟨_,rfl,hp3,G3.after f3 (by simp)⟩
end Go.Proofs.YtcmndpjemdjalaaGreatDoor
namespace Go.Proofs.YtcmndpjemdjalaaGreatDoor
open Go.RowKit
open Pb
def DecOk (s:ByteArray) (e:Int):Prop:=(s.size=0∧e=0)∨(∃ h:0<s.size,s.size≤65536∧DigitsL s.data.toList∧s[0].toNat ≠ 48∧(s[s.size - 1]'(by omega)).toNat ≠ 48∧-1073741824≤e∧e≤1073741824)
theorem decCheck_ok (w:World) (neg:Bool) (s:ByteArray) (e:Int) (h:DecOk s e):Calls Tryz.prog 76 #[decV neg s e] w fun x w'=>x=.returned (.int .i64 0)∧Fr [] w w':=by
 rcases h with ⟨h1,rfl⟩ | ⟨h0,h1,h2,h3,h4,h5,h6⟩
 ·exact decCheck_zero w neg s h1
 ·exact decCheck_some w neg s e h0 h1 h2 h3 h4 h5 h6
theorem lexCheck_dec (w:World) (neg:Bool) (s:ByteArray) (e:Int) (h:DecOk s e) :
  Calls Tryz.prog 46 #[decNum neg s e] w fun x w'=>x=.returned (.int .i64 0)∧Fr [] w w':=by
 have fA:=(Fr.refl [] w).alloc (.cells #[.int .u8 1,.bool neg,.bool neg,.string s,.int .i64 e,.bool false,.slice none 0 0,.int .i64 0,.int .u64 0] 83)
 have c1:=cell_new w #[.int .u8 1,.bool neg,.bool neg,.string s,.int .i64 e,.bool false,.slice none 0 0,.int .i64 0,.int .u64 0] 83 (0,0) 1 _ rfl
 have c2:=cell_new w #[.int .u8 1,.bool neg,.bool neg,.string s,.int .i64 e,.bool false,.slice none 0 0,.int .i64 0,.int .u64 0] 83 (0,0) 2 _ rfl
 have c8:=cell_new w #[.int .u8 1,.bool neg,.bool neg,.string s,.int .i64 e,.bool false,.slice none 0 0,.int .i64 0,.int .u64 0] 83 (0,0) 8 _ rfl
 unfold decNum
 have hD:=fun W=>decCheck_ok W neg s e h
 unfold decV at hD
 cases neg with
 | true =>
  go_enter Tryz.func46,Tryz.ntmps46
  go_wp2_with fail
  refine (hD _).mono ?_
  rintro x w1 ⟨rfl,f1⟩
  have c1:=f1.stay c1 (by simp)
  have c2:=f1.stay c2 (by simp)
  have c8:=f1.stay c8 (by simp)
  go_wp2_with fail
  go_ret
  exact⟨rfl,fA.then f1⟩
 | false =>
  by_cases he:e=0
  ·subst he
   go_enter Tryz.func46,Tryz.ntmps46
   go_wp2_with fail
   all_goals
    refine (hD _).mono ?_
    rintro x w1 ⟨rfl,f1⟩
    have c1:=f1.stay c1 (by simp)
    have c2:=f1.stay c2 (by simp)
    have c8:=f1.stay c8 (by simp)
    go_wp2_with fail
    go_ret
    exact⟨rfl,fA.then f1⟩
  ·
   go_enter Tryz.func46,Tryz.ntmps46
   go_wp2_with fail
   all_goals
    refine (hD _).mono ?_
    rintro x w1 ⟨rfl,f1⟩
    have c1:=f1.stay c1 (by simp)
    have c2:=f1.stay c2 (by simp)
    have c8:=f1.stay c8 (by simp)
    go_wp2_with fail
    go_ret
    exact⟨rfl,fA.then f1⟩
theorem lexCheck_name (w:World) (k:Nat) (neg:Bool) (hk:k=3∨k=4) :
  Calls Tryz.prog 46 #[nameNum k neg] w fun x w'=>x=.returned (.int .i64 0)∧Fr [] w w':=by
 unfold nameNum
 rcases hk with rfl | rfl
 ·have fA:=(Fr.refl [] w).alloc (.cells #[.int .u8 (3:Nat),.bool neg,.bool false,.string ⟨#[]⟩,.int .i64 0,.bool false,.slice none 0 0,.int .i64 0,.int .u64 0] 83)
  go_enter Tryz.func46,Tryz.ntmps46
  go_wp2_with fail
  all_goals
   go_ret
   exact⟨rfl,fA⟩
 ·have fA:=(Fr.refl [] w).alloc (.cells #[.int .u8 (4:Nat),.bool neg,.bool false,.string ⟨#[]⟩,.int .i64 0,.bool false,.slice none 0 0,.int .i64 0,.int .u64 0] 83)
  go_enter Tryz.func46,Tryz.ntmps46
  go_wp2_with fail
  all_goals
   go_ret
   exact⟨rfl,fA⟩
theorem lexCheck_hex (w:World) (neg hneg:Bool) (v:Value) (l:List Nat) (N:Nat) (e:Int) (hv:U32 w 0 v l) (hi:Is l N) (hl:l.length≤16384) (hd:DyOk N hneg e) (hc:(l=[]∧v=.slice none 0 0∧hneg=false∧e=0)∨hneg=neg∧0<l.length) :
  Calls Tryz.prog 46 #[hexNum neg hneg v e] w fun x w'=>x=.returned (.int .i64 0)∧Fr [] w w':=by
 have hD:=fun W (hf:Fr [] w W)=>exactCheck_ok W _ l N hneg e (hv.fr0 hf) hi hl hd
 unfold dyadicV at hD
 have fA:=(Fr.refl [] w).alloc (.cells #[.int .u8 2,.bool neg,.bool false,.string ⟨#[]⟩,.int .i64 0,.bool hneg,v,.int .i64 e,.int .u64 0] 83)
 have c1:=cell_new w #[.int .u8 2,.bool neg,.bool false,.string ⟨#[]⟩,.int .i64 0,.bool hneg,v,.int .i64 e,.int .u64 0] 83 (0,0) 1 _ rfl
 have c5:=cell_new w #[.int .u8 2,.bool neg,.bool false,.string ⟨#[]⟩,.int .i64 0,.bool hneg,v,.int .i64 e,.int .u64 0] 83 (0,0) 5 _ rfl
 have c6:=cell_new w #[.int .u8 2,.bool neg,.bool false,.string ⟨#[]⟩,.int .i64 0,.bool hneg,v,.int .i64 e,.int .u64 0] 83 (0,0) 6 _ rfl
 have c8:=cell_new w #[.int .u8 2,.bool neg,.bool false,.string ⟨#[]⟩,.int .i64 0,.bool hneg,v,.int .i64 e,.int .u64 0] 83 (0,0) 8 _ rfl
 obtain⟨ao,cap,rfl,hcap,-⟩:=hv.shape
 unfold hexNum
 clear hv hi hd
 rcases hc with ⟨rfl,h1,rfl,rfl⟩ | ⟨rfl,hp⟩
 ·simp only [List.length_nil] at *
  clear h1
  cases neg with
  | true =>
   go_enter Tryz.func46,Tryz.ntmps46
   go_wp2_with fail
   all_goals
    refine (hD _ fA).mono ?_
    rintro x w1 ⟨rfl,f1⟩
    have c1:=f1.stay c1 (by simp)
    have c5:=f1.stay c5 (by simp)
    have c6:=f1.stay c6 (by simp)
    have c8:=f1.stay c8 (by simp)
    go_wp2_with fail
    go_ret
    exact⟨rfl,fA.then f1⟩
  | false =>
   go_enter Tryz.func46,Tryz.ntmps46
   go_wp2_with fail
   all_goals
    refine (hD _ fA).mono ?_
    rintro x w1 ⟨rfl,f1⟩
    have c1:=f1.stay c1 (by simp)
    have c5:=f1.stay c5 (by simp)
    have c6:=f1.stay c6 (by simp)
    have c8:=f1.stay c8 (by simp)
    go_wp2_with fail
    go_ret
    exact⟨rfl,fA.then f1⟩
 ·have hne:¬ ((l.length:Int)=0):=by omega
  have hne2:((l.length:Int)==0)=false:=beq_eq_false_iff_ne.2 hne
  cases hneg with
  | true =>
   go_enter Tryz.func46,Tryz.ntmps46
   go_wp2_with fail
   all_goals
    refine (hD _ fA).mono ?_
    rintro x w1 ⟨rfl,f1⟩
    have c1:=f1.stay c1 (by simp)
    have c5:=f1.stay c5 (by simp)
    have c6:=f1.stay c6 (by simp)
    have c8:=f1.stay c8 (by simp)
    go_wp2_with fail
    go_ret
    exact⟨rfl,fA.then f1⟩
  | false =>
   go_enter Tryz.func46,Tryz.ntmps46
   go_wp2_with fail
   all_goals
    refine (hD _ fA).mono ?_
    rintro x w1 ⟨rfl,f1⟩
    have c1:=f1.stay c1 (by simp)
    have c5:=f1.stay c5 (by simp)
    have c6:=f1.stay c6 (by simp)
    have c8:=f1.stay c8 (by simp)
    go_wp2_with fail
    go_ret
    exact⟨rfl,fA.then f1⟩
end Go.Proofs.YtcmndpjemdjalaaGreatDoor
namespace Go.Proofs.YtcmndpjemdjalaaGreatDoor
open Go.RowKit
open Pb
theorem TenL.digits {l:List UInt8} (h:TenL l):DigitsL l:=fun b hb=>ten_range (h b hb)
theorem decT_sub (L:List UInt8):∀ x∈decT L,x∈L:=fun _ hx=>(List.dropWhile_sublist _).subset hx
theorem decS_sub (L:List UInt8):∀ x∈decS L,x∈L:=by
 intro x hx
 unfold decS Lib.trimRightS at hx
 exact decT_sub L x (List.mem_reverse.1 ((List.dropWhile_sublist _).subset (List.mem_reverse.1 hx)))
theorem head_dropWhile {p:UInt8→Bool}:∀ {l:List UInt8} {y:UInt8},(l.dropWhile p).head?=some y→p y=false
 | [],y,h=>by simp at h
 | a :: l,y,h=>by
  by_cases ha:p a=true
  ·rw [List.dropWhile_cons_of_pos ha] at h
   exact head_dropWhile h
  ·rw [List.dropWhile_cons_of_neg ha] at h
   simp at h;subst h;simpa using ha
theorem ne48 {y:UInt8} (h:([48]:List UInt8).contains y=false):y.toNat ≠ 48:=by
 intro h2
 have:y=48:=UInt8.toNat_inj.1 h2
 subst this
 simp at h
theorem decS_last (L:List UInt8) {y:UInt8} (h:(decS L).getLast?=some y):y.toNat ≠ 48:=by
 unfold decS Lib.trimRightS at h
 rw [List.getLast?_reverse] at h
 exact ne48 (head_dropWhile h)
theorem trimRightS_prefix (l cs:List UInt8):Lib.trimRightS l cs <+: l:=by
 unfold Lib.trimRightS
 obtain⟨t,ht⟩:=List.dropWhile_suffix (l:=l.reverse) (cs.contains ·)
 refine⟨t.reverse,?_⟩
 rw [← List.reverse_append,ht,List.reverse_reverse]
theorem decS_first (L:List UInt8) {y:UInt8} (h:(decS L).head?=some y):y.toNat ≠ 48:=by
 have h1:(decT L).head?=some y:=by
  obtain⟨t,ht⟩:=trimRightS_prefix (decT L) [48]
  change decS L++t=decT L at ht
  rw [← ht]
  rcases hd:decS L with _ | ⟨a,m⟩
  ·rw [hd] at h;simp at h
  ·rw [hd] at h;simpa using h
 unfold decT Lib.trimLeftS at h1
 exact ne48 (head_dropWhile h1)
theorem get_head {l:List UInt8} (h:0<(strL l).size):l.head?=some (strL l)[0]:=by
 rcases l with _ | ⟨a,l⟩
 ·exact absurd h (Nat.lt_irrefl 0)
 ·rfl
theorem get_last {l:List UInt8} (h:0<(strL l).size):l.getLast?=some ((strL l)[(strL l).size - 1]'(by omega)):=by
 have hl:0<l.length:=by rwa [strL_size] at h
 rw [List.getLast?_eq_getElem?,List.getElem?_eq_getElem (by omega)]
 congr 1
theorem clipI_le (n:Int):-1073741824≤clipI n∧clipI n≤1073741824:=by unfold clipI;omega
theorem decOk_of (L:List UInt8) (hL:TenL L) (hs:L.length≤65536) (x:Int):DecOk (strL (decS L)) (decE L x):=by
 by_cases h:decS L=[]
 ·left
  rw [h]
  exact⟨rfl,by unfold decE;rw [if_pos h]⟩
 ·right
  have h0:0<(strL (decS L)).size:=by rw [strL_size];exact List.length_pos_iff.2 h
  refine⟨h0,?_,?_,?_,?_,?_,?_⟩
  ·rw [strL_size];have:=decS_le L;have:=decT_le L;omega
  ·rw [strL_data];exact fun b hb=>TenL.digits hL b (decS_sub L b hb)
  ·exact decS_first L (get_head h0)
  ·exact decS_last L (get_last h0)
  ·unfold decE;rw [if_neg h];exact (clipI_le _).1
  ·unfold decE;rw [if_neg h];exact (clipI_le _).2
theorem decL_pos {l:List UInt8} (hd:DigitsL l) (h:0<l.length) (h0:∀ y,l.head?=some y→y.toNat ≠ 48):0<decL l:=by
 rcases l with _ | ⟨b,l⟩
 ·simp at h
 ·have h1:=h0 b rfl
  have h2:=hd b (by simp)
  rw [decL_cons]
  have:1 * 10 ^ l.length≤(b.toNat - 48) * 10 ^ l.length:=Nat.mul_le_mul_right _ (by omega)
  have:=Nat.pow_pos (n:=l.length) (show 0<10 by omega)
  omega
theorem decE_le (L:List UInt8) (x:Int):-1073741824≤decE L x∧decE L x≤1073741824:=by
 unfold decE;split
 ·omega
 ·exact clipI_le _
theorem dyOk_of (V:Nat) (x:Int) (neg:Bool) (h:0<V):DyOk (V / 2 ^ zerosV V) neg (clipI x):=by
 obtain⟨m,hm⟩:=zerosV_spec h
 have h2:V / 2 ^ zerosV V=2 * m+1:=by
  have hp:=Nat.pow_pos (n:=zerosV V) (show 0<2 by omega)
  generalize zerosV V=z at *
  rw [hm,Nat.mul_div_cancel_left _ hp]
 rw [h2]
 exact⟨by omega,by omega,(clipI_le _).1,(clipI_le _).2⟩
theorem hexV_two (l:List UInt8) (h:HexL l):hexV l<2 ^ (4 * l.length):=by
 have:=hexV_lt l h
 rw [Nat.pow_mul];exact this
end Go.Proofs.YtcmndpjemdjalaaGreatDoor
namespace Go.Proofs.YtcmndpjemdjalaaGreatDoor
open Go.RowKit
open Pb
theorem readNumber_dec (w:World) (E F:Int) (neg:Bool) (s:ByteArray) (e:Int) (r:Int × Int) (mode:Nat) (hF:FormOk E F) (hm:mode<5) (hD:DecOk s e) (hR:∀ W,Fr [] w W→Calls Tryz.prog 47 #[formV E F,decV neg s e,.int .u8 mode] W fun x w'=>x=.returned (.tuple #[.int .u64 r.1,.int .u8 r.2,.int .i64 0])∧Fr [] W w') :
  Calls Tryz.prog 27 #[formV E F,decNum neg s e,.int .u8 mode] w fun x w'=>x=.returned (.tuple #[.int .u64 (r).1,.int .u8 (r).2,.int .i64 0])∧Fr [] w w':=by
 have hL:=fun W (_:Fr [] w W)=>lexCheck_dec W neg s e hD
 have hR:=hR
 unfold decNum at *
 unfold decV at hR
 have hC:=fun W=>formsCheck_ok E F W hF
 have hmm:¬ ((4:Int)<(mode:Int)):=by omega
 unfold formV at *
 have fA:=(Fr.refl [] w).alloc (.cells #[.int .i64 E,.int .i64 F] 39)
 have f0:=cell_new w #[.int .i64 E,.int .i64 F] 39 (0,0) 0 _ rfl
 have f1:=cell_new w #[.int .i64 E,.int .i64 F] 39 (0,0) 1 _ rfl
 have fB:=(Fr.refl [] (w.alloc (.cells #[.int .i64 E,.int .i64 F] 39))).alloc (.cells #[.int .u8 1,.bool neg,.bool neg,.string s,.int .i64 e,.bool false,.slice none 0 0,.int .i64 0,.int .u64 0] 83)
 have f0:=fB.stay f0 (by simp)
 have f1:=fB.stay f1 (by simp)
 have n0:=cell_new (w.alloc (.cells #[.int .i64 E,.int .i64 F] 39)) #[.int .u8 1,.bool neg,.bool neg,.string s,.int .i64 e,.bool false,.slice none 0 0,.int .i64 0,.int .u64 0] 83 (0,0) 0 _ rfl
 have n1:=cell_new (w.alloc (.cells #[.int .i64 E,.int .i64 F] 39)) #[.int .u8 1,.bool neg,.bool neg,.string s,.int .i64 e,.bool false,.slice none 0 0,.int .i64 0,.int .u64 0] 83 (0,0) 1 _ rfl
 have n2:=cell_new (w.alloc (.cells #[.int .i64 E,.int .i64 F] 39)) #[.int .u8 1,.bool neg,.bool neg,.string s,.int .i64 e,.bool false,.slice none 0 0,.int .i64 0,.int .u64 0] 83 (0,0) 2 _ rfl
 have n3:=cell_new (w.alloc (.cells #[.int .i64 E,.int .i64 F] 39)) #[.int .u8 1,.bool neg,.bool neg,.string s,.int .i64 e,.bool false,.slice none 0 0,.int .i64 0,.int .u64 0] 83 (0,0) 3 _ rfl
 have n4:=cell_new (w.alloc (.cells #[.int .i64 E,.int .i64 F] 39)) #[.int .u8 1,.bool neg,.bool neg,.string s,.int .i64 e,.bool false,.slice none 0 0,.int .i64 0,.int .u64 0] 83 (0,0) 4 _ rfl
 have n5:=cell_new (w.alloc (.cells #[.int .i64 E,.int .i64 F] 39)) #[.int .u8 1,.bool neg,.bool neg,.string s,.int .i64 e,.bool false,.slice none 0 0,.int .i64 0,.int .u64 0] 83 (0,0) 5 _ rfl
 have n6:=cell_new (w.alloc (.cells #[.int .i64 E,.int .i64 F] 39)) #[.int .u8 1,.bool neg,.bool neg,.string s,.int .i64 e,.bool false,.slice none 0 0,.int .i64 0,.int .u64 0] 83 (0,0) 6 _ rfl
 have n7:=cell_new (w.alloc (.cells #[.int .i64 E,.int .i64 F] 39)) #[.int .u8 1,.bool neg,.bool neg,.string s,.int .i64 e,.bool false,.slice none 0 0,.int .i64 0,.int .u64 0] 83 (0,0) 7 _ rfl
 have n8:=cell_new (w.alloc (.cells #[.int .i64 E,.int .i64 F] 39)) #[.int .u8 1,.bool neg,.bool neg,.string s,.int .i64 e,.bool false,.slice none 0 0,.int .i64 0,.int .u64 0] 83 (0,0) 8 _ rfl
 rw [World.size_alloc] at n0 n1 n2 n3 n4 n5 n6 n7 n8
 have fW:=fA.then fB
 clear fA fB
 go_enter Tryz.func27,Tryz.ntmps27
 generalize hW:((w.alloc (.cells #[.int .i64 E,.int .i64 F] 39)).alloc (.cells #[.int .u8 1,.bool neg,.bool neg,.string s,.int .i64 e,.bool false,.slice none 0 0,.int .i64 0,.int .u64 0] 83))=W at *
 go_wp2_with (first
  | (go_at_call 17;go_loud (refine (hC _).mono ?_;rintro x w1 ⟨rfl,g1⟩;have f0:=g1.stay f0 (by simp);have f1:=g1.stay f1 (by simp);have n0:=g1.stay n0 (by simp);have n1:=g1.stay n1 (by simp);have n2:=g1.stay n2 (by simp);have n3:=g1.stay n3 (by simp);have n4:=g1.stay n4 (by simp);have n5:=g1.stay n5 (by simp);have n6:=g1.stay n6 (by simp);have n7:=g1.stay n7 (by simp);have n8:=g1.stay n8 (by simp)))
  | (go_at_call 46;go_loud (refine (hL _ (fW.then g1)).mono ?_;rintro x w2 ⟨rfl,g2⟩;have f0:=g2.stay f0 (by simp);have f1:=g2.stay f1 (by simp);have n0:=g2.stay n0 (by simp);have n1:=g2.stay n1 (by simp);have n2:=g2.stay n2 (by simp);have n3:=g2.stay n3 (by simp);have n4:=g2.stay n4 (by simp);have n5:=g2.stay n5 (by simp);have n6:=g2.stay n6 (by simp);have n7:=g2.stay n7 (by simp);have n8:=g2.stay n8 (by simp)))
  | (go_at_call 47;refine (hR _ ((fW.then g1).then g2)).mono ?_;rintro x w3 ⟨rfl,g3⟩))
 go_ret3
 exact⟨rfl,((fW.then g1).then g2).then g3⟩
theorem readNumber_hex (w:World) (E F:Int) (neg hneg:Bool) (v:Value) (l:List Nat) (N:Nat) (e:Int) (mode:Nat) (hF:FormOk E F) (hm:mode<5) (hv:U32 w 0 v l) (hi:Is l N) (A:Nat) (hA:A≤262144) (hA1:1≤A) (hb:N<2 ^ A) (hd:DyOk N hneg e) (hc:(l=[]∧v=.slice none 0 0∧hneg=false∧e=0)∨hneg=neg∧0<l.length) :
  Calls Tryz.prog 27 #[formV E F,hexNum neg hneg v e,.int .u8 mode] w fun x w'=>x=.returned (.tuple #[.int .u64 (dyadicBits N e E F hneg neg mode).1,.int .u8 (dyadicBits N e E F hneg neg mode).2,.int .i64 0])∧Fr [] w w':=by
 have hlen:l.length≤16384:=len_bits hi hb (by omega)
 have hL:=fun W (hf:Fr [] w W)=>lexCheck_hex W neg hneg v l N e (hv.fr0 hf) hi hlen hd hc
 have hR:=fun W (hf:Fr [] w W)=>dyadic_any W E F hneg v l N A e neg mode hF (hv.fr0 hf) hi hd hA hA1 hb hm
 obtain⟨ao,cap,rfl,hcap,-⟩:=hv.shape
 clear hv hi hd hc hb
 unfold hexNum at *
 unfold dyadicV at hR
 generalize dyadicBits N e E F hneg neg mode=r at *
 have hC:=fun W=>formsCheck_ok E F W hF
 have hmm:¬ ((4:Int)<(mode:Int)):=by omega
 unfold formV at *
 have fA:=(Fr.refl [] w).alloc (.cells #[.int .i64 E,.int .i64 F] 39)
 have f0:=cell_new w #[.int .i64 E,.int .i64 F] 39 (0,0) 0 _ rfl
 have f1:=cell_new w #[.int .i64 E,.int .i64 F] 39 (0,0) 1 _ rfl
 have fB:=(Fr.refl [] (w.alloc (.cells #[.int .i64 E,.int .i64 F] 39))).alloc (.cells #[.int .u8 2,.bool neg,.bool false,.string ⟨#[]⟩,.int .i64 0,.bool hneg,.slice ao l.length cap,.int .i64 e,.int .u64 0] 83)
 have f0:=fB.stay f0 (by simp)
 have f1:=fB.stay f1 (by simp)
 have n0:=cell_new (w.alloc (.cells #[.int .i64 E,.int .i64 F] 39)) #[.int .u8 2,.bool neg,.bool false,.string ⟨#[]⟩,.int .i64 0,.bool hneg,.slice ao l.length cap,.int .i64 e,.int .u64 0] 83 (0,0) 0 _ rfl
 have n1:=cell_new (w.alloc (.cells #[.int .i64 E,.int .i64 F] 39)) #[.int .u8 2,.bool neg,.bool false,.string ⟨#[]⟩,.int .i64 0,.bool hneg,.slice ao l.length cap,.int .i64 e,.int .u64 0] 83 (0,0) 1 _ rfl
 have n2:=cell_new (w.alloc (.cells #[.int .i64 E,.int .i64 F] 39)) #[.int .u8 2,.bool neg,.bool false,.string ⟨#[]⟩,.int .i64 0,.bool hneg,.slice ao l.length cap,.int .i64 e,.int .u64 0] 83 (0,0) 2 _ rfl
 have n3:=cell_new (w.alloc (.cells #[.int .i64 E,.int .i64 F] 39)) #[.int .u8 2,.bool neg,.bool false,.string ⟨#[]⟩,.int .i64 0,.bool hneg,.slice ao l.length cap,.int .i64 e,.int .u64 0] 83 (0,0) 3 _ rfl
 have n4:=cell_new (w.alloc (.cells #[.int .i64 E,.int .i64 F] 39)) #[.int .u8 2,.bool neg,.bool false,.string ⟨#[]⟩,.int .i64 0,.bool hneg,.slice ao l.length cap,.int .i64 e,.int .u64 0] 83 (0,0) 4 _ rfl
 have n5:=cell_new (w.alloc (.cells #[.int .i64 E,.int .i64 F] 39)) #[.int .u8 2,.bool neg,.bool false,.string ⟨#[]⟩,.int .i64 0,.bool hneg,.slice ao l.length cap,.int .i64 e,.int .u64 0] 83 (0,0) 5 _ rfl
 have n6:=cell_new (w.alloc (.cells #[.int .i64 E,.int .i64 F] 39)) #[.int .u8 2,.bool neg,.bool false,.string ⟨#[]⟩,.int .i64 0,.bool hneg,.slice ao l.length cap,.int .i64 e,.int .u64 0] 83 (0,0) 6 _ rfl
 have n7:=cell_new (w.alloc (.cells #[.int .i64 E,.int .i64 F] 39)) #[.int .u8 2,.bool neg,.bool false,.string ⟨#[]⟩,.int .i64 0,.bool hneg,.slice ao l.length cap,.int .i64 e,.int .u64 0] 83 (0,0) 7 _ rfl
 have n8:=cell_new (w.alloc (.cells #[.int .i64 E,.int .i64 F] 39)) #[.int .u8 2,.bool neg,.bool false,.string ⟨#[]⟩,.int .i64 0,.bool hneg,.slice ao l.length cap,.int .i64 e,.int .u64 0] 83 (0,0) 8 _ rfl
 rw [World.size_alloc] at n0 n1 n2 n3 n4 n5 n6 n7 n8
 have fW:=fA.then fB
 clear fA fB
 go_enter Tryz.func27,Tryz.ntmps27
 generalize hW:((w.alloc (.cells #[.int .i64 E,.int .i64 F] 39)).alloc (.cells #[.int .u8 2,.bool neg,.bool false,.string ⟨#[]⟩,.int .i64 0,.bool hneg,.slice ao l.length cap,.int .i64 e,.int .u64 0] 83))=W at *
 go_wp2_with (first
  | (go_at_call 17;go_loud (refine (hC _).mono ?_;rintro x w1 ⟨rfl,g1⟩;have f0:=g1.stay f0 (by simp);have f1:=g1.stay f1 (by simp);have n0:=g1.stay n0 (by simp);have n1:=g1.stay n1 (by simp);have n2:=g1.stay n2 (by simp);have n3:=g1.stay n3 (by simp);have n4:=g1.stay n4 (by simp);have n5:=g1.stay n5 (by simp);have n6:=g1.stay n6 (by simp);have n7:=g1.stay n7 (by simp);have n8:=g1.stay n8 (by simp)))
  | (go_at_call 46;go_loud (refine (hL _ (fW.then g1)).mono ?_;rintro x w2 ⟨rfl,g2⟩;have f0:=g2.stay f0 (by simp);have f1:=g2.stay f1 (by simp);have n0:=g2.stay n0 (by simp);have n1:=g2.stay n1 (by simp);have n2:=g2.stay n2 (by simp);have n3:=g2.stay n3 (by simp);have n4:=g2.stay n4 (by simp);have n5:=g2.stay n5 (by simp);have n6:=g2.stay n6 (by simp);have n7:=g2.stay n7 (by simp);have n8:=g2.stay n8 (by simp)))
  | (go_at_call 48;refine (hR _ ((fW.then g1).then g2)).mono ?_;rintro x w3 ⟨rfl,g3⟩))
 go_ret3
 exact⟨rfl,((fW.then g1).then g2).then g3⟩
theorem readNumber_inf (w:World) (E F:Int) (neg:Bool) (mode:Nat) (hF:FormOk E F) (hm:mode<5)  :
  Calls Tryz.prog 27 #[formV E F,nameNum 3 neg,.int .u8 mode] w fun x w'=>x=.returned (.tuple #[.int .u64 ((joinV E F neg (maskV E) 0,0):Int × Int).1,.int .u8 ((joinV E F neg (maskV E) 0,0):Int × Int).2,.int .i64 0])∧Fr [] w w':=by
 have hL:=fun W (_:Fr [] w W)=>lexCheck_name W 3 neg (by omega)
 have hR:=fun W=>formsInf_any W E F neg hF
 have hN:nameNum 3 neg=.agg #[.int .u8 3,.bool neg,.bool false,.string ⟨#[]⟩,.int .i64 0,.bool false,.slice none 0 0,.int .i64 0,.int .u64 0]:=rfl
 rw [hN]
 simp only [hN] at hL
 clear hN
 generalize joinV E F neg (maskV E) 0=r at *
 have hF1:=hF.2.2.1
 have hF2:=hF.2.2.2
 have hC:=fun W=>formsCheck_ok E F W hF
 have hmm:¬ ((4:Int)<(mode:Int)):=by omega
 unfold formV at *
 have fA:=(Fr.refl [] w).alloc (.cells #[.int .i64 E,.int .i64 F] 39)
 have f0:=cell_new w #[.int .i64 E,.int .i64 F] 39 (0,0) 0 _ rfl
 have f1:=cell_new w #[.int .i64 E,.int .i64 F] 39 (0,0) 1 _ rfl
 have fB:=(Fr.refl [] (w.alloc (.cells #[.int .i64 E,.int .i64 F] 39))).alloc (.cells #[.int .u8 3,.bool neg,.bool false,.string ⟨#[]⟩,.int .i64 0,.bool false,.slice none 0 0,.int .i64 0,.int .u64 0] 83)
 have f0:=fB.stay f0 (by simp)
 have f1:=fB.stay f1 (by simp)
 have n0:=cell_new (w.alloc (.cells #[.int .i64 E,.int .i64 F] 39)) #[.int .u8 3,.bool neg,.bool false,.string ⟨#[]⟩,.int .i64 0,.bool false,.slice none 0 0,.int .i64 0,.int .u64 0] 83 (0,0) 0 _ rfl
 have n1:=cell_new (w.alloc (.cells #[.int .i64 E,.int .i64 F] 39)) #[.int .u8 3,.bool neg,.bool false,.string ⟨#[]⟩,.int .i64 0,.bool false,.slice none 0 0,.int .i64 0,.int .u64 0] 83 (0,0) 1 _ rfl
 have n2:=cell_new (w.alloc (.cells #[.int .i64 E,.int .i64 F] 39)) #[.int .u8 3,.bool neg,.bool false,.string ⟨#[]⟩,.int .i64 0,.bool false,.slice none 0 0,.int .i64 0,.int .u64 0] 83 (0,0) 2 _ rfl
 have n3:=cell_new (w.alloc (.cells #[.int .i64 E,.int .i64 F] 39)) #[.int .u8 3,.bool neg,.bool false,.string ⟨#[]⟩,.int .i64 0,.bool false,.slice none 0 0,.int .i64 0,.int .u64 0] 83 (0,0) 3 _ rfl
 have n4:=cell_new (w.alloc (.cells #[.int .i64 E,.int .i64 F] 39)) #[.int .u8 3,.bool neg,.bool false,.string ⟨#[]⟩,.int .i64 0,.bool false,.slice none 0 0,.int .i64 0,.int .u64 0] 83 (0,0) 4 _ rfl
 have n5:=cell_new (w.alloc (.cells #[.int .i64 E,.int .i64 F] 39)) #[.int .u8 3,.bool neg,.bool false,.string ⟨#[]⟩,.int .i64 0,.bool false,.slice none 0 0,.int .i64 0,.int .u64 0] 83 (0,0) 5 _ rfl
 have n6:=cell_new (w.alloc (.cells #[.int .i64 E,.int .i64 F] 39)) #[.int .u8 3,.bool neg,.bool false,.string ⟨#[]⟩,.int .i64 0,.bool false,.slice none 0 0,.int .i64 0,.int .u64 0] 83 (0,0) 6 _ rfl
 have n7:=cell_new (w.alloc (.cells #[.int .i64 E,.int .i64 F] 39)) #[.int .u8 3,.bool neg,.bool false,.string ⟨#[]⟩,.int .i64 0,.bool false,.slice none 0 0,.int .i64 0,.int .u64 0] 83 (0,0) 7 _ rfl
 have n8:=cell_new (w.alloc (.cells #[.int .i64 E,.int .i64 F] 39)) #[.int .u8 3,.bool neg,.bool false,.string ⟨#[]⟩,.int .i64 0,.bool false,.slice none 0 0,.int .i64 0,.int .u64 0] 83 (0,0) 8 _ rfl
 rw [World.size_alloc] at n0 n1 n2 n3 n4 n5 n6 n7 n8
 have fW:=fA.then fB
 clear fA fB
 go_enter Tryz.func27,Tryz.ntmps27
 generalize hW:((w.alloc (.cells #[.int .i64 E,.int .i64 F] 39)).alloc (.cells #[.int .u8 3,.bool neg,.bool false,.string ⟨#[]⟩,.int .i64 0,.bool false,.slice none 0 0,.int .i64 0,.int .u64 0] 83))=W at *
 go_wp2_with (first
  | (go_at_call 17;go_loud (refine (hC _).mono ?_;rintro x w1 ⟨rfl,g1⟩;have f0:=g1.stay f0 (by simp);have f1:=g1.stay f1 (by simp);have n0:=g1.stay n0 (by simp);have n1:=g1.stay n1 (by simp);have n2:=g1.stay n2 (by simp);have n3:=g1.stay n3 (by simp);have n4:=g1.stay n4 (by simp);have n5:=g1.stay n5 (by simp);have n6:=g1.stay n6 (by simp);have n7:=g1.stay n7 (by simp);have n8:=g1.stay n8 (by simp)))
  | (go_at_call 46;go_loud (refine (hL _ (fW.then g1)).mono ?_;rintro x w2 ⟨rfl,g2⟩;have f0:=g2.stay f0 (by simp);have f1:=g2.stay f1 (by simp);have n0:=g2.stay n0 (by simp);have n1:=g2.stay n1 (by simp);have n2:=g2.stay n2 (by simp);have n3:=g2.stay n3 (by simp);have n4:=g2.stay n4 (by simp);have n5:=g2.stay n5 (by simp);have n6:=g2.stay n6 (by simp);have n7:=g2.stay n7 (by simp);have n8:=g2.stay n8 (by simp)))
  | (go_at_call 49;refine (hR _).mono ?_;rintro x w3 ⟨rfl,g3⟩))
 go_ret3
 exact⟨rfl,((fW.then g1).then g2).then g3⟩
theorem readNumber_nan (w:World) (E F:Int) (neg:Bool) (mode:Nat) (hF:FormOk E F) (hm:mode<5)  :
  Calls Tryz.prog 27 #[formV E F,nameNum 4 neg,.int .u8 mode] w fun x w'=>x=.returned (.tuple #[.int .u64 ((joinV E F neg (maskV E) (bits .or .u64 (quietV F) 0),0):Int × Int).1,.int .u8 ((joinV E F neg (maskV E) (bits .or .u64 (quietV F) 0),0):Int × Int).2,.int .i64 0])∧Fr [] w w':=by
 have hL:=fun W (_:Fr [] w W)=>lexCheck_name W 4 neg (by omega)
 have hR:=fun W=>formsNaN_any W E F neg hF
 have hN:nameNum 4 neg=.agg #[.int .u8 4,.bool neg,.bool false,.string ⟨#[]⟩,.int .i64 0,.bool false,.slice none 0 0,.int .i64 0,.int .u64 0]:=rfl
 rw [hN]
 simp only [hN] at hL
 clear hN
 generalize joinV E F neg (maskV E) (bits .or .u64 (quietV F) 0)=r at *
 have hF1:=hF.2.2.1
 have hF2:=hF.2.2.2
 have hC:=fun W=>formsCheck_ok E F W hF
 have hmm:¬ ((4:Int)<(mode:Int)):=by omega
 unfold formV at *
 have fA:=(Fr.refl [] w).alloc (.cells #[.int .i64 E,.int .i64 F] 39)
 have f0:=cell_new w #[.int .i64 E,.int .i64 F] 39 (0,0) 0 _ rfl
 have f1:=cell_new w #[.int .i64 E,.int .i64 F] 39 (0,0) 1 _ rfl
 have fB:=(Fr.refl [] (w.alloc (.cells #[.int .i64 E,.int .i64 F] 39))).alloc (.cells #[.int .u8 4,.bool neg,.bool false,.string ⟨#[]⟩,.int .i64 0,.bool false,.slice none 0 0,.int .i64 0,.int .u64 0] 83)
 have f0:=fB.stay f0 (by simp)
 have f1:=fB.stay f1 (by simp)
 have n0:=cell_new (w.alloc (.cells #[.int .i64 E,.int .i64 F] 39)) #[.int .u8 4,.bool neg,.bool false,.string ⟨#[]⟩,.int .i64 0,.bool false,.slice none 0 0,.int .i64 0,.int .u64 0] 83 (0,0) 0 _ rfl
 have n1:=cell_new (w.alloc (.cells #[.int .i64 E,.int .i64 F] 39)) #[.int .u8 4,.bool neg,.bool false,.string ⟨#[]⟩,.int .i64 0,.bool false,.slice none 0 0,.int .i64 0,.int .u64 0] 83 (0,0) 1 _ rfl
 have n2:=cell_new (w.alloc (.cells #[.int .i64 E,.int .i64 F] 39)) #[.int .u8 4,.bool neg,.bool false,.string ⟨#[]⟩,.int .i64 0,.bool false,.slice none 0 0,.int .i64 0,.int .u64 0] 83 (0,0) 2 _ rfl
 have n3:=cell_new (w.alloc (.cells #[.int .i64 E,.int .i64 F] 39)) #[.int .u8 4,.bool neg,.bool false,.string ⟨#[]⟩,.int .i64 0,.bool false,.slice none 0 0,.int .i64 0,.int .u64 0] 83 (0,0) 3 _ rfl
 have n4:=cell_new (w.alloc (.cells #[.int .i64 E,.int .i64 F] 39)) #[.int .u8 4,.bool neg,.bool false,.string ⟨#[]⟩,.int .i64 0,.bool false,.slice none 0 0,.int .i64 0,.int .u64 0] 83 (0,0) 4 _ rfl
 have n5:=cell_new (w.alloc (.cells #[.int .i64 E,.int .i64 F] 39)) #[.int .u8 4,.bool neg,.bool false,.string ⟨#[]⟩,.int .i64 0,.bool false,.slice none 0 0,.int .i64 0,.int .u64 0] 83 (0,0) 5 _ rfl
 have n6:=cell_new (w.alloc (.cells #[.int .i64 E,.int .i64 F] 39)) #[.int .u8 4,.bool neg,.bool false,.string ⟨#[]⟩,.int .i64 0,.bool false,.slice none 0 0,.int .i64 0,.int .u64 0] 83 (0,0) 6 _ rfl
 have n7:=cell_new (w.alloc (.cells #[.int .i64 E,.int .i64 F] 39)) #[.int .u8 4,.bool neg,.bool false,.string ⟨#[]⟩,.int .i64 0,.bool false,.slice none 0 0,.int .i64 0,.int .u64 0] 83 (0,0) 7 _ rfl
 have n8:=cell_new (w.alloc (.cells #[.int .i64 E,.int .i64 F] 39)) #[.int .u8 4,.bool neg,.bool false,.string ⟨#[]⟩,.int .i64 0,.bool false,.slice none 0 0,.int .i64 0,.int .u64 0] 83 (0,0) 8 _ rfl
 rw [World.size_alloc] at n0 n1 n2 n3 n4 n5 n6 n7 n8
 have fW:=fA.then fB
 clear fA fB
 go_enter Tryz.func27,Tryz.ntmps27
 generalize hW:((w.alloc (.cells #[.int .i64 E,.int .i64 F] 39)).alloc (.cells #[.int .u8 4,.bool neg,.bool false,.string ⟨#[]⟩,.int .i64 0,.bool false,.slice none 0 0,.int .i64 0,.int .u64 0] 83))=W at *
 go_wp2_with (first
  | (go_at_call 17;go_loud (refine (hC _).mono ?_;rintro x w1 ⟨rfl,g1⟩;have f0:=g1.stay f0 (by simp);have f1:=g1.stay f1 (by simp);have n0:=g1.stay n0 (by simp);have n1:=g1.stay n1 (by simp);have n2:=g1.stay n2 (by simp);have n3:=g1.stay n3 (by simp);have n4:=g1.stay n4 (by simp);have n5:=g1.stay n5 (by simp);have n6:=g1.stay n6 (by simp);have n7:=g1.stay n7 (by simp);have n8:=g1.stay n8 (by simp)))
  | (go_at_call 46;go_loud (refine (hL _ (fW.then g1)).mono ?_;rintro x w2 ⟨rfl,g2⟩;have f0:=g2.stay f0 (by simp);have f1:=g2.stay f1 (by simp);have n0:=g2.stay n0 (by simp);have n1:=g2.stay n1 (by simp);have n2:=g2.stay n2 (by simp);have n3:=g2.stay n3 (by simp);have n4:=g2.stay n4 (by simp);have n5:=g2.stay n5 (by simp);have n6:=g2.stay n6 (by simp);have n7:=g2.stay n7 (by simp);have n8:=g2.stay n8 (by simp)))
  | (go_at_call 50;refine (hR _).mono ?_;rintro x w3 ⟨rfl,g3⟩))
 go_ret3
 exact⟨rfl,((fW.then g1).then g2).then g3⟩
end Go.Proofs.YtcmndpjemdjalaaGreatDoor
namespace Go.Proofs.YtcmndpjemdjalaaGreatDoor
open Go.RowKit
open Pb
def txtV (E F:Int) (neg:Bool) (mode:Nat):Txt→Int × Int
 | .dec A B _ X=>if decS (A++B)=[] then scaledV 0 0 E F false neg mode else scaledV (decL (decS (A++B))) (decE (A++B) (expO X - B.length)) E F neg neg mode
 | .hex A B _ X=>if hexV (A++B)=0 then dyadicBits 0 0 E F false neg mode else dyadicBits (hexV (A++B) / 2 ^ zerosV (hexV (A++B))) (clipI (expO X - 4 * (B.length:Int)+(zerosV (hexV (A++B)):Nat))) E F neg neg mode
 | .inf=>(joinV E F neg (maskV E) 0,0)
 | .nan=>(joinV E F neg (maskV E) (bits .or .u64 (quietV F) 0),0)
theorem pointL_len {p:Bool} {B:List UInt8} (h:p=false→B=[]):B.length≤(pointL p B).length:=by
 unfold pointL
 cases p with
 | true=>simp
 | false=>rw [h rfl];simp
theorem readNumber_any (w:World) (E F:Int) (hv:Value) (t:Txt) (neg:Bool) (mode:Nat) (hF:FormOk E F) (hm:mode<5) (hp:NumPost w neg hv t) (hok:t.Ok) (hlen:t.body.length≤65536) (hT:TabAt 7 Lib.deBruijn32tab w) :
  Calls Tryz.prog 27 #[formV E F,hv,.int .u8 mode] w fun x w'=>x=.returned (.tuple #[.int .u64 (txtV E F neg mode t).1,.int .u8 (txtV E F neg mode t).2,.int .i64 0])∧Fr [] w w':=by
 rcases t with ⟨A,B,p,X⟩ | ⟨A,B,p,X⟩ | _ | _
 ·obtain⟨h0,hA,hB,hpB,hX⟩:=hok
  have hl:(A++B).length≤65536:=by
   have h1:=pointL_len hpB
   simp only [Txt.body,List.length_append] at hlen ⊢
   omega
  have hAB:TenL (A++B):=by
   intro x hx
   rcases List.mem_append.1 hx with h | h
   ·exact hA x h
   ·exact hB x h
  obtain rfl:=hp
  show Calls _ _ _ _ fun x w'=>x=.returned (.tuple #[.int .u64 (if decS (A++B)=[] then scaledV 0 0 E F false neg mode else scaledV (decL (decS (A++B))) (decE (A++B) (expO X - B.length)) E F neg neg mode).1,.int .u8 (if decS (A++B)=[] then scaledV 0 0 E F false neg mode else scaledV (decL (decS (A++B))) (decE (A++B) (expO X - B.length)) E F neg neg mode).2,.int .i64 0])∧_
  by_cases hs:decS (A++B)=[]
  ·rw [if_pos hs]
   have he:decE (A++B) (expO X - B.length)=0:=by unfold decE;rw [if_pos hs]
   rw [he,hs]
   exact readNumber_dec w E F neg (strL []) 0 _ mode hF hm (.inl ⟨rfl,rfl⟩) (fun W hf=>readDecimal_zero W E F 0 neg mode hF (by omega) hm (fun j hj=>hf.stay (hT j hj) (by simp)))
  ·rw [if_neg hs]
   have h2:=decOk_of (A++B) hAB hl (expO X - B.length)
   have h3:DigitsL (decS (A++B)):=fun b hb=>TenL.digits hAB b (decS_sub _ b hb)
   have h4:0<(decS (A++B)).length:=List.length_pos_iff.2 hs
   have h5:(decS (A++B)).length≤65536:=by have:=decS_le (A++B);have:=decT_le (A++B);omega
   have h6:=decL_pos h3 h4 (fun y hy=>decS_first (A++B) hy)
   have h7:=decE_le (A++B) (expO X - B.length)
   generalize decE (A++B) (expO X - B.length)=e at *
   generalize decS (A++B)=D at *
   refine readNumber_dec w E F neg (strL D) e _ mode hF hm h2 (fun W hf=>?_)
   have:=readDecimal_some W E F e neg mode (strL D) (by rw [strL_size];exact h4) (by rw [strL_size];exact h5) (by rw [strL_data];exact h3) (by rw [strL_data];exact fun _=>h6) hF h7 hm (fun j hj=>hf.stay (hT j hj) (by simp))
   rw [strL_data] at this
   exact this
 ·obtain⟨h0,hA,hB,hpB,hX⟩:=hok
  have hl:(A++B).length≤65536:=by
   have h1:=pointL_len hpB
   simp only [Txt.body,List.length_append,List.length_cons] at hlen ⊢
   omega
  have hAB:HexL (A++B):=by
   intro x hx
   rcases List.mem_append.1 hx with h | h
   ·exact hA x h
   ·exact hB x h
  obtain⟨hneg,v,l,e,rfl,hc⟩:=hp
  show Calls _ _ _ _ fun x w'=>x=.returned (.tuple #[.int .u64 (if hexV (A++B)=0 then dyadicBits 0 0 E F false neg mode else dyadicBits (hexV (A++B) / 2 ^ zerosV (hexV (A++B))) (clipI (expO X - 4 * (B.length:Int)+(zerosV (hexV (A++B)):Nat))) E F neg neg mode).1,.int .u8 (if hexV (A++B)=0 then dyadicBits 0 0 E F false neg mode else dyadicBits (hexV (A++B) / 2 ^ zerosV (hexV (A++B))) (clipI (expO X - 4 * (B.length:Int)+(zerosV (hexV (A++B)):Nat))) E F neg neg mode).2,.int .i64 0])∧_
  have hV:=hexV_two (A++B) hAB
  rcases hc with ⟨h1,rfl,rfl,rfl,rfl⟩ | ⟨h1,rfl,hu,hi,rfl⟩
  ·rw [if_pos h1]
   exact readNumber_hex w E F neg false _ [] 0 0 mode hF hm (U32.nil _ _) Is.nil 1 (by omega) (by omega) (by decide) ⟨fun _=>⟨rfl,rfl⟩,by omega,by omega,by omega⟩ (.inl ⟨rfl,rfl,rfl,rfl⟩)
  ·rw [if_neg (by omega)]
   have hd:=dyOk_of (hexV (A++B)) (expO X - 4 * (B.length:Int)+(zerosV (hexV (A++B)):Nat)) hneg h1
   have hb:hexV (A++B) / 2 ^ zerosV (hexV (A++B))<2 ^ (4 * (A++B).length):=Nat.lt_of_le_of_lt (Nat.div_le_self _ _) hV
   have hl1:1≤(A++B).length:=by rw [List.length_append];omega
   refine readNumber_hex w E F hneg hneg v l _ _ mode hF hm hu hi _ (by omega) (by omega) hb hd (.inr ⟨rfl,?_⟩)
   rcases Nat.eq_zero_or_pos l.length with h | h
   ·exfalso
    have h2:=hi.val
    rw [List.length_eq_zero_iff.1 h] at h2
    obtain⟨m,hm⟩:=zerosV_spec h1
    have hp:=Nat.pow_pos (n:=zerosV (hexV (A++B))) (show 0<2 by omega)
    have h3:hexV (A++B) / 2 ^ zerosV (hexV (A++B))=2 * m+1:=by
     generalize zerosV (hexV (A++B))=z at *
     rw [hm,Nat.mul_div_cancel_left _ hp]
    rw [h3] at h2
    simp [val] at h2
   ·exact h
 ·obtain rfl:=hp
  exact readNumber_inf w E F neg mode hF hm
 ·obtain rfl:=hp
  exact readNumber_nan w E F neg mode hF hm
end Go.Proofs.YtcmndpjemdjalaaGreatDoor
namespace Go.Proofs.YtcmndpjemdjalaaGreatDoor
open Go.RowKit
open Pb
theorem readNo_ok (w:World):Calls Tryz.prog 25 #[.int .i64 0,.int .i64 0] w fun x w'=>x=.returned .nilIface∧w'=w:=by
 go_enter Tryz.func25,Tryz.ntmps25
 go_wp2_with fail
 go_ret
 exact⟨rfl,rfl⟩
theorem said_any (w:World) (s:ByteArray) (t:Txt) (neg:Bool) (hr:s.data.toList=signL neg t.body) (hs:s.size≤65536) (hok:t.Ok) (hTab:TabAt 7 Lib.deBruijn32tab w) :
  Calls Tryz.prog 26 #[.string s] w fun x w'=>∃ hv,x=.returned (.tuple #[hv,.nilIface])∧NumPost w' neg hv t∧Fr [] w w':=by
 have hrow:=row_new w (.cells #[.int .u8 0,.bool false,.bool false,.string ⟨#[]⟩,.int .i64 0,.bool false,.slice none 0 0,.int .i64 0,.int .u64 0] 83)
 have fA:=(Fr.refl [] w).alloc (.cells #[.int .u8 0,.bool false,.bool false,.string ⟨#[]⟩,.int .i64 0,.bool false,.slice none 0 0,.int .i64 0,.int .u64 0] 83)
 generalize hW:w.alloc (.cells #[.int .u8 0,.bool false,.bool false,.string ⟨#[]⟩,.int .i64 0,.bool false,.slice none 0 0,.int .i64 0,.int .u64 0] 83)=W at *
 have hWs:W.heap.size=w.heap.size+1:=by rw [← hW];simp
 have hTab':TabAt 7 Lib.deBruijn32tab W:=fun j hj=>fA.stay (hTab j hj) (by simp)
 clear hTab
 go_enter Tryz.func26,Tryz.ntmps26
 go_wp2_with (first
  | (go_at_call 45;go_loud (refine (lexRead_any _ s t neg hr hs hok hTab').mono ?_;rintro e w1 ⟨hv,rfl,hp,f1⟩;obtain⟨cs,rfl,hcs,hco⟩:=hp.cells;have fsz:=f1.size;have fB:=(Fr.refl [] w1).alloc (.cells #[.int .u8 0,.bool false,.bool false,.string ⟨#[]⟩,.int .i64 0,.bool false,.slice none 0 0,.int .i64 0,.int .u64 0] 83);have hrN:=row_new w1 (.cells #[.int .u8 0,.bool false,.bool false,.string ⟨#[]⟩,.int .i64 0,.bool false,.slice none 0 0,.int .i64 0,.int .u64 0] 83);have hrow1:=f1.row hrow (by simp);have hrow2:=fB.row hrow1 (by simp)))
  | ((with_reducible show wpList _ _ _ (⟨none,.store 83 (.tmp 4) (.tmp 10),_,_,_,_⟩ :: _) _ _);go_loud (refine wpList_store_whole rfl 83 (.tmp 4) (.tmp 10) rfl w1.heap.size cs rfl rfl _ _ hrN (by rw [hcs];kernel_rfl) (by rw [hcs];rfl) hco ?_;intro w2 hn2 f2;have hp2:=(hp.fr fB (NoWord.nil _)).fr f2 (NoWord.of_type hrN (by decide));have G2:=((f1.then fB).after f2 (by simp;omega));have hr2:=f2.row hrow2 (by simp;omega)))
  | ((with_reducible show wpList _ _ _ (⟨some 14,.load 83 (.tmp 4),_,_,_,_⟩ :: _) _ _);go_loud (refine wpList_load_row rfl 83 (.tmp 4) rfl w1.heap.size rfl _ _ _ _ hn2 Tryz.underlying83 rfl (by rw [hcs];kernel_rfl) ?_))
  | ((with_reducible show wpList _ _ _ (⟨none,.store 83 (.tmp 2) (.tmp 14),_,_,_,_⟩ :: _) _ _);go_loud (refine wpList_store_whole rfl 83 (.tmp 2) (.tmp 14) rfl w.heap.size cs rfl rfl _ _ hr2 (by rw [hcs];kernel_rfl) (by rw [hcs];rfl) hco ?_;intro w3 hn3 f3;have hp3:=hp2.fr f3 (NoWord.of_type hr2 (by decide));have G3:=fA.after G2 (by simp))))
 (try simp only [Exit.inBlock,Exit.then])
 refine bodyPost_ret (v:=_) (results_cell_row_tmp rfl _ _ w.heap.size _ _ _ _ rfl hn3 rfl Tryz.underlying83 (by rw [hcs];kernel_rfl)) rfl ?_
 exact⟨_,rfl,hp3,G3.after f3 (by simp)⟩
theorem readBits_ok (w:World) (E F:Int) (s:ByteArray) (t:Txt) (neg:Bool) (mode:Nat) (hF:FormOk E F) (hm:mode<5) (hr:s.data.toList=signL neg t.body) (hs:s.size≤65536) (hok:t.Ok) (hTab:TabAt 7 Lib.deBruijn32tab w) :
  Calls Tryz.prog 14 #[formV E F,.string s,.int .u8 mode] w fun x w'=>x=.returned (.tuple #[.int .u64 (txtV E F neg mode t).1,.int .u8 (txtV E F neg mode t).2,.nilIface])∧Fr [] w w':=by
 have hlen:t.body.length≤65536:=by
  have:t.body.length≤s.data.toList.length:=by rw [hr];cases neg <;> simp [signL]
  rw [← Go.Lib.size_eq] at this;omega
 have hC:=fun W=>formsCheck_ok E F W hF
 have hmm:¬ ((4:Int)<(mode:Int)):=by omega
 have hNum:=fun W hv hp hT=>readNumber_any W E F hv t neg mode hF hm hp hok hlen hT
 generalize txtV E F neg mode t=r at *
 unfold formV at *
 have fA:=(Fr.refl [] w).alloc (.cells #[.int .i64 E,.int .i64 F] 39)
 have f0:=cell_new w #[.int .i64 E,.int .i64 F] 39 (0,0) 0 _ rfl
 have f1:=cell_new w #[.int .i64 E,.int .i64 F] 39 (0,0) 1 _ rfl
 generalize hW:w.alloc (.cells #[.int .i64 E,.int .i64 F] 39)=W at *
 have hWs:W.heap.size=w.heap.size+1:=by rw [← hW];simp
 go_enter Tryz.func14,Tryz.ntmps14
 go_wp2_with (first
  | (go_at_call 17;go_loud (refine (hC _).mono ?_;rintro x w1 ⟨rfl,g1⟩;have f0:=g1.stay f0 (by simp);have f1:=g1.stay f1 (by simp);have G1:=fA.then g1;have hT1:TabAt 7 Lib.deBruijn32tab w1:=fun j hj=>G1.stay (hTab j hj) (by simp)))
  | (go_at_call 26;go_loud (refine (said_any w1 s t neg hr hs hok hT1).mono ?_;rintro e w2 ⟨hv,rfl,hp,g2⟩;obtain⟨cs,rfl,hcs,hco⟩:=hp.cells;have fsz:=g1.size;have fsz2:=g2.size;have f0:=g2.stay f0 (by simp);have f1:=g2.stay f1 (by simp);have fB:=(Fr.refl [] w2).alloc (.cells #[.int .u8 0,.bool false,.bool false,.string ⟨#[]⟩,.int .i64 0,.bool false,.slice none 0 0,.int .i64 0,.int .u64 0] 83);have hrN:=row_new w2 (.cells #[.int .u8 0,.bool false,.bool false,.string ⟨#[]⟩,.int .i64 0,.bool false,.slice none 0 0,.int .i64 0,.int .u64 0] 83);have f0:=fB.stay f0 (by simp);have f1:=fB.stay f1 (by simp)))
  | ((with_reducible show wpList _ _ _ (⟨none,.store 83 (.tmp 10) (.tmp 27),_,_,_,_⟩ :: _) _ _);go_loud (refine wpList_store_whole rfl 83 (.tmp 10) (.tmp 27) rfl w2.heap.size cs rfl rfl _ _ hrN (by rw [hcs];kernel_rfl) (by rw [hcs];rfl) hco ?_;intro w3 hn3 g3;have hp3:=(hp.fr fB (NoWord.nil _)).fr g3 (NoWord.of_type hrN (by decide));have G3:=G1.then ((g2.then fB).after g3 (by simp;omega));have f0:=g3.stay f0 (by simp;omega);have f1:=g3.stay f1 (by simp;omega);have hT3:TabAt 7 Lib.deBruijn32tab w3:=fun j hj=>G3.stay (hTab j hj) (by simp)))
  | ((with_reducible show wpList _ _ _ (⟨some 34,.load 83 (.tmp 10),_,_,_,_⟩ :: _) _ _);go_loud (refine wpList_load_row rfl 83 (.tmp 10) rfl w2.heap.size rfl _ _ _ _ hn3 Tryz.underlying83 rfl (by rw [hcs];kernel_rfl) ?_))
  | (go_at_call 27;go_loud (refine (hNum w3 _ hp3 hT3).mono ?_;rintro x w4 ⟨rfl,g4⟩))
  | (go_at_call 25;go_loud (refine (readNo_ok _).mono ?_;rintro x w5 ⟨rfl,hw⟩;subst hw)))
 go_ret3
 exact⟨rfl,G3.then g4⟩
end Go.Proofs.YtcmndpjemdjalaaGreatDoor
