/- Laws that the claimed theorem leans on: no condition of their own beyond their hypotheses. -/
import Derived.Lib.BitFns
import Derived.Deep.DeepCutAuto
import Derived.Deep.RegionWith
import Derived.Test.YtcmndpjemdjalaaGreatDoorMaaa
import Derived.Test.YtcmndpjemdjalaaGreatDoorMaab
set_option maxRecDepth 100000
set_option maxHeartbeats 16000000
namespace Go.Proofs.YtcmndpjemdjalaaGreatDoor
open Go.RowKit
theorem or32 (s a b:Nat) (ha:a<2 ^ s) (hb:b % 2 ^ s=0) (ha2:a<4294967296) (hb2:b<4294967296):bits .or .u32 (a:Int) (b:Int)=((a+b:Nat):Int):=by
 rw [u32_or_nat _ _ ha2 hb2,Nat.or_comm,nat_join s b a hb ha,Nat.add_comm]
theorem or64c (a b:Nat) (ha:a<4294967296) (hb:b<4294967296):bits .or .u64 (b:Int) ((a:Int) * 4294967296)=((a * 4294967296+b:Nat):Int):=by
 have e:((a:Int) * 4294967296)=((a * 4294967296:Nat):Int):=by omega
 rw [e,u64_or_nat _ _ (by omega) (by omega),Nat.or_comm,nat_join 32 (a * 4294967296) b (by omega) (by omega)]
theorem pow32 (n:Nat):(2:Nat) ^ n=2 ^ (n % 32) * 4294967296 ^ (n / 32):=by
 have e:(4294967296:Nat)=2 ^ 32:=rfl
 rw [e,← Nat.pow_mul,← Nat.pow_add]
 congr 1;omega
theorem pow_s (n:Nat):1≤2 ^ (n % 32)∧2 ^ (n % 32)≤2147483648 :=
 ⟨Nat.pow_pos (by omega),by have h:=Nat.pow_le_pow_right (show 0<2 by omega) (show n % 32≤31 by omega);simpa using h⟩
theorem up_rel {w wr:World} {x L:List Nat} {n k:Nat} {T:Int} (hk:k<x.length) (hL:Hid (L.length=x.length+n / 32+1)) (hdL:Digs L) (hown:Own wr w.heap.size L) (hfr:Fr [] w wr)
  (hv:Hid (val L=val (x.take k) * 2 ^ n)) (hb:Hid (dg L (k+n / 32)<2 ^ (n % 32))) (hz:Hid (∀ j,k+n / 32<j→dg L j=0)) (d1:dg x k<4294967296)
  (hT:T=IntKind.u64.wrap ((dg x k:Int) * 2 ^ (n % 32))) :
  ∃ (k':Nat) (L':List Nat),Value.int .i64 ((k:Int)+1)=.int .i64 k'∧k'≤x.length∧Hid (L'.length=x.length+n / 32+1)∧Digs L' ∧
   Own ((wr.setCell ⟨w.heap.size,k+n / 32,none⟩ (.int .u32 (bits .or .u32 (dg L (k+n / 32):Int) (T % 4294967296)))).setCell ⟨w.heap.size,k+n / 32+1,none⟩ (.int .u32 (T / 4294967296 % 4294967296))) w.heap.size L' ∧
   Fr [] w ((wr.setCell ⟨w.heap.size,k+n / 32,none⟩ (.int .u32 (bits .or .u32 (dg L (k+n / 32):Int) (T % 4294967296)))).setCell ⟨w.heap.size,k+n / 32+1,none⟩ (.int .u32 (T / 4294967296 % 4294967296))) ∧
   Hid (val L'=val (x.take k') * 2 ^ n)∧Hid (dg L' (k'+n / 32)<2 ^ (n % 32))∧Hid (∀ j,k'+n / 32<j→dg L' j=0):=by
 have hLl:=hL.out
 obtain⟨s1,s2⟩:=pow_s n
 have hbo:=hb.out
 have hvo:=hv.out
 have hzo:=hz.out
 have hp:=pow32 n
 have hs:=Nat.mod_lt n (show 0<32 by omega)
 have hB:2 ^ (32 - n % 32) * 2 ^ (n % 32)=4294967296:=by rw [← Nat.pow_add,Nat.sub_add_cancel (by omega)]
 obtain⟨S,hS⟩:∃ S,S=2 ^ (n % 32):=⟨_,rfl⟩
 obtain⟨S',hS'⟩:∃ S,S=2 ^ (32 - n % 32):=⟨_,rfl⟩
 obtain⟨t,ht⟩:∃ t,t=dg x k * S:=⟨_,rfl⟩
 have hcast:((2:Int) ^ (n % 32))=((2 ^ (n % 32):Nat):Int):=by rw [Int.natCast_pow];rfl
 rw [← hS] at s1 s2 hbo hp hB hcast
 rw [← hS'] at hB
 have hta:t≤4294967295 * S:=ht ▸ Nat.mul_le_mul_right S (by omega)
 have hTt:T=(t:Int):=by
  rw [hT,hcast,← Int.natCast_mul,← ht];exact IntWalk.u64_in _ (by omega)
 subst hTt
 have hmodB:t % 4294967296 % S=0:=by
  rw [← hB,Nat.mod_mul_left_mod,ht,Nat.mul_mod_left]
 have hor:bits .or .u32 (dg L (k+n / 32):Int) ((t:Int) % 4294967296)=((dg L (k+n / 32)+t % 4294967296:Nat):Int):=by
  have:=or32 (n % 32) (dg L (k+n / 32)) (t % 4294967296) (hS ▸ hbo) (hS ▸ hmodB) (by omega) (by omega)
  rw [Int.natCast_emod] at this;exact this
 have hsum:dg L (k+n / 32)+t % 4294967296<4294967296:=by
  have h1:t % 4294967296≤4294967296 - S:=by
   have h2:t % 4294967296=S * (t % 4294967296 / S):=by have:=Nat.div_add_mod (t % 4294967296) S;omega
   have h3:t % 4294967296 / S<S':=by
    rw [Nat.div_lt_iff_lt_mul (by omega),hB];omega
   have h4:S * (t % 4294967296 / S)≤S * (S' - 1):=Nat.mul_le_mul_left _ (by omega)
   rw [Nat.mul_sub,Nat.mul_comm S S',hB,Nat.mul_one] at h4
   omega
  omega
 have htd:t / 4294967296<S:=by rw [Nat.div_lt_iff_lt_mul (by omega)];rw [Nat.mul_comm S];omega
 rw [hor]
 have e2:((t:Int) / 4294967296 % 4294967296)=((t / 4294967296:Nat):Int):=by omega
 rw [e2]
 have o1:=hown.set (k+n / 32) ((dg L (k+n / 32)+t % 4294967296:Nat):Int) (by omega)
 have o2:=o1.set (k+n / 32+1) ((t / 4294967296:Nat):Int) (by omega)
 rw [Int.toNat_natCast] at o1 o2
 rw [Int.toNat_natCast] at o2
 refine⟨k+1,_,by rfl,by omega,?_,?_,o2,(hfr.setCell (.inr (Nat.le_refl _)) _).setCell (.inr (Nat.le_refl _)) _,?_,?_,?_⟩
 ·exact Go.Lib.hid (by rw [List.length_set,List.length_set];exact hLl)
 ·exact (hdL.set _ _ hsum).set _ _ (by omega)
 ·refine Go.Lib.hid ?_
  have v1:=val_set L (k+n / 32) (dg L (k+n / 32)+t % 4294967296) (by omega)
  have v2:=val_set (L.set (k+n / 32) (dg L (k+n / 32)+t % 4294967296)) (k+n / 32+1) (t / 4294967296) (by rw [List.length_set];omega)
  rw [dg_set_ne L (k+n / 32) (k+n / 32+1) _ (by omega),hzo (k+n / 32+1) (by omega)] at v2
  rw [val_take_any,Nat.add_mul]
  have e3:=Nat.div_add_mod t 4294967296
  have e4:4294967296 ^ k * dg x k * 2 ^ n=4294967296 ^ (k+n / 32) * t:=by rw [hp,ht,Nat.pow_add];grind
  rw [e4,← hvo]
  generalize val ((L.set (k+n / 32) (dg L (k+n / 32)+t % 4294967296)).set (k+n / 32+1) (t / 4294967296))=V2 at *
  generalize val (L.set (k+n / 32) (dg L (k+n / 32)+t % 4294967296))=V1 at *
  rw [Nat.pow_succ] at v2
  generalize 4294967296 ^ (k+n / 32)=P at *
  generalize t / 4294967296=q at *
  generalize t % 4294967296=r at *
  grind
 ·refine Go.Lib.hid ?_
  rw [show k+1+n / 32=k+n / 32+1 by omega,dg_set_self _ _ _ (by rw [List.length_set];omega),← hS]
  exact htd
 ·refine Go.Lib.hid fun j hj=>?_
  rw [dg_set_ne _ _ _ _ (by omega),dg_set_ne _ _ _ _ (by omega)]
  exact hzo j (by omega)
theorem val_div (l:List Nat) (hd:Digs l) (i:Nat) (h:i≤l.length):val l / 4294967296 ^ i=val (l.drop i):=by
 have e:=val_take_drop l i h
 have hb:=(hd.take i).lt
 rw [List.length_take,Nat.min_eq_left h] at hb
 rw [e,Nat.add_mul_div_left _ _ (pow_pos' i),Nat.div_eq_of_lt hb,Nat.zero_add]
theorem val_drop_two (l:List Nat) (i:Nat):val (l.drop i)=dg l i+4294967296 * dg l (i+1)+4294967296 * 4294967296 * val (l.drop (i+2)):=by
 have step:∀ i,val (l.drop i)=dg l i+4294967296 * val (l.drop (i+1)):=by
  intro i
  by_cases hi:i<l.length
  ·rw [List.drop_eq_getElem_cons hi,val_cons,dg_get l i hi]
  ·rw [List.drop_of_length_le (show l.length≤i by omega),List.drop_of_length_le (show l.length≤i+1 by omega),dg_out l i (by omega)];rfl
 rw [step i,step (i+1),show i+1+1=i+2 from rfl,Nat.mul_add,← Nat.mul_assoc,Nat.add_assoc]
theorem down_digit (X0 X1 R s:Nat) (hs:s≤32):(X0+4294967296 * X1+4294967296 * 4294967296 * R) / 2 ^ s % 4294967296=(X1 * 4294967296+X0) / 2 ^ s % 4294967296:=by
 have hB:2 ^ s * 2 ^ (32 - s)=4294967296:=by rw [← Nat.pow_add,Nat.add_sub_cancel' hs]
 have e:X0+4294967296 * X1+4294967296 * 4294967296 * R=(X1 * 4294967296+X0)+2 ^ s * (4294967296 * (2 ^ (32 - s) * R)):=by
  rw [← Nat.mul_assoc (2 ^ s),Nat.mul_comm (2 ^ s) 4294967296,Nat.mul_assoc 4294967296 (2 ^ s),← Nat.mul_assoc (2 ^ s) _ R,hB];grind
 rw [e,Nat.add_mul_div_left _ _ (Nat.pow_pos (by omega)),Nat.add_mul_mod_self_left]
theorem down_rel {w wr:World} {x L:List Nat} {n k:Nat} {T:Int} (_hkx:n / 32<x.length) (hk:k<x.length - n / 32) (hdx:Digs x) (hL:Hid (L.length=x.length - n / 32)) (hdL:Digs L) (hown:Own wr w.heap.size L) (hfr:Fr [] w wr)
  (hv:Hid (val (L.take k)=val (x.drop (n / 32)) / 2 ^ (n % 32) % 4294967296 ^ k)) (hT:T=((dg x (k+n / 32+1) * 4294967296+dg x (k+n / 32):Nat):Int)) :
  ∃ (k':Nat) (L':List Nat),Value.int .i64 ((k:Int)+1)=.int .i64 k'∧k'≤x.length - n / 32∧Hid (L'.length=x.length - n / 32)∧Digs L' ∧
   Own (wr.setCell ⟨w.heap.size,k,none⟩ (.int .u32 (T / 2 ^ (n % 32) % 4294967296))) w.heap.size L'∧Fr [] w (wr.setCell ⟨w.heap.size,k,none⟩ (.int .u32 (T / 2 ^ (n % 32) % 4294967296))) ∧
   Hid (val (L'.take k')=val (x.drop (n / 32)) / 2 ^ (n % 32) % 4294967296 ^ k'):=by
 have hLl:=hL.out
 subst hT
 have hcast:((2:Int) ^ (n % 32))=((2 ^ (n % 32):Nat):Int):=by rw [Int.natCast_pow];rfl
 obtain⟨t,ht⟩:∃ t,t=dg x (k+n / 32+1) * 4294967296+dg x (k+n / 32):=⟨_,rfl⟩
 rw [← ht,hcast,← Int.natCast_ediv]
 have o1:=hown.set k (((t / 2 ^ (n % 32):Nat):Int) % 4294967296) (by omega)
 have e1:((((t / 2 ^ (n % 32):Nat):Int) % 4294967296)).toNat=t / 2 ^ (n % 32) % 4294967296:=by omega
 rw [e1] at o1
 refine⟨k+1,_,by rfl,by omega,Go.Lib.hid (by rw [List.length_set];exact hLl),hdL.set _ _ (by omega),o1,hfr.setCell (.inr (Nat.le_refl _)) _,Go.Lib.hid ?_⟩
 rw [val_set_take _ _ _ (by omega),hv.out,Nat.mod_pow_succ,Nat.div_div_eq_div_mul,Nat.mul_comm (2 ^ (n % 32)),← Nat.div_div_eq_div_mul,val_div _ (hdx.drop _) _ (by rw [List.length_drop];omega),List.drop_drop]
 have e2:=val_drop_two x (n / 32+k)
 generalize val (x.drop (n / 32+k))=V at *
 rw [e2,down_digit _ _ _ _ (by omega),ht,show n / 32+k=k+n / 32 by omega]
end Go.Proofs.YtcmndpjemdjalaaGreatDoor
namespace Go.Proofs.YtcmndpjemdjalaaGreatDoor.Pb
open Go.RowKit
theorem up_nil (w:World) (ao:Option Addr) (cap n:Nat):Calls Tryz.prog 171 #[.slice ao 0 cap,.int .i64 n] w fun e w'=>e=.returned (.slice none 0 0)∧w=w':=by
 go_enter Tryz.func171,Tryz.ntmps171
 go_wp2
 go_ret
 exact⟨rfl,rfl⟩
theorem up_any (w:World) (lo:Nat) (v:Value) (x:List Nat) (n:Nat) (hx:U32 w lo v x) (hn:x.length≤4294967296) (hn2:n≤1099511627776) :
  Calls Tryz.prog 171 #[v,.int .i64 n] w fun e w'=>∃ v' l',e=.returned v'∧U32 w' w.heap.size v' l'∧Is l' (val x * 2 ^ n)∧Fr [] w w':=by
 have hdx:=hx.digs
 obtain⟨ao,cap,rfl,hcap,hc⟩:=hx.shape
 have Hc:=Go.Lib.hid hc;clear hc hx
 by_cases h0:x.length=0
 ·obtain rfl:=List.eq_nil_of_length_eq_zero h0
  refine (up_nil w ao cap n).mono ?_
  rintro e w' ⟨rfl,rfl⟩
  exact⟨_,[],rfl,U32.nil _ _,by simp [val];exact Is.nil,Fr.refl _ _⟩
 have h0b:((x.length:Int)==0)=false:=by simp;intro h;simp [h] at h0
 go_enter Tryz.func171,Tryz.ntmps171
 go_wp2_with (at_make;refine make_u32 _ rfl _ _ rfl _ _ (x.length+n / 32+1) rfl rfl (by omega) (by omega) (by omega) ?_;intro w1 hown hf)
 go_loopw [8] (fun i wr=>∃ (k:Nat) (L:List Nat),i=.int .i64 k∧k≤x.length∧Hid (L.length=x.length+n / 32+1)∧Digs L∧Own wr w.heap.size L∧Fr [] w wr ∧
   Hid (val L=val (x.take k) * 2 ^ n)∧Hid (dg L (k+n / 32)<2 ^ (n % 32))∧Hid (∀ j,k+n / 32<j→dg L j=0))
  (fun i _=>x.length - (intOf i).toNat)
 case atStart =>
  have hz:∀ j,dg (List.replicate (x.length+n / 32+1) 0) j=0:=fun j=>by simp [dg,List.getD,List.getElem?_replicate];split <;> simp
  exact⟨0,_,rfl,Nat.zero_le _,Go.Lib.hid (by simp),Digs.replicate _,hown,hf,Go.Lib.hid (by rw [val_replicate];simp [val]),Go.Lib.hid (by rw [hz];exact (pow_s n).1),Go.Lib.hid (fun j _=>hz j)⟩
 case round =>
  obtain⟨k,L,rfl,hk,hL,hdL,hownr,hfr,hv,hb,hz⟩:=hrel
  clear hown hf
  by_cases hlt:k<x.length
  ·obtain⟨b,o,rfl,hbw,hcw⟩:=Hc.out k hlt
   have hcx:wr.cell? ⟨b,o+k,none⟩=some (.int .u32 (dg x k:Nat)):=(hfr.cell hbw (by simp)).trans hcw
   clear hcw
   have d1:=dg_lt hdx k
   have hox:=hownr.cell (k+n / 32) (by rw [hL.out];omega)
   have hfx:=hownr.free (k+n / 32)
   have hox2:=hownr.cell (k+n / 32+1) (by rw [hL.out];omega)
   have hfx2:=hownr.free (k+n / 32+1)
   have d3:=dg_lt hdL (k+n / 32)
   go_wp2
   go_roundw
   case rel=>exact up_rel hlt hL hdL hownr hfr hv hb hz d1 rfl
   case measure=>simp [intOf];omega
  ·obtain rfl:k=x.length:=by omega
   have hu:=hownr.all hdL (Nat.le_refl _)
   have hLl:=hL.out
   rw [hLl] at hu
   have hval:val L=val x * 2 ^ n:=by
    have e:=hv.out
    rw [take_all x _ (Nat.le_refl _)] at e
    exact e
   clear hLl
   have Hval:=Go.Lib.hid hval;clear hval
   go_wp2_with fail
   refine (trim_any _ w.heap.size _ _ hu (by rw [hL.out];omega)).mono ?_
   rintro e w' ⟨v',l',rfl,h1,h2,-,rfl⟩
   go_wp2
   go_ret
   exact⟨v',l',rfl,h1,Hval.out ▸ h2,hfr⟩
theorem down_any (w:World) (lo:Nat) (v:Value) (x:List Nat) (n:Nat) (hx:U32 w lo v x) (hn:x.length≤4294967296) (hn2:n≤1099511627776) :
  Calls Tryz.prog 204 #[v,.int .i64 n] w fun e w'=>∃ v' l',e=.returned v'∧U32 w' w.heap.size v' l'∧Is l' (val x / 2 ^ n)∧Fr [] w w':=by
 have hdx:=hx.digs
 obtain⟨ao,cap,rfl,hcap,hc⟩:=hx.shape
 have Hc:=Go.Lib.hid hc;clear hc hx
 by_cases h0:x.length≤n / 32
 ·have hv:val x / 2 ^ n=0:=by
   rw [pow32,Nat.mul_comm]
   have h1:=hdx.lt
   have h2:4294967296 ^ x.length≤4294967296 ^ (n / 32):=Nat.pow_le_pow_right (by omega) h0
   apply Nat.div_eq_of_lt
   have h3:4294967296 ^ (n / 32) * 1≤4294967296 ^ (n / 32) * 2 ^ (n % 32):=Nat.mul_le_mul_left _ (pow_s n).1
   omega
  have HV:=Go.Lib.hid hv;clear hv
  go_enter Tryz.func204,Tryz.ntmps204
  go_wp2
  go_ret
  exact⟨_,[],rfl,U32.nil _ _,by rw [HV.out];exact Is.nil,Fr.refl _ _⟩
 have h0b:n / 32<x.length:=by omega
 go_enter Tryz.func204,Tryz.ntmps204
 go_wp2_with (at_make;refine make_u32 _ rfl _ _ rfl _ _ (x.length - n / 32) rfl rfl (by omega) (by omega) (by omega) ?_;intro w1 hown hf)
 go_loopw [8] (fun i wr=>∃ (k:Nat) (L:List Nat),i=.int .i64 k∧k≤x.length - n / 32∧Hid (L.length=x.length - n / 32)∧Digs L∧Own wr w.heap.size L∧Fr [] w wr ∧
   Hid (val (L.take k)=val (x.drop (n / 32)) / 2 ^ (n % 32) % 4294967296 ^ k))
  (fun i _=>(x.length - n / 32) - (intOf i).toNat)
 case atStart=>exact⟨0,_,rfl,Nat.zero_le _,Go.Lib.hid (by simp),Digs.replicate _,hown,hf,Go.Lib.hid (by simp [val,Nat.mod_one])⟩
 case round =>
  obtain⟨k,L,rfl,hk,hL,hdL,hownr,hfr,hv⟩:=hrel
  clear hown hf
  by_cases hlt:k<x.length - n / 32
  ·obtain⟨b,o,rfl,hbw,hcw⟩:=Hc.out (k+n / 32) (by omega)
   have hcx:wr.cell? ⟨b,o+(k+n / 32),none⟩=some (.int .u32 (dg x (k+n / 32):Nat)):=(hfr.cell hbw (by simp)).trans hcw
   clear hcw
   have d1:=dg_lt hdx (k+n / 32)
   have d2:=dg_lt hdx (k+n / 32+1)
   have hox:=hownr.cell k (by rw [hL.out];omega)
   have hfx:=hownr.free k
   by_cases hlt2:k+n / 32+1<x.length
   ·obtain⟨b',o',hbo,_,hcw⟩:=Hc.out (k+n / 32+1) hlt2
    simp only [Option.some.injEq,Addr.mk.injEq,and_true] at hbo
    obtain⟨rfl,rfl⟩:=hbo
    have hcy:wr.cell? ⟨b,o+(k+n / 32+1),none⟩=some (.int .u32 (dg x (k+n / 32+1):Nat)):=(hfr.cell hbw (by simp)).trans hcw
    clear hcw
    have ho:=or64c (dg x (k+n / 32+1)) (dg x (k+n / 32)) d2 d1
    have HO:=Go.Lib.hid ho;clear ho
    go_wp2
    go_roundw
    case rel=>exact down_rel h0b hlt hdx hL hdL hownr hfr hv HO.out
    case measure=>simp [intOf];omega
   ·have hy:=dg_out x (k+n / 32+1) (by omega)
    have HY:=Go.Lib.hid hy;clear hy
    go_wp2
    go_roundw
    case rel=>exact down_rel h0b hlt hdx hL hdL hownr hfr hv (by rw [HY.out];simp)
    case measure=>simp [intOf];omega
  ·obtain rfl:k=x.length - n / 32:=by omega
   have hu:=hownr.all hdL (Nat.le_refl _)
   have hLl:=hL.out
   rw [hLl] at hu
   have hval:val L=val x / 2 ^ n:=by
    have e:=hv.out
    rw [take_all L _ (by omega)] at e
    rw [e,pow32 n,Nat.mul_comm,← Nat.div_div_eq_div_mul,val_div x hdx _ (by omega)]
    apply Nat.mod_eq_of_lt
    have h1:=(hdx.drop (n / 32)).lt
    rw [List.length_drop] at h1
    exact Nat.lt_of_le_of_lt (Nat.div_le_self _ _) h1
   clear hLl
   have Hval:=Go.Lib.hid hval;clear hval
   go_wp2_with fail
   refine (trim_any _ w.heap.size _ _ hu (by rw [hL.out];omega)).mono ?_
   rintro e w' ⟨v',l',rfl,h1,h2,-,rfl⟩
   go_wp2
   go_ret
   exact⟨v',l',rfl,h1,Hval.out ▸ h2,hfr⟩
end Go.Proofs.YtcmndpjemdjalaaGreatDoor.Pb
namespace Go.Proofs.YtcmndpjemdjalaaGreatDoor
open Go.RowKit
theorem or64i (a b:Nat) (ha:a<4294967296) (hb:b<4294967296):bits .or .u64 ((a:Int) * 4294967296) (b:Int)=(a:Int) * 4294967296+(b:Int):=by
 rw [or64 a b ha hb];simp
theorem val_drop_one (l:List Nat) (i:Nat):val (l.drop i)=dg l i+4294967296 * val (l.drop (i+1)):=by
 by_cases hi:i<l.length
 ·rw [List.drop_eq_getElem_cons hi,val_cons,dg_get l i hi]
 ·rw [List.drop_of_length_le (show l.length≤i by omega),List.drop_of_length_le (show l.length≤i+1 by omega),dg_out l i (by omega)];rfl
theorem divs_step {VL VL' P r t q r' x0 X d:Nat} (h:VL * d+r * (P * 4294967296)=X * (P * 4294967296)) (ht:t=r * 4294967296+x0) (hq:d * q+r'=t) (hs:VL'=VL+P * q) :
  VL' * d+r' * P=(x0+4294967296 * X) * P:=by grind
theorem divs_rel {w wr:World} {x L:List Nat} {k r d:Nat} {T:Int} (hk:k<x.length) (hL:Hid (L.length=x.length)) (hdL:Digs L) (hown:Own wr w.heap.size L) (hfr:Fr [] w wr)
  (hr:r<d) (hd:d<4294967296) (hv:Hid (val L * d+r * 4294967296 ^ (k+1)=val (x.drop (k+1)) * 4294967296 ^ (k+1))) (hz:Hid (∀ j,j<k+1→dg L j=0)) (d1:dg x k<4294967296)
  (hT:T=(r:Int) * 4294967296+(dg x k:Int)) :
  ∃ (k' r':Nat) (L':List Nat),Value.int .i64 ((k:Int) - 1)=.int .i64 ((k':Int) - 1)∧Value.int .u64 (T % (d:Int))=.int .u64 r'∧k'≤x.length∧r'<d∧Hid (L'.length=x.length)∧Digs L' ∧
   Own (wr.setCell ⟨w.heap.size,k,none⟩ (.int .u32 (T / (d:Int) % 4294967296))) w.heap.size L'∧Fr [] w (wr.setCell ⟨w.heap.size,k,none⟩ (.int .u32 (T / (d:Int) % 4294967296))) ∧
   Hid (val L' * d+r' * 4294967296 ^ k'=val (x.drop k') * 4294967296 ^ k')∧Hid (∀ j,j<k'→dg L' j=0):=by
 have hLl:=hL.out
 obtain⟨t,ht⟩:∃ t:Nat,t=r * 4294967296+dg x k:=⟨_,rfl⟩
 have hTt:T=(t:Int):=by rw [hT,ht];simp
 subst hTt
 have hq:t / d<4294967296:=by
  rw [Nat.div_lt_iff_lt_mul (by omega)]
  have h1:(r+1) * 4294967296≤d * 4294967296:=Nat.mul_le_mul_right _ hr
  rw [Nat.mul_comm 4294967296 d]
  omega
 have o1:=hown.set k (((t / d:Nat):Int)) (Int.natCast_nonneg _)
 rw [Int.toNat_natCast] at o1
 have e1:((t:Int) / (d:Int) % 4294967296)=((t / d:Nat):Int):=by rw [← Int.natCast_ediv];generalize t / d=Q at *;omega
 rw [e1]
 refine⟨k,t % d,_,rfl,by rw [Int.natCast_emod],by omega,Nat.mod_lt _ (by omega),Go.Lib.hid (by rw [List.length_set];exact hLl),hdL.set _ _ hq,o1,hfr.setCell (.inr (Nat.le_refl _)) _,Go.Lib.hid ?_,Go.Lib.hid ?_⟩
 ·have hs:=val_set L k (t / d) (by omega)
  rw [hz.out k (by omega)] at hs
  rw [val_drop_one]
  have h2:=hv.out
  rw [Nat.pow_succ] at h2
  exact divs_step h2 ht (Nat.div_add_mod t d) (by omega)
 ·intro j hj
  rw [dg_set_ne _ _ _ _ (by omega)];exact hz.out j (by omega)
theorem add_at_step {A A' P q r x y c:Nat} {V0 Y Pa Pi:Nat} (h:A+c * P=V0+Pa * Y) (hP:P=Pa * Pi) (hs:A'+P * x=A+P * r) (ht:x+c+y=4294967296 * q+r) :
  A'+q * (P * 4294967296)=V0+Pa * (Y+Pi * y):=by grind
theorem addAt_rel {w wr:World} {g a i c:Nat} {A0 y L:List Nat} {T:Int} (hk:a+i<L.length) (hL:Hid (L.length=A0.length)) (hdL:Digs L) (hown:Own wr g L) (hfr:Fr [g] w wr)
  (hc:c≤1) (hv:Hid (val L+c * 4294967296 ^ (a+i)=val A0+4294967296 ^ a * val (y.take i))) (d1:dg L (a+i)<4294967296) (d2:dg y i<4294967296)
  (hT:T=(dg L (a+i):Int)+(c:Int)+(dg y i:Int)) :
  ∃ (i' c':Nat) (L':List Nat),Value.int .i64 ((i:Int)+1)=.int .i64 i'∧Value.int .u64 (T / 4294967296)=.int .u64 c'∧c'≤1∧Hid (L'.length=A0.length)∧Digs L'∧Hid (a+i'≤L'.length) ∧
   Own (wr.setCell ⟨g,a+i,none⟩ (.int .u32 (T % 4294967296))) g L'∧Fr [g] w (wr.setCell ⟨g,a+i,none⟩ (.int .u32 (T % 4294967296))) ∧
   Hid (val L'+c' * 4294967296 ^ (a+i')=val A0+4294967296 ^ a * val (y.take i')):=by
 have hLl:=hL.out
 obtain⟨t,ht⟩:∃ t:Nat,t=dg L (a+i)+c+dg y i:=⟨_,rfl⟩
 have hTt:T=(t:Int):=by rw [hT,ht];simp
 subst hTt
 have o1:=hown.set (a+i) ((t:Int) % 4294967296) (by omega)
 have e1:((t:Int) % 4294967296).toNat=t % 4294967296:=by omega
 rw [e1] at o1
 refine⟨i+1,t / 4294967296,_,rfl,by rw [Int.natCast_ediv];rfl,by omega,Go.Lib.hid (by rw [List.length_set];exact hLl),hdL.set _ _ (by omega),Go.Lib.hid (by rw [List.length_set];omega),o1,hfr.setCell (.inl (by simp)) _,Go.Lib.hid ?_⟩
 rw [val_take_any y,← Nat.add_assoc,Nat.pow_succ]
 exact add_at_step hv.out (Nat.pow_add _ _ _) (val_set L (a+i) _ hk) (by rw [← ht];exact (Nat.div_add_mod _ _).symm)
def bitLen (n:Nat):Nat:=if n=0 then 0 else Nat.log2 n+1
theorem bitLen_zero:bitLen 0=0:=rfl
theorem bitLen_lo {n:Nat} (h:n ≠ 0):2 ^ (bitLen n - 1)≤n:=by
 simp only [bitLen,h,if_false,Nat.add_sub_cancel];exact Nat.log2_self_le h
theorem bitLen_hi (n:Nat):n<2 ^ bitLen n:=by
 unfold bitLen;split
 ·omega
 ·exact Nat.lt_log2_self
theorem bitLen_pos {n:Nat} (h:n ≠ 0):0<bitLen n:=by simp [bitLen,h]
theorem bitLen_eq {n k:Nat} (h1:2 ^ k≤n) (h2:n<2 ^ (k+1)):bitLen n=k+1:=by
 have h0:n ≠ 0:=by have:=Nat.pow_pos (n:=k) (show 0<2 by omega);omega
 have a:=bitLen_lo h0
 have b:=bitLen_hi n
 have c:=bitLen_pos h0
 have d1:k<bitLen n:=by
  rcases Nat.lt_or_ge k (bitLen n) with h | h
  ·exact h
  ·have:=Nat.pow_le_pow_right (show 0<2 by omega) h;omega
 have d2:bitLen n - 1<k+1:=by
  rcases Nat.lt_or_ge (bitLen n - 1) (k+1) with h | h
  ·exact h
  ·have:=Nat.pow_le_pow_right (show 0<2 by omega) h;omega
 omega
theorem lib_bits:∀ (f x:Nat),x ≠ 0→x<2 ^ f→Go.Lib.bitLenAux f x ≠ 0∧2 ^ (Go.Lib.bitLenAux f x - 1)≤x∧x<2 ^ Go.Lib.bitLenAux f x
 | 0,x,h0,h=>by simp at h;omega
 | f+1,x,h0,h=>by
  unfold Go.Lib.bitLenAux
  rw [if_neg h0]
  rw [Nat.pow_succ] at h
  by_cases h2:x / 2=0
  ·have:x=1:=by omega
   subst this
   cases f <;> simp [Go.Lib.bitLenAux]
  ·obtain⟨a,b,c⟩:=lib_bits f (x / 2) h2 (by omega)
   refine⟨by omega,?_,?_⟩
   ·rw [show 1+Go.Lib.bitLenAux f (x / 2) - 1=(Go.Lib.bitLenAux f (x / 2) - 1)+1 by omega,Nat.pow_succ];omega
   ·rw [Nat.add_comm,Nat.pow_succ];omega
theorem lib_bitLen (x:Nat) (h:x<18446744073709551616):Go.Lib.bitLen x=bitLen x:=by
 by_cases h0:x=0
 ·subst h0;rfl
 ·obtain⟨a,b,c⟩:=lib_bits 64 x h0 h
  unfold Go.Lib.bitLen
  have:=bitLen_eq (n:=x) (k:=Go.Lib.bitLenAux 64 x - 1) b (by rw [Nat.sub_add_cancel (by omega)];exact c)
  omega
theorem bitLen_le32 (x:Nat) (h:x<4294967296):bitLen x≤32:=by
 by_cases h0:x=0
 ·subst h0;simp [bitLen]
 ·have a:=bitLen_lo h0
  rcases Nat.lt_or_ge 32 (bitLen x) with h1 | h1
  ·have:=Nat.pow_le_pow_right (show 0<2 by omega) (show 32≤bitLen x - 1 by omega)
   simp at this;omega
  ·exact h1
theorem bitLen_is {l:List Nat} {n:Nat} (h:Is l n) (hl:0<l.length):bitLen n=32 * (l.length - 1)+bitLen (dg l (l.length - 1)):=by
 have hlast:dg l (l.length - 1) ≠ 0:=h.norm.last hl
 have e:=val_take_any l (l.length - 1)
 rw [show l.length - 1+1=l.length by omega,take_all l _ (Nat.le_refl _),h.val] at e
 have hb:=(h.digs.take (l.length - 1)).lt
 rw [List.length_take,Nat.min_eq_left (by omega)] at hb
 have a:=bitLen_lo hlast
 have b:=bitLen_hi (dg l (l.length - 1))
 have c:=bitLen_pos hlast
 have hB:(4294967296:Nat) ^ (l.length - 1)=2 ^ (32 * (l.length - 1)):=by rw [Nat.pow_mul]
 rw [hB] at e hb
 generalize dg l (l.length - 1)=top at *
 generalize val (l.take (l.length - 1))=low at *
 generalize l.length - 1=m at *
 have h1:2 ^ (32 * m+bitLen top - 1)≤n:=by
  rw [show 32 * m+bitLen top - 1=32 * m+(bitLen top - 1) by omega,Nat.pow_add,e]
  have:=Nat.mul_le_mul_left (2 ^ (32 * m)) a
  omega
 have h2:n<2 ^ (32 * m+bitLen top - 1+1):=by
  rw [show 32 * m+bitLen top - 1+1=32 * m+bitLen top by omega,Nat.pow_add,e]
  have:=Nat.mul_le_mul_left (2 ^ (32 * m)) (show top+1≤2 ^ bitLen top by omega)
  rw [Nat.mul_add] at this
  omega
 have:=bitLen_eq h1 h2
 omega
end Go.Proofs.YtcmndpjemdjalaaGreatDoor
namespace Go.Proofs.YtcmndpjemdjalaaGreatDoor.Pb
open Go.RowKit
theorem divSmall_any (w:World) (lo:Nat) (v:Value) (x:List Nat) (d:Nat) (hx:U32 w lo v x) (hn:x.length≤4294967296) (hd0:0<d) (hd:d<4294967296) :
  Calls Tryz.prog 278 #[v,.int .u32 d] w fun e w'=>∃ v' l',e=.returned (.tuple #[v',.int .u32 ((val x % d:Nat):Int)])∧U32 w' w.heap.size v' l'∧Is l' (val x / d)∧Fr [] w w':=by
 have hdx:=hx.digs
 obtain⟨ao,cap,rfl,hcap,hc⟩:=hx.shape
 have Hc:=Go.Lib.hid hc;clear hc hx
 go_enter Tryz.func278,Tryz.ntmps278
 go_wp2_with (at_make;refine make_u32 _ rfl _ _ rfl _ _ x.length rfl rfl (by omega) (by omega) (by omega) ?_;intro w1 hown hf)
 go_loopw [7,8] (fun c i wr=>∃ (k r:Nat) (L:List Nat),i=.int .i64 ((k:Int) - 1)∧c=.int .u64 r∧k≤x.length∧r<d∧Hid (L.length=x.length)∧Digs L∧Own wr w.heap.size L∧Fr [] w wr ∧
   Hid (val L * d+r * 4294967296 ^ k=val (x.drop k) * 4294967296 ^ k)∧Hid (∀ j,j<k→dg L j=0))
  (fun _ i _=>(intOf i+1).toNat)
 case atStart=>exact⟨x.length,0,_,rfl,rfl,Nat.le_refl _,hd0,Go.Lib.hid (by simp),Digs.replicate _,hown,hf,Go.Lib.hid (by rw [val_replicate];simp [val]),Go.Lib.hid (fun j _=>by simp [dg,List.getD,List.getElem?_replicate];split <;> simp)⟩
 case round =>
  obtain⟨k,r,L,rfl,rfl,hk,hr,hL,hdL,hownr,hfr,hv,hz⟩:=hrel
  clear hown hf
  rcases k with _ | k
  ·have hu:=hownr.all hdL (Nat.le_refl _)
   have hLl:=hL.out
   rw [hLl] at hu
   have hval:val L=val x / d∧r=val x % d:=by
    have e:=hv.out
    simp at e
    have e2:val x=d * val L+r:=by rw [← e,Nat.mul_comm]
    rw [e2]
    constructor
    ·rw [Nat.mul_add_div hd0,Nat.div_eq_of_lt hr];rfl
    ·rw [Nat.mul_add_mod,Nat.mod_eq_of_lt hr]
   clear hLl
   have Hval:=Go.Lib.hid hval;clear hval
   go_wp2_with fail
   refine (trim_any _ w.heap.size _ _ hu (by rw [hL.out];omega)).mono ?_
   rintro e w' ⟨v',l',rfl,h1,h2,-,rfl⟩
   go_wp2
   go_ret2
   exact⟨v',l',by show Ending.returned (.tuple #[v',.int .u32 (r:Int)])=_;rw [← Hval.out.2],h1,Hval.out.1 ▸ h2,hfr⟩
  ·have ek:(((k+1:Nat):Int) - 1)=(k:Int):=by omega
   rw [ek]
   clear ek
   obtain⟨b,o,rfl,hbw,hcw⟩:=Hc.out k (by omega)
   have hcx:wr.cell? ⟨b,o+k,none⟩=some (.int .u32 (dg x k:Nat)):=(hfr.cell hbw (by simp)).trans hcw
   clear hcw
   have hox:=hownr.cell k (by rw [hL.out];omega)
   have hfx:=hownr.free k
   have d1:=dg_lt hdx k
   have hor:=or64i r (dg x k) (by omega) d1
   go_wp2
   go_roundw
   case rel=>exact divs_rel (by omega) hL hdL hownr hfr hr hd hv hz d1 rfl
   case measure=>simp [intOf]
theorem bitLen_any (w:World) (lo:Nat) (v:Value) (x:List Nat) (n:Nat) (hx:U32 w lo v x) (hi:Is x n) (hn:x.length≤4294967296) :
  Calls Tryz.prog 129 #[v] w fun e w'=>e=.returned (.int .i64 ((bitLen n:Nat):Int))∧w=w':=by
 have hdx:=hx.digs
 obtain⟨ao,cap,rfl,hcap,hc⟩:=hx.shape
 by_cases h0:x.length=0
 ·obtain rfl:=List.eq_nil_of_length_eq_zero h0
  have hn0:n=0:=hi.val.symm
  subst hn0
  clear hc hx
  go_enter Tryz.func129,Tryz.ntmps129
  go_wp2
  go_ret
  exact⟨ret_int (by simp [bitLen_zero]),rfl⟩
 ·obtain⟨b,o,rfl,hb,hcw⟩:=hc (x.length - 1) (by omega)
  have hz:((x.length:Int)==0)=false:=by simp;intro h;simp [h] at h0
  have d1:=dg_lt hdx (x.length - 1)
  have H:=Go.Lib.hid (bitLen_is hi (by omega))
  have hb2:=bitLen_le32 (dg x (x.length - 1)) d1
  clear hc hx
  go_enter Tryz.func129,Tryz.ntmps129
  go_wp2_with fail
  refine (Tryz.bits_Len32 _ _ (by omega) (by omega)).mono ?_
  rintro e w' ⟨rfl,rfl⟩
  rw [Int.toNat_natCast,lib_bitLen _ (by omega)]
  go_wp2
  go_ret
  exact⟨ret_int (by rw [H.out];omega),rfl⟩
end Go.Proofs.YtcmndpjemdjalaaGreatDoor.Pb
namespace Go.Proofs.YtcmndpjemdjalaaGreatDoor.Pb
open Go.RowKit
theorem addAt_any (w:World) (g lo a:Nat) (u:Value) (A y:List Nat) (hA:Own w g A) (hdA:Digs A) (hy:U32 w lo u y) (hlo:g<lo) (hn:A.length≤8589934592) (hfit:a+y.length≤A.length)
  (hval:val A+4294967296 ^ a * val y<4294967296 ^ A.length) :
  Calls Tryz.prog 217 #[.slice (some ⟨g,0,none⟩) A.length A.length,u,.int .i64 a] w fun e w'=>∃ L,e=.returned (.tuple #[])∧Own w' g L∧Digs L∧L.length=A.length∧val L=val A+4294967296 ^ a * val y∧Fr [g] w w':=by
 have hdy:=hy.digs
 have Hy:=Go.Lib.hid hy
 obtain⟨ao2,cap2,rfl,hcap2,hc2⟩:=hy.shape
 clear hy hc2
 have Hval:=Go.Lib.hid hval;clear hval
 go_enter Tryz.func217,Tryz.ntmps217
 go_wp2
 go_loopw [6,7] (fun c i wr=>∃ (k q:Nat) (L:List Nat),i=.int .i64 k∧c=.int .u64 q∧q≤1∧Hid (L.length=A.length)∧Digs L∧Hid (a+k≤L.length)∧Own wr g L∧Fr [g] w wr ∧
   Hid (val L+q * 4294967296 ^ (a+k)=val A+4294967296 ^ a * val (y.take k)))
  (fun _ i _=>A.length+1 - (intOf i).toNat)
 case atStart=>exact⟨0,0,A,rfl,rfl,by omega,Go.Lib.hid rfl,hdA,Go.Lib.hid (by omega),hA,Fr.refl _ _,Go.Lib.hid (by simp [val])⟩
 case round =>
  obtain⟨k,q,L,rfl,rfl,hq,hL,hdL,hk,hown,hfr,hv⟩:=hrel
  have hk':k≤A.length:=by have:=hL.out;have:=hk.out;omega
  have hu:=(Hy.out).grown hfr hlo
  obtain⟨ao3,cap3,hs3,_,hc3⟩:=hu.shape
  simp only [Value.slice.injEq,true_and] at hs3
  obtain⟨rfl,rfl⟩:=hs3
  have Hc3:=Go.Lib.hid hc3;clear hc3 hu
  have d1:=dg_lt hdL (a+k)
  have d2:=dg_lt hdy k
  by_cases hlt:k<y.length
  ·have hak:a+k<L.length:=by have:=hL.out;omega
   have hak2:a+k<A.length:=by have:=hL.out;omega
   obtain⟨b,o,rfl,hbw,hcy⟩:=Hc3.out k hlt
   have hox:=hown.cell (a+k) hak
   have hfx:=hown.free (a+k)
   go_wp2
   go_roundw
   case rel=>exact addAt_rel hak hL hdL hown hfr hq hv d1 d2 rfl
   case measure=>simp [intOf];omega
  ·have hy0:=dg_out y k (by omega)
   have HY:=Go.Lib.hid hy0;clear hy0
   have htk:val (y.take k)=val y:=by rw [take_all y k (by omega)]
   have Htk:=Go.Lib.hid htk;clear htk
   rcases Nat.eq_zero_or_pos q with h0 | h0
   ·subst h0
    go_wp2
    go_end0
    exact⟨L,rfl,hown,hdL,hL.out,by have:=hv.out;rw [Htk.out] at this;omega,hfr⟩
   ·obtain rfl:q=1:=by omega
    have hak:a+k<L.length:=by
     rcases Nat.lt_or_ge (a+k) L.length with h | h
     ·exact h
     ·have h1:=Nat.pow_le_pow_right (show 0<4294967296 by omega) h
      have h2:=hv.out
      have h3:=Hval.out
      rw [Htk.out] at h2
      rw [hL.out] at h1
      omega
    have hak2:a+k<A.length:=by have:=hL.out;omega
    have hox:=hown.cell (a+k) hak
    have hfx:=hown.free (a+k)
    go_wp2
    go_roundw
    case rel=>exact addAt_rel hak hL hdL hown hfr hq hv d1 d2 (by rw [HY.out];omega)
    case measure=>simp [intOf];omega
theorem addAt_n (w:World) (g lo a n V:Nat) (u:Value) (A y:List Nat) (hn:A.length=n) (hV:val A=V) (hA:Own w g A) (hdA:Digs A) (hy:U32 w lo u y) (hlo:g<lo) (hb:n≤8589934592) (hfit:a+y.length≤n)
  (hval:V+4294967296 ^ a * val y<4294967296 ^ n) :
  Calls Tryz.prog 217 #[.slice (some ⟨g,0,none⟩) n n,u,.int .i64 a] w fun e w'=>∃ L,e=.returned (.tuple #[])∧Own w' g L∧Digs L∧L.length=n∧val L=V+4294967296 ^ a * val y∧Fr [g] w w':=by
 subst hn;subst hV
 exact addAt_any w g lo a u A y hA hdA hy hlo hb hfit hval
end Go.Proofs.YtcmndpjemdjalaaGreatDoor.Pb
namespace Go.Proofs.YtcmndpjemdjalaaGreatDoor
open Go.RowKit
theorem U32.cut {w:World} {lo b o cap i j:Nat} {l:List Nat} (h:U32 w lo (.slice (some ⟨b,o,none⟩) l.length cap) l) (hij:i≤j) (hj:j≤l.length) :
  U32 w lo (.slice (some ⟨b,o+i,none⟩) (j - i) (cap - i)) ((l.drop i).take (j - i)):=by
 rcases h.2 with ⟨h',_⟩ | ⟨b',o',cap',cur,fr,hv,hc,hlo,hh,r⟩
 ·simp at h'
 ·simp only [Value.slice.injEq,Option.some.injEq,Addr.mk.injEq,and_true,true_and] at hv
  obtain⟨⟨rfl,rfl⟩,rfl⟩:=hv
  have e:((l.drop i).take (j - i)).length=j - i:=by simp;omega
  refine⟨(h.1.drop i).take _,.inr ⟨b,o+i,cap - i,cur,fr,by rw [e],by omega,hlo,hh,fun k hk=>?_⟩⟩
  rw [e] at hk
  rw [dg_take _ _ _ hk,dg_drop,← r (i+k) (by omega)]
  congr 1;omega
theorem U32.none_left {w:World} {lo b o h:Nat} {l:List Nat} (hx:U32 w lo (.slice (some ⟨b,o,none⟩) l.length h) l) (hl:l.length≤h) :
  ∃ b' o' cap cur fr,(Value.slice (some ⟨b,o,none⟩) 0 0)=.slice (some ⟨b',o',none⟩) (l.drop h).length cap∧(l.drop h).length≤cap∧lo≤b'∧w.heap[b']?=some (.cells cur 208 fr)∧∀ i,i<(l.drop h).length→cur[o'+i]?=some (.int .u32 (dg (l.drop h) i:Nat)):=by
 rcases hx.2 with ⟨h',_⟩ | ⟨b',o',cap',cur,fr,hv,hc,hlo,hh,r⟩
 ·simp at h'
 ·simp only [Value.slice.injEq,Option.some.injEq,Addr.mk.injEq,and_true,true_and] at hv
  obtain⟨⟨rfl,rfl⟩,rfl⟩:=hv
  have e:(l.drop h).length=0:=by simp;omega
  exact⟨b,o,0,cur,fr,by rw [e],by omega,hlo,hh,fun i hi=>by omega⟩
theorem Is.len_of {l:List Nat} {n m:Nat} (h:Is l n) (hn:n<4294967296 ^ m):l.length≤m:=by
 rcases Nat.lt_or_ge m l.length with hc | hc
 ·have h1:=h.ge (by omega)
  have h2:=Nat.pow_le_pow_right (show 0<4294967296 by omega) (show m≤l.length - 1 by omega)
  omega
 ·exact hc
theorem val_cut (l:List Nat) (i j:Nat) (hij:i≤j) (hj:j≤l.length):val (l.take j)=val (l.take i)+4294967296 ^ i * val ((l.drop i).take (j - i)):=by
 have e:=val_take_drop (l.take j) i (by rw [List.length_take];omega)
 rw [List.take_take,Nat.min_eq_left hij,List.drop_take] at e
 exact e
theorem mul_pow_lt {a b m n:Nat} (ha:a<4294967296 ^ m) (hb:b<4294967296 ^ n):a * b<4294967296 ^ (m+n):=by
 rw [Nat.pow_add]
 exact Nat.mul_lt_mul'' ha hb
theorem add_len {x l la:List Nat} {h m:Nat} (ia:Is la (val l+val (x.drop h))) (ix:Is l (val (x.take h))) (ll:l.length≤h) (hl:(x.drop h).length=m - h) (hd:Digs x) (hm:m≤2 * h):la.length≤h+1:=by
 apply ia.len_of
 have h1:=ix.lt
 have h2:=(hd.drop h).lt
 rw [hl] at h2
 have h3:=Nat.pow_le_pow_right (show 0<4294967296 by omega) ll
 have h4:=Nat.pow_le_pow_right (show 0<4294967296 by omega) (show m - h≤h by omega)
 rw [ix.val,Nat.pow_succ]
 omega
structure Karat (h la lb X Y:Nat) (l0 l1 l2:List Nat) (M:Nat):Prop where
 l0l2:l0.length≤l2.length
 l2n:l2.length≤4294967296
 v0v2:val l0≤val l2
 l1l3:∀ {l3},Is l3 (val l2 - val l0)→l1.length≤l3.length
 l3n:∀ {l3},Is l3 (val l2 - val l0)→l3.length≤4294967296
 v1v3:∀ {l3},Is l3 (val l2 - val l0)→val l1≤val l3
 i4:∀ {l3 l4},Is l3 (val l2 - val l0)→Is l4 (val l3 - val l1)→Is l4 M
 len0:l0.length≤la+lb
 len4:∀ {l4},Is l4 M→h+l4.length≤la+lb+1
 len1:2 * h+l1.length≤la+lb+1
 fit0:0+4294967296 ^ 0 * val l0<4294967296 ^ (la+lb+1)
 fit4:val l0+4294967296 ^ h * M<4294967296 ^ (la+lb+1)
 fit1:val l0+4294967296 ^ h * M+4294967296 ^ (2 * h) * val l1<4294967296 ^ (la+lb+1)
 sum:val l0+4294967296 ^ h * M+4294967296 ^ (2 * h) * val l1=X * Y
theorem karat {x y l0 l1 l2:List Nat} {h:Nat} (hdx:Digs x) (hdy:Digs y) (hx:h≤x.length) (hy:h≤y.length) (h2:2 * h≤x.length+1) (hn:x.length+y.length≤2147483648) (hh:1≤y.length)
  (i0:Is l0 (val (x.take h) * val (y.take h))) (i1:Is l1 (val (x.drop h) * val (y.drop h)))
  (i2:Is l2 ((val (x.take h)+val (x.drop h)) * (val (y.take h)+val (y.drop h)))) :
  Karat h x.length y.length (val x) (val y) l0 l1 l2 (val (x.take h) * val (y.drop h)+val (x.drop h) * val (y.take h)):=by
 have ex:=val_take_drop x h hx
 have ey:=val_take_drop y h hy
 have bx:=hdx.lt
 have byy:=hdy.lt
 have bx0:=(hdx.take h).lt
 have by0:=(hdy.take h).lt
 have bx1:=(hdx.drop h).lt
 have by1:=(hdy.drop h).lt
 rw [List.length_take,Nat.min_eq_left hx] at bx0
 rw [List.length_take,Nat.min_eq_left hy] at by0
 rw [List.length_drop] at bx1 by1
 have hXY:=mul_pow_lt bx byy
 generalize val (x.take h)=X0 at *
 generalize val (x.drop h)=X1 at *
 generalize val (y.take h)=Y0 at *
 generalize val (y.drop h)=Y1 at *
 have hsum:X0 * Y0+4294967296 ^ h * (X0 * Y1+X1 * Y0)+4294967296 ^ (2 * h) * (X1 * Y1)=val x * val y:=by
  rw [ex,ey,show 2 * h=h+h by omega,Nat.pow_add];grind
 have hm:(X0+X1) * (Y0+Y1)=X0 * Y0+(X0 * Y1+X1 * Y0)+X1 * Y1:=by grind
 have hP:4294967296 ^ (x.length+y.length)≤4294967296 ^ (x.length+y.length+1):=Nat.pow_le_pow_right (by omega) (by omega)
 have hl2:l2.length≤x.length+y.length+1:=by
  apply i2.len_of
  have h1:X0≤val x:=by rw [ex];omega
  have h2:Y0≤val y:=by rw [ey];omega
  have p1:1≤4294967296 ^ h:=pow_pos' h
  have h3:X1≤val x:=by rw [ex];have:=Nat.mul_le_mul_right X1 p1;omega
  have h4:Y1≤val y:=by rw [ey];have:=Nat.mul_le_mul_right Y1 p1;omega
  have h5:=Nat.mul_le_mul (show X0+X1≤2 * val x by omega) (show Y0+Y1≤2 * val y by omega)
  have h6:2 * val x * (2 * val y)=4 * (val x * val y):=by grind
  rw [Nat.pow_succ]
  omega
 have e3:∀ {l3},Is l3 (val l2 - val l0)→val l3=X0 * Y1+X1 * Y0+X1 * Y1:=fun h3=>by
  rw [h3.val,i2.val,i0.val,hm];omega
 refine⟨i0.len_le i2 (by rw [hm];omega),by omega,by rw [i0.val,i2.val,hm];omega,fun h3=>?_,fun h3=>?_,fun h3=>?_,fun h3 h4=>?_,?_,fun {l4} h4=>?_,?_,?_,?_,?_,?_⟩
 ·have h3':=h3
  rw [← h3.val,e3 h3] at h3'
  exact i1.len_le h3' (by omega)
 ·have h3':=h3
  rw [← h3.val,e3 h3] at h3'
  have:=h3'.len_le i2 (by rw [hm];omega)
  omega
 ·rw [i1.val,e3 h3];omega
 ·rw [e3 h3,i1.val,Nat.add_sub_cancel] at h4;exact h4
 ·have:=i0.len_of (mul_pow_lt bx0 by0);omega
 ·have h5:h+l4.length≤x.length+y.length+1:=by
   by_cases hc:h≤x.length+y.length
   ·have:l4.length≤x.length+y.length - h:=by
     apply h4.len_of
     rcases Nat.lt_or_ge (X0 * Y1+X1 * Y0) (4294967296 ^ (x.length+y.length - h)) with hlt | hge
     ·exact hlt
     ·have h6:=Nat.mul_le_mul_left (4294967296 ^ h) hge
      rw [← Nat.pow_add,Nat.add_sub_cancel' hc] at h6
      omega
    omega
   ·omega
  exact h5
 ·by_cases hc:2 * h≤x.length+y.length
  ·have:l1.length≤x.length+y.length - 2 * h:=by
    apply i1.len_of
    rcases Nat.lt_or_ge (X1 * Y1) (4294967296 ^ (x.length+y.length - 2 * h)) with hlt | hge
    ·exact hlt
    ·have h6:=Nat.mul_le_mul_left (4294967296 ^ (2 * h)) hge
     rw [← Nat.pow_add,Nat.add_sub_cancel' hc] at h6
     omega
   omega
  ·omega
 ·rw [i0.val];simp only [Nat.pow_zero,Nat.one_mul];omega
 ·rw [i0.val];omega
 ·rw [i0.val,i1.val,hsum];omega
 ·rw [i0.val,i1.val,hsum]
end Go.Proofs.YtcmndpjemdjalaaGreatDoor
namespace Go.Proofs.YtcmndpjemdjalaaGreatDoor.Pb
open Go.RowKit
def MulSaid (N:Nat):Prop:=∀ (w:World) (lo lo2:Nat) (v u:Value) (x y:List Nat),U32 w lo v x→U32 w lo2 u y→x.length+y.length<N→x.length≤1073741824→y.length≤1073741824 →
 Calls Tryz.prog 170 #[v,u] w fun e w'=>∃ v' l',e=.returned v'∧U32 w' w.heap.size v' l'∧Is l' (val x * val y)∧Fr [] w w'
theorem mul_chunks (w:World) (lo lo2:Nat) (v u:Value) (x y:List Nat) (hx:U32 w lo v x) (hy:U32 w lo2 u y) (ih:MulSaid (x.length+y.length)) (hlen:y.length≤x.length) (hn:x.length≤1073741824) (h40:40≤y.length) (h2:2 * y.length≤x.length) :
  Calls Tryz.prog 170 #[v,u] w fun e w'=>∃ v' l',e=.returned v'∧U32 w' w.heap.size v' l'∧Is l' (val x * val y)∧Fr [] w w':=by
 have hdx:=hx.digs
 have hdy:=hy.digs
 have Hx:=Go.Lib.hid hx
 have Hy:=Go.Lib.hid hy
 obtain⟨ao,cap,rfl,hcap,hc⟩:=hx.shape
 obtain⟨ao2,cap2,rfl,hcap2,hc2⟩:=hy.shape
 obtain⟨b,o,rfl,hbw,-⟩:=hc 0 (by omega)
 clear hc hx hc2 hy
 have hnl:¬ ((x.length:Int)<(y.length:Int)):=by omega
 have hn40:¬ ((y.length:Int)<40):=by omega
 have hge:(2:Int) * (y.length:Int)≤(x.length:Int):=by omega
 go_enter Tryz.func170,Tryz.ntmps170
 go_wp2_with (at_make;refine make_u32 _ rfl _ _ rfl _ _ (x.length+y.length+1) rfl rfl (by omega) (by omega) (by omega) ?_;intro w1 hown hf)
 go_loopw [6] (fun i wr=>∃ (k:Nat) (L:List Nat),i=.int .i64 k∧k≤x.length+y.length∧Hid (L.length=x.length+y.length+1)∧Digs L∧Own wr w.heap.size L∧Fr [] w wr ∧
   Hid (val L=val (x.take k) * val y))
  (fun i _=>x.length+y.length - (intOf i).toNat)
 case atStart=>exact⟨0,_,rfl,Nat.zero_le _,Go.Lib.hid (by simp),Digs.replicate _,hown,hf,Go.Lib.hid (by rw [val_replicate];simp [val])⟩
 case round =>
  obtain⟨k,L,rfl,hk,hL,hdL,hownr,hfr,hv⟩:=hrel
  clear hown hf
  by_cases hlt:k<x.length
  ·have hkc:¬ cap=k:=by omega
   obtain⟨e,he⟩:∃ e,e=min (k+y.length) x.length:=⟨_,rfl⟩
   have hcut:=(Hx.out.fr0 hfr).cut (i:=k) (j:=e) (by omega) (by omega)
   have hcd:=hcut.digs
   have hcl:((x.drop k).take (e - k)).length=e - k:=by simp;omega
   have hcv:=val_cut x k e (by omega) (by omega)
   have hcb:=hcd.lt
   rw [hcl] at hcb
   generalize (x.drop k).take (e - k)=ch at *
   have Hcut:=Go.Lib.hid hcut;clear hcut
   have Hcl:=Go.Lib.hid hcl;clear hcl
   have Hcv:=Go.Lib.hid hcv;clear hcv
   have He:=Go.Lib.hid he;clear he
   go_wp2_with fail
   rw [show (min ((k:Int)+(y.length:Int)) (x.length:Int)).toNat=e by rw [He.out];omega]
   refine (trim_any _ lo _ ch Hcut.out (by rw [Hcl.out];have:=He.out;omega)).mono ?_
   rintro e1 w1' ⟨v1,c1,rfl,hu1,hi1,hl1,rfl⟩
   rw [Hcl.out] at hl1
   go_wp2_with fail
   refine (ih _ lo lo2 v1 _ c1 y hu1 (Hy.out.fr0 hfr) (by have:=He.out;omega) (by have:=He.out;omega) (by omega)).mono ?_
   rintro e1 w2 ⟨v2,p,rfl,hu2,hi2,hf2⟩
   rw [hi1.val] at hi2
   have hown2:=hownr.fr hf2 (by simp)
   have hpl:p.length≤(e - k)+y.length:=hi2.len_of (mul_pow_lt hcb hdy.lt)
   have hval:val L+4294967296 ^ k * val p<4294967296 ^ L.length:=by
    have h1:=hv.out
    have h2:=Hcv.out
    have h3:val L+4294967296 ^ k * val p=val (x.take e) * val y:=by rw [hi2.val,h1,h2];grind
    have h4:=mul_pow_lt (hdx.take e).lt hdy.lt
    rw [List.length_take] at h4
    have h5:=Nat.pow_le_pow_right (show 0<4294967296 by omega) (show min e x.length+y.length≤L.length by have:=hL.out;omega)
    omega
   have Hval:=Go.Lib.hid hval;clear hval
   go_wp2_with fail
   have hLl:=hL.out
   rw [← hLl]
   refine (addAt_any _ w.heap.size wr.heap.size k v2 L p hown2 hdL hu2 hownr.lt (by omega) (by have:=He.out;omega) Hval.out).mono ?_
   rintro e1 w3 ⟨L3,rfl,hown3,hd3,hl3,hv3,hf3⟩
   rw [hLl] at hl3 ⊢
   clear hLl
   have hfr3:=(hfr.then hf2).after hf3 (by simp)
   have Hl3:=Go.Lib.hid hl3;clear hl3
   have hv4:val L3=val (x.take (k+y.length)) * val y:=by
    have h1:=hv.out
    have h2:=Hcv.out
    have h5:x.take (k+y.length)=x.take e:=by
     rw [He.out]
     rcases Nat.le_total (k+y.length) x.length with h | h
     ·rw [Nat.min_eq_left h]
     ·rw [Nat.min_eq_right h,take_all x _ h,take_all x _ (Nat.le_refl _)]
    rw [h5,hv3,hi2.val,h1,h2];grind
   have Hv4:=Go.Lib.hid hv4;clear hv4 hv3
   go_wp2
   go_roundw
   case rel=>exact⟨k+y.length,L3,by simp,by omega,Hl3,hd3,hown3,hfr3,Hv4⟩
   case measure=>simp [intOf];omega
  ·have hu:=hownr.all hdL (Nat.le_refl _)
   have hLl:=hL.out
   rw [hLl] at hu
   have hval:val L=val x * val y:=by
    have e:=hv.out
    rw [take_all x _ (by omega)] at e
    exact e
   clear hLl
   have Hval:=Go.Lib.hid hval;clear hval
   go_wp2_with fail
   refine (trim_any _ w.heap.size _ _ hu (by rw [hL.out];omega)).mono ?_
   rintro e w' ⟨v',l',rfl,h1,h2,-,rfl⟩
   go_wp2
   go_ret
   exact⟨v',l',rfl,h1,Hval.out ▸ h2,hfr⟩
end Go.Proofs.YtcmndpjemdjalaaGreatDoor.Pb
namespace Go.Proofs.YtcmndpjemdjalaaGreatDoor.Pb
open Go.RowKit
theorem mul_chunks_s (w:World) (lo lo2:Nat) (v u:Value) (x y:List Nat) (hx:U32 w lo v x) (hy:U32 w lo2 u y) (ih:MulSaid (x.length+y.length)) (hlen:y.length<x.length) (hn:x.length≤1073741824) (h40:40≤y.length) (h2:2 * y.length≤x.length) :
  Calls Tryz.prog 170 #[u,v] w fun e w'=>∃ v' l',e=.returned v'∧U32 w' w.heap.size v' l'∧Is l' (val x * val y)∧Fr [] w w':=by
 have hdx:=hx.digs
 have hdy:=hy.digs
 have Hx:=Go.Lib.hid hx
 have Hy:=Go.Lib.hid hy
 obtain⟨ao,cap,rfl,hcap,hc⟩:=hx.shape
 obtain⟨ao2,cap2,rfl,hcap2,hc2⟩:=hy.shape
 obtain⟨b,o,rfl,hbw,-⟩:=hc 0 (by omega)
 clear hc hx hc2 hy
 have hnl:(y.length:Int)<(x.length:Int):=by omega
 have hn40:¬ ((y.length:Int)<40):=by omega
 have hge:(2:Int) * (y.length:Int)≤(x.length:Int):=by omega
 go_enter Tryz.func170,Tryz.ntmps170
 go_wp2_with (at_make;refine make_u32 _ rfl _ _ rfl _ _ (x.length+y.length+1) rfl rfl (by omega) (by omega) (by omega) ?_;intro w1 hown hf)
 go_loopw [6] (fun i wr=>∃ (k:Nat) (L:List Nat),i=.int .i64 k∧k≤x.length+y.length∧Hid (L.length=x.length+y.length+1)∧Digs L∧Own wr w.heap.size L∧Fr [] w wr ∧
   Hid (val L=val (x.take k) * val y))
  (fun i _=>x.length+y.length - (intOf i).toNat)
 case atStart=>exact⟨0,_,rfl,Nat.zero_le _,Go.Lib.hid (by simp),Digs.replicate _,hown,hf,Go.Lib.hid (by rw [val_replicate];simp [val])⟩
 case round =>
  obtain⟨k,L,rfl,hk,hL,hdL,hownr,hfr,hv⟩:=hrel
  clear hown hf
  by_cases hlt:k<x.length
  ·have hkc:¬ cap=k:=by omega
   obtain⟨e,he⟩:∃ e,e=min (k+y.length) x.length:=⟨_,rfl⟩
   have hcut:=(Hx.out.fr0 hfr).cut (i:=k) (j:=e) (by omega) (by omega)
   have hcd:=hcut.digs
   have hcl:((x.drop k).take (e - k)).length=e - k:=by simp;omega
   have hcv:=val_cut x k e (by omega) (by omega)
   have hcb:=hcd.lt
   rw [hcl] at hcb
   generalize (x.drop k).take (e - k)=ch at *
   have Hcut:=Go.Lib.hid hcut;clear hcut
   have Hcl:=Go.Lib.hid hcl;clear hcl
   have Hcv:=Go.Lib.hid hcv;clear hcv
   have He:=Go.Lib.hid he;clear he
   go_wp2_with fail
   rw [show (min ((k:Int)+(y.length:Int)) (x.length:Int)).toNat=e by rw [He.out];omega]
   refine (trim_any _ lo _ ch Hcut.out (by rw [Hcl.out];have:=He.out;omega)).mono ?_
   rintro e1 w1' ⟨v1,c1,rfl,hu1,hi1,hl1,rfl⟩
   rw [Hcl.out] at hl1
   go_wp2_with fail
   refine (ih _ lo lo2 v1 _ c1 y hu1 (Hy.out.fr0 hfr) (by have:=He.out;omega) (by have:=He.out;omega) (by omega)).mono ?_
   rintro e1 w2 ⟨v2,p,rfl,hu2,hi2,hf2⟩
   rw [hi1.val] at hi2
   have hown2:=hownr.fr hf2 (by simp)
   have hpl:p.length≤(e - k)+y.length:=hi2.len_of (mul_pow_lt hcb hdy.lt)
   have hval:val L+4294967296 ^ k * val p<4294967296 ^ L.length:=by
    have h1:=hv.out
    have h2:=Hcv.out
    have h3:val L+4294967296 ^ k * val p=val (x.take e) * val y:=by rw [hi2.val,h1,h2];grind
    have h4:=mul_pow_lt (hdx.take e).lt hdy.lt
    rw [List.length_take] at h4
    have h5:=Nat.pow_le_pow_right (show 0<4294967296 by omega) (show min e x.length+y.length≤L.length by have:=hL.out;omega)
    omega
   have Hval:=Go.Lib.hid hval;clear hval
   go_wp2_with fail
   have hLl:=hL.out
   rw [← hLl]
   refine (addAt_any _ w.heap.size wr.heap.size k v2 L p hown2 hdL hu2 hownr.lt (by omega) (by have:=He.out;omega) Hval.out).mono ?_
   rintro e1 w3 ⟨L3,rfl,hown3,hd3,hl3,hv3,hf3⟩
   rw [hLl] at hl3 ⊢
   clear hLl
   have hfr3:=(hfr.then hf2).after hf3 (by simp)
   have Hl3:=Go.Lib.hid hl3;clear hl3
   have hv4:val L3=val (x.take (k+y.length)) * val y:=by
    have h1:=hv.out
    have h2:=Hcv.out
    have h5:x.take (k+y.length)=x.take e:=by
     rw [He.out]
     rcases Nat.le_total (k+y.length) x.length with h | h
     ·rw [Nat.min_eq_left h]
     ·rw [Nat.min_eq_right h,take_all x _ h,take_all x _ (Nat.le_refl _)]
    rw [h5,hv3,hi2.val,h1,h2];grind
   have Hv4:=Go.Lib.hid hv4;clear hv4 hv3
   go_wp2
   go_roundw
   case rel=>exact⟨k+y.length,L3,by simp,by omega,Hl3,hd3,hown3,hfr3,Hv4⟩
   case measure=>simp [intOf];omega
  ·have hu:=hownr.all hdL (Nat.le_refl _)
   have hLl:=hL.out
   rw [hLl] at hu
   have hval:val L=val x * val y:=by
    have e:=hv.out
    rw [take_all x _ (by omega)] at e
    exact e
   clear hLl
   have Hval:=Go.Lib.hid hval;clear hval
   go_wp2_with fail
   refine (trim_any _ w.heap.size _ _ hu (by rw [hL.out];omega)).mono ?_
   rintro e w' ⟨v',l',rfl,h1,h2,-,rfl⟩
   go_wp2
   go_ret
   exact⟨v',l',rfl,h1,Hval.out ▸ h2,hfr⟩
end Go.Proofs.YtcmndpjemdjalaaGreatDoor.Pb
namespace Go.Proofs.YtcmndpjemdjalaaGreatDoor.Pb
open Go.RowKit
theorem mul_far_s (w:World) (lo lo2:Nat) (v u:Value) (x y:List Nat) (hx:U32 w lo v x) (hy:U32 w lo2 u y) (ih:MulSaid (x.length+y.length)) (hlen:y.length<x.length) (hn:x.length≤1073741824) (h40:40≤y.length) (h2:x.length<2 * y.length) (hfar:∀ a c,u=.slice a y.length c→c ≠ (x.length+1) / 2) :
  Calls Tryz.prog 170 #[u,v] w fun e w'=>∃ v' l',e=.returned v'∧U32 w' w.heap.size v' l'∧Is l' (val x * val y)∧Fr [] w w':=by
 have hdx:=hx.digs
 have hdy:=hy.digs
 have Hx:=Go.Lib.hid hx
 have Hy:=Go.Lib.hid hy
 obtain⟨ao,cap,rfl,hcap,hc⟩:=hx.shape
 obtain⟨ao2,cap2,rfl,hcap2,hc2⟩:=hy.shape
 obtain⟨b,o,rfl,hbw,-⟩:=hc 0 (by omega)
 obtain⟨b2,o2,rfl,hbw2,-⟩:=hc2 0 (by omega)
 clear hc hx hc2 hy
 have hnl:(y.length:Int)<(x.length:Int):=by omega
 have hn40:¬ ((y.length:Int)<40):=by omega
 have hge:¬ (2:Int) * (y.length:Int)≤(x.length:Int):=by omega
 obtain⟨h,hh⟩:∃ h,h=(x.length+1) / 2:=⟨_,rfl⟩
 have hh1:((x.length:Int)+1) / 2=(h:Int):=by omega
 have hh2:h≤y.length:=by omega
 have hh3:h<x.length:=by omega
 have hh4:x.length≤2 * h:=by omega
 have hh5:2 * h≤x.length+1:=by omega
 have hc2:¬ cap2=h:=by have:=hfar _ _ rfl;omega
 clear hh hfar
 have cx0:=(Hx.out).cut (i:=0) (j:=h) (by omega) (by omega)
 have cy0:=(Hy.out).cut (i:=0) (j:=h) (by omega) (by omega)
 simp only [Nat.add_zero,Nat.sub_zero,List.drop_zero] at cx0 cy0
 have lx0:(x.take h).length=h:=by simp;omega
 have ly0:(y.take h).length=h:=by simp;omega
 have Cx0:=Go.Lib.hid cx0;clear cx0
 have Cy0:=Go.Lib.hid cy0;clear cy0
 have Lx0:=Go.Lib.hid lx0;clear lx0
 have Ly0:=Go.Lib.hid ly0;clear ly0
 have cx1:=(Hx.out).cut (i:=h) (j:=x.length) (by omega) (by omega)
 have cy1:=(Hy.out).cut (i:=h) (j:=y.length) (by omega) (by omega)
 rw [List.take_of_length_le (by rw [List.length_drop];exact Nat.le_refl _)] at cx1 cy1
 have lx1:(x.drop h).length=x.length - h:=by simp
 have ly1:(y.drop h).length=y.length - h:=by simp
 have Cx1:=Go.Lib.hid cx1;clear cx1
 have Cy1:=Go.Lib.hid cy1;clear cy1
 have Lx1:=Go.Lib.hid lx1;clear lx1
 have Ly1:=Go.Lib.hid ly1;clear ly1
 have hc1:¬ cap=h:=by omega
 go_enter Tryz.func170,Tryz.ntmps170
 go_wp2_with (at_make;refine make_u32 _ rfl _ _ rfl _ _ (x.length+y.length+1) rfl rfl (by omega) (by omega) (by omega) ?_;intro w1 hown hf)
 have k1:(h:Int)≤(cap:Int):=by omega
 have k2:(h:Int)≤(cap2:Int):=by omega
 have tx:∀ W:World,Fr [] w W→Calls Tryz.prog 172 #[.slice (some ⟨b,o,none⟩) h cap] W fun e w'=>∃ v' l',e=.returned v'∧U32 W lo v' l'∧Is l' (val (x.take h))∧l'.length≤h∧W=w':=fun W hW=>by
  have:=trim_any W lo _ _ (Cx0.out.fr0 hW) (by rw [Lx0.out];omega)
  rw [Lx0.out] at this;exact this
 have ty:∀ W:World,Fr [] w W→Calls Tryz.prog 172 #[.slice (some ⟨b2,o2,none⟩) h cap2] W fun e w'=>∃ v' l',e=.returned v'∧U32 W lo2 v' l'∧Is l' (val (y.take h))∧l'.length≤h∧W=w':=fun W hW=>by
  have:=trim_any W lo2 _ _ (Cy0.out.fr0 hW) (by rw [Ly0.out];omega)
  rw [Ly0.out] at this;exact this
 have Tx:=Go.Lib.hid tx;clear tx
 have Ty:=Go.Lib.hid ty;clear ty
 go_cut [8] (fun s wc=>∃ l,U32 wc w1.heap.size s l∧Is l (val (x.take h) * val (y.take h))∧Fr [] w1 wc)
 case first =>
  go_region_with (first | (go_at_call_of 172 (Value.slice (some ⟨b,o,none⟩) h cap);refine (Tx.out _ ?_).mono ?_;exact hf.drew;rintro e w' ⟨vx,lx,rfl,ux,ix,llx,rfl⟩) | (go_at_call_of 172 (Value.slice (some ⟨b2,o2,none⟩) h cap2);refine (Ty.out _ ?_).mono ?_;exact hf.drew;rintro e w' ⟨vy,ly,rfl,uy,iy,lly,rfl⟩) | (go_at_call 170;refine (ih _ lo lo2 _ _ lx ly ux uy ?_ ?_ ?_).mono ?_;omega;omega;omega;rintro e w' ⟨vm,lm,rfl,um,im,fm⟩))
  go_wp2
  go_meet
  case rel=>exact⟨lm,um,by rw [ix.val,iy.val] at im;exact im,((Fr.refl [] w1).drew).then fm⟩
 case rest =>
  obtain⟨l0,u0,i0,f0⟩:=hcut
  have f0s:=f0.size
  have hown0:=hown.fr f0 (by simp)
  have hf0:=hf.then f0
  clear f0
  go_wp2
  go_cut [9] (fun s wd=>∃ l,U32 wd wc.heap.size s l∧Is l (val (x.drop h) * val (y.drop h))∧Fr [] wc wd)
  case first =>
   go_region_with (go_at_call 170;refine (ih _ lo lo2 _ _ (x.drop h) (y.drop h) ?_ ?_ ?_ ?_ ?_).mono ?_;exact Cx1.out.fr0 hf0.drew;exact Cy1.out.fr0 hf0.drew;(rw [Lx1.out,Ly1.out];omega);(rw [Lx1.out];omega);(rw [Ly1.out];omega);rintro e w' ⟨vm,lm,rfl,um,im,fm⟩)
   go_wp2
   go_meet
   case rel=>exact⟨lm,um,im,((Fr.refl [] wc).drew).then fm⟩
  case rest =>
   rename_i u8 _
   obtain⟨l1,u1,i1,f1⟩:=hcut
   have f1s:=f1.size
   have hown1:=hown0.fr f1 (by simp)
   have hf1:=hf0.then f1
   have u0b:=u0.fr0 f1
   clear hown0 f1 u0
   obtain⟨wd,hwd⟩:∃ wd:World,wd=wc:=⟨_,rfl⟩
   subst hwd
   go_wp2
   go_cut [10] (fun s we=>∃ l,U32 we wd.heap.size s l∧Is l ((val (x.take h)+val (x.drop h)) * (val (y.take h)+val (y.drop h)))∧Fr [] wd we)
   case first =>
    go_region_with (first | (go_at_call_of 172 (Value.slice (some ⟨b,o,none⟩) h cap);refine (Tx.out _ ?_).mono ?_;exact hf1.drew;rintro e w' ⟨vx,lx,rfl,ux,ix,llx,rfl⟩) | (go_at_call_of 205 (Value.slice (some ⟨b,o+h,none⟩) (x.length - h) (cap - h));refine (add_any _ lo lo _ _ lx (x.drop h) ux ?_ ?_ ?_).mono ?_;exact Cx1.out.fr0 hf1.drew;omega;(rw [Lx1.out];omega);rintro e w' ⟨va,la,rfl,ua,ia,fa⟩;have hfa:=hf1.drew.then fa) | (go_at_call_of 172 (Value.slice (some ⟨b2,o2,none⟩) h cap2);refine (Ty.out _ ?_).mono ?_;exact hfa;rintro e w' ⟨vy,ly,rfl,uy,iy,lly,rfl⟩) | (go_at_call_of 205 (Value.slice (some ⟨b2,o2+h,none⟩) (y.length - h) (cap2 - h));refine (add_any _ lo2 lo2 _ _ ly (y.drop h) uy ?_ ?_ ?_).mono ?_;exact Cy1.out.fr0 hfa;omega;(rw [Ly1.out];omega);rintro e w' ⟨vb,lb,rfl,ub,ib,fb⟩;have ua2:=ua.fr0 fb;have lla:=add_len ia ix llx Lx1.out hdx hh4;have llb:=add_len ib iy lly Ly1.out hdy (by omega)) | (go_at_call 170;refine (ih _ _ _ _ _ la lb ua2 ub ?_ ?_ ?_).mono ?_;omega;omega;omega;rintro e w' ⟨vm,lm,rfl,um,im,fm⟩))
    all_goals
     go_wp2
     go_meet
     case rel=>exact⟨lm,um.mono (by have:=fa.size;have:=fb.size;simp at *;omega),by rw [ia.val,ib.val,ix.val,iy.val] at im;exact im,(((Fr.refl [] wd).drew.then fa).then fb).then fm⟩
   case rest =>
    obtain⟨l2,u2,i2,f2⟩:=hcut
    have hown2:=hown1.fr f2 (by simp)
    have hf2:=hf1.then f2
    have u0c:=u0b.fr0 f2
    have u1b:=u1.fr0 f2
    have hg:=hown.lt
    have z1:=f0s
    have z2:=f1s
    have z3:=f2.size
    clear hown1 f2 u0b u1
    have U0:=u0c.mono (show w.heap.size+1≤w1.heap.size by omega)
    have U1:=u1b.mono (show w.heap.size+1≤_ by omega)
    have U2:=u2.mono (show w.heap.size+1≤_ by omega)
    clear u0c u1b u2
    have K:=Go.Lib.hid (karat hdx hdy (show h≤x.length by omega) hh2 hh5 (by omega) (by omega) i0 i1 i2)
    have I0:=Go.Lib.hid i0;have I1:=Go.Lib.hid i1;have I2:=Go.Lib.hid i2
    clear i0 i1 i2
    go_wp2_with fail
    refine (sub_any _ _ _ _ _ l2 l0 U2 U0 K.out.l0l2 K.out.l2n K.out.v0v2).mono ?_
    rintro e w3 ⟨v3,l3,rfl,u3,i3,f3⟩
    have I3:=Go.Lib.hid i3;clear i3
    have U1b:=U1.fr0 f3
    have U0b:=U0.fr0 f3
    have hown3:=hown2.fr f3 (by simp)
    go_wp2_with fail
    refine (sub_any _ _ _ _ _ l3 l1 u3 U1b (K.out.l1l3 I3.out) (K.out.l3n I3.out) (K.out.v1v3 I3.out)).mono ?_
    rintro e w4 ⟨v4,l4,rfl,u4,i4,f4⟩
    have I4:=Go.Lib.hid (K.out.i4 I3.out i4);clear i4
    have U0c:=U0b.fr0 f4
    have U1c:=U1b.fr0 f4
    have hown4:=hown3.fr f4 (by simp)
    have U4:=u4.mono (show w.heap.size+1≤_ by have:=f3.size;omega)
    clear hown2 hown3 u3 u4 U0 U0b U1 U1b
    have HF:=(hf2.then f3).then f4
    clear f3 f4 hf0 hf1 hf2
    go_wp2_with fail
    refine (addAt_n _ w.heap.size (w.heap.size+1) 0 (x.length+y.length+1) 0 _ _ l0 (by simp) (val_replicate _) hown4 (Digs.replicate _) U0c (by omega) (by omega) (by have:=K.out.len0;omega) K.out.fit0).mono ?_
    rintro e w5 ⟨L5,rfl,hown5,hd5,hl5,hv5,f5⟩
    have Hl5:=Go.Lib.hid hl5;clear hl5
    have Hv5:=Go.Lib.hid (show val L5=val l0 by rw [hv5];simp);clear hv5
    have U1d:=U1c.grown f5 (by omega)
    have U4b:=U4.grown f5 (by omega)
    have HF5:=HF.after f5 (by simp)
    clear U0c U1c U4 f5 hown4 HF
    go_wp2_with fail
    refine (addAt_n _ w.heap.size (w.heap.size+1) h (x.length+y.length+1) (val l0) _ _ l4 Hl5.out Hv5.out hown5 hd5 U4b (by omega) (by omega) (K.out.len4 I4.out) (by rw [I4.out.val];exact K.out.fit4)).mono ?_
    rintro e w6 ⟨L6,rfl,hown6,hd6,hl6,hv6,f6⟩
    have Hl6:=Go.Lib.hid hl6;clear hl6
    rw [I4.out.val] at hv6
    have Hv6:=Go.Lib.hid hv6;clear hv6
    have U1e:=U1d.grown f6 (by omega)
    have HF6:=HF5.after f6 (by simp)
    clear U1d U4b f6 hown5 HF5
    go_wp2_with fail
    rw [show (2:Int) * (h:Int)=((2 * h:Nat):Int) by omega]
    refine (addAt_n _ w.heap.size (w.heap.size+1) (2 * h) (x.length+y.length+1) _ _ _ l1 Hl6.out Hv6.out hown6 hd6 U1e (by omega) (by omega) K.out.len1 K.out.fit1).mono ?_
    rintro e w7 ⟨L7,rfl,hown7,hd7,hl7,hv7,f7⟩
    have Hl7:=Go.Lib.hid hl7
    have hv8:=hv7.trans K.out.sum
    have Hv7:=Go.Lib.hid hv8;clear hv7 hv8
    have HF7:=HF6.after f7 (by simp)
    have hu:=hown7.all hd7 (Nat.le_refl _)
    rw [hl7] at hu
    clear U1e f7 hown6 HF6 hl7
    go_wp2_with fail
    refine (trim_any _ w.heap.size _ _ hu (by rw [Hl7.out];omega)).mono ?_
    rintro e w' ⟨v',l',rfl,h1,h2,-,rfl⟩
    go_wp2
    go_ret
    exact⟨v',l',rfl,h1,Hv7.out ▸ h2,HF7⟩
end Go.Proofs.YtcmndpjemdjalaaGreatDoor.Pb
