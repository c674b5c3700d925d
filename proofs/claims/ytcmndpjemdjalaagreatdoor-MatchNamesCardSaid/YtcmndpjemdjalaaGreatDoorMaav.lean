/- Laws that the claimed theorem leans on: no condition of their own beyond their hypotheses. -/
import Derived.Shelf.Strings.Builder1
import Derived.Shelf.Strings.Builder2
import Derived.Shelf.Strings.Trim
import Derived.Shelf.Small.Utf8
import Derived.Shelf.Small.Bits
import Derived.Shelf.Small.Strs
import Derived.Shelf.Small.Wraps
import Derived.Shelf.Strings.BuilderF
import Derived.Shelf.Strings.BuilderK
import Derived.Shelf.Utf8.RuneCount
import Derived.Shelf.Strings.Builder2Cap
import Derived.Shelf.Strconv.Atoi
import Derived.Shelf.Strconv.Itoa0
import Derived.Shelf.Strconv.Itoa1
import Derived.Shelf.LaysM
import Derived.Shelf.Strconv.Itoa2
import Derived.Shelf.Strconv.Itoa3
import Derived.Shelf.Strconv.AtoiErrFast
import Derived.Shelf.Strconv.ParseIntEmpty
import Derived.Shelf.Strconv.AtoiFail
import Derived.Shelf.Strconv.Clone
import Derived.Shelf.Strconv.SyntaxError
import Derived.Shelf.LaysC
import Derived.Shelf.Strconv.ToError
import Derived.Shelf.Strconv.AtoiErr
import Derived.Shelf.Strconv.Lower
import Derived.Shelf.Strconv.ParseUint10
import Derived.Shelf.Strconv.ParseUint10Empty
import Derived.Shelf.Strconv.ParseUint10Any
import Derived.Shelf.Strconv.ParseInt10
import Derived.Shelf.Strconv.AtoiLong
import Derived.Shelf.Strconv.AtoiInnerAll
import Derived.Shelf.Strconv.RangeError
import Derived.Shelf.Strconv.ToErrorRange
import Derived.Shelf.Strconv.AtoiAll
import Derived.Shelf.Strconv.ErrVarAll
import Derived.Shelf.Strings.Search1
import Derived.Shelf.Strings.Search2
import Derived.Shelf.Strings.Search3
import Derived.Shelf.Strings.Cut
import Derived.Shelf.Strings.Count
import Derived.Shelf.Strings.Shaped
import Derived.Shelf.Strings.Prefix
import Derived.Shelf.Strings.Split
import Derived.Shelf.Unicode.Decode
import Derived.Shelf.Strings.Runes
import Derived.Shelf.Strings.RuneCount
import Derived.Shelf.Strings.AsciiSet
import Derived.Shelf.Unicode.DecodeSlow
import Derived.Shelf.Unicode.DecodeAny
import Derived.Shelf.Unicode.DecodeLast
import Derived.Shelf.Strings.BuilderCap
import Derived.Test.YtcmndpjemdjalaaGreatDoorProg
import Derived.Test.YtcmndpjemdjalaaGreatDoorMaaa
import Derived.Test.YtcmndpjemdjalaaGreatDoorMaau
set_option maxRecDepth 100000
set_option maxHeartbeats 16000000
namespace Go.Proofs
open Go.Shelf
def Tryz.lays170_ren:Go.Shelf.Ren:=⟨fun | 170=>35 | n=>n,fun | 70=>107 | 3=>3 | 0=>0 | 72=>109 | 37=>40 | 5=>5 | n=>n,fun | n=>n⟩
theorem Tryz.lays170:Go.Proofs.Lays.n170 Tryz.prog Tryz.lays170_ren:={
 mixed:=by kernel_rfl
 f170:=Tryz.func35.trans (congrArg some (by kernel_rfl))
 t0:=Tryz.underlying0
 a0:=Tryz.isAgg0
 z0:=Tryz.sizeOf0
 v0:=Tryz.zeroValue0
 t3:=Tryz.underlying3
 a3:=Tryz.isAgg3
 z3:=Tryz.sizeOf3
 v3:=Tryz.zeroValue3
 t37:=Tryz.underlying40
 a37:=Tryz.isAgg40
 z37:=Tryz.sizeOf40
 v37:=Tryz.zeroValue40
 t70:=Tryz.underlying107
 a70:=Tryz.isAgg107
 z70:=Tryz.sizeOf107
 v70:=Tryz.zeroValue107
 t72:=Tryz.underlying109
 a72:=Tryz.isAgg109
 z72:=Tryz.sizeOf109
 v72:=Tryz.zeroValue109 }
open Go.RowKit in
def Tryz.lays169_ren:Go.Shelf.Ren:=⟨fun | 169=>36 | n=>n,fun | 70=>107 | 9=>9 | 0=>0 | 72=>109 | 37=>40 | 127=>150 | 3=>3 | 5=>5 | n=>n,fun | n=>n⟩
theorem Tryz.lays169:Go.Proofs.Lays.n169 Tryz.prog Tryz.lays169_ren:={
 mixed:=by kernel_rfl
 f169:=Tryz.func36.trans (congrArg some (by kernel_rfl))
 t0:=Tryz.underlying0
 a0:=Tryz.isAgg0
 z0:=Tryz.sizeOf0
 v0:=Tryz.zeroValue0
 t3:=Tryz.underlying3
 a3:=Tryz.isAgg3
 z3:=Tryz.sizeOf3
 v3:=Tryz.zeroValue3
 t9:=Tryz.underlying9
 a9:=Tryz.isAgg9
 z9:=Tryz.sizeOf9
 v9:=Tryz.zeroValue9
 t37:=Tryz.underlying40
 a37:=Tryz.isAgg40
 z37:=Tryz.sizeOf40
 v37:=Tryz.zeroValue40
 t70:=Tryz.underlying107
 a70:=Tryz.isAgg107
 z70:=Tryz.sizeOf107
 v70:=Tryz.zeroValue107
 t72:=Tryz.underlying109
 a72:=Tryz.isAgg109
 z72:=Tryz.sizeOf109
 v72:=Tryz.zeroValue109
 t127:=Tryz.underlying150
 a127:=Tryz.isAgg150
 z127:=Tryz.sizeOf150
 v127:=Tryz.zeroValue150 }
theorem Tryz.Builder_Extra_169:Builder.Extra Tryz.prog Tryz.lays169_ren:={
 sizeBuilder:=by kernel_rfl
 liesBuilder:=by kernel_rfl
 t5:=Tryz.underlying5
 a5:=Tryz.isAgg5
 z5:=Tryz.sizeOf5
 v5:=Tryz.zeroValue5
 infoByte:=by kernel_rfl
 cellsByte:=by kernel_rfl
 sizeByte:=by kernel_rfl
 neB5:=by decide }
open Go.RowKit in
open Go.RowKit in
theorem Tryz.Builder_Len_f (B b:Nat) (bs:List Value) (w:World) (h:Lib.IsBuilderF 109 5 B b bs w) :
  Calls Tryz.prog 35 #[.pointer (some ⟨b,0,none⟩)] w fun e w'=>e=.returned (.int .i64 bs.length)∧w'=w:=Any.Builder_Len_f Tryz.lays170 B b bs w h
open Go.RowKit in
theorem Tryz.Builder_String_any_k (B b:Nat) (l:List UInt8) (w:World) (h:Lib.IsBuilderF 109 5 B b (Lib.byteCells l) w) (hBw:B≤w.heap.size) :
  Calls Tryz.prog 36 #[.pointer (some ⟨b,0,none⟩)] w fun e w'=>e=.returned (.string ⟨l.toArray⟩)∧(Lib.IsBuilderF 109 5 B b (Lib.byteCells l) w'∧Below B w w'∧Lib.OthersKept 5 (some b) w w'):=Any.Builder_String_any_k Tryz.lays169 Tryz.Builder_Extra_169 B b l w h hBw
def Tryz.lays172_ren:Go.Shelf.Ren:=⟨fun | 172=>104 | 244=>144 | 245=>145 | 247=>185 | 279=>186 | 280=>187 | 281=>188 | 282=>189 | 287=>207 | 316=>229 | 171=>71 | 205=>230 | 321=>246 | 322=>247 | 243=>108 | 246=>149 | 283=>196 | 284=>197 | 285=>198 | 286=>199 | 129=>238 | 317=>237 | 318=>239 | 319=>240 | 320=>241 | 337=>245 | 338=>274 | n=>n,fun | 9=>9 | 3=>3 | 75=>32 | 76=>155 | 4=>4 | 5=>5 | 167=>282 | 37=>40 | 0=>0 | 85=>283 | 2=>2 | 168=>285 | 53=>22 | 175=>268 | 46=>233 | 210=>338 | 127=>150 | 145=>372 | 143=>370 | 21=>21 | 171=>303 | 173=>306 | 212=>355 | 51=>208 | 20=>20 | 213=>356 | 232=>383 | 233=>393 | 80=>112 | n=>n,fun | 15=>4 | 16=>5 | 17=>6 | 18=>7 | 19=>8 | n=>n⟩
theorem Tryz.lays172:Go.Proofs.Lays.n172 Tryz.prog Tryz.lays172_ren:={
 mixed:=by kernel_rfl
 f129:=Tryz.func238.trans (congrArg some (by kernel_rfl))
 f171:=Tryz.func71.trans (congrArg some (by kernel_rfl))
 f172:=Tryz.func104.trans (congrArg some (by kernel_rfl))
 f205:=Tryz.func230.trans (congrArg some (by kernel_rfl))
 f243:=Tryz.func108.trans (congrArg some (by kernel_rfl))
 f244:=Tryz.func144.trans (congrArg some (by kernel_rfl))
 f245:=Tryz.func145.trans (congrArg some (by kernel_rfl))
 f246:=Tryz.func149.trans (congrArg some (by kernel_rfl))
 f247:=Tryz.func185.trans (congrArg some (by kernel_rfl))
 f279:=Tryz.func186.trans (congrArg some (by kernel_rfl))
 f280:=Tryz.func187.trans (congrArg some (by kernel_rfl))
 f281:=Tryz.func188.trans (congrArg some (by kernel_rfl))
 f282:=Tryz.func189.trans (congrArg some (by kernel_rfl))
 f283:=Tryz.func196.trans (congrArg some (by kernel_rfl))
 f284:=Tryz.func197.trans (congrArg some (by kernel_rfl))
 f285:=Tryz.func198.trans (congrArg some (by kernel_rfl))
 f286:=Tryz.func199.trans (congrArg some (by kernel_rfl))
 f287:=Tryz.func207.trans (congrArg some (by kernel_rfl))
 f316:=Tryz.func229.trans (congrArg some (by kernel_rfl))
 f317:=Tryz.func237.trans (congrArg some (by kernel_rfl))
 f318:=Tryz.func239.trans (congrArg some (by kernel_rfl))
 f319:=Tryz.func240.trans (congrArg some (by kernel_rfl))
 f320:=Tryz.func241.trans (congrArg some (by kernel_rfl))
 f321:=Tryz.func246.trans (congrArg some (by kernel_rfl))
 f322:=Tryz.func247.trans (congrArg some (by kernel_rfl))
 f337:=Tryz.func245.trans (congrArg some (by kernel_rfl))
 f338:=Tryz.func274.trans (congrArg some (by kernel_rfl))
 t0:=Tryz.underlying0
 a0:=Tryz.isAgg0
 z0:=Tryz.sizeOf0
 v0:=Tryz.zeroValue0
 t2:=Tryz.underlying2
 a2:=Tryz.isAgg2
 z2:=Tryz.sizeOf2
 v2:=Tryz.zeroValue2
 t3:=Tryz.underlying3
 a3:=Tryz.isAgg3
 z3:=Tryz.sizeOf3
 v3:=Tryz.zeroValue3
 t4:=Tryz.underlying4
 a4:=Tryz.isAgg4
 z4:=Tryz.sizeOf4
 v4:=Tryz.zeroValue4
 t5:=Tryz.underlying5
 a5:=Tryz.isAgg5
 z5:=Tryz.sizeOf5
 v5:=Tryz.zeroValue5
 t9:=Tryz.underlying9
 a9:=Tryz.isAgg9
 z9:=Tryz.sizeOf9
 v9:=Tryz.zeroValue9
 t20:=Tryz.underlying20
 a20:=Tryz.isAgg20
 z20:=Tryz.sizeOf20
 v20:=Tryz.zeroValue20
 t21:=Tryz.underlying21
 a21:=Tryz.isAgg21
 z21:=Tryz.sizeOf21
 v21:=Tryz.zeroValue21
 t37:=Tryz.underlying40
 a37:=Tryz.isAgg40
 z37:=Tryz.sizeOf40
 v37:=Tryz.zeroValue40
 t46:=Tryz.underlying233
 a46:=Tryz.isAgg233
 z46:=Tryz.sizeOf233
 v46:=Tryz.zeroValue233
 t51:=Tryz.underlying208
 a51:=Tryz.isAgg208
 z51:=Tryz.sizeOf208
 v51:=Tryz.zeroValue208
 t53:=Tryz.underlying22
 a53:=Tryz.isAgg22
 z53:=Tryz.sizeOf22
 v53:=Tryz.zeroValue22
 t75:=Tryz.underlying32
 a75:=Tryz.isAgg32
 z75:=Tryz.sizeOf32
 v75:=Tryz.zeroValue32
 t76:=Tryz.underlying155
 a76:=Tryz.isAgg155
 z76:=Tryz.sizeOf155
 v76:=Tryz.zeroValue155
 t85:=Tryz.underlying283
 a85:=Tryz.isAgg283
 z85:=Tryz.sizeOf283
 v85:=Tryz.zeroValue283
 t127:=Tryz.underlying150
 a127:=Tryz.isAgg150
 z127:=Tryz.sizeOf150
 v127:=Tryz.zeroValue150
 t143:=Tryz.underlying370
 a143:=Tryz.isAgg370
 z143:=Tryz.sizeOf370
 v143:=Tryz.zeroValue370
 t145:=Tryz.underlying372
 a145:=Tryz.isAgg372
 z145:=Tryz.sizeOf372
 v145:=Tryz.zeroValue372
 t167:=Tryz.underlying282
 a167:=Tryz.isAgg282
 z167:=Tryz.sizeOf282
 v167:=Tryz.zeroValue282
 t168:=Tryz.underlying285
 a168:=Tryz.isAgg285
 z168:=Tryz.sizeOf285
 v168:=Tryz.zeroValue285
 t171:=Tryz.underlying303
 a171:=Tryz.isAgg303
 z171:=Tryz.sizeOf303
 v171:=Tryz.zeroValue303
 t173:=Tryz.underlying306
 a173:=Tryz.isAgg306
 z173:=Tryz.sizeOf306
 v173:=Tryz.zeroValue306
 t175:=Tryz.underlying268
 a175:=Tryz.isAgg268
 z175:=Tryz.sizeOf268
 v175:=Tryz.zeroValue268
 t210:=Tryz.underlying338
 a210:=Tryz.isAgg338
 z210:=Tryz.sizeOf338
 v210:=Tryz.zeroValue338
 t212:=Tryz.underlying355
 a212:=Tryz.isAgg355
 z212:=Tryz.sizeOf355
 v212:=Tryz.zeroValue355
 t213:=Tryz.underlying356
 a213:=Tryz.isAgg356
 z213:=Tryz.sizeOf356
 t232:=Tryz.underlying383
 a232:=Tryz.isAgg383
 z232:=Tryz.sizeOf383
 v232:=Tryz.zeroValue383
 t233:=Tryz.underlying393
 a233:=Tryz.isAgg393
 z233:=Tryz.sizeOf393
 v233:=Tryz.zeroValue393
 g15:=by kernel_rfl
 g16:=by kernel_rfl
 g17:=by kernel_rfl
 g18:=by kernel_rfl
 g19:=by kernel_rfl }
open Go.RowKit in
theorem Tryz.strconv_Atoi (s:ByteArray) (n:Int) (hl:s.size≤18) (h:Lib.atoi s.data.toList=some n) (w:World) :
  Calls Tryz.prog 104 #[.string s] w fun e w'=>e=.returned (.tuple #[.int .i64 n,.nilIface])∧∃ t,w'=Lib.bytesWorld w 5 t:=Any.strconv_Atoi Tryz.lays172 s n hl h w
def Tryz.lays171_ren:Go.Shelf.Ren:=⟨fun | 171=>71 | 243=>108 | 246=>149 | 283=>196 | 284=>197 | 285=>198 | 286=>199 | 129=>238 | 317=>237 | 318=>239 | 319=>240 | 320=>241 | 337=>245 | 338=>274 | n=>n,fun | 3=>3 | 9=>9 | 2=>2 | 4=>4 | 171=>303 | 0=>0 | 53=>22 | 37=>40 | 5=>5 | 173=>306 | 212=>355 | 51=>208 | 20=>20 | 213=>356 | 46=>233 | 232=>383 | 233=>393 | n=>n,fun | 17=>6 | 18=>7 | 19=>8 | n=>n⟩
theorem Tryz.lays171:Go.Proofs.Lays.n171 Tryz.prog Tryz.lays171_ren:={
 mixed:=by kernel_rfl
 f129:=Tryz.func238.trans (congrArg some (by kernel_rfl))
 f171:=Tryz.func71.trans (congrArg some (by kernel_rfl))
 f243:=Tryz.func108.trans (congrArg some (by kernel_rfl))
 f246:=Tryz.func149.trans (congrArg some (by kernel_rfl))
 f283:=Tryz.func196.trans (congrArg some (by kernel_rfl))
 f284:=Tryz.func197.trans (congrArg some (by kernel_rfl))
 f285:=Tryz.func198.trans (congrArg some (by kernel_rfl))
 f286:=Tryz.func199.trans (congrArg some (by kernel_rfl))
 f317:=Tryz.func237.trans (congrArg some (by kernel_rfl))
 f318:=Tryz.func239.trans (congrArg some (by kernel_rfl))
 f319:=Tryz.func240.trans (congrArg some (by kernel_rfl))
 f320:=Tryz.func241.trans (congrArg some (by kernel_rfl))
 f337:=Tryz.func245.trans (congrArg some (by kernel_rfl))
 f338:=Tryz.func274.trans (congrArg some (by kernel_rfl))
 t0:=Tryz.underlying0
 a0:=Tryz.isAgg0
 z0:=Tryz.sizeOf0
 v0:=Tryz.zeroValue0
 t2:=Tryz.underlying2
 a2:=Tryz.isAgg2
 z2:=Tryz.sizeOf2
 v2:=Tryz.zeroValue2
 t3:=Tryz.underlying3
 a3:=Tryz.isAgg3
 z3:=Tryz.sizeOf3
 v3:=Tryz.zeroValue3
 t4:=Tryz.underlying4
 a4:=Tryz.isAgg4
 z4:=Tryz.sizeOf4
 v4:=Tryz.zeroValue4
 t5:=Tryz.underlying5
 a5:=Tryz.isAgg5
 z5:=Tryz.sizeOf5
 v5:=Tryz.zeroValue5
 t9:=Tryz.underlying9
 a9:=Tryz.isAgg9
 z9:=Tryz.sizeOf9
 v9:=Tryz.zeroValue9
 t20:=Tryz.underlying20
 a20:=Tryz.isAgg20
 z20:=Tryz.sizeOf20
 v20:=Tryz.zeroValue20
 t37:=Tryz.underlying40
 a37:=Tryz.isAgg40
 z37:=Tryz.sizeOf40
 v37:=Tryz.zeroValue40
 t46:=Tryz.underlying233
 a46:=Tryz.isAgg233
 z46:=Tryz.sizeOf233
 v46:=Tryz.zeroValue233
 t51:=Tryz.underlying208
 a51:=Tryz.isAgg208
 z51:=Tryz.sizeOf208
 v51:=Tryz.zeroValue208
 t53:=Tryz.underlying22
 a53:=Tryz.isAgg22
 z53:=Tryz.sizeOf22
 v53:=Tryz.zeroValue22
 t171:=Tryz.underlying303
 a171:=Tryz.isAgg303
 z171:=Tryz.sizeOf303
 v171:=Tryz.zeroValue303
 t173:=Tryz.underlying306
 a173:=Tryz.isAgg306
 z173:=Tryz.sizeOf306
 v173:=Tryz.zeroValue306
 t212:=Tryz.underlying355
 a212:=Tryz.isAgg355
 z212:=Tryz.sizeOf355
 v212:=Tryz.zeroValue355
 t213:=Tryz.underlying356
 a213:=Tryz.isAgg356
 z213:=Tryz.sizeOf356
 t232:=Tryz.underlying383
 a232:=Tryz.isAgg383
 z232:=Tryz.sizeOf383
 v232:=Tryz.zeroValue383
 t233:=Tryz.underlying393
 a233:=Tryz.isAgg393
 z233:=Tryz.sizeOf393
 v233:=Tryz.zeroValue393
 g17:=by kernel_rfl
 g18:=by kernel_rfl
 g19:=by kernel_rfl }
open Go.RowKit Go.Sort Go.Lib in
theorem Tryz.strconv_Itoa_small (i:Nat) (hi:i<100) (w:World) :
  Calls Tryz.prog 71 #[.int .i64 i] w fun e w'=>e=.returned (.string ⟨(Lib.decDigits i).toArray⟩)∧w'=w:=Any.strconv_Itoa_small Tryz.lays171 i hi w
end Go.Proofs
namespace Go.Proofs.YtcmndpjemdjalaaGreatDoor
open Go.RowKit Go.Lib
theorem row_kept {b k:Nat} {w w':World} {cs:Array Value} {t:TypeId} {fz:Nat × Nat} (hk:Lib.OthersKept 5 (some b) w w') (h:w.heap[k]?=some (.cells cs t fz)) (ht:t ≠ 5) (hne:k ≠ b):w'.heap[k]?=some (.cells cs t fz) :=
 hk k _ h (fun e=>hne (Option.some.inj e)) (fun c f e=>by injection e;exact ht ‹_›)
theorem Fr.belowB {S:List Nat} {a w w':World} {B:Nat} (h:Fr S a w) (hb:Below B w w') (hB:a.heap.size≤B):Fr S a w' :=
 ⟨hb.os.trans h.os,hb.tape.trans h.tape,hb.output.trans h.output,Nat.le_trans h.size hb.size,fun i hi hs=>(hb.block i (by omega)).trans (h.block i hi hs)⟩
theorem copyCheck_used (b:Nat) (w:World) (h0:w.cell? ⟨b,0,none⟩=some (.pointer (some ⟨b,0,none⟩))) :
  Calls Tryz.prog 61 #[.pointer (some ⟨b,0,none⟩)] w fun e w'=>e=.returned (.tuple #[])∧w'=w:=by
 have hsz:(Tryz.prog.info? 109).map (·.size)=some 2:=by kernel_rfl
 obtain⟨j,hj,_⟩:=Option.map_eq_some_iff.1 hsz
 go_enter Tryz.func61,Tryz.ntmps61
 go_wp2
 rw [Lib.run_neq_ptr_same w _ Tryz.underlying107 hj]
 go_wp2
 go_end0
 exact⟨rfl,rfl⟩
theorem copyCheck_fresh (b:Nat) (w:World) (h0:w.cell? ⟨b,0,none⟩=some (.pointer none)) (hsh:w.shape? b=some (109,2)) (hfz:w.frozen? ⟨b,0,none⟩=false) :
  Calls Tryz.prog 61 #[.pointer (some ⟨b,0,none⟩)] w fun e w'=>e=.returned (.tuple #[])∧w'=w.setCell ⟨b,0,none⟩ (.pointer (some ⟨b,0,none⟩)):=by
 have hsz:(Tryz.prog.info? 109).map (·.size)=some 2:=by kernel_rfl
 have hlies:liesAt Tryz.prog Tryz.prog.depth 109 (2 / Tryz.prog.cellsOf 109) 0 109 1=true:=by kernel_rfl
 obtain⟨j,hj,hjs⟩:=Option.map_eq_some_iff.1 hsz
 go_enter Tryz.func61,Tryz.ntmps61
 go_wp2
 rw [Lib.run_to_unsafe w ⟨b,0,none⟩ Tryz.underlying107 Tryz.underlying94 hj (by rw [hjs];decide) hsh (Nat.zero_lt_succ 1)]
 simp only [Result.andThen]
 rw [Oper.upon_value]
 go_wp2
 rw [run_callFunc_extern Tryz.func102 (by kernel_rfl) (by kernel_rfl) (by kernel_rfl) (e:=Extern.AbiNoEscape.same) (by kernel_rfl)]
 rw [Lib.run_noEscape]
 simp only [Result.andThen]
 rw [Oper.upon_value]
 go_wp2
 rw [Lib.run_from_unsafe w ⟨b,0,none⟩ Tryz.underlying94 Tryz.underlying107 hj hsh hlies]
 simp only [Result.andThen]
 rw [Oper.upon_value]
 go_wp2
 go_end0
 exact⟨rfl,rfl⟩
theorem copyCheck_any (B b:Nat) (bs:List Value) (w:World) (h:Lib.IsBuilderF 109 5 B b bs w) :
  Calls Tryz.prog 61 #[.pointer (some ⟨b,0,none⟩)] w fun e w'=>e=.returned (.tuple #[])∧(Lib.BuilderAtF 109 5 B b (.pointer (some ⟨b,0,none⟩)) bs w'∧Below B w w'∧Lib.OthersKept 5 (some b) w w'):=by
 rcases h with h | h
 ·refine (copyCheck_fresh b w h.cell0 h.shape h.frozen0).mono ?_
  rintro e w' ⟨rfl,rfl⟩
  exact⟨rfl,h.used _,(Below.refl B w).setCell (p:=⟨b,0,none⟩) h.1 _,(Lib.OthersKept.refl _ _ w).setCell ⟨b,0,none⟩ rfl _⟩
 ·refine (copyCheck_used b w h.cell0).mono ?_
  rintro e w' ⟨rfl,rfl⟩
  exact⟨rfl,h,Below.refl B _,Lib.OthersKept.refl _ _ _⟩
theorem writeByte_any (B b:Nat) (bs:List Value) (c:Int) (w:World) (h:Lib.IsBuilderF 109 5 B b bs w) (hlen:bs.length+1≤140737488355328) (hBw:B≤w.heap.size) :
  Calls Tryz.prog 38 #[.pointer (some ⟨b,0,none⟩),.int .u8 c] w fun e w'=>e=.returned .nilIface∧(Lib.BuilderAtF 109 5 B b (.pointer (some ⟨b,0,none⟩)) (bs++[.int .u8 c]) w'∧Below B w w'∧Lib.OthersKept 5 (some b) w w'):=by
 have hib:(Tryz.prog.info? 5).map (fun i=>(i.zero,i.size,i.bytes))=some (some (.int .u8 0),1,1):=by kernel_rfl
 obtain⟨i0,hi,hz0,hz1,hz2⟩:=info_parts hib
 go_enter Tryz.func38,Tryz.ntmps38
 go_wp2_with (go_at_call 61;refine (copyCheck_any B b bs _ h).mono ?_)
 rintro e w1 ⟨rfl,h1,hb1,hk1⟩
 obtain⟨hB,v,hbk,hown,hne⟩:=h1
 have c0:w1.cell? ⟨b,0,none⟩=some (.pointer (some ⟨b,0,none⟩)):=by rw [Lib.cell_of_heap hbk];rfl
 have c1:w1.cell? ⟨b,1,none⟩=some v:=by rw [Lib.cell_of_heap hbk];rfl
 go_wp2_with (at_builtin;refine wpList_append_ownF _ rfl _ _ 40 rfl B 5 i0 (.int .u8 0) 1 1 Tryz.underlying40 hi hz0 hz1 hz2 rfl (by decide) _ _ _ rfl (hown.alloc _) ⟨w1.heap.size,0,none⟩ 1 1 [.int .u8 c] rfl rfl ?c1 ?c2 ?c3 ?c4 ?c5 ?_)
 case c1 =>
  intro j u hj
  match j,hj with
  | 0,hj=>simp at hj;subst hj;simp [Addr.add]
 case c2=>intro u hu;simp at hu;subst hu;rfl
 case c3=>unfold maxLen;omega
 case c4=>omega
 case c5=>have:=hb1.size;simp;omega
 intro v' w2 hown' hgrow _
 have hlt:b<w1.heap.size:=by
  rcases Nat.lt_or_ge b w1.heap.size with h' | h'
  ·exact h'
  ·simp [Array.getElem?_eq_none h'] at hbk
 have hb2:w2.heap[b]?=some (.cells #[.pointer (some ⟨b,0,none⟩),v] 109 (0,0)):=by
  rw [hgrow.block b (by simp;omega) (fun e=>hne e.symm),Lib.alloc_old w1 _ b hlt]
  exact hbk
 have d0:w2.cell? ⟨b,0,none⟩=some (.pointer (some ⟨b,0,none⟩)):=by rw [Lib.cell_of_heap hb2];rfl
 have d1:w2.cell? ⟨b,1,none⟩=some v:=by rw [Lib.cell_of_heap hb2];rfl
 have f1:w2.frozen? ⟨b,1,none⟩=false:=Lib.frozen_of_heap hb2 1
 obtain⟨g,cap,rfl⟩:∃ g cap,v'=.slice (some ⟨g,0,none⟩) (bs.length+1) cap:=by
  rcases hown'.2 with ⟨_,h0⟩ | ⟨g,cap,cur,fz,hv,_⟩
  ·omega
  ·exact⟨g,cap,hv⟩
 go_wp2
 go_ret
 refine⟨rfl,?_,?_,((hk1.alloc _).grown hgrow (Lib.ownsRowF_kind (hown.alloc _))).setCell ⟨b,1,none⟩ rfl _⟩
 ·exact Lib.BuilderAtF.put (T:=109) (e:=5) hB hb2 (bs':=bs++[.int .u8 c]) (by simpa using hown') (by decide)
 ·exact ((hb1.alloc (by have:=hb1.size;omega) _).grown hgrow (by have:=hb1.size;simp;omega) (fun k hk=>(hown.lt k hk).1)).setCell (p:=⟨b,1,none⟩) hB _
theorem writeString_any (B b:Nat) (bs:List Value) (s:ByteArray) (w:World) (h:Lib.IsBuilderF 109 5 B b bs w) (hlen:bs.length+s.size≤140737488355328) (hBw:B≤w.heap.size) :
  Calls Tryz.prog 68 #[.pointer (some ⟨b,0,none⟩),.string s] w fun e w'=>e=.returned (.tuple #[.int .i64 s.size,.nilIface])∧(Lib.BuilderAtF 109 5 B b (.pointer (some ⟨b,0,none⟩)) (bs++Lib.strCells s) w'∧Below B w w'∧Lib.OthersKept 5 (some b) w w'):=by
 have hib:(Tryz.prog.info? 5).map (fun i=>(i.zero,i.size,i.bytes))=some (some (.int .u8 0),1,1):=by kernel_rfl
 obtain⟨i0,hi,hz0,hz1,hz2⟩:=info_parts hib
 go_enter Tryz.func68,Tryz.ntmps68
 go_wp2_with (go_at_call 61;refine (copyCheck_any B b bs _ h).mono ?_)
 rintro e w1 ⟨rfl,h1,hb1,hk1⟩
 obtain⟨hB,v,hbk,hown,hne⟩:=h1
 have c0:w1.cell? ⟨b,0,none⟩=some (.pointer (some ⟨b,0,none⟩)):=by rw [Lib.cell_of_heap hbk];rfl
 have c1:w1.cell? ⟨b,1,none⟩=some v:=by rw [Lib.cell_of_heap hbk];rfl
 go_wp2_with (at_builtin;refine Lib.wpList_append_own_stringF _ rfl _ _ 40 9 rfl B 5 i0 Tryz.underlying40 Tryz.underlying9 hi hz0 hz1 hz2 _ _ _ rfl hown s rfl ?c3 ?c4 ?c5 ?_)
 case c3=>unfold maxLen;omega
 case c4=>omega
 case c5=>have:=hb1.size;omega
 intro v' w2 hown' hgrow _
 have hlt:b<w1.heap.size:=by
  rcases Nat.lt_or_ge b w1.heap.size with h' | h'
  ·exact h'
  ·simp [Array.getElem?_eq_none h'] at hbk
 have hb2:w2.heap[b]?=some (.cells #[.pointer (some ⟨b,0,none⟩),v] 109 (0,0)):=by
  rw [hgrow.block b hlt (fun e=>hne e.symm)]
  exact hbk
 have d0:w2.cell? ⟨b,0,none⟩=some (.pointer (some ⟨b,0,none⟩)):=by rw [Lib.cell_of_heap hb2];rfl
 have d1:w2.cell? ⟨b,1,none⟩=some v:=by rw [Lib.cell_of_heap hb2];rfl
 have f1:w2.frozen? ⟨b,1,none⟩=false:=Lib.frozen_of_heap hb2 1
 obtain⟨ao,n',cap,rfl⟩:∃ ao n' cap,v'=.slice ao n' cap:=by
  rcases hown'.2 with ⟨hv,_⟩ | ⟨g,cap,cur,fz,hv,_⟩
  ·exact⟨_,_,_,hv⟩
  ·exact⟨_,_,_,hv⟩
 go_wp2
 go_ret2
 refine⟨rfl,?_,?_,(hk1.grown hgrow (Lib.ownsRowF_kind hown)).setCell ⟨b,1,none⟩ rfl _⟩
 ·exact Lib.BuilderAtF.put (T:=109) (e:=5) hB hb2 (bs':=bs++Lib.strCells s) (by simpa [Lib.strCells_length] using hown') (by decide)
 ·exact (hb1.grown hgrow (by have:=hb1.size;omega) (fun k hk=>(hown.lt k hk).1)).setCell (p:=⟨b,1,none⟩) hB _
end Go.Proofs.YtcmndpjemdjalaaGreatDoor
namespace Go.Proofs.YtcmndpjemdjalaaGreatDoor
open Go.RowKit
def dig (n:Nat):UInt8:=UInt8.ofNat (48+n)
def look (d:Nat):UInt8:=[0,0,115,102,101,103,120].getD d 0
def StrsAt (n i:Nat) (c:ByteArray) (v:Value) (w:World):Prop:=∃ g:Nat,v=.slice (some ⟨g,0,none⟩) n n∧w.cell? ⟨g,i,none⟩=some (.string c)
def StrAt (i:Nat) (c:ByteArray) (v:Value) (w:World):Prop:=∃ g:Nat,v=.pointer (some ⟨g,i,none⟩)∧w.cell? ⟨g,i,none⟩=some (.string c)
theorem StrsAt.lasts (n i:Nat) (c:ByteArray):Lasts [] (StrsAt n i c):=fun _ _ _ ⟨g,h,hc⟩ hf=>⟨g,h,hf.stay hc (by simp)⟩
theorem StrAt.lasts (i:Nat) (c:ByteArray):Lasts [] (StrAt i c):=fun _ _ _ ⟨g,h,hc⟩ hf=>⟨g,h,hf.stay hc (by simp)⟩
theorem fresh_row {W:World} {b:Nat} (h:W.heap[b]?=some (.cells #[.pointer none,.slice none 0 0] 109 (0,0))):Lib.IsBuilderF 109 5 b b (Lib.byteCells []) W :=
 Lib.IsBuilderF.of (.inl ⟨Nat.le_refl _,_,h,⟨rfl,.inl ⟨rfl,rfl⟩⟩,by simp [Value.ownBlock]⟩)
theorem strCells_l (l:List UInt8):Lib.strCells (strL l)=Lib.byteCells l:=by rw [Lib.strCells_eq,strL_data]
theorem writeStr (B b:Nat) (l m:List UInt8) (w:World) (h:Lib.IsBuilderF 109 5 B b (Lib.byteCells l) w) (hl:l.length+m.length≤65536) (hB:B≤w.heap.size) :
  Calls Tryz.prog 68 #[.pointer (some ⟨b,0,none⟩),.string (strL m)] w fun e w'=>e=.returned (.tuple #[.int .i64 (strL m).size,.nilIface])∧Lib.IsBuilderF 109 5 B b (Lib.byteCells (l++m)) w'∧Below B w w'∧Lib.OthersKept 5 (some b) w w':=by
 refine (writeString_any B b _ (strL m) w h (by rw [Lib.byteCells_length,strL_size];omega) hB).mono ?_
 rintro e w' ⟨rfl,h1,h2,h3⟩
 rw [strCells_l,← Lib.byteCells_append] at h1
 exact⟨rfl,.inr h1,h2,h3⟩
theorem writeOne (B b:Nat) (l:List UInt8) (c:UInt8) (w:World) (h:Lib.IsBuilderF 109 5 B b (Lib.byteCells l) w) (hl:l.length≤65536) (hB:B≤w.heap.size) :
  Calls Tryz.prog 38 #[.pointer (some ⟨b,0,none⟩),.int .u8 c.toNat] w fun e w'=>e=.returned .nilIface∧Lib.IsBuilderF 109 5 B b (Lib.byteCells (l++[c])) w'∧Below B w w'∧Lib.OthersKept 5 (some b) w w':=by
 refine (writeByte_any B b _ c.toNat w h (by rw [Lib.byteCells_length];omega) hB).mono ?_
 rintro e w' ⟨rfl,h1,h2,h3⟩
 have e1:Lib.byteCells l++[.int .u8 (c.toNat:Int)]=Lib.byteCells (l++[c]):=by rw [Lib.byteCells_append];rfl
 rw [e1] at h1
 exact⟨rfl,.inr h1,h2,h3⟩
theorem itoa_digit (w:World) (p:Nat) (hp:p<10):Calls Tryz.prog 71 #[.int .i64 p] w fun e w'=>e=.returned (.string (strL [dig p]))∧w'=w:=by
 have:=Tryz.strconv_Itoa_small p (by omega) w
 have e1:Lib.decDigits p=[dig p]:=by
  have:∀ p:Fin 10,Lib.decDigits p.val=[dig p.val]:=by decide +kernel
  exact this ⟨p,hp⟩
 rw [e1] at this
 exact this
theorem cat_l (l m:List UInt8):strL l++strL m=strL (l++m):=strL_append l m
structure WrAt (w W:World) (o:Value) (wd pl md d N:Int):Prop where
 rP:W.heap[w.heap.size]?=some (.cells #[o,.int .i64 wd,.int .i64 pl,.int .u8 md] 37)
 rF:W.heap[w.heap.size+1+1]?=some (.cells #[.int .u8 d,.int .i64 N] 117)
namespace WrAt
variable {w W W':World} {o:Value} {wd pl md d N:Int}
theorem kept (h:WrAt w W o wd pl md d N) (hk:Lib.OthersKept 5 (some (w.heap.size+1)) W W'):WrAt w W' o wd pl md d N:=⟨row_kept hk h.rP (by decide) (by omega),row_kept hk h.rF (by decide) (by omega)⟩
theorem a1 (h:WrAt w W o wd pl md d N):W.cell? ⟨w.heap.size,1,none⟩=some (.int .i64 wd):=by rw [cell_of_row _ _ 1 _ _ _ h.rP];rfl
theorem a2 (h:WrAt w W o wd pl md d N):W.cell? ⟨w.heap.size,2,none⟩=some (.int .i64 pl):=by rw [cell_of_row _ _ 2 _ _ _ h.rP];rfl
theorem a3 (h:WrAt w W o wd pl md d N):W.cell? ⟨w.heap.size,3,none⟩=some (.int .u8 md):=by rw [cell_of_row _ _ 3 _ _ _ h.rP];rfl
theorem d0 (h:WrAt w W o wd pl md d N):W.cell? ⟨w.heap.size+1+1,0,none⟩=some (.int .u8 d):=by rw [cell_of_row _ _ 0 _ _ _ h.rF];rfl
end WrAt
theorem write_n (w:World) (o:Value) (b cap:Nat) (d:Nat) (c:UInt8) (hd2:2≤d) (hd6:d≤6) (hix:∀ W,(Instr.index 9 (.string ⟨#[115,102,101,103,120]⟩) (.int .u8 ((d:Int) - 2))).run Tryz.prog W=.ok (.int .u8 c.toNat) W) (_hb:b<w.heap.size)
  (h0:w.cell? ⟨b,0,none⟩=some (.iface 117 (.agg #[.int .u8 d,.int .i64 0]))) :
  Calls Tryz.prog 43 #[apiPlan o 0 (-1) 0,.slice (some ⟨b,0,none⟩) 1 cap] w fun x w'=>x=.returned (.string (strL [123,c,125]))∧Fr [] w w':=by
 have ta1:∀ v w,(Instr.typeAssert (.iface 117 v) 71 111 true).run Tryz.prog w=.ok (.tuple #[.string ⟨#[]⟩,.bool false]) w:=fun _ _=>by kernel_rfl
 have ta2:∀ v w,(Instr.typeAssert (.iface 117 v) 71 117 true).run Tryz.prog w=.ok (.tuple #[v,.bool true]) w:=fun _ _=>by kernel_rfl
 unfold apiPlan
 go_enter Tryz.func43,Tryz.ntmps43
 go_wp2_with fail
 have fA:=(Fr.refl [] w).alloc (.cells #[o,.int .i64 0,.int .i64 (-1),.int .u8 0] 37)
 have fB:=(Fr.refl [] (w.alloc (.cells #[o,.int .i64 0,.int .i64 (-1),.int .u8 0] 37))).alloc (.cells #[.pointer none,.slice none 0 0] 109)
 have rP:=fB.row (row_new w (.cells #[o,.int .i64 0,.int .i64 (-1),.int .u8 0] 37)) (by simp)
 have rB:=row_new (w.alloc (.cells #[o,.int .i64 0,.int .i64 (-1),.int .u8 0] 37)) (.cells #[.pointer none,.slice none 0 0] 109)
 rw [World.size_alloc] at rB
 have fW:=fA.then fB
 clear fA fB
 generalize hW:(w.alloc (.cells #[o,.int .i64 0,.int .i64 (-1),.int .u8 0] 37)).alloc (.cells #[.pointer none,.slice none 0 0] 109)=W at *
 have hWs:W.heap.size=w.heap.size+1+1:=by rw [← hW];simp
 have h0:=fW.stay h0 (by simp)
 refine wp_loop_rounds 2 ?_
 rw [rounds_succ]
 go_wp2_with fail
 have fX:=(Fr.refl [] W).alloc (.cells #[.int .u8 d,.int .i64 0] 117)
 have rP:=fX.row rP (by simp)
 have rB:=fX.row rB (by simp)
 have rF:=row_new W (.cells #[.int .u8 d,.int .i64 0] 117)
 have F:=fW.then fX
 have hXs:(W.alloc (.cells #[.int .u8 d,.int .i64 0] 117)).heap.size=w.heap.size+1+1+1:=by rw [World.size_alloc,hWs]
 rw [hWs] at rF
 generalize W.alloc (.cells #[.int .u8 d,.int .i64 0] 117)=X at *
 have c1:X.cell? ⟨w.heap.size+1+1,1,none⟩=some (.int .i64 0):=by rw [cell_of_row _ _ 1 _ _ _ rF];rfl
 clear hW fX fW
 refine region_mono [] 14 [[],[],[1],[2],[0,3],[4],[5],[],[],[8],[9],[7,10],[11],[6,12]] [some (StrsAt 3 0 ⟨#[]⟩),none,none,none,some (StrAt 0 ⟨#[]⟩),none,none,some (StrsAt 3 0 ⟨#[]⟩),none,none,none,some (StrAt 0 ⟨#[]⟩),none,none] (by kernel_rfl) (by kernel_rfl) ?_
 simp only [Chain,fill,Act.put,List.nil_append,List.cons_append,List.take_succ_cons,List.take_zero,List.drop_succ_cons,List.drop_zero,List.setIfInBounds_toArray,List.set_cons_zero,List.set_cons_succ,Nat.reduceAdd]
 refine⟨StrsAt.lasts _ _ _,?_,?_⟩
 ·intro vs w2 hf hh K hK;have c1:=hf.stayd c1;simp only [Held] at hh;(try simp only [] at hK ⊢);go_simp;exact hK _ _ ⟨⟨w2.heap.size,rfl,cell_new w2 _ _ _ 0 _ rfl⟩,(Fr.refl [] w2).alloc _⟩
 iterate 3 (apply Exists.intro;apply And.intro;·intro vs w2 hf hh K hK;have c1:=hf.stayd c1;simp only [Held,List.getD_cons_zero,List.getD_cons_succ,Just,and_true] at hh;(try simp only [hh] at hK ⊢);go_simp;exact hK _ _ ⟨rfl,Fr.refl _ _⟩)
 refine⟨StrAt.lasts _ _,?_,?_⟩
 ·intro vs w2 hf hh K hK;have c1:=hf.stayd c1;simp only [Held,List.getD_cons_zero,List.getD_cons_succ,Just,and_true] at hh;(try simp only [hh] at hK ⊢);obtain⟨⟨g,hg,hc⟩,h3⟩:=hh;simp only [hg] at hK ⊢;go_simp;exact hK _ _ ⟨⟨g,rfl,hc⟩,Fr.refl _ _⟩
 apply Exists.intro;apply And.intro
 ·intro vs w2 hf hh K hK;have c1:=hf.stayd c1;simp only [Held,List.getD_cons_zero,List.getD_cons_succ,and_true] at hh;(try simp only [] at hK ⊢);obtain⟨g,hg,hc⟩:=hh;simp only [hg] at hK ⊢;go_simp;exact hK _ _ ⟨rfl,Fr.refl _ _⟩
 apply Exists.intro;apply And.intro
 ·intro vs w2 hf hh K hK;simp only [Held,List.getD_cons_zero,List.getD_cons_succ,Just,and_true] at hh;(try simp only [hh] at hK ⊢);go_simp;exact hK _ _ ⟨rfl,Fr.refl _ _⟩
 refine⟨StrsAt.lasts _ _ _,?_,?_⟩
 ·intro vs w2 hf hh K hK;have c1:=hf.stayd c1;simp only [Held] at hh;(try simp only [] at hK ⊢);go_simp;exact hK _ _ ⟨⟨w2.heap.size,rfl,cell_new w2 _ _ _ 0 _ rfl⟩,(Fr.refl [] w2).alloc _⟩
 iterate 3 (apply Exists.intro;apply And.intro;·intro vs w2 hf hh K hK;have c1:=hf.stayd c1;simp only [Held,List.getD_cons_zero,List.getD_cons_succ,Just,and_true] at hh;(try simp only [hh] at hK ⊢);go_simp;exact hK _ _ ⟨rfl,Fr.refl _ _⟩)
 refine⟨StrAt.lasts _ _,?_,?_⟩
 ·intro vs w2 hf hh K hK;have c1:=hf.stayd c1;simp only [Held,List.getD_cons_zero,List.getD_cons_succ,Just,and_true] at hh;(try simp only [hh] at hK ⊢);obtain⟨⟨g,hg,hc⟩,h3⟩:=hh;simp only [hg] at hK ⊢;go_simp;exact hK _ _ ⟨⟨g,rfl,hc⟩,Fr.refl _ _⟩
 apply Exists.intro;apply And.intro
 ·intro vs w2 hf hh K hK;have c1:=hf.stayd c1;simp only [Held,List.getD_cons_zero,List.getD_cons_succ,and_true] at hh;(try simp only [] at hK ⊢);obtain⟨g,hg,hc⟩:=hh;simp only [hg] at hK ⊢;go_simp;exact hK _ _ ⟨rfl,Fr.refl _ _⟩
 apply Exists.intro;apply And.intro
 ·intro vs w2 hf hh K hK;simp only [Held,List.getD_cons_zero,List.getD_cons_succ,Just,and_true] at hh;(try simp only [hh] at hK ⊢);go_simp;exact hK _ _ ⟨rfl,Fr.refl _ _⟩
 intro vs w2 hf hh
 simp only [HeldAll,Just,and_true,Nat.reduceAdd] at hh
 obtain⟨e0,e1,e2,e3,e4,e5,e6,e7,e8,e9,e10,e11,e12,e13⟩:=hh
 simp only [e1,e2,e3,e5,e6,e8,e9,e10,e12,e13]
 clear e1 e2 e3 e5 e6 e8 e9 e10 e12 e13
 generalize vs 0=v0 at e0 ⊢
 generalize vs 4=v4 at e4 ⊢
 generalize vs 7=v7 at e7 ⊢
 generalize vs 11=v11 at e11 ⊢
 clear vs
 have c1:=hf.stayd c1
 have rB:=hf.row (w:=X.drew) rB (by simp)
 have H:WrAt w w2 o 0 (-1) 0 d 0:=⟨hf.row (w:=X.drew) rP (by simp),hf.row (w:=X.drew) rF (by simp)⟩
 have hX2:X.heap.size≤w2.heap.size:=hf.size
 have F:=F.drew.then hf
 clear hf c1 e0 e4 e7 e11 rP rF
 have hB:=fresh_row rB
 have hsz:w.heap.size+1≤w2.heap.size:=by omega
 have a1:=H.a1
 have a2:=H.a2
 have a3:=H.a3
 have d0:=H.d0
 clear rB
 have hs0:(⟨#[123]⟩++⟨#[]⟩++⟨#[]⟩:ByteArray)=strL [123]:=by show strL [123]++strL []++strL []=_;rw [cat_l,cat_l];rfl
 go_wp2_with (first
  | (go_at_call 68;rw [hs0];go_loud (refine (writeStr _ _ [] [123] _ hB (by simp) (by omega)).mono ?_;rintro x w3 ⟨rfl,hB,hb3,hk3⟩;replace F:=F.belowB hb3 (by omega);have hsz:=Nat.le_trans hsz hb3.size;have H:=H.kept hk3;have a1:=H.a1;have a2:=H.a2;have a3:=H.a3;have d0:=H.d0))
  | (go_at_call 38;(with_reducible show Calls _ _ #[_,.int .u8 125] _ _);go_loud (refine (writeOne _ _ _ 125 _ hB (by simp) (by omega)).mono ?_;rintro x w3 ⟨rfl,hB,hb3,hk3⟩;replace F:=F.belowB hb3 (by omega);have hsz:=Nat.le_trans hsz hb3.size;have H:=H.kept hk3;have a1:=H.a1;have a2:=H.a2;have a3:=H.a3;have d0:=H.d0))
  | (go_at_call 38;go_loud (refine (writeOne _ _ _ c _ hB (by simp) (by omega)).mono ?_;rintro x w3 ⟨rfl,hB,hb3,hk3⟩;replace F:=F.belowB hb3 (by omega);have hsz:=Nat.le_trans hsz hb3.size;have H:=H.kept hk3;have a1:=H.a1;have a2:=H.a2;have a3:=H.a3;have d0:=H.d0)))
 rw [rounds_succ]
 go_wp2_with (go_at_call 36;go_loud (refine (Tryz.Builder_String_any_k _ _ _ _ hB (by omega)).mono ?_;rintro x w4 ⟨rfl,-,hb4,-⟩))
 go_ret
 exact⟨rfl,F.belowB hb4 (by omega)⟩
theorem write_p (w:World) (o:Value) (b cap:Nat) (d:Nat) (c:UInt8) (hd2:2≤d) (hd6:d≤6) (hix:∀ W,(Instr.index 9 (.string ⟨#[115,102,101,103,120]⟩) (.int .u8 ((d:Int) - 2))).run Tryz.prog W=.ok (.int .u8 c.toNat) W) (p:Nat) (hp:p<10) (_hb:b<w.heap.size)
  (h0:w.cell? ⟨b,0,none⟩=some (.iface 117 (.agg #[.int .u8 d,.int .i64 0]))) :
  Calls Tryz.prog 43 #[apiPlan o 0 (p:Nat) 0,.slice (some ⟨b,0,none⟩) 1 cap] w fun x w'=>x=.returned (.string (strL [123,46,dig p,c,125]))∧Fr [] w w':=by
 have ta1:∀ v w,(Instr.typeAssert (.iface 117 v) 71 111 true).run Tryz.prog w=.ok (.tuple #[.string ⟨#[]⟩,.bool false]) w:=fun _ _=>by kernel_rfl
 have ta2:∀ v w,(Instr.typeAssert (.iface 117 v) 71 117 true).run Tryz.prog w=.ok (.tuple #[v,.bool true]) w:=fun _ _=>by kernel_rfl
 unfold apiPlan
 go_enter Tryz.func43,Tryz.ntmps43
 go_wp2_with fail
 have fA:=(Fr.refl [] w).alloc (.cells #[o,.int .i64 0,.int .i64 (p:Nat),.int .u8 0] 37)
 have fB:=(Fr.refl [] (w.alloc (.cells #[o,.int .i64 0,.int .i64 (p:Nat),.int .u8 0] 37))).alloc (.cells #[.pointer none,.slice none 0 0] 109)
 have rP:=fB.row (row_new w (.cells #[o,.int .i64 0,.int .i64 (p:Nat),.int .u8 0] 37)) (by simp)
 have rB:=row_new (w.alloc (.cells #[o,.int .i64 0,.int .i64 (p:Nat),.int .u8 0] 37)) (.cells #[.pointer none,.slice none 0 0] 109)
 rw [World.size_alloc] at rB
 have fW:=fA.then fB
 clear fA fB
 generalize hW:(w.alloc (.cells #[o,.int .i64 0,.int .i64 (p:Nat),.int .u8 0] 37)).alloc (.cells #[.pointer none,.slice none 0 0] 109)=W at *
 have hWs:W.heap.size=w.heap.size+1+1:=by rw [← hW];simp
 have h0:=fW.stay h0 (by simp)
 refine wp_loop_rounds 2 ?_
 rw [rounds_succ]
 go_wp2_with fail
 have fX:=(Fr.refl [] W).alloc (.cells #[.int .u8 d,.int .i64 0] 117)
 have rP:=fX.row rP (by simp)
 have rB:=fX.row rB (by simp)
 have rF:=row_new W (.cells #[.int .u8 d,.int .i64 0] 117)
 have F:=fW.then fX
 have hXs:(W.alloc (.cells #[.int .u8 d,.int .i64 0] 117)).heap.size=w.heap.size+1+1+1:=by rw [World.size_alloc,hWs]
 rw [hWs] at rF
 generalize W.alloc (.cells #[.int .u8 d,.int .i64 0] 117)=X at *
 have c1:X.cell? ⟨w.heap.size+1+1,1,none⟩=some (.int .i64 0):=by rw [cell_of_row _ _ 1 _ _ _ rF];rfl
 clear hW fX fW
 refine region_mono [] 14 [[],[],[1],[2],[0,3],[4],[5],[],[],[8],[9],[7,10],[11],[6,12]] [some (StrsAt 3 0 ⟨#[]⟩),none,none,none,some (StrAt 0 ⟨#[]⟩),none,none,some (StrsAt 3 0 ⟨#[]⟩),none,none,none,some (StrAt 0 ⟨#[]⟩),none,none] (by kernel_rfl) (by kernel_rfl) ?_
 simp only [Chain,fill,Act.put,List.nil_append,List.cons_append,List.take_succ_cons,List.take_zero,List.drop_succ_cons,List.drop_zero,List.setIfInBounds_toArray,List.set_cons_zero,List.set_cons_succ,Nat.reduceAdd]
 refine⟨StrsAt.lasts _ _ _,?_,?_⟩
 ·intro vs w2 hf hh K hK;have c1:=hf.stayd c1;simp only [Held] at hh;(try simp only [] at hK ⊢);go_simp;exact hK _ _ ⟨⟨w2.heap.size,rfl,cell_new w2 _ _ _ 0 _ rfl⟩,(Fr.refl [] w2).alloc _⟩
 iterate 3 (apply Exists.intro;apply And.intro;·intro vs w2 hf hh K hK;have c1:=hf.stayd c1;simp only [Held,List.getD_cons_zero,List.getD_cons_succ,Just,and_true] at hh;(try simp only [hh] at hK ⊢);go_simp;exact hK _ _ ⟨rfl,Fr.refl _ _⟩)
 refine⟨StrAt.lasts _ _,?_,?_⟩
 ·intro vs w2 hf hh K hK;have c1:=hf.stayd c1;simp only [Held,List.getD_cons_zero,List.getD_cons_succ,Just,and_true] at hh;(try simp only [hh] at hK ⊢);obtain⟨⟨g,hg,hc⟩,h3⟩:=hh;simp only [hg] at hK ⊢;go_simp;exact hK _ _ ⟨⟨g,rfl,hc⟩,Fr.refl _ _⟩
 apply Exists.intro;apply And.intro
 ·intro vs w2 hf hh K hK;have c1:=hf.stayd c1;simp only [Held,List.getD_cons_zero,List.getD_cons_succ,and_true] at hh;(try simp only [] at hK ⊢);obtain⟨g,hg,hc⟩:=hh;simp only [hg] at hK ⊢;go_simp;exact hK _ _ ⟨rfl,Fr.refl _ _⟩
 apply Exists.intro;apply And.intro
 ·intro vs w2 hf hh K hK;simp only [Held,List.getD_cons_zero,List.getD_cons_succ,Just,and_true] at hh;(try simp only [hh] at hK ⊢);go_simp;exact hK _ _ ⟨rfl,Fr.refl _ _⟩
 refine⟨StrsAt.lasts _ _ _,?_,?_⟩
 ·intro vs w2 hf hh K hK;have c1:=hf.stayd c1;simp only [Held] at hh;(try simp only [] at hK ⊢);go_simp;exact hK _ _ ⟨⟨w2.heap.size,rfl,cell_new w2 _ _ _ 0 _ rfl⟩,(Fr.refl [] w2).alloc _⟩
 iterate 3 (apply Exists.intro;apply And.intro;·intro vs w2 hf hh K hK;have c1:=hf.stayd c1;simp only [Held,List.getD_cons_zero,List.getD_cons_succ,Just,and_true] at hh;(try simp only [hh] at hK ⊢);go_simp;exact hK _ _ ⟨rfl,Fr.refl _ _⟩)
 refine⟨StrAt.lasts _ _,?_,?_⟩
 ·intro vs w2 hf hh K hK;have c1:=hf.stayd c1;simp only [Held,List.getD_cons_zero,List.getD_cons_succ,Just,and_true] at hh;(try simp only [hh] at hK ⊢);obtain⟨⟨g,hg,hc⟩,h3⟩:=hh;simp only [hg] at hK ⊢;go_simp;exact hK _ _ ⟨⟨g,rfl,hc⟩,Fr.refl _ _⟩
 apply Exists.intro;apply And.intro
 ·intro vs w2 hf hh K hK;have c1:=hf.stayd c1;simp only [Held,List.getD_cons_zero,List.getD_cons_succ,and_true] at hh;(try simp only [] at hK ⊢);obtain⟨g,hg,hc⟩:=hh;simp only [hg] at hK ⊢;go_simp;exact hK _ _ ⟨rfl,Fr.refl _ _⟩
 apply Exists.intro;apply And.intro
 ·intro vs w2 hf hh K hK;simp only [Held,List.getD_cons_zero,List.getD_cons_succ,Just,and_true] at hh;(try simp only [hh] at hK ⊢);go_simp;exact hK _ _ ⟨rfl,Fr.refl _ _⟩
 intro vs w2 hf hh
 simp only [HeldAll,Just,and_true,Nat.reduceAdd] at hh
 obtain⟨e0,e1,e2,e3,e4,e5,e6,e7,e8,e9,e10,e11,e12,e13⟩:=hh
 simp only [e1,e2,e3,e5,e6,e8,e9,e10,e12,e13]
 clear e1 e2 e3 e5 e6 e8 e9 e10 e12 e13
 generalize vs 0=v0 at e0 ⊢
 generalize vs 4=v4 at e4 ⊢
 generalize vs 7=v7 at e7 ⊢
 generalize vs 11=v11 at e11 ⊢
 clear vs
 have c1:=hf.stayd c1
 have rB:=hf.row (w:=X.drew) rB (by simp)
 have H:WrAt w w2 o 0 (p:Nat) 0 d 0:=⟨hf.row (w:=X.drew) rP (by simp),hf.row (w:=X.drew) rF (by simp)⟩
 have hX2:X.heap.size≤w2.heap.size:=hf.size
 have F:=F.drew.then hf
 clear hf c1 e0 e4 e7 e11 rP rF
 have hB:=fresh_row rB
 have hsz:w.heap.size+1≤w2.heap.size:=by omega
 have a1:=H.a1
 have a2:=H.a2
 have a3:=H.a3
 have d0:=H.d0
 clear rB
 have hs0:(⟨#[123]⟩++⟨#[]⟩++⟨#[]⟩:ByteArray)=strL [123]:=by show strL [123]++strL []++strL []=_;rw [cat_l,cat_l];rfl
 have hs1:(⟨#[46]⟩++strL [dig p]:ByteArray)=strL [46,dig p]:=cat_l [46] [dig p]
 go_wp2_with (first
  | (go_at_call 68;rw [hs0];go_loud (refine (writeStr _ _ [] [123] _ hB (by simp) (by omega)).mono ?_;rintro x w3 ⟨rfl,hB,hb3,hk3⟩;replace F:=F.belowB hb3 (by omega);have hsz:=Nat.le_trans hsz hb3.size;have H:=H.kept hk3;have a1:=H.a1;have a2:=H.a2;have a3:=H.a3;have d0:=H.d0))
  | (go_at_call 71;go_loud (refine (itoa_digit _ p hp).mono ?_;rintro x w3 ⟨rfl,hw⟩;subst hw))
  | (go_at_call 68;(with_reducible show Calls _ _ #[_,.string (strL [46,dig p])] _ _);go_loud (refine (writeStr _ _ _ [46,dig p] _ hB (by simp) (by omega)).mono ?_;rintro x w3 ⟨rfl,hB,hb3,hk3⟩;replace F:=F.belowB hb3 (by omega);have hsz:=Nat.le_trans hsz hb3.size;have H:=H.kept hk3;have a1:=H.a1;have a2:=H.a2;have a3:=H.a3;have d0:=H.d0))
  | (go_at_call 38;(with_reducible show Calls _ _ #[_,.int .u8 125] _ _);go_loud (refine (writeOne _ _ _ 125 _ hB (by simp) (by omega)).mono ?_;rintro x w3 ⟨rfl,hB,hb3,hk3⟩;replace F:=F.belowB hb3 (by omega);have hsz:=Nat.le_trans hsz hb3.size;have H:=H.kept hk3;have a1:=H.a1;have a2:=H.a2;have a3:=H.a3;have d0:=H.d0))
  | (go_at_call 38;go_loud (refine (writeOne _ _ _ c _ hB (by simp) (by omega)).mono ?_;rintro x w3 ⟨rfl,hB,hb3,hk3⟩;replace F:=F.belowB hb3 (by omega);have hsz:=Nat.le_trans hsz hb3.size;have H:=H.kept hk3;have a1:=H.a1;have a2:=H.a2;have a3:=H.a3;have d0:=H.d0)))
 rw [rounds_succ]
 go_wp2_with (go_at_call 36;go_loud (refine (Tryz.Builder_String_any_k _ _ _ _ hB (by omega)).mono ?_;rintro x w4 ⟨rfl,-,hb4,-⟩))
 go_ret
 exact⟨rfl,F.belowB hb4 (by omega)⟩
theorem write_s (w:World) (o:Value) (b cap:Nat) (hb:b<w.heap.size) (h0:w.cell? ⟨b,0,none⟩=some (.iface 117 (.agg #[.int .u8 2,.int .i64 0]))) :
  Calls Tryz.prog 43 #[apiPlan o 0 (-1) 0,.slice (some ⟨b,0,none⟩) 1 cap] w fun x w'=>x=.returned (.string (strL [123,115,125]))∧Fr [] w w':=write_n w o b cap 2 115 (by decide) (by decide) (fun _=>by kernel_rfl) hb h0
theorem write_x (w:World) (o:Value) (b cap:Nat) (hb:b<w.heap.size) (h0:w.cell? ⟨b,0,none⟩=some (.iface 117 (.agg #[.int .u8 6,.int .i64 0]))) :
  Calls Tryz.prog 43 #[apiPlan o 0 (-1) 0,.slice (some ⟨b,0,none⟩) 1 cap] w fun x w'=>x=.returned (.string (strL [123,120,125]))∧Fr [] w w':=write_n w o b cap 6 120 (by decide) (by decide) (fun _=>by kernel_rfl) hb h0
end Go.Proofs.YtcmndpjemdjalaaGreatDoor
namespace Go.Proofs.YtcmndpjemdjalaaGreatDoor
open Go.RowKit
theorem write_fp (w:World) (o:Value) (b cap:Nat) (p:Nat) (hp:p<10) (hb:b<w.heap.size) (h0:w.cell? ⟨b,0,none⟩=some (.iface 117 (.agg #[.int .u8 3,.int .i64 0]))) :
  Calls Tryz.prog 43 #[apiPlan o 0 p 0,.slice (some ⟨b,0,none⟩) 1 cap] w fun x w'=>x=.returned (.string (strL [123,46,dig p,102,125]))∧Fr [] w w':=write_p w o b cap 3 102 (by decide) (by decide) (fun _=>by kernel_rfl) p hp hb h0
theorem write_ep (w:World) (o:Value) (b cap:Nat) (p:Nat) (hp:p<10) (hb:b<w.heap.size) (h0:w.cell? ⟨b,0,none⟩=some (.iface 117 (.agg #[.int .u8 4,.int .i64 0]))) :
  Calls Tryz.prog 43 #[apiPlan o 0 p 0,.slice (some ⟨b,0,none⟩) 1 cap] w fun x w'=>x=.returned (.string (strL [123,46,dig p,101,125]))∧Fr [] w w':=write_p w o b cap 4 101 (by decide) (by decide) (fun _=>by kernel_rfl) p hp hb h0
theorem write_gp (w:World) (o:Value) (b cap:Nat) (p:Nat) (hp:p<10) (hb:b<w.heap.size) (h0:w.cell? ⟨b,0,none⟩=some (.iface 117 (.agg #[.int .u8 5,.int .i64 0]))) :
  Calls Tryz.prog 43 #[apiPlan o 0 p 0,.slice (some ⟨b,0,none⟩) 1 cap] w fun x w'=>x=.returned (.string (strL [123,46,dig p,103,125]))∧Fr [] w w':=write_p w o b cap 5 103 (by decide) (by decide) (fun _=>by kernel_rfl) p hp hb h0
end Go.Proofs.YtcmndpjemdjalaaGreatDoor
namespace Go.Proofs.YtcmndpjemdjalaaGreatDoor
open Go.RowKit
theorem write_6s (w:World) (o:Value) (b cap:Nat) (q:Nat) (hq:q<10) (hq0:((q:Int) != 0)=true) (_hb:b<w.heap.size)
  (h0:w.cell? ⟨b,0,none⟩=some (.iface 117 (.agg #[.int .u8 2,.int .i64 8]))) :
  Calls Tryz.prog 43 #[apiPlan o (q:Nat) (-1) 0,.slice (some ⟨b,0,none⟩) 1 cap] w fun x w'=>x=.returned (.string (strL [123,45,dig q,115,125]))∧Fr [] w w':=by
 have ta1:∀ v w,(Instr.typeAssert (.iface 117 v) 71 111 true).run Tryz.prog w=.ok (.tuple #[.string ⟨#[]⟩,.bool false]) w:=fun _ _=>by kernel_rfl
 have ta2:∀ v w,(Instr.typeAssert (.iface 117 v) 71 117 true).run Tryz.prog w=.ok (.tuple #[v,.bool true]) w:=fun _ _=>by kernel_rfl
 unfold apiPlan
 go_enter Tryz.func43,Tryz.ntmps43
 go_wp2_with fail
 have fA:=(Fr.refl [] w).alloc (.cells #[o,.int .i64 (q:Nat),.int .i64 (-1),.int .u8 0] 37)
 have fB:=(Fr.refl [] (w.alloc (.cells #[o,.int .i64 (q:Nat),.int .i64 (-1),.int .u8 0] 37))).alloc (.cells #[.pointer none,.slice none 0 0] 109)
 have rP:=fB.row (row_new w (.cells #[o,.int .i64 (q:Nat),.int .i64 (-1),.int .u8 0] 37)) (by simp)
 have rB:=row_new (w.alloc (.cells #[o,.int .i64 (q:Nat),.int .i64 (-1),.int .u8 0] 37)) (.cells #[.pointer none,.slice none 0 0] 109)
 rw [World.size_alloc] at rB
 have fW:=fA.then fB
 clear fA fB
 generalize hW:(w.alloc (.cells #[o,.int .i64 (q:Nat),.int .i64 (-1),.int .u8 0] 37)).alloc (.cells #[.pointer none,.slice none 0 0] 109)=W at *
 have hWs:W.heap.size=w.heap.size+1+1:=by rw [← hW];simp
 have h0:=fW.stay h0 (by simp)
 refine wp_loop_rounds 2 ?_
 rw [rounds_succ]
 go_wp2_with fail
 have fX:=(Fr.refl [] W).alloc (.cells #[.int .u8 2,.int .i64 8] 117)
 have rP:=fX.row rP (by simp)
 have rB:=fX.row rB (by simp)
 have rF:=row_new W (.cells #[.int .u8 2,.int .i64 8] 117)
 have F:=fW.then fX
 have hXs:(W.alloc (.cells #[.int .u8 2,.int .i64 8] 117)).heap.size=w.heap.size+1+1+1:=by rw [World.size_alloc,hWs]
 rw [hWs] at rF
 generalize W.alloc (.cells #[.int .u8 2,.int .i64 8] 117)=X at *
 have c1:X.cell? ⟨w.heap.size+1+1,1,none⟩=some (.int .i64 8):=by rw [cell_of_row _ _ 1 _ _ _ rF];rfl
 clear hW fX fW
 refine region_mono [] 14 [[],[],[1],[2],[0,3],[4],[5],[],[],[8],[9],[7,10],[11],[6,12]] [some (StrsAt 3 0 ⟨#[]⟩),none,none,none,some (StrAt 0 ⟨#[]⟩),none,none,some (StrsAt 3 2 ⟨#[45]⟩),none,none,none,some (StrAt 2 ⟨#[45]⟩),none,none] (by kernel_rfl) (by kernel_rfl) ?_
 simp only [Chain,fill,Act.put,List.nil_append,List.cons_append,List.take_succ_cons,List.take_zero,List.drop_succ_cons,List.drop_zero,List.setIfInBounds_toArray,List.set_cons_zero,List.set_cons_succ,Nat.reduceAdd]
 refine⟨StrsAt.lasts _ _ _,?_,?_⟩
 ·intro vs w2 hf hh K hK;have c1:=hf.stayd c1;simp only [Held] at hh;(try simp only [] at hK ⊢);go_simp;exact hK _ _ ⟨⟨w2.heap.size,rfl,cell_new w2 _ _ _ 0 _ rfl⟩,(Fr.refl [] w2).alloc _⟩
 iterate 3 (apply Exists.intro;apply And.intro;·intro vs w2 hf hh K hK;have c1:=hf.stayd c1;simp only [Held,List.getD_cons_zero,List.getD_cons_succ,Just,and_true] at hh;(try simp only [hh] at hK ⊢);go_simp;exact hK _ _ ⟨rfl,Fr.refl _ _⟩)
 refine⟨StrAt.lasts _ _,?_,?_⟩
 ·intro vs w2 hf hh K hK;have c1:=hf.stayd c1;simp only [Held,List.getD_cons_zero,List.getD_cons_succ,Just,and_true] at hh;(try simp only [hh] at hK ⊢);obtain⟨⟨g,hg,hc⟩,h3⟩:=hh;simp only [hg] at hK ⊢;go_simp;exact hK _ _ ⟨⟨g,rfl,hc⟩,Fr.refl _ _⟩
 apply Exists.intro;apply And.intro
 ·intro vs w2 hf hh K hK;have c1:=hf.stayd c1;simp only [Held,List.getD_cons_zero,List.getD_cons_succ,and_true] at hh;(try simp only [] at hK ⊢);obtain⟨g,hg,hc⟩:=hh;simp only [hg] at hK ⊢;go_simp;exact hK _ _ ⟨rfl,Fr.refl _ _⟩
 apply Exists.intro;apply And.intro
 ·intro vs w2 hf hh K hK;simp only [Held,List.getD_cons_zero,List.getD_cons_succ,Just,and_true] at hh;(try simp only [hh] at hK ⊢);go_simp;exact hK _ _ ⟨rfl,Fr.refl _ _⟩
 refine⟨StrsAt.lasts _ _ _,?_,?_⟩
 ·intro vs w2 hf hh K hK;have c1:=hf.stayd c1;simp only [Held] at hh;(try simp only [] at hK ⊢);go_simp;exact hK _ _ ⟨⟨w2.heap.size,rfl,cell_new w2 _ _ _ 2 _ rfl⟩,(Fr.refl [] w2).alloc _⟩
 iterate 3 (apply Exists.intro;apply And.intro;·intro vs w2 hf hh K hK;have c1:=hf.stayd c1;simp only [Held,List.getD_cons_zero,List.getD_cons_succ,Just,and_true] at hh;(try simp only [hh] at hK ⊢);go_simp;exact hK _ _ ⟨rfl,Fr.refl _ _⟩)
 refine⟨StrAt.lasts _ _,?_,?_⟩
 ·intro vs w2 hf hh K hK;have c1:=hf.stayd c1;simp only [Held,List.getD_cons_zero,List.getD_cons_succ,Just,and_true] at hh;(try simp only [hh] at hK ⊢);obtain⟨⟨g,hg,hc⟩,h3⟩:=hh;simp only [hg] at hK ⊢;go_simp;exact hK _ _ ⟨⟨g,rfl,hc⟩,Fr.refl _ _⟩
 apply Exists.intro;apply And.intro
 ·intro vs w2 hf hh K hK;have c1:=hf.stayd c1;simp only [Held,List.getD_cons_zero,List.getD_cons_succ,and_true] at hh;(try simp only [] at hK ⊢);obtain⟨g,hg,hc⟩:=hh;simp only [hg] at hK ⊢;go_simp;exact hK _ _ ⟨rfl,Fr.refl _ _⟩
 apply Exists.intro;apply And.intro
 ·intro vs w2 hf hh K hK;simp only [Held,List.getD_cons_zero,List.getD_cons_succ,Just,and_true] at hh;(try simp only [hh] at hK ⊢);go_simp;exact hK _ _ ⟨rfl,Fr.refl _ _⟩
 intro vs w2 hf hh
 simp only [HeldAll,Just,and_true,Nat.reduceAdd] at hh
 obtain⟨e0,e1,e2,e3,e4,e5,e6,e7,e8,e9,e10,e11,e12,e13⟩:=hh
 simp only [e1,e2,e3,e5,e6,e8,e9,e10,e12,e13]
 clear e1 e2 e3 e5 e6 e8 e9 e10 e12 e13
 generalize vs 0=v0 at e0 ⊢
 generalize vs 4=v4 at e4 ⊢
 generalize vs 7=v7 at e7 ⊢
 generalize vs 11=v11 at e11 ⊢
 clear vs
 have c1:=hf.stayd c1
 have rB:=hf.row (w:=X.drew) rB (by simp)
 have H:WrAt w w2 o (q:Nat) (-1) 0 2 8:=⟨hf.row (w:=X.drew) rP (by simp),hf.row (w:=X.drew) rF (by simp)⟩
 have hX2:X.heap.size≤w2.heap.size:=hf.size
 have F:=F.drew.then hf
 clear hf c1 e0 e4 e7 e11 rP rF
 have hB:=fresh_row rB
 have hsz:w.heap.size+1≤w2.heap.size:=by omega
 have a1:=H.a1
 have a2:=H.a2
 have a3:=H.a3
 have d0:=H.d0
 clear rB
 have hs0:(⟨#[123]⟩++⟨#[]⟩++⟨#[45]⟩:ByteArray)=strL [123,45]:=by show strL [123]++strL []++strL [45]=_;rw [cat_l,cat_l];rfl
 go_wp2_with (first
  | (go_at_call 68;rw [hs0];go_loud (refine (writeStr _ _ [] [123,45] _ hB (by simp) (by omega)).mono ?_;rintro x w3 ⟨rfl,hB,hb3,hk3⟩;replace F:=F.belowB hb3 (by omega);have hsz:=Nat.le_trans hsz hb3.size;have H:=H.kept hk3;have a1:=H.a1;have a2:=H.a2;have a3:=H.a3;have d0:=H.d0))
  | (go_at_call 71;with_reducible refine (itoa_digit _ q hq).mono ?_;rintro x w3 ⟨rfl,hw⟩;subst hw)
  | (go_at_call 68;(with_reducible show Calls _ _ #[_,.string (strL [dig q])] _ _);go_loud (refine (writeStr _ _ _ [dig q] _ hB (by simp) (by omega)).mono ?_;rintro x w3 ⟨rfl,hB,hb3,hk3⟩;replace F:=F.belowB hb3 (by omega);have hsz:=Nat.le_trans hsz hb3.size;have H:=H.kept hk3;have a1:=H.a1;have a2:=H.a2;have a3:=H.a3;have d0:=H.d0))
  | (go_at_call 38;(with_reducible show Calls _ _ #[_,.int .u8 125] _ _);go_loud (refine (writeOne _ _ _ 125 _ hB (by simp) (by omega)).mono ?_;rintro x w3 ⟨rfl,hB,hb3,hk3⟩;replace F:=F.belowB hb3 (by omega);have hsz:=Nat.le_trans hsz hb3.size;have H:=H.kept hk3;have a1:=H.a1;have a2:=H.a2;have a3:=H.a3;have d0:=H.d0))
  | (go_at_call 38;go_loud (refine (writeOne _ _ _ 115 _ hB (by simp) (by omega)).mono ?_;rintro x w3 ⟨rfl,hB,hb3,hk3⟩;replace F:=F.belowB hb3 (by omega);have hsz:=Nat.le_trans hsz hb3.size;have H:=H.kept hk3;have a1:=H.a1;have a2:=H.a2;have a3:=H.a3;have d0:=H.d0)))
 rw [rounds_succ]
 go_wp2_with (go_at_call 36;go_loud (refine (Tryz.Builder_String_any_k _ _ _ _ hB (by omega)).mono ?_;rintro x w4 ⟨rfl,-,hb4,-⟩))
 go_ret
 exact⟨rfl,F.belowB hb4 (by omega)⟩
end Go.Proofs.YtcmndpjemdjalaaGreatDoor
