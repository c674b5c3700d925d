/- Laws that the claimed theorem leans on: no condition of their own beyond their hypotheses. -/
import Derived.Shelf.Small.Utf8
import Derived.Shelf.Small.Bits
import Derived.Shelf.Small.Strs
import Derived.Shelf.Small.Wraps
import Derived.Shelf.Strconv.Itoa0
import Derived.Shelf.Strings.Search1
import Derived.Shelf.Strings.Search2
import Derived.Shelf.Strings.Search3
import Derived.Shelf.Strings.Cut
import Derived.Shelf.Strings.Count
import Derived.Shelf.LaysM
import Derived.Shelf.Strings.Shaped
import Derived.Shelf.Strings.Prefix
import Derived.Shelf.Strings.Runes
import Derived.Shelf.Strings.AsciiSet
import Derived.Shelf.Unicode.DecodeSlow
import Derived.Test.YtcmndpjemdjalaaGreatDoorProg
import Derived.Shelf.Strings.SlTrimAscii
import Derived.Tactics
import Derived.Tactics2
import Derived.Defers
import Derived.Laws.Pointers
import Derived.Laws.LoneSync
import Derived.RegionTactic
import Derived.RegionCalls
import Derived.ChangeAlike
import Derived.Lib.ConvBytes
import Derived.Laws.IdiomStrings
import Derived.Great.Walk
import Derived.Test.YtcmndpjemdjalaaGreatDoorMaaa
import Derived.Test.YtcmndpjemdjalaaGreatDoorMaab
set_option maxRecDepth 100000
set_option maxHeartbeats 16000000
namespace Go.Proofs
open Go.Shelf
def Tryz.lays118_ren:Go.Shelf.Ren:=⟨fun | 118=>152 | n=>n,fun | 21=>21 | 3=>3 | 4=>4 | n=>n,fun | n=>n⟩
theorem Tryz.lays118:Go.Proofs.Lays.n118 Tryz.prog Tryz.lays118_ren:={
 mixed:=by kernel_rfl
 f118:=Tryz.func152.trans (congrArg some (by kernel_rfl))
 t3:=Tryz.underlying3
 a3:=Tryz.isAgg3
 z3:=Tryz.sizeOf3
 v3:=Tryz.zeroValue3
 t4:=Tryz.underlying4
 a4:=Tryz.isAgg4
 z4:=Tryz.sizeOf4
 v4:=Tryz.zeroValue4
 t21:=Tryz.underlying21
 a21:=Tryz.isAgg21
 z21:=Tryz.sizeOf21
 v21:=Tryz.zeroValue21 }
theorem Tryz.utf8_RuneLen (r:Int) (w:World) :
  Calls Tryz.prog 152 #[.int .i32 r] w fun e w'=>e=.returned (.int .i64 (Lib.runeLen r))∧w'=w:=Any.utf8_RuneLen Tryz.lays118 r w
def Tryz.lays137_ren:Go.Shelf.Ren:=⟨fun | 137=>103 | 217=>143 | 266=>184 | n=>n,fun | 9=>9 | 5=>5 | 3=>3 | n=>n,fun | n=>n⟩
theorem Tryz.lays137:Go.Proofs.Lays.n137 Tryz.prog Tryz.lays137_ren:={
 mixed:=by kernel_rfl
 f137:=Tryz.func103.trans (congrArg some (by kernel_rfl))
 f217:=Tryz.func143.trans (congrArg some (by kernel_rfl))
 f266:=Tryz.func184.trans (congrArg some (by kernel_rfl))
 t3:=Tryz.underlying3
 a3:=Tryz.isAgg3
 z3:=Tryz.sizeOf3
 v3:=Tryz.zeroValue3
 t5:=Tryz.underlying5
 a5:=Tryz.isAgg5
 z5:=Tryz.sizeOf5
 v5:=Tryz.zeroValue5
 t9:=Tryz.underlying9
 a9:=Tryz.isAgg9
 z9:=Tryz.sizeOf9
 v9:=Tryz.zeroValue9 }
open Go.RowKit in
theorem Tryz.strings_IndexByte (s:ByteArray) (c:Int) (w:World) :
  Calls Tryz.prog 103 #[.string s,.int .u8 c] w fun e w'=>e=.returned (.int .i64 (Lib.indexByte s.data.toList c.toNat.toUInt8))∧w'=w:=Any.strings_IndexByte Tryz.lays137 s c w
def Tryz.lays103_ren:Go.Shelf.Ren:=⟨fun | 103=>142 | 210=>183 | 206=>62 | n=>n,fun | 9=>9 | 4=>4 | 24=>91 | 3=>3 | n=>n,fun | n=>n⟩
theorem Tryz.lays103:Go.Proofs.Lays.n103 Tryz.prog Tryz.lays103_ren:={
 mixed:=by kernel_rfl
 f103:=Tryz.func142.trans (congrArg some (by kernel_rfl))
 f206:=Tryz.func62.trans (congrArg some (by kernel_rfl))
 f210:=Tryz.func183.trans (congrArg some (by kernel_rfl))
 t3:=Tryz.underlying3
 a3:=Tryz.isAgg3
 z3:=Tryz.sizeOf3
 v3:=Tryz.zeroValue3
 t4:=Tryz.underlying4
 a4:=Tryz.isAgg4
 z4:=Tryz.sizeOf4
 v4:=Tryz.zeroValue4
 t9:=Tryz.underlying9
 a9:=Tryz.isAgg9
 z9:=Tryz.sizeOf9
 v9:=Tryz.zeroValue9
 t24:=Tryz.underlying91
 a24:=Tryz.isAgg91
 z24:=Tryz.sizeOf91
 v24:=Tryz.zeroValue91 }
open Go.RowKit in
theorem Tryz.strings_CutPrefix (s p:ByteArray) (w:World) :
  Calls Tryz.prog 142 #[.string s,.string p] w fun e w'=>e=.returned (.tuple #[.string ⟨(Lib.trimPrefix s.data.toList p.data.toList).toArray⟩,.bool (Lib.hasPrefix s.data.toList p.data.toList)])∧w'=w:=Any.strings_CutPrefix Tryz.lays103 s p w
def Tryz.lays104_ren:Go.Shelf.Ren:=⟨fun | 104=>28 | 211=>51 | 207=>91 | n=>n,fun | 9=>9 | 4=>4 | 24=>91 | 3=>3 | n=>n,fun | n=>n⟩
theorem Tryz.lays104:Go.Proofs.Lays.n104 Tryz.prog Tryz.lays104_ren:={
 mixed:=by kernel_rfl
 f104:=Tryz.func28.trans (congrArg some (by kernel_rfl))
 f207:=Tryz.func91.trans (congrArg some (by kernel_rfl))
 f211:=Tryz.func51.trans (congrArg some (by kernel_rfl))
 t3:=Tryz.underlying3
 a3:=Tryz.isAgg3
 z3:=Tryz.sizeOf3
 v3:=Tryz.zeroValue3
 t4:=Tryz.underlying4
 a4:=Tryz.isAgg4
 z4:=Tryz.sizeOf4
 v4:=Tryz.zeroValue4
 t9:=Tryz.underlying9
 a9:=Tryz.isAgg9
 z9:=Tryz.sizeOf9
 v9:=Tryz.zeroValue9
 t24:=Tryz.underlying91
 a24:=Tryz.isAgg91
 z24:=Tryz.sizeOf91
 v24:=Tryz.zeroValue91 }
open Go.RowKit in
theorem Tryz.strings_CutSuffix (s p:ByteArray) (w:World) (hs:s.size≤9223372036854775807) :
  Calls Tryz.prog 28 #[.string s,.string p] w fun e w'=>e=.returned (.tuple #[.string ⟨(Lib.trimSuffix s.data.toList p.data.toList).toArray⟩,.bool (Lib.hasSuffix s.data.toList p.data.toList)])∧w'=w:=Any.strings_CutSuffix Tryz.lays104 s p w hs
def Tryz.lays219_ren:Go.Shelf.Ren:=⟨fun | 219=>227 | 217=>143 | 225=>226 | 224=>225 | 267=>264 | 266=>184 | 314=>281 | n=>n,fun | 9=>9 | 3=>3 | 4=>4 | 5=>5 | 46=>233 | 146=>388 | 51=>208 | n=>n,fun | 1=>3 | n=>n⟩
theorem Tryz.lays219:Go.Proofs.Lays.n219 Tryz.prog Tryz.lays219_ren:={
 mixed:=by kernel_rfl
 f217:=Tryz.func143.trans (congrArg some (by kernel_rfl))
 f219:=Tryz.func227.trans (congrArg some (by kernel_rfl))
 f224:=Tryz.func225.trans (congrArg some (by kernel_rfl))
 f225:=Tryz.func226.trans (congrArg some (by kernel_rfl))
 f266:=Tryz.func184.trans (congrArg some (by kernel_rfl))
 f267:=Tryz.func264.trans (congrArg some (by kernel_rfl))
 f314:=Tryz.func281.trans (congrArg some (by kernel_rfl))
 t3:=Tryz.underlying3
 a3:=Tryz.isAgg3
 z3:=Tryz.sizeOf3
 v3:=Tryz.zeroValue3
 t4:=Tryz.underlying4
 a4:=Tryz.isAgg4
 z4:=Tryz.sizeOf4
 v4:=Tryz.zeroValue4
 t5:=Tryz.underlying5
 a5:=Tryz.isAgg5
 z5:=Tryz.sizeOf5
 v5:=Tryz.zeroValue5
 t9:=Tryz.underlying9
 a9:=Tryz.isAgg9
 z9:=Tryz.sizeOf9
 v9:=Tryz.zeroValue9
 t46:=Tryz.underlying233
 a46:=Tryz.isAgg233
 z46:=Tryz.sizeOf233
 v46:=Tryz.zeroValue233
 t51:=Tryz.underlying208
 a51:=Tryz.isAgg208
 z51:=Tryz.sizeOf208
 v51:=Tryz.zeroValue208
 t146:=Tryz.underlying388
 a146:=Tryz.isAgg388
 z146:=Tryz.sizeOf388
 v146:=Tryz.zeroValue388
 g1:=by kernel_rfl }
open Go.RowKit Go.Lib in
theorem Tryz.stringslite_Index_one (s:ByteArray) (c:UInt8) (w:World) :
  Calls Tryz.prog 227 #[.string s,.string ⟨#[c]⟩] w fun e w'=>e=.returned (.int .i64 (Lib.indexByte s.data.toList c))∧w'=w:=Any.stringslite_Index_one Tryz.lays219 s c w
open Go.RowKit Go.Lib in
open Go.RowKit Go.Lib in
open Go.RowKit Go.Lib in
open Go.RowKit Go.Lib in
open Go.RowKit Go.Lib in
def Tryz.lays99_ren:Go.Shelf.Ren:=⟨fun | 99=>39 | 206=>62 | n=>n,fun | 9=>9 | 4=>4 | 3=>3 | n=>n,fun | n=>n⟩
theorem Tryz.lays99:Go.Proofs.Lays.n99 Tryz.prog Tryz.lays99_ren:={
 mixed:=by kernel_rfl
 f99:=Tryz.func39.trans (congrArg some (by kernel_rfl))
 f206:=Tryz.func62.trans (congrArg some (by kernel_rfl))
 t3:=Tryz.underlying3
 a3:=Tryz.isAgg3
 z3:=Tryz.sizeOf3
 v3:=Tryz.zeroValue3
 t4:=Tryz.underlying4
 a4:=Tryz.isAgg4
 z4:=Tryz.sizeOf4
 v4:=Tryz.zeroValue4
 t9:=Tryz.underlying9
 a9:=Tryz.isAgg9
 z9:=Tryz.sizeOf9
 v9:=Tryz.zeroValue9 }
open Go.RowKit Go.Lib in
theorem Tryz.strings_HasPrefix (s p:ByteArray) (w:World) :
  Calls Tryz.prog 39 #[.string s,.string p] w fun e w'=>e=.returned (.bool (Lib.hasPrefix s.data.toList p.data.toList))∧w'=w:=Any.strings_HasPrefix Tryz.lays99 s p w
def Tryz.lays101_ren:Go.Shelf.Ren:=⟨fun | 101=>182 | 208=>228 | 206=>62 | n=>n,fun | 9=>9 | 4=>4 | 3=>3 | n=>n,fun | n=>n⟩
theorem Tryz.lays101:Go.Proofs.Lays.n101 Tryz.prog Tryz.lays101_ren:={
 mixed:=by kernel_rfl
 f101:=Tryz.func182.trans (congrArg some (by kernel_rfl))
 f206:=Tryz.func62.trans (congrArg some (by kernel_rfl))
 f208:=Tryz.func228.trans (congrArg some (by kernel_rfl))
 t3:=Tryz.underlying3
 a3:=Tryz.isAgg3
 z3:=Tryz.sizeOf3
 v3:=Tryz.zeroValue3
 t4:=Tryz.underlying4
 a4:=Tryz.isAgg4
 z4:=Tryz.sizeOf4
 v4:=Tryz.zeroValue4
 t9:=Tryz.underlying9
 a9:=Tryz.isAgg9
 z9:=Tryz.sizeOf9
 v9:=Tryz.zeroValue9 }
open Go.RowKit Go.Lib in
theorem Tryz.strings_TrimPrefix (s p:ByteArray) (w:World) :
  Calls Tryz.prog 182 #[.string s,.string p] w fun e w'=>e=.returned (.string ⟨(Lib.trimPrefix s.data.toList p.data.toList).toArray⟩)∧w'=w:=Any.strings_TrimPrefix Tryz.lays101 s p w
end Go.Proofs
namespace Go.Proofs
open Go.Shelf
def Tryz.lays161_ren:Go.Shelf.Ren:=⟨fun | 161=>54 | 231=>96 | 227=>93 | 233=>97 | 235=>98 | 228=>134 | 197=>116 | 151=>136 | 260=>163 | 152=>179 | 137=>103 | 119=>224 | 224=>225 | 225=>226 | 217=>143 | 266=>184 | n=>n,fun | 9=>9 | 4=>4 | 3=>3 | 5=>5 | 117=>196 | 116=>195 | 0=>0 | 124=>199 | 105=>228 | 21=>21 | 119=>296 | 46=>233 | 139=>315 | 138=>314 | n=>n,fun | 3=>1 | 4=>2 | n=>n⟩
theorem Tryz.lays161:Go.Proofs.Lays.n161 Tryz.prog Tryz.lays161_ren:={
 mixed:=by kernel_rfl
 f119:=Tryz.func224.trans (congrArg some (by kernel_rfl))
 f137:=Tryz.func103.trans (congrArg some (by kernel_rfl))
 f151:=Tryz.func136.trans (congrArg some (by kernel_rfl))
 f152:=Tryz.func179.trans (congrArg some (by kernel_rfl))
 f161:=Tryz.func54.trans (congrArg some (by kernel_rfl))
 f197:=Tryz.func116.trans (congrArg some (by kernel_rfl))
 f217:=Tryz.func143.trans (congrArg some (by kernel_rfl))
 f224:=Tryz.func225.trans (congrArg some (by kernel_rfl))
 f225:=Tryz.func226.trans (congrArg some (by kernel_rfl))
 f227:=Tryz.func93.trans (congrArg some (by kernel_rfl))
 f228:=Tryz.func134.trans (congrArg some (by kernel_rfl))
 f231:=Tryz.func96.trans (congrArg some (by kernel_rfl))
 f233:=Tryz.func97.trans (congrArg some (by kernel_rfl))
 f235:=Tryz.func98.trans (congrArg some (by kernel_rfl))
 f260:=Tryz.func163.trans (congrArg some (by kernel_rfl))
 f266:=Tryz.func184.trans (congrArg some (by kernel_rfl))
 t0:=Tryz.underlying0
 a0:=Tryz.isAgg0
 z0:=Tryz.sizeOf0
 v0:=Tryz.zeroValue0
 t3:=Tryz.underlying3
 a3:=Tryz.isAgg3
 z3:=Tryz.sizeOf3
 v3:=Tryz.zeroValue3
 t4:=Tryz.underlying4
 a4:=Tryz.isAgg4
 z4:=Tryz.sizeOf4
 v4:=Tryz.zeroValue4
 t5:=Tryz.underlying5
 a5:=Tryz.isAgg5
 z5:=Tryz.sizeOf5
 v5:=Tryz.zeroValue5
 t9:=Tryz.underlying9
 a9:=Tryz.isAgg9
 z9:=Tryz.sizeOf9
 v9:=Tryz.zeroValue9
 t21:=Tryz.underlying21
 a21:=Tryz.isAgg21
 z21:=Tryz.sizeOf21
 v21:=Tryz.zeroValue21
 t46:=Tryz.underlying233
 a46:=Tryz.isAgg233
 z46:=Tryz.sizeOf233
 v46:=Tryz.zeroValue233
 t105:=Tryz.underlying228
 a105:=Tryz.isAgg228
 z105:=Tryz.sizeOf228
 v105:=Tryz.zeroValue228
 t116:=Tryz.underlying195
 a116:=Tryz.isAgg195
 z116:=Tryz.sizeOf195
 t117:=Tryz.underlying196
 a117:=Tryz.isAgg196
 z117:=Tryz.sizeOf196
 v117:=Tryz.zeroValue196
 t119:=Tryz.underlying296
 a119:=Tryz.isAgg296
 z119:=Tryz.sizeOf296
 t124:=Tryz.underlying199
 a124:=Tryz.isAgg199
 z124:=Tryz.sizeOf199
 v124:=Tryz.zeroValue199
 t138:=Tryz.underlying314
 a138:=Tryz.isAgg314
 z138:=Tryz.sizeOf314
 v138:=Tryz.zeroValue314
 t139:=Tryz.underlying315
 a139:=Tryz.isAgg315
 z139:=Tryz.sizeOf315
 v139:=Tryz.zeroValue315
 g3:=by kernel_rfl
 g4:=by kernel_rfl }
open Go.RowKit Go.Lib in
theorem Tryz.strings_TrimLeft (s cutset:ByteArray) (w:World) (hcs:cutset.size<4294967281) (hascii:∀ (j:Nat) b,cutset.data.toList[j]?=some b→b.toNat<128) :
  Calls Tryz.prog 54 #[.string s,.string cutset] w fun e w'=>e=.returned (.string ⟨(Lib.trimLeftS s.data.toList cutset.data.toList).toArray⟩)∧Below w.heap.size w w':=Any.strings_TrimLeft_laid Tryz.lays161 (by kernel_rfl) s cutset w hcs hascii
def Tryz.lays162_ren:Go.Shelf.Ren:=⟨fun | 162=>53 | 232=>92 | 227=>93 | 234=>94 | 236=>95 | 228=>134 | 271=>135 | 151=>136 | 120=>178 | 197=>116 | 152=>179 | 260=>163 | 137=>103 | 119=>224 | 224=>225 | 225=>226 | 217=>143 | 266=>184 | n=>n,fun | 9=>9 | 4=>4 | 3=>3 | 5=>5 | 117=>196 | 116=>195 | 0=>0 | 124=>199 | 21=>21 | 105=>228 | 46=>233 | 119=>296 | 139=>315 | 138=>314 | n=>n,fun | 3=>1 | 4=>2 | n=>n⟩
theorem Tryz.lays162:Go.Proofs.Lays.n162 Tryz.prog Tryz.lays162_ren:={
 mixed:=by kernel_rfl
 f119:=Tryz.func224.trans (congrArg some (by kernel_rfl))
 f120:=Tryz.func178.trans (congrArg some (by kernel_rfl))
 f137:=Tryz.func103.trans (congrArg some (by kernel_rfl))
 f151:=Tryz.func136.trans (congrArg some (by kernel_rfl))
 f152:=Tryz.func179.trans (congrArg some (by kernel_rfl))
 f162:=Tryz.func53.trans (congrArg some (by kernel_rfl))
 f197:=Tryz.func116.trans (congrArg some (by kernel_rfl))
 f217:=Tryz.func143.trans (congrArg some (by kernel_rfl))
 f224:=Tryz.func225.trans (congrArg some (by kernel_rfl))
 f225:=Tryz.func226.trans (congrArg some (by kernel_rfl))
 f227:=Tryz.func93.trans (congrArg some (by kernel_rfl))
 f228:=Tryz.func134.trans (congrArg some (by kernel_rfl))
 f232:=Tryz.func92.trans (congrArg some (by kernel_rfl))
 f234:=Tryz.func94.trans (congrArg some (by kernel_rfl))
 f236:=Tryz.func95.trans (congrArg some (by kernel_rfl))
 f260:=Tryz.func163.trans (congrArg some (by kernel_rfl))
 f266:=Tryz.func184.trans (congrArg some (by kernel_rfl))
 f271:=Tryz.func135.trans (congrArg some (by kernel_rfl))
 t0:=Tryz.underlying0
 a0:=Tryz.isAgg0
 z0:=Tryz.sizeOf0
 v0:=Tryz.zeroValue0
 t3:=Tryz.underlying3
 a3:=Tryz.isAgg3
 z3:=Tryz.sizeOf3
 v3:=Tryz.zeroValue3
 t4:=Tryz.underlying4
 a4:=Tryz.isAgg4
 z4:=Tryz.sizeOf4
 v4:=Tryz.zeroValue4
 t5:=Tryz.underlying5
 a5:=Tryz.isAgg5
 z5:=Tryz.sizeOf5
 v5:=Tryz.zeroValue5
 t9:=Tryz.underlying9
 a9:=Tryz.isAgg9
 z9:=Tryz.sizeOf9
 v9:=Tryz.zeroValue9
 t21:=Tryz.underlying21
 a21:=Tryz.isAgg21
 z21:=Tryz.sizeOf21
 v21:=Tryz.zeroValue21
 t46:=Tryz.underlying233
 a46:=Tryz.isAgg233
 z46:=Tryz.sizeOf233
 v46:=Tryz.zeroValue233
 t105:=Tryz.underlying228
 a105:=Tryz.isAgg228
 z105:=Tryz.sizeOf228
 v105:=Tryz.zeroValue228
 t116:=Tryz.underlying195
 a116:=Tryz.isAgg195
 z116:=Tryz.sizeOf195
 t117:=Tryz.underlying196
 a117:=Tryz.isAgg196
 z117:=Tryz.sizeOf196
 v117:=Tryz.zeroValue196
 t119:=Tryz.underlying296
 a119:=Tryz.isAgg296
 z119:=Tryz.sizeOf296
 t124:=Tryz.underlying199
 a124:=Tryz.isAgg199
 z124:=Tryz.sizeOf199
 v124:=Tryz.zeroValue199
 t138:=Tryz.underlying314
 a138:=Tryz.isAgg314
 z138:=Tryz.sizeOf314
 v138:=Tryz.zeroValue314
 t139:=Tryz.underlying315
 a139:=Tryz.isAgg315
 z139:=Tryz.sizeOf315
 v139:=Tryz.zeroValue315
 g3:=by kernel_rfl
 g4:=by kernel_rfl }
open Go.RowKit Go.Lib in
theorem Tryz.strings_TrimRight (s cutset:ByteArray) (w:World) (hs:s.size≤9223372036854775807) (hcs:cutset.size<4294967281) (hascii:∀ (j:Nat) b,cutset.data.toList[j]?=some b→b.toNat<128) :
  Calls Tryz.prog 53 #[.string s,.string cutset] w fun e w'=>e=.returned (.string ⟨(Lib.trimRightS s.data.toList cutset.data.toList).toArray⟩)∧Below w.heap.size w w':=Any.strings_TrimRight_laid Tryz.lays162 (by kernel_rfl) s cutset w hs hcs hascii
def Tryz.lays160_ren:Go.Shelf.Ren:=⟨fun | 160=>181 | 232=>92 | 231=>96 | 227=>93 | 234=>94 | 233=>97 | 236=>95 | 235=>98 | 228=>134 | 271=>135 | 151=>136 | 197=>116 | 120=>178 | 152=>179 | 260=>163 | 137=>103 | 119=>224 | 224=>225 | 225=>226 | 217=>143 | 266=>184 | n=>n,fun | 9=>9 | 4=>4 | 3=>3 | 5=>5 | 117=>196 | 116=>195 | 0=>0 | 124=>199 | 21=>21 | 105=>228 | 46=>233 | 119=>296 | 139=>315 | 138=>314 | n=>n,fun | 3=>1 | 4=>2 | n=>n⟩
theorem Tryz.lays160:Go.Proofs.Lays.n160 Tryz.prog Tryz.lays160_ren:={
 mixed:=by kernel_rfl
 f119:=Tryz.func224.trans (congrArg some (by kernel_rfl))
 f120:=Tryz.func178.trans (congrArg some (by kernel_rfl))
 f137:=Tryz.func103.trans (congrArg some (by kernel_rfl))
 f151:=Tryz.func136.trans (congrArg some (by kernel_rfl))
 f152:=Tryz.func179.trans (congrArg some (by kernel_rfl))
 f160:=Tryz.func181.trans (congrArg some (by kernel_rfl))
 f197:=Tryz.func116.trans (congrArg some (by kernel_rfl))
 f217:=Tryz.func143.trans (congrArg some (by kernel_rfl))
 f224:=Tryz.func225.trans (congrArg some (by kernel_rfl))
 f225:=Tryz.func226.trans (congrArg some (by kernel_rfl))
 f227:=Tryz.func93.trans (congrArg some (by kernel_rfl))
 f228:=Tryz.func134.trans (congrArg some (by kernel_rfl))
 f231:=Tryz.func96.trans (congrArg some (by kernel_rfl))
 f232:=Tryz.func92.trans (congrArg some (by kernel_rfl))
 f233:=Tryz.func97.trans (congrArg some (by kernel_rfl))
 f234:=Tryz.func94.trans (congrArg some (by kernel_rfl))
 f235:=Tryz.func98.trans (congrArg some (by kernel_rfl))
 f236:=Tryz.func95.trans (congrArg some (by kernel_rfl))
 f260:=Tryz.func163.trans (congrArg some (by kernel_rfl))
 f266:=Tryz.func184.trans (congrArg some (by kernel_rfl))
 f271:=Tryz.func135.trans (congrArg some (by kernel_rfl))
 t0:=Tryz.underlying0
 a0:=Tryz.isAgg0
 z0:=Tryz.sizeOf0
 v0:=Tryz.zeroValue0
 t3:=Tryz.underlying3
 a3:=Tryz.isAgg3
 z3:=Tryz.sizeOf3
 v3:=Tryz.zeroValue3
 t4:=Tryz.underlying4
 a4:=Tryz.isAgg4
 z4:=Tryz.sizeOf4
 v4:=Tryz.zeroValue4
 t5:=Tryz.underlying5
 a5:=Tryz.isAgg5
 z5:=Tryz.sizeOf5
 v5:=Tryz.zeroValue5
 t9:=Tryz.underlying9
 a9:=Tryz.isAgg9
 z9:=Tryz.sizeOf9
 v9:=Tryz.zeroValue9
 t21:=Tryz.underlying21
 a21:=Tryz.isAgg21
 z21:=Tryz.sizeOf21
 v21:=Tryz.zeroValue21
 t46:=Tryz.underlying233
 a46:=Tryz.isAgg233
 z46:=Tryz.sizeOf233
 v46:=Tryz.zeroValue233
 t105:=Tryz.underlying228
 a105:=Tryz.isAgg228
 z105:=Tryz.sizeOf228
 v105:=Tryz.zeroValue228
 t116:=Tryz.underlying195
 a116:=Tryz.isAgg195
 z116:=Tryz.sizeOf195
 t117:=Tryz.underlying196
 a117:=Tryz.isAgg196
 z117:=Tryz.sizeOf196
 v117:=Tryz.zeroValue196
 t119:=Tryz.underlying296
 a119:=Tryz.isAgg296
 z119:=Tryz.sizeOf296
 t124:=Tryz.underlying199
 a124:=Tryz.isAgg199
 z124:=Tryz.sizeOf199
 v124:=Tryz.zeroValue199
 t138:=Tryz.underlying314
 a138:=Tryz.isAgg314
 z138:=Tryz.sizeOf314
 v138:=Tryz.zeroValue314
 t139:=Tryz.underlying315
 a139:=Tryz.isAgg315
 z139:=Tryz.sizeOf315
 v139:=Tryz.zeroValue315
 g3:=by kernel_rfl
 g4:=by kernel_rfl }
open Go.RowKit Go.Lib in
theorem Tryz.strings_Trim (s cutset:ByteArray) (w:World) (hs:s.size≤9223372036854775807) (hcs:cutset.size<4294967281) (hascii:∀ (j:Nat) b,cutset.data.toList[j]?=some b→b.toNat<128) :
  Calls Tryz.prog 181 #[.string s,.string cutset] w fun e w'=>e=.returned (.string ⟨(Lib.trimS s.data.toList cutset.data.toList).toArray⟩)∧Below w.heap.size w w':=Any.strings_Trim_laid Tryz.lays160 (by kernel_rfl) s cutset w hs hcs hascii
end Go.Proofs
namespace Go.Proofs.YtcmndpjemdjalaaGreatDoor
open Go.RowKit
theorem infFields (w:World) (b:Nat) (E:Int) (h0:0≤E) (h1:E≤64) (h:w.cell? ⟨b,0,none⟩=some (.int .i64 E)) :
  Calls Tryz.prog 88 #[.pointer (some ⟨b,0,none⟩)] w fun x w'=>x=.returned (.tuple #[.int .u64 (maskV E),.int .u64 0])∧w'=w:=by
 go_enter Tryz.func88,Tryz.ntmps88
 go_wp2_with (go_at_call 89;refine (formsMask_any E _ h0 h1).mono ?_;rintro x w1 ⟨rfl,hw⟩;subst hw)
 go_ret2
 exact⟨rfl,rfl⟩
theorem known_inf (w:World) (b:Nat) (E F:Int) (neg:Bool) (hF:FormOk E F) (h:w.cell? ⟨b,0,none⟩=some (.int .i64 E)) :
  Calls Tryz.prog 87 #[formV E F,.bool neg,.func (.func 88) #[] #[.pointer (some ⟨b,0,none⟩)]] w fun x w'=>x=.returned (.tuple #[.int .u64 (joinV E F neg (maskV E) 0),.int .i64 0])∧Fr [] w w':=by
 have hb:=World.block_lt_of_cell? _ _ h
 have hh:=hF
 obtain⟨h1,h2,h3,h4⟩:=hh
 unfold formV
 have fA:=(Fr.refl [] w).alloc (.cells #[.int .i64 E,.int .i64 F] 39)
 have c0:=cell_new w #[.int .i64 E,.int .i64 F] 39 (0,0) 0 _ rfl
 have c1:=cell_new w #[.int .i64 E,.int .i64 F] 39 (0,0) 1 _ rfl
 have hA:=fA.stay h (by simp)
 have hJ:=fun W=>formsJoin_any E F neg (maskV E) 0 W hF
 have hC:=fun W=>formsCheck_ok E F W hF
 unfold formV at hJ hC
 go_enter Tryz.func87,Tryz.ntmps87
 go_wp2_with (first
  | (go_at_call 17;refine (hC _).mono ?_;rintro x w1 ⟨rfl,f1⟩;have c0:=f1.stay c0 (by simp);have c1:=f1.stay c1 (by simp);have hA:=f1.stay hA (by simp))
  | (go_at_call 88;refine (infFields _ b E (by omega) (by omega) hA).mono ?_;rintro x w2 ⟨rfl,hw⟩;subst hw)
  | (go_at_call 90;refine (hJ _).mono ?_;rintro x w3 ⟨rfl,f3⟩))
 go_ret2
 exact⟨rfl,(fA.then f1).then f3⟩
theorem formsInf_any (w:World) (E F:Int) (neg:Bool) (hF:FormOk E F) :
  Calls Tryz.prog 49 #[formV E F,.bool neg] w fun e w'=>e=.returned (.tuple #[.int .u64 (joinV E F neg (maskV E) 0),.int .i64 0])∧Fr [] w w':=by
 have hmf:∀ (fn:Fn) (first cap:Array Value) (w:World),(Instr.makeFunc fn first cap).run Tryz.prog w=.ok (.func fn first cap) w:=fun _ _ _ _=>rfl
 unfold formV
 have fA:=(Fr.refl [] w).alloc (.cells #[.int .i64 E,.int .i64 F] 39)
 have c0:=cell_new w #[.int .i64 E,.int .i64 F] 39 (0,0) 0 _ rfl
 have c1:=cell_new w #[.int .i64 E,.int .i64 F] 39 (0,0) 1 _ rfl
 have hK:=known_inf _ w.heap.size E F neg hF c0
 unfold formV at hK
 go_enter Tryz.func49,Tryz.ntmps49
 go_wp2_with (go_at_call 87;refine hK.mono ?_;rintro x w1 ⟨rfl,f1⟩)
 go_ret2
 exact⟨rfl,fA.then f1⟩
def quietV (F:Int):Int:=IntKind.u64.wrap (2 ^ (F.toNat - 1))
theorem quietV_pos (F:Int) (h1:1≤F) (h2:F≤52):0<quietV F:=by
 obtain⟨n,rfl⟩:∃ n:Nat,F=n:=⟨F.toNat,by omega⟩
 have key:∀ k:Fin 52,0<IntKind.u64.wrap (2 ^ k.val):=by decide
 exact key ⟨n - 1,by omega⟩
theorem formsNaN_any (w:World) (E F:Int) (neg:Bool) (hF:FormOk E F) :
  Calls Tryz.prog 50 #[formV E F,.bool neg,.int .u64 0] w fun e w'=>e=.returned (.tuple #[.int .u64 (joinV E F neg (maskV E) (bits .or .u64 (quietV F) 0)),.int .i64 0])∧Fr [] w w':=by
 have hh:=hF
 obtain⟨h1,h2,h3,h4⟩:=hh
 unfold formV
 have fA:=(Fr.refl [] w).alloc (.cells #[.int .i64 E,.int .i64 F] 39)
 have c0:=cell_new w #[.int .i64 E,.int .i64 F] 39 (0,0) 0 _ rfl
 have c1:=cell_new w #[.int .i64 E,.int .i64 F] 39 (0,0) 1 _ rfl
 have hq:=quietV_pos F h3 h4
 have hC:=fun W=>formsCheck_ok E F W hF
 unfold formV at hC
 have hq2:¬ IntKind.u64.wrap (2 ^ (F.toNat - 1))≤0:=by unfold quietV at hq;omega
 go_enter Tryz.func50,Tryz.ntmps50
 go_wp2_with (go_at_call 17;refine (hC _).mono ?_;rintro x W ⟨rfl,f1⟩;have c0:=f1.stay c0 (by simp);have c1:=f1.stay c1 (by simp))
 have fW:=fA.then f1
 clear f1 fA hC
 refine region_mono [] 9 [[],[],[],[2],[3],[],[],[5,6],[0,1,4,7]] [none,none,none,none,none,none,none,none,none] (by kernel_rfl) (by kernel_rfl) ?_
 simp only [Chain,fill,Act.put,List.nil_append,List.cons_append,List.take_succ_cons,List.take_zero,List.drop_succ_cons,List.drop_zero,List.setIfInBounds_toArray,List.set_cons_zero,List.set_cons_succ,Nat.reduceAdd]
 iterate 4 (apply Exists.intro;apply And.intro;·intro vs w2 hf hh K hK;have c0:=hf.stayd c0;have c1:=hf.stayd c1;simp only [Held,List.getD_cons_zero,List.getD_cons_succ,Just,and_true] at hh;(try simp only [hh] at hK ⊢);go_simp;exact hK _ _ ⟨rfl,Fr.refl _ _⟩)
 apply Exists.intro;apply And.intro
 ·intro vs w2 hf hh K hK;have c0:=hf.stayd c0;have c1:=hf.stayd c1;simp only [Held,List.getD_cons_zero,List.getD_cons_succ,Just,and_true] at hh;(try simp only [hh] at hK ⊢);go_simp;refine (formsMask_any E _ (by omega) (by omega)).mono ?_;rintro e w3 ⟨rfl,hw⟩;exact hK _ _ ⟨rfl,by rw [hw];exact Fr.refl _ _⟩
 iterate 3 (apply Exists.intro;apply And.intro;·intro vs w2 hf hh K hK;simp only [Held,List.getD_cons_zero,List.getD_cons_succ,Just,and_true] at hh;(try simp only [hh] at hK ⊢);go_simp;exact hK _ _ ⟨rfl,Fr.refl _ _⟩)
 apply Exists.intro;apply And.intro
 ·intro vs w2 hf hh K hK;have c0:=hf.stayd c0;have c1:=hf.stayd c1;simp only [Held,List.getD_cons_zero,List.getD_cons_succ,Just,and_true] at hh;(try simp only [hh] at hK ⊢);go_simp;refine (formsJoin_any E F neg _ _ _ hF).mono ?_;rintro e w3 ⟨rfl,f3⟩;exact hK _ _ ⟨rfl,f3⟩
 intro vs w2 hf hh
 simp only [HeldAll,Just,and_true,Nat.reduceAdd] at hh
 obtain⟨e0,e1,e2,e3,e4,e5,e6,e7,e8⟩:=hh
 simp only [e0,e1,e2,e3,e4,e5,e6,e7,e8]
 clear e0 e1 e2 e3 e4 e5 e6 e7 e8
 clear vs
 have c0:=hf.stayd c0
 have c1:=hf.stayd c1
 go_wp2
 go_ret2
 exact⟨rfl,(fW.drew).then hf⟩
end Go.Proofs.YtcmndpjemdjalaaGreatDoor
namespace Go.Proofs.YtcmndpjemdjalaaGreatDoor
open Go.RowKit
theorem rp_disable (w:World):(callFunc 265 #[]).run Tryz.prog w=.ok (.value (.tuple #[])) w:=run_call_mark0 Tryz.func265 (by kernel_rfl) (by kernel_rfl) (by kernel_rfl) .disable (by kernel_rfl) w
theorem rp_enable (w:World):(callFunc 267 #[]).run Tryz.prog w=.ok (.value (.tuple #[])) w:=run_call_mark0 Tryz.func267 (by kernel_rfl) (by kernel_rfl) (by kernel_rfl) .enable (by kernel_rfl) w
theorem rp_acquire (a:Addr) (w:World):(callFunc 268 #[.pointer (some a)]).run Tryz.prog w=.ok (.value (.tuple #[])) w:=run_call_marked Tryz.func268 (by kernel_rfl) (by kernel_rfl) (by kernel_rfl) .acquire (by kernel_rfl) a w
theorem rp_releaseMerge (a:Addr) (w:World):(callFunc 270 #[.pointer (some a)]).run Tryz.prog w=.ok (.value (.tuple #[])) w:=run_call_marked Tryz.func270 (by kernel_rfl) (by kernel_rfl) (by kernel_rfl) .releaseMerge (by kernel_rfl) a w
theorem once_store (a:Addr) (x:Value) (u:FrameMode) (w:World) (hc:w.cell? a=some x) (hz:w.frozen? a=false) :
  CallsD Tryz.prog 193 #[.pointer (some a),.bool true] u w fun e u' w'=>u'=u∧(e=.returned (.tuple #[])∧w'=w.drew.setCell a (.int .u32 1)):=by
 have hc':w.drew.cell? a=some x:=by go_simp
 have hz':w.drew.frozen? a=false:=by go_simp
 have hst:=run_call_store (P:=Tryz.prog) Tryz.func233 (by kernel_rfl) (by kernel_rfl) (by kernel_rfl) (by kernel_rfl) (k:=.u32) (y:=1) hc' hz'
 go_enter_d Tryz.func193,Tryz.ntmps193
 go_wp2
 go_region_calls
 all_goals (go_end0;exact⟨rfl,rfl⟩)
theorem mu_lock (b i:Nat) (w:World) (hc:w.cell? ⟨b,i,none⟩=some (.int .i32 0)) (hz:w.frozen? ⟨b,i,none⟩=false) :
  Calls Tryz.prog 231 #[.pointer (some ⟨b,i,none⟩)] w fun e w'=>e=.returned (.tuple #[])∧w'=w.setCell ⟨b,i,none⟩ (.int .i32 1):=by
 have hd:=rp_disable
 have he:=rp_enable
 have ha:=rp_acquire
 have hcas:=run_call_cas_hit (P:=Tryz.prog) Tryz.func266 (by kernel_rfl) (by kernel_rfl) (by kernel_rfl) .i32 (by kernel_rfl) (y:=1) hc hz
 have hc':(w.setCell ⟨b,i,none⟩ (.int .i32 1)).cell? ⟨b,i,none⟩=some (.int .i32 1):=World.cell?_setCell_same w _ _ hc
 have hcv:=run_convert_to_unsafe (P:=Tryz.prog) (src:=373) (dst:=94) Tryz.underlying373 Tryz.underlying94 (by kernel_rfl) hc'
 go_enter Tryz.func231,Tryz.ntmps231
 go_wp2
 first | go_end0 | (simp only [Exit.inBlock,Exit.then];refine bodyPost_ret (results_none rfl _ _ _) rfl ?_) | refine bodyPost_ret (results_none rfl _ _ _) rfl ?_
 exact⟨rfl,rfl⟩
theorem lock_free (b i:Nat) (w:World) (hc:w.cell? ⟨b,i,none⟩=some (.int .i32 0)) (hz:w.frozen? ⟨b,i,none⟩=false) :
  Calls Tryz.prog 191 #[.pointer (some ⟨b,i,none⟩)] w fun e w'=>e=.returned (.tuple #[])∧w'=w.setCell ⟨b,i,none⟩ (.int .i32 1):=by
 go_enter Tryz.func191,Tryz.ntmps191
 go_wp2_with (go_at_call 231;go_loud (refine (mu_lock b i _ hc hz).mono ?_;rintro x w1 ⟨rfl,rfl⟩))
 go_end0
 exact⟨rfl,rfl⟩
theorem mu_unlock (b i:Nat) (w:World) (hc:w.cell? ⟨b,i,none⟩=some (.int .i32 1)) (hz:w.frozen? ⟨b,i,none⟩=false) :
  Calls Tryz.prog 232 #[.pointer (some ⟨b,i,none⟩)] w fun e w'=>e=.returned (.tuple #[])∧w'=w.setCell ⟨b,i,none⟩ (.int .i32 0):=by
 have hd:=rp_disable
 have he:=rp_enable
 have hr:=rp_releaseMerge
 have hadd:=run_call_add (P:=Tryz.prog) Tryz.func271 (by kernel_rfl) (by kernel_rfl) (by kernel_rfl) .i32 (by kernel_rfl) (y:=-1) (s:=0) hc hz (by simp [go_sem];rfl)
 have hcv:=run_convert_to_unsafe (P:=Tryz.prog) (src:=373) (dst:=94) Tryz.underlying373 Tryz.underlying94 (by kernel_rfl) hc
 go_enter Tryz.func232,Tryz.ntmps232
 go_wp2
 go_end0
 exact⟨rfl,rfl⟩
theorem once_unlock (b i:Nat) (u:FrameMode) (w:World) (hc:w.cell? ⟨b,i,none⟩=some (.int .i32 1)) (hz:w.frozen? ⟨b,i,none⟩=false) :
  CallsD Tryz.prog 192 #[.pointer (some ⟨b,i,none⟩)] u w fun e u' w'=>u'=u∧(e=.returned (.tuple #[])∧w'=w.setCell ⟨b,i,none⟩ (.int .i32 0)):=by
 go_enter_d Tryz.func192,Tryz.ntmps192
 go_wp2_with (go_at_call 232;go_loud (refine (mu_unlock b i _ hc hz).mono ?_;rintro x w1 ⟨rfl,rfl⟩))
 go_end0
 exact⟨rfl,rfl⟩
theorem bool_load (b i:Nat) (x:Int) (w:World) (hc:w.cell? ⟨b,i,none⟩=some (.int .u32 x)) :
  Calls Tryz.prog 146 #[.pointer (some ⟨b,i,none⟩)] w fun e w'=>e=.returned (.bool (x != 0))∧w'=w:=by
 have hl:=run_call_load (P:=Tryz.prog) Tryz.func190 (by kernel_rfl) (by kernel_rfl) (by kernel_rfl) .u32 (by kernel_rfl) hc
 go_enter Tryz.func146,Tryz.ntmps146
 go_wp2
 go_ret
 exact⟨rfl,rfl⟩
end Go.Proofs.YtcmndpjemdjalaaGreatDoor
namespace Go.Proofs.YtcmndpjemdjalaaGreatDoor
open Go.RowKit
def Stx (lo:Nat) (xs:List Value) (v:Value) (w:World):Prop:=w.ownsRow lo 9 1 v xs.length xs
theorem Stx.nil (lo:Nat) (w:World):Stx lo [] (.slice none 0 0) w:=World.ownsRow_nil _ _ _ _
theorem Stx.fr {lo:Nat} {xs:List Value} {v:Value} {w w':World} {S:List Nat} (h:Stx lo xs v w) (hf:Fr S w w') (hS:∀ b∈S,some b ≠ v.ownBlock):Stx lo xs v w':=by
 obtain⟨hl,h⟩:=h
 refine⟨hl,?_⟩
 rcases h with h | ⟨g,cap,cur,rfl,hb,hh,h2⟩
 ·exact .inl h
 ·refine .inr ⟨g,cap,cur,rfl,hb,?_,h2⟩
  rw [hf.block g (Array.getElem?_eq_some_iff.1 hh).1 (fun hg=>hS g hg rfl)];exact hh
theorem wpList_append_st (w:World) {ops:Array Oper} {rest:List Oper} {o:Oper} {a:Act} {Q:Exit→Act→World→Prop} (hgd:o.guard=none) (s t:Operand)
  (ho:o.op=.call { callee:=.builtin .append,args:=#[s,t],argTypes:=#[160,160] }) (lo:Nat) (v:Value) (xs:List Value) (hs:a.eval s=v) (hp:Stx lo xs v w) (hn:xs.length≤100) (hlo:lo≤w.heap.size)
  (ad:Addr) (c:Nat) (ys:List Value) (hy0:0<ys.length) (hyn:ys.length≤100) (ht:a.eval t=.slice (some ad) ys.length c) (h1:∀ x∈ys,x.oneCell'=true) (hc:∀ j (x:Value),ys[j]?=some x→w.cell? (ad.add j)=some x)
  (h:∀ (g:Nat) (cap:Nat) w',Stx lo (xs++ys) (.slice (some ⟨g,0,none⟩) (xs.length+ys.length) cap) w'→w.grownBy w' v.ownBlock→wpList Tryz.prog ops Q rest (a.put o.dst (.slice (some ⟨g,0,none⟩) (xs.length+ys.length) cap)) w'):wpList Tryz.prog ops Q (o :: rest) a w:=by
 have hib:(Tryz.prog.info? 9).map (fun i=>(i.zero,i.size,i.bytes))=some (some (.string ⟨#[]⟩),1,16):=by kernel_rfl
 obtain⟨i0,hi,hz0,hz1,hz2⟩:=info_parts hib
 refine wpList_append_own w hgd s t 160 ho lo 9 i0 (.string ⟨#[]⟩) 1 16 Tryz.underlying160 hi hz0 hz1 hz2 rfl (by decide) v xs.length xs hs hp ad ys.length c ys ht (by simp)
  hc h1 (by unfold maxLen;omega) (by omega) hlo ?_
 intro v' w' hown hg _
 rcases hown.2 with ⟨-,h0⟩ | ⟨g,cap,cur,rfl,hge,hr,h3⟩
 ·omega
 ·exact h g cap w' (by unfold Stx;rw [List.length_append];exact hown) hg
theorem newReplacer_4 (w:World) (q cap:Nat) (s0 s1 s2 s3:ByteArray) (h0:w.cell? ⟨q,0,none⟩=some (.string s0)) (h1:w.cell? ⟨q,1,none⟩=some (.string s1)) (h2:w.cell? ⟨q,2,none⟩=some (.string s2)) (h3:w.cell? ⟨q,3,none⟩=some (.string s3)) :
  Calls Tryz.prog 69 #[.slice (some ⟨q,0,none⟩) 4 cap] w fun x w'=>∃ r g cap':Nat,x=.returned (.pointer (some ⟨r,0,none⟩))∧w'.heap[r]?=some (.cells #[.int .u32 0,.int .i32 0,.int .u32 0,.nilIface,.slice (some ⟨g,0,none⟩) 4 cap'] 220 (0,0)) ∧
   Stx w.heap.size [.string s0,.string s1,.string s2,.string s3] (.slice (some ⟨g,0,none⟩) 4 cap') w'∧w.heap.size≤r∧r ≠ g∧Fr [] w w':=by
 go_enter Tryz.func69,Tryz.ntmps69
 go_wp2_with (at_builtin;go_loud (refine wpList_append_st w rfl _ _ rfl w.heap.size (.slice none 0 0) [] rfl (Stx.nil _ _) (by simp) (Nat.le_refl _) ⟨q,0,none⟩ cap [.string s0,.string s1,.string s2,.string s3] (by simp) (by simp) rfl (by intro x hx;simp at hx;rcases hx with rfl | rfl | rfl | rfl <;> rfl) ?_ ?_))
 case _ =>
      intro j x hj
      match j,hj with
      | 0,hj=>simp at hj;subst hj;simpa [Addr.add] using h0
      | 1,hj=>simp at hj;subst hj;simpa [Addr.add] using h1
      | 2,hj=>simp at hj;subst hj;simpa [Addr.add] using h2
      | 3,hj=>simp at hj;subst hj;simpa [Addr.add] using h3
 intro g cap' w1 hO gr
 go_wp2_with fail
 go_ret
 have f1:=(Fr.refl [] w).grown gr (by intro k hk;simp [Value.ownBlock] at hk)
 have f2:=(Fr.refl [] w1).alloc (.cells #[.int .u32 0,.int .i32 0,.int .u32 0,.nilIface,.slice (some ⟨g,0,none⟩) 4 cap'] 220)
 have hg:=(World.ownsRow.lt hO g rfl).2
 exact⟨w1.heap.size,g,cap',rfl,row_new _ _,hO.fr f2 (by simp),f1.size,by omega,f1.then f2⟩
end Go.Proofs.YtcmndpjemdjalaaGreatDoor
namespace Go.Proofs.YtcmndpjemdjalaaGreatDoor
open Go.RowKit
def bsCells (t:Value):Array Value:=(Array.replicate 256 (.slice none 0 0)).push t
theorem bsCells_low (t:Value) (i:Nat) (h:i<256):(bsCells t)[i]?=some (.slice none 0 0):=by
 unfold bsCells
 rw [Array.getElem?_push_lt (by simpa using h)]
 simp
theorem bsCells_top (t:Value):(bsCells t)[256]?=some t:=by
 unfold bsCells
 rw [Array.getElem?_push]
 simp
theorem bsCells_size (t:Value):(bsCells t).size=257:=by simp [bsCells]
theorem bsCells_one (t:Value) (h:t.oneCell'=true):(bsCells t).all (·.oneCell')=true:=by
 rw [Array.all_eq_true]
 intro i hi
 have hi':i<257:=by rw [bsCells_size] at hi;exact hi
 have hg:∀ v,(bsCells t)[i]?=some v→(bsCells t)[i]'hi=v:=fun v hv=>by
  rw [Array.getElem?_eq_getElem hi] at hv;exact Option.some.inj hv
 rcases Nat.lt_or_ge i 256 with h2 | h2
 ·rw [hg _ (bsCells_low t i h2)];rfl
 ·have h3:i=256:=Nat.le_antisymm (Nat.lt_succ_iff.1 hi') h2
  rw [hg t (by rw [h3];exact bsCells_top t)];exact h
theorem bsCells_put (t v:Value):(bsCells t).setIfInBounds 256 v=bsCells v:=by
 apply Array.ext_getElem?
 intro i
 rw [Array.getElem?_setIfInBounds]
 split
 ·rename_i h;subst h;rw [if_pos (by rw [bsCells_size];decide),bsCells_top]
 ·rename_i h
  rcases Nat.lt_or_ge i 256 with h2 | h2
  ·rw [bsCells_low _ i h2,bsCells_low _ i h2]
  ·rw [Array.getElem?_eq_none (by rw [bsCells_size];omega),Array.getElem?_eq_none (by rw [bsCells_size];omega)]
structure BsAt (W:World) (g:Nat) (n123 n125 ts:Value):Prop where
 ex:∃ cs:Array Value,W.heap[g]?=some (.cells cs 301 (0,0))∧cs.size=257∧cs[33]?=some (.slice none 0 0)∧cs[61]?=some (.slice none 0 0)∧cs[120]?=some (.slice none 0 0)∧cs[123]?=some n123∧cs[125]?=some n125∧cs[256]?=some ts
theorem BsAt.new {W:World} {g:Nat} {t:Value} (h:W.heap[g]?=some (.cells (bsCells t) 301 (0,0))):BsAt W g (.slice none 0 0) (.slice none 0 0) t :=
 ⟨_,h,bsCells_size t,bsCells_low t 33 (by decide),bsCells_low t 61 (by decide),bsCells_low t 120 (by decide),bsCells_low t 123 (by decide),bsCells_low t 125 (by decide),bsCells_top t⟩
theorem BsAt.frozen {W:World} {g:Nat} {n123 n125 ts:Value} (h:BsAt W g n123 n125 ts) (i:Nat):W.frozen? ⟨g,i,none⟩=false:=by
 obtain⟨cs,h,-⟩:=h
 exact frozen_of_row W _ i _ _ h
theorem BsAt.c33 {W:World} {g:Nat} {n123 n125 ts:Value} (h:BsAt W g n123 n125 ts):W.cell? ⟨g,33,none⟩=some (.slice none 0 0):=by
 obtain⟨cs,h,-,h1,-⟩:=h
 rw [cell_of_row _ _ 33 _ _ _ h];exact h1
theorem BsAt.c61 {W:World} {g:Nat} {n123 n125 ts:Value} (h:BsAt W g n123 n125 ts):W.cell? ⟨g,61,none⟩=some (.slice none 0 0):=by
 obtain⟨cs,h,-,-,h1,-⟩:=h
 rw [cell_of_row _ _ 61 _ _ _ h];exact h1
theorem BsAt.c120 {W:World} {g:Nat} {n123 n125 ts:Value} (h:BsAt W g n123 n125 ts):W.cell? ⟨g,120,none⟩=some (.slice none 0 0):=by
 obtain⟨cs,h,-,-,-,h1,-⟩:=h
 rw [cell_of_row _ _ 120 _ _ _ h];exact h1
theorem BsAt.c123 {W:World} {g:Nat} {n123 n125 ts:Value} (h:BsAt W g n123 n125 ts):W.cell? ⟨g,123,none⟩=some n123:=by
 obtain⟨cs,h,-,-,-,-,h1,-⟩:=h
 rw [cell_of_row _ _ 123 _ _ _ h];exact h1
theorem BsAt.c125 {W:World} {g:Nat} {n123 n125 ts:Value} (h:BsAt W g n123 n125 ts):W.cell? ⟨g,125,none⟩=some n125:=by
 obtain⟨cs,h,-,-,-,-,-,h1,-⟩:=h
 rw [cell_of_row _ _ 125 _ _ _ h];exact h1
theorem BsAt.c256 {W:World} {g:Nat} {n123 n125 ts:Value} (h:BsAt W g n123 n125 ts):W.cell? ⟨g,256,none⟩=some ts:=by
 obtain⟨cs,h,-,-,-,-,-,-,h1⟩:=h
 rw [cell_of_row _ _ 256 _ _ _ h];exact h1
theorem BsAt.fr {W W':World} {g:Nat} {n123 n125 ts:Value} {S:List Nat} (h:BsAt W g n123 n125 ts) (hf:Fr S W W') (hS:g ∉ S):BsAt W' g n123 n125 ts:=by
 obtain⟨cs,h,hr⟩:=h
 exact⟨cs,hf.row h hS,hr⟩
theorem Stx.ne {lo:Nat} {xs:List Value} {q n c:Nat} {w:World} {g:Nat} {n123 n125 ts:Value} (h:Stx lo xs (.slice (some ⟨q,0,none⟩) n c) w) (hB:BsAt w g n123 n125 ts):q ≠ g:=by
 obtain⟨hl,h⟩:=h
 obtain⟨cs,hc,-⟩:=hB
 rcases h with ⟨h,-⟩ | ⟨g',cap,cur,hv,hb,hh,h2⟩
 ·simp at h
 ·simp at hv
  obtain⟨rfl,-⟩:=hv
  rintro rfl
  rw [hc] at hh
  simp at hh
theorem BsAt.lt {W:World} {g:Nat} {n123 n125 ts:Value} (h:BsAt W g n123 n125 ts):g<W.heap.size:=World.block_lt_of_cell? _ _ h.c33
theorem BsAt.set123 {W:World} {g:Nat} {n123 n125 ts:Value} (h:BsAt W g n123 n125 ts) (v:Value):BsAt (W.setCell ⟨g,123,none⟩ v) g v n125 ts:=by
 obtain⟨cs,h,hz,h1,h2,h3,h4,h5,h6⟩:=h
 refine⟨cs.setIfInBounds 123 v,heap_setCell_same _ _ 123 _ _ v h,by simpa using hz,by rw [Array.getElem?_setIfInBounds_ne (by decide)];exact h1,by rw [Array.getElem?_setIfInBounds_ne (by decide)];exact h2,by rw [Array.getElem?_setIfInBounds_ne (by decide)];exact h3,by rw [Array.getElem?_setIfInBounds_self_of_lt (by omega)],by rw [Array.getElem?_setIfInBounds_ne (by decide)];exact h5,by rw [Array.getElem?_setIfInBounds_ne (by decide)];exact h6⟩
theorem BsAt.set125 {W:World} {g:Nat} {n123 n125 ts:Value} (h:BsAt W g n123 n125 ts) (v:Value):BsAt (W.setCell ⟨g,125,none⟩ v) g n123 v ts:=by
 obtain⟨cs,h,hz,h1,h2,h3,h4,h5,h6⟩:=h
 refine⟨cs.setIfInBounds 125 v,heap_setCell_same _ _ 125 _ _ v h,by simpa using hz,by rw [Array.getElem?_setIfInBounds_ne (by decide)];exact h1,by rw [Array.getElem?_setIfInBounds_ne (by decide)];exact h2,by rw [Array.getElem?_setIfInBounds_ne (by decide)];exact h3,by rw [Array.getElem?_setIfInBounds_ne (by decide)];exact h4,by rw [Array.getElem?_setIfInBounds_self_of_lt (by omega)],by rw [Array.getElem?_setIfInBounds_ne (by decide)];exact h6⟩
theorem BsAt.set256 {W:World} {g:Nat} {n123 n125 ts:Value} (h:BsAt W g n123 n125 ts) (v:Value):BsAt (W.setCell ⟨g,256,none⟩ v) g n123 n125 v:=by
 obtain⟨cs,h,hz,h1,h2,h3,h4,h5,h6⟩:=h
 refine⟨cs.setIfInBounds 256 v,heap_setCell_same _ _ 256 _ _ v h,by simpa using hz,by rw [Array.getElem?_setIfInBounds_ne (by decide)];exact h1,by rw [Array.getElem?_setIfInBounds_ne (by decide)];exact h2,by rw [Array.getElem?_setIfInBounds_ne (by decide)];exact h3,by rw [Array.getElem?_setIfInBounds_ne (by decide)];exact h4,by rw [Array.getElem?_setIfInBounds_ne (by decide)];exact h5,by rw [Array.getElem?_setIfInBounds_self_of_lt (by omega)]⟩
theorem fr_bytes (w:World) (e:TypeId) (s:ByteArray):Fr [] w (Lib.bytesWorld w e s) :=
 ⟨rfl,rfl,rfl,by rw [Lib.bytesWorld_size];omega,fun i hi _=>Lib.bytesWorld_at_old w e s i hi⟩
theorem bs_zero:Tryz.zeroCells301=bsCells (.slice none 0 0):=by kernel_rfl
theorem bs_zero_put (v:Value):Tryz.zeroCells301.setIfInBounds 256 v=bsCells v:=by rw [bs_zero];exact bsCells_put _ v
theorem conv_bytes (W:World) (s:ByteArray):(convert 9 40 (.string s)).run Tryz.prog W=.ok (.slice (some ⟨W.heap.size,0,none⟩) s.size (grownCap W s.size 0 5)) (Lib.bytesWorld W 5 s):=Lib.run_convert_string_bytes W _ _ 5 s Tryz.underlying9 Tryz.underlying40 (by kernel_rfl)
theorem fr_setRow (w:World) (g:Nat) (cs:Array Value):Fr [g] w (w.setRow g cs):=⟨rfl,rfl,rfl,by simp [World.setRow],fun k _ hk=>setRow_other w g k cs (fun e=>hk (by simp [e]))⟩
theorem build_braces (w:World) (r q cap:Nat) (x0 x1:Value) (hr:w.heap[r]?=some (.cells #[x0,x1,.int .u32 0,.nilIface,.slice (some ⟨q,0,none⟩) 4 cap] 220 (0,0)))
  (h0:w.cell? ⟨q,0,none⟩=some (.string (⟨#[123]⟩))) (h1:w.cell? ⟨q,1,none⟩=some (.string (⟨#[123,123]⟩))) (h2:w.cell? ⟨q,2,none⟩=some (.string (⟨#[125]⟩))) (h3:w.cell? ⟨q,3,none⟩=some (.string (⟨#[125,125]⟩))) :
  Calls Tryz.prog 148 #[.pointer (some ⟨r,0,none⟩)] w fun x w'=>∃ (g:Nat) (n123 n125:Value) (a:Option Addr) (c:Nat),x=.returned (.iface 302 (.pointer (some ⟨g,0,none⟩)))∧BsAt w' g n123 n125 (.slice a 2 c)∧w.heap.size≤g∧Fr [] w w':=by
 have hms:∀ W:World,(Instr.makeSlice 160 (.int .i64 0) (.int .i64 2)).run Tryz.prog W=.ok (.slice (some ⟨W.heap.size,0,none⟩) 0 2) (W.alloc (.cells #[.string ⟨#[]⟩,.string ⟨#[]⟩] 9)):=fun _=>by kernel_rfl
 have hbl:∀ (a:Option Addr) (W:World),(Instr.build 301 #[(1,.slice a 0 2)]).run Tryz.prog W=.ok (.agg (bsCells (.slice a 0 2))) W:=fun _ _=>by kernel_rfl
 have hen:∀ W,(binOp .eql 40 (.slice none 0 0) (.slice none 0 0)).run Tryz.prog W=.ok (.bool true) W:=fun _=>by kernel_rfl
 have hcv:∀ (W:World) (g:Nat) (c:UInt8),W.cell? ⟨g,0,none⟩=some (.int .u8 c.toNat)→(convert 40 9 (.slice (some ⟨g,0,none⟩) 1 1)).run Tryz.prog W=.ok (.string ⟨#[c]⟩) W:=fun W g c hc=>by
  have:=run_convert_bytes_back (P:=Tryz.prog) W 40 9 5 ⟨g,0,none⟩ 1 [c] Tryz.underlying40 (by kernel_rfl) Tryz.underlying9 (by
   intro j hj
   have:j=0:=by simpa using hj
   subst this
   simpa [Addr.add] using hc)
  simpa using this
 have hcv125:=fun W g hc=>hcv W g 125 hc
 have hcv123:=fun W g hc=>hcv W g 123 hc
 clear hcv
 have x0:∀ W,(Instr.index 9 (.string (⟨#[123]⟩)) (.int .i64 0)).run Tryz.prog W=.ok (.int .u8 123) W:=fun _=>by kernel_rfl
 have x2:∀ W,(Instr.index 9 (.string (⟨#[125]⟩)) (.int .i64 0)).run Tryz.prog W=.ok (.int .u8 125) W:=fun _=>by kernel_rfl
 have z0:(⟨#[123]⟩:ByteArray).size=1:=rfl
 have z1:(⟨#[123,123]⟩:ByteArray).size=2:=rfl
 have z2:(⟨#[125]⟩:ByteArray).size=1:=rfl
 have z3:(⟨#[125,125]⟩:ByteArray).size=2:=rfl
 generalize (⟨#[123]⟩:ByteArray)=S0 at *
 generalize (⟨#[123,123]⟩:ByteArray)=S1 at *
 generalize (⟨#[125]⟩:ByteArray)=S2 at *
 generalize (⟨#[125,125]⟩:ByteArray)=S3 at *
 have r4:w.cell? ⟨r,4,none⟩=some (.slice (some ⟨q,0,none⟩) 4 cap):=by rw [cell_of_row _ _ 4 _ _ _ hr];rfl
 go_enter Tryz.func148,Tryz.ntmps148
 go_wp2_with fail
 refine wp_loop_rounds 3 ?_
 rw [rounds_succ]
 go_wp2_with fail
 rw [rounds_succ]
 go_wp2_with fail
 rw [rounds_succ]
 have rz:=row_new (w.alloc (.cells #[.string ⟨#[]⟩,.string ⟨#[]⟩] 9)) (.cells Tryz.zeroCells301 301)
 rw [World.size_alloc] at rz
 go_wp2_with (with_reducible show wpList _ _ _ (⟨none,.store 301 (.tmp 11) (.tmp 95),_,_,_,_⟩ :: _) _ _;go_loud (refine wpList_store_row rfl 301 (.tmp 11) (.tmp 95) rfl (w.heap.size+1) _ rfl rfl 301 _ rz (by rw [bs_zero_put,bsCells_size];kernel_rfl) (by rw [bs_zero_put,bsCells_size,bs_zero,bsCells_size]) (by rw [bs_zero_put];exact bsCells_one _ rfl) ?_);rw [bs_zero_put])
 have rg:=setRow_heap _ _ _ (bsCells (.slice (some ⟨w.heap.size,0,none⟩) 0 2)) _ _ rz
 have gS:=fr_setRow ((w.alloc (.cells #[.string ⟨#[]⟩,.string ⟨#[]⟩] 9)).alloc (.cells Tryz.zeroCells301 301)) (w.heap.size+1) (bsCells (.slice (some ⟨w.heap.size,0,none⟩) 0 2))
 have rs:=((Fr.refl [] _).alloc (.cells Tryz.zeroCells301 301)).row (row_new w (.cells #[.string ⟨#[]⟩,.string ⟨#[]⟩] 9)) (by simp)
 have rs:=gS.row rs (by simp)
 have F:=(((Fr.refl [] w).alloc (.cells #[.string ⟨#[]⟩,.string ⟨#[]⟩] 9)).alloc (.cells Tryz.zeroCells301 301)).after gS (by simp)
 clear rz gS
 generalize ((w.alloc (.cells #[.string ⟨#[]⟩,.string ⟨#[]⟩] 9)).alloc (.cells Tryz.zeroCells301 301)).setRow (w.heap.size+1) (bsCells (.slice (some ⟨w.heap.size,0,none⟩) 0 2))=W at *
 have hB:=BsAt.new rg
 clear rg
 have hO:Stx w.heap.size [] (.slice (some ⟨w.heap.size,0,none⟩) 0 2) W:=by
  refine⟨by simp,.inr ⟨w.heap.size,2,_,rfl,Nat.le_refl _,rs,?_⟩⟩
  simp [maxLen]
 clear rs
 have h0':=h0
 have h0:=F.stay h0 (by simp)
 have h1:=F.stay h1 (by simp)
 have h2:=F.stay h2 (by simp)
 have h3:=F.stay h3 (by simp)
 have hql:q<w.heap.size:=World.block_lt_of_cell? _ _ h0'
 have hWs:w.heap.size+2≤W.heap.size:=by have:=hB.lt;omega
 clear h0' hms hbl
 refine wp_loop_rounds 3 ?_
 rw [rounds_succ]
 have b125:=hB.c125
 have b256:=hB.c256
 have bz:=hB.frozen
 go_wp2_with (at_builtin;go_loud (refine wpList_append_st _ rfl _ _ rfl w.heap.size _ [] rfl (hO.fr (((Fr.refl [] W).alloc _).alloc _) (by simp)) (by simp) (by simp;omega) _ 1 [.string S2] (by simp) (by simp) rfl (by intro x hx;simp at hx;subst hx;rfl) ?_ ?_))
 case _ =>
      intro j x hj
      match j,hj with
      | 0,hj=>simp at hj;subst hj;simp [Addr.add]
 intro q1 c1 w1 hO gr1
 have f1:=(((Fr.refl [w.heap.size] W).alloc (.cells #[.int .u8 125] 5)).alloc (.cells #[.string S2] 9)).grown gr1 (by intro k hk;simp [Value.ownBlock] at hk;simp [hk])
 have hB:=hB.fr f1 (by simp <;> omega)
 have F:=F.after f1 (by simp <;> omega)
 have h0:=f1.stay h0 (by simp;omega)
 have h1:=f1.stay h1 (by simp;omega)
 have h2:=f1.stay h2 (by simp;omega)
 have h3:=f1.stay h3 (by simp;omega)
 have hWs:w.heap.size+2≤w1.heap.size:=Nat.le_trans hWs f1.size
 have hq1:=World.ownsRow.lt hO q1 rfl
 have hne1:=hO.ne hB
 (try clear b125)
 (try clear b123)
 clear b256 bz gr1 f1
 have b256:=hB.c256
 have bz:=hB.frozen
 go_wp2_with fail
 have fS:=(Fr.refl [w.heap.size+1] w1).setCell (p:=⟨w.heap.size+1,256,none⟩) (.inl (by simp)) (.slice (some ⟨q1,0,none⟩) 1 c1)
 have hB:=hB.set256 (.slice (some ⟨q1,0,none⟩) 1 c1)
 have hO:=hO.fr fS (by simp [Value.ownBlock];omega)
 have F:=F.after fS (by simp)
 have h0:=fS.stay h0 (by simp;omega)
 have h1:=fS.stay h1 (by simp;omega)
 have h2:=fS.stay h2 (by simp;omega)
 have h3:=fS.stay h3 (by simp;omega)
 have hWs:=Nat.le_trans hWs fS.size
 clear fS b256 bz
 generalize w1.setCell ⟨w.heap.size+1,256,none⟩ (.slice (some ⟨q1,0,none⟩) 1 c1)=U1 at *
 rw [conv_bytes]
 simp only [Result.andThen]
 rw [Oper.upon_value]
 have fT:=fr_bytes U1 5 S3
 have hB:=hB.fr fT (by simp)
 have hO:=hO.fr fT (by simp)
 have F:=F.then fT
 have h0:=fT.stay h0 (by simp)
 have h1:=fT.stay h1 (by simp)
 have h2:=fT.stay h2 (by simp)
 have h3:=fT.stay h3 (by simp)
 have hWs:=Nat.le_trans hWs fT.size
 generalize grownCap U1 S3.size 0 5=kk1
 rw [z3]
 generalize U1.heap.size=uu1
 clear fT
 generalize Lib.bytesWorld U1 5 S3=V1 at *
 have b125:=hB.c125
 have bz:=hB.frozen
 go_wp2_with fail
 have fS:=(Fr.refl [w.heap.size+1] V1).setCell (p:=⟨w.heap.size+1,125,none⟩) (.inl (by simp)) (.slice (some ⟨uu1,0,none⟩) 2 kk1)
 have hB:=hB.set125 (.slice (some ⟨uu1,0,none⟩) 2 kk1)
 have hO:=hO.fr fS (by simp [Value.ownBlock];omega)
 have F:=F.after fS (by simp)
 have h0:=fS.stay h0 (by simp;omega)
 have h1:=fS.stay h1 (by simp;omega)
 have h2:=fS.stay h2 (by simp;omega)
 have h3:=fS.stay h3 (by simp;omega)
 have hWs:=Nat.le_trans hWs fS.size
 clear fS b125 bz
 generalize V1.setCell ⟨w.heap.size+1,125,none⟩ (.slice (some ⟨uu1,0,none⟩) 2 kk1)=X1 at *
 rw [rounds_succ]
 have b123:=hB.c123
 have b256:=hB.c256
 have bz:=hB.frozen
 have b125:=b256
 go_wp2_with (at_builtin;go_loud (refine wpList_append_st _ rfl _ _ rfl w.heap.size _ [.string S2] rfl (hO.fr (((Fr.refl [] X1).alloc _).alloc _) (by simp)) (by simp) (by simp;omega) _ 1 [.string S0] (by simp) (by simp) rfl (by intro x hx;simp at hx;subst hx;rfl) ?_ ?_))
 case _ =>
      intro j x hj
      match j,hj with
      | 0,hj=>simp at hj;subst hj;simp [Addr.add]
 intro q2 c2 w1 hO gr1
 have f1:=(((Fr.refl [q1] X1).alloc (.cells #[.int .u8 123] 5)).alloc (.cells #[.string S0] 9)).grown gr1 (by intro k hk;simp [Value.ownBlock] at hk;simp [hk])
 have hB:=hB.fr f1 (by simp <;> omega)
 have F:=F.after f1 (by simp <;> omega)
 have h0:=f1.stay h0 (by simp;omega)
 have h1:=f1.stay h1 (by simp;omega)
 have h2:=f1.stay h2 (by simp;omega)
 have h3:=f1.stay h3 (by simp;omega)
 have hWs:w.heap.size+2≤w1.heap.size:=Nat.le_trans hWs f1.size
 have hq2:=World.ownsRow.lt hO q2 rfl
 have hne2:=hO.ne hB
 (try clear b125)
 (try clear b123)
 clear b256 bz gr1 f1
 have b256:=hB.c256
 have bz:=hB.frozen
 go_wp2_with fail
 have fS:=(Fr.refl [w.heap.size+1] w1).setCell (p:=⟨w.heap.size+1,256,none⟩) (.inl (by simp)) (.slice (some ⟨q2,0,none⟩) 2 c2)
 have hB:=hB.set256 (.slice (some ⟨q2,0,none⟩) 2 c2)
 have hO:=hO.fr fS (by simp [Value.ownBlock];omega)
 have F:=F.after fS (by simp)
 have h0:=fS.stay h0 (by simp;omega)
 have h1:=fS.stay h1 (by simp;omega)
 have h2:=fS.stay h2 (by simp;omega)
 have h3:=fS.stay h3 (by simp;omega)
 have hWs:=Nat.le_trans hWs fS.size
 clear fS b256 bz
 generalize w1.setCell ⟨w.heap.size+1,256,none⟩ (.slice (some ⟨q2,0,none⟩) 2 c2)=U2 at *
 rw [conv_bytes]
 simp only [Result.andThen]
 rw [Oper.upon_value]
 have fT:=fr_bytes U2 5 S1
 have hB:=hB.fr fT (by simp)
 have hO:=hO.fr fT (by simp)
 have F:=F.then fT
 have h0:=fT.stay h0 (by simp)
 have h1:=fT.stay h1 (by simp)
 have h2:=fT.stay h2 (by simp)
 have h3:=fT.stay h3 (by simp)
 have hWs:=Nat.le_trans hWs fT.size
 generalize grownCap U2 S1.size 0 5=kk2
 rw [z1]
 generalize U2.heap.size=uu2
 clear fT
 generalize Lib.bytesWorld U2 5 S1=V2 at *
 have b123:=hB.c123
 have bz:=hB.frozen
 go_wp2_with fail
 have fS:=(Fr.refl [w.heap.size+1] V2).setCell (p:=⟨w.heap.size+1,123,none⟩) (.inl (by simp)) (.slice (some ⟨uu2,0,none⟩) 2 kk2)
 have hB:=hB.set123 (.slice (some ⟨uu2,0,none⟩) 2 kk2)
 have hO:=hO.fr fS (by simp [Value.ownBlock];omega)
 have F:=F.after fS (by simp)
 have h0:=fS.stay h0 (by simp;omega)
 have h1:=fS.stay h1 (by simp;omega)
 have h2:=fS.stay h2 (by simp;omega)
 have h3:=fS.stay h3 (by simp;omega)
 have hWs:=Nat.le_trans hWs fS.size
 clear fS b123 bz
 generalize V2.setCell ⟨w.heap.size+1,123,none⟩ (.slice (some ⟨uu2,0,none⟩) 2 kk2)=X2 at *
 rw [rounds_succ]
 go_wp2_with fail
 go_ret
 exact⟨w.heap.size+1,_,_,_,_,rfl,hB,by omega,F⟩
end Go.Proofs.YtcmndpjemdjalaaGreatDoor
namespace Go.Proofs.YtcmndpjemdjalaaGreatDoor
open Go.RowKit
def NoBrace (s:ByteArray):Prop:=s=⟨#[120,61]⟩∨s=⟨#[33]⟩
theorem bsReplace_xe (w:World) (g c:Nat) (n123 n125:Value) (a:Option Addr) (h:BsAt w g n123 n125 (.slice a 2 c)) :
  Calls Tryz.prog 352 #[.pointer (some ⟨g,0,none⟩),.string ⟨#[120,61]⟩] w fun x w'=>x=.returned (.string ⟨#[120,61]⟩)∧w'=w:=by
 have hen:∀ W,(binOp .neq 40 (.slice none 0 0) (.slice none 0 0)).run Tryz.prog W=.ok (.bool false) W:=fun _=>by kernel_rfl
 have x0:∀ W,(Instr.index 9 (.string ⟨#[120,61]⟩) (.int .i64 0)).run Tryz.prog W=.ok (.int .u8 120) W:=fun _=>by kernel_rfl
 have x1:∀ W,(Instr.index 9 (.string ⟨#[120,61]⟩) (.int .i64 1)).run Tryz.prog W=.ok (.int .u8 61) W:=fun _=>by kernel_rfl
 have z0:(⟨#[120,61]⟩:ByteArray).size=2:=rfl
 generalize (⟨#[120,61]⟩:ByteArray)=S at *
 have c120:=h.c120
 have c61:=h.c61
 have c256:=h.c256
 clear h
 go_enter Tryz.func352,Tryz.ntmps352
 go_wp2_with fail
 refine wp_loop_rounds 3 ?_
 rw [rounds_succ]
 go_wp2_with fail
 rw [rounds_succ]
 go_wp2_with fail
 rw [rounds_succ]
 go_wp2_with fail
 go_ret
 exact⟨rfl,rfl⟩
theorem bsReplace_ex (w:World) (g c:Nat) (n123 n125:Value) (a:Option Addr) (h:BsAt w g n123 n125 (.slice a 2 c)) :
  Calls Tryz.prog 352 #[.pointer (some ⟨g,0,none⟩),.string ⟨#[33]⟩] w fun x w'=>x=.returned (.string ⟨#[33]⟩)∧w'=w:=by
 have hen:∀ W,(binOp .neq 40 (.slice none 0 0) (.slice none 0 0)).run Tryz.prog W=.ok (.bool false) W:=fun _=>by kernel_rfl
 have x0:∀ W,(Instr.index 9 (.string ⟨#[33]⟩) (.int .i64 0)).run Tryz.prog W=.ok (.int .u8 33) W:=fun _=>by kernel_rfl
 have z0:(⟨#[33]⟩:ByteArray).size=1:=rfl
 generalize (⟨#[33]⟩:ByteArray)=S at *
 have c33:=h.c33
 have c256:=h.c256
 clear h
 go_enter Tryz.func352,Tryz.ntmps352
 go_wp2_with fail
 refine wp_loop_rounds 2 ?_
 rw [rounds_succ]
 go_wp2_with fail
 rw [rounds_succ]
 go_wp2_with fail
 go_ret
 exact⟨rfl,rfl⟩
theorem bsReplace (w:World) (g c:Nat) (n123 n125:Value) (a:Option Addr) (s:ByteArray) (hs:NoBrace s) (h:BsAt w g n123 n125 (.slice a 2 c)) :
  Calls Tryz.prog 352 #[.pointer (some ⟨g,0,none⟩),.string s] w fun x w'=>x=.returned (.string s)∧w'=w:=by
 rcases hs with rfl | rfl
 ·exact bsReplace_xe w g c n123 n125 a h
 ·exact bsReplace_ex w g c n123 n125 a h
theorem buildOnce_braces (w:World) (r q cap:Nat) (x0 x1:Value) (hr:w.heap[r]?=some (.cells #[x0,x1,.int .u32 0,.nilIface,.slice (some ⟨q,0,none⟩) 4 cap] 220 (0,0)))
  (h0:w.cell? ⟨q,0,none⟩=some (.string (⟨#[123]⟩))) (h1:w.cell? ⟨q,1,none⟩=some (.string (⟨#[123,123]⟩))) (h2:w.cell? ⟨q,2,none⟩=some (.string (⟨#[125]⟩))) (h3:w.cell? ⟨q,3,none⟩=some (.string (⟨#[125,125]⟩))) :
  Calls Tryz.prog 107 #[.pointer (some ⟨r,0,none⟩)] w fun x w'=>∃ (g:Nat) (n123 n125:Value) (a:Option Addr) (c:Nat),x=.returned (.tuple #[])∧w'.heap[r]?=some (.cells #[x0,x1,.int .u32 0,.iface 302 (.pointer (some ⟨g,0,none⟩)),.slice none 0 0] 220 (0,0))∧BsAt w' g n123 n125 (.slice a 2 c)∧w.heap.size≤g∧Fr [r] w w':=by
 have hb:=build_braces w r q cap x0 x1 hr h0 h1 h2 h3
 have hrl:r<w.heap.size:=(Array.getElem?_eq_some_iff.1 hr).1
 go_enter Tryz.func107,Tryz.ntmps107
 go_wp2_with (go_at_call 148;go_loud (refine hb.mono ?_;rintro x w1 ⟨g,n123,n125,a,c,rfl,hB,hg,f1⟩;have hr1:=f1.row hr (by simp);have hz:∀ i,w1.frozen? ⟨r,i,none⟩=false:=fun i=>frozen_of_row w1 _ i _ _ hr1;have c3:w1.cell? ⟨r,3,none⟩=some .nilIface:=(by rw [cell_of_row _ _ 3 _ _ _ hr1];rfl);have c4:w1.cell? ⟨r,4,none⟩=some (.slice (some ⟨q,0,none⟩) 4 cap):=(by rw [cell_of_row _ _ 4 _ _ _ hr1];rfl)))
 go_end0
 have fS:=((Fr.refl [r] w1).setCell (p:=⟨r,3,none⟩) (.inl (by simp)) (.iface 302 (.pointer (some ⟨g,0,none⟩)))).setCell (p:=⟨r,4,none⟩) (.inl (by simp)) (.slice none 0 0)
 have rS:=heap_setCell_same _ _ 4 _ _ (.slice none 0 0) (heap_setCell_same _ _ 3 _ _ (.iface 302 (.pointer (some ⟨g,0,none⟩))) hr1)
 exact⟨g,n123,n125,a,c,rfl,rS,hB.fr fS (by simp;omega),hg,(f1.mono (by simp)).trans fS (by simp)⟩
def RepDone (w:World) (r g:Nat):Prop:=w.heap[r]?=some (.cells #[.int .u32 1,.int .i32 0,.int .u32 0,.iface 302 (.pointer (some ⟨g,0,none⟩)),.slice none 0 0] 220 (0,0))∧∃ (n123 n125:Value) (a:Option Addr) (c:Nat),BsAt w g n123 n125 (.slice a 2 c)
theorem doSlow_braces (w:World) (r q cap:Nat) (hr:w.heap[r]?=some (.cells #[.int .u32 0,.int .i32 0,.int .u32 0,.nilIface,.slice (some ⟨q,0,none⟩) 4 cap] 220 (0,0))) (hq:¬ q=r)
  (h0:w.cell? ⟨q,0,none⟩=some (.string (⟨#[123]⟩))) (h1:w.cell? ⟨q,1,none⟩=some (.string (⟨#[123,123]⟩))) (h2:w.cell? ⟨q,2,none⟩=some (.string (⟨#[125]⟩))) (h3:w.cell? ⟨q,3,none⟩=some (.string (⟨#[125,125]⟩))) :
  Calls Tryz.prog 147 #[.pointer (some ⟨r,0,none⟩),.func (.func 107) #[.pointer (some ⟨r,0,none⟩)] #[]] w fun x w'=>x=.returned (.tuple #[])∧(∃ g,RepDone w' r g∧w.heap.size≤g)∧Fr [r] w w':=by
 have e0:w.cell? ⟨r,0,none⟩=some (.int .u32 0):=by rw [cell_of_row _ _ 0 _ _ _ hr];rfl
 have e1:w.cell? ⟨r,1,none⟩=some (.int .i32 0):=by rw [cell_of_row _ _ 1 _ _ _ hr];rfl
 have hz:∀ i,w.frozen? ⟨r,i,none⟩=false:=fun i=>frozen_of_row w _ i _ _ hr
 have hL:=lock_free r 1 w e1 (hz 1)
 have F1:=(Fr.refl [r] w).setCell (p:=⟨r,1,none⟩) (.inl (by simp)) (.int .i32 1)
 have r1:=heap_setCell_same _ _ 1 _ _ (.int .i32 1) hr
 have h0:=F1.stay h0 (by simpa using hq)
 have h1:=F1.stay h1 (by simpa using hq)
 have h2:=F1.stay h2 (by simpa using hq)
 have h3:=F1.stay h3 (by simpa using hq)
 have k0:(w.setCell ⟨r,1,none⟩ (.int .i32 1)).cell? ⟨r,0,none⟩=some (.int .u32 0):=by rw [cell_of_row _ _ 0 _ _ _ r1];rfl
 have hD:=bool_load r 0 0 _ k0
 have hB:=buildOnce_braces _ r q cap (.int .u32 0) (.int .i32 1) r1 h0 h1 h2 h3
 have hsz:(w.setCell ⟨r,1,none⟩ (.int .i32 1)).heap.size=w.heap.size:=World.size_setCell _ _ _
 clear e0 e1 hz h0 h1 h2 h3 r1 k0 hr
 generalize w.setCell ⟨r,1,none⟩ (.int .i32 1)=W at *
 go_enter_defers Tryz.func147,Tryz.ntmps147
 go_wp2_with (first
  | (go_at_call 191;go_loud (refine hL.mono ?_;rintro x w1 ⟨rfl,hw⟩;subst hw;clear hL))
  | (go_at_call 146;go_loud (refine hD.mono ?_;rintro x w2 ⟨rfl,hw⟩;subst hw;clear hD))
  | (go_at_call 107;go_loud (refine hB.mono ?_;rintro x w3 ⟨g,n123,n125,a,c,rfl,hr3,hB3,hg,f3⟩)))
 have F3:=F1.trans f3 (by simp)
 have e0:w3.cell? ⟨r,0,none⟩=some (.int .u32 0):=by rw [cell_of_row _ _ 0 _ _ _ hr3];rfl
 have hz:∀ i,w3.frozen? ⟨r,i,none⟩=false:=fun i=>frozen_of_row w3 _ i _ _ hr3
 have hgr:g ≠ r:=by
  intro e
  have:=F1.size
  obtain⟨cs,hcs,-⟩:=hB3
  rw [e] at hcs
  rw [hr3] at hcs
  simp at hcs
 refine leaves_cons (f:=193) (args:=#[.pointer (some ⟨r,0,none⟩),.bool true]) (by simp) (by simp [go_sem]) ?_
 refine (once_store ⟨r,0,none⟩ (.int .u32 0) _ _ e0 (hz 0)).mono ?_
 rintro e u' w4 ⟨rfl,rfl,hw4⟩
 have hr4:w4.heap[r]?=some (.cells #[.int .u32 1,.int .i32 1,.int .u32 0,.iface 302 (.pointer (some ⟨g,0,none⟩)),.slice none 0 0] 220 (0,0)):=by
  rw [hw4];exact heap_setCell_same _ _ 0 _ _ (.int .u32 1) hr3
 have f4:Fr [r] w3 w4:=by
  rw [hw4];exact ((Fr.refl [r] w3).drew).setCell (p:=⟨r,0,none⟩) (.inl (by simp)) (.int .u32 1)
 clear hw4
 have e1:w4.cell? ⟨r,1,none⟩=some (.int .i32 1):=by rw [cell_of_row _ _ 1 _ _ _ hr4];rfl
 have hz4:∀ i,w4.frozen? ⟨r,i,none⟩=false:=fun i=>frozen_of_row w4 _ i _ _ hr4
 refine leaves_cons (f:=192) (args:=#[.pointer (some ⟨r,1,none⟩)]) (by simp [settle]) (by simp [go_sem]) ?_
 refine (once_unlock r 1 _ _ e1 (hz4 1)).mono ?_
 rintro e u' w5 ⟨rfl,rfl,hw5⟩
 have hr5:w5.heap[r]?=some (.cells #[.int .u32 1,.int .i32 0,.int .u32 0,.iface 302 (.pointer (some ⟨g,0,none⟩)),.slice none 0 0] 220 (0,0)):=by
  rw [hw5];exact heap_setCell_same _ _ 1 _ _ (.int .i32 0) hr4
 have f5:Fr [r] w4 w5:=by
  rw [hw5];exact (Fr.refl [r] w4).setCell (p:=⟨r,1,none⟩) (.inl (by simp)) (.int .i32 0)
 clear hw5
 have fin:(∃ g,RepDone w5 r g∧w.heap.size≤g)∧Fr [r] w w5:=⟨⟨g,⟨hr5,n123,n125,a,c,(hB3.fr f4 (by simpa using hgr)).fr f5 (by simpa using hgr)⟩,by omega⟩,(F3.trans f4 (by simp)).trans f5 (by simp)⟩
 simp [Leaves,settle,results,Tryz.results147]
 exact fin
theorem replace_braces (w:World) (r q cap:Nat) (s:ByteArray) (hs:NoBrace s) (hr:w.heap[r]?=some (.cells #[.int .u32 0,.int .i32 0,.int .u32 0,.nilIface,.slice (some ⟨q,0,none⟩) 4 cap] 220 (0,0))) (hq:¬ q=r)
  (h0:w.cell? ⟨q,0,none⟩=some (.string (⟨#[123]⟩))) (h1:w.cell? ⟨q,1,none⟩=some (.string (⟨#[123,123]⟩))) (h2:w.cell? ⟨q,2,none⟩=some (.string (⟨#[125]⟩))) (h3:w.cell? ⟨q,3,none⟩=some (.string (⟨#[125,125]⟩))) :
  Calls Tryz.prog 70 #[.pointer (some ⟨r,0,none⟩),.string s] w fun x w'=>x=.returned (.string s)∧Fr [r] w w':=by
 have e0:w.cell? ⟨r,0,none⟩=some (.int .u32 0):=by rw [cell_of_row _ _ 0 _ _ _ hr];rfl
 have hD:=bool_load r 0 0 _ e0
 have hS:=doSlow_braces w r q cap hr hq h0 h1 h2 h3
 clear e0 h0 h1 h2 h3 hr
 have hDo:Calls Tryz.prog 106 #[.pointer (some ⟨r,0,none⟩),.func (.func 107) #[.pointer (some ⟨r,0,none⟩)] #[]] w fun x w'=>x=.returned (.tuple #[])∧(∃ g,RepDone w' r g∧w.heap.size≤g)∧Fr [r] w w':=by
  go_enter Tryz.func106,Tryz.ntmps106
  go_wp2_with (first
   | (go_at_call 146;go_loud (refine hD.mono ?_;rintro x w2 ⟨rfl,hw⟩;subst hw;clear hD))
   | (go_at_call 147;go_loud (refine hS.mono ?_;rintro x w3 ⟨rfl,hg,f3⟩)))
  go_end0
  exact⟨rfl,hg,f3⟩
 clear hD hS
 have hmf:∀ (fn:Fn) (first cap:Array Value) (w:World),(Instr.makeFunc fn first cap).run Tryz.prog w=.ok (.func fn first cap) w:=fun _ _ _ _=>rfl
 go_enter Tryz.func70,Tryz.ntmps70
 go_wp2_with (first
  | (go_at_call 106;go_loud (refine hDo.mono ?_;rintro x w1 ⟨rfl,⟨g,⟨hr1,n123,n125,a,c,hB⟩,hg⟩,f1⟩;have c3:w1.cell? ⟨r,3,none⟩=some (.iface 302 (.pointer (some ⟨g,0,none⟩))):=(by rw [cell_of_row _ _ 3 _ _ _ hr1];rfl)))
  | (go_at_call 352;go_loud (refine (bsReplace w1 g c n123 n125 a s hs hB).mono ?_;rintro x w2 ⟨rfl,hw⟩;subst hw)))
 go_ret
 exact⟨rfl,f1⟩
end Go.Proofs.YtcmndpjemdjalaaGreatDoor
