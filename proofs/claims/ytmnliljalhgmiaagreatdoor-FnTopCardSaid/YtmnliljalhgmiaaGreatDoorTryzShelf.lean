import Derived.Shelf.Strings.Builder1
import Derived.Shelf.Strings.Builder2
import Derived.Shelf.Strings.OnBuilder
import Derived.Shelf.Utf8.RuneCount
import Derived.Shelf.Strconv.Itoa0
import Derived.Shelf.Strconv.Itoa1
import Derived.Shelf.LaysM
import Derived.Shelf.Strconv.Itoa2
import Derived.Shelf.Strconv.Itoa3
import Derived.Shelf.Strings.Search1
import Derived.Shelf.Strings.Search2
import Derived.Shelf.Strings.Search3
import Derived.Shelf.Strings.Cut
import Derived.Shelf.Strings.Count
import Derived.Shelf.Strings.Shaped
import Derived.Shelf.Strings.Split
import Derived.Shelf.Strings.SplitShaped
import Derived.Shelf.Unicode.Decode
import Derived.Shelf.Strings.RuneCount
import Derived.Shelf.Strings.Explode
import Derived.Shelf.Unicode.DecodeSlow
import Derived.Shelf.Unicode.DecodeAny
import Derived.Test.YtmnliljalhgmiaaGreatDoorProg
/-
  DERIVED: THE SHELF's CONTRACTS AT THIS DUMP, IN PLAIN WORDS (tools/lay-plain.mjs out of 'TryzShelf.lean', which tools/lay-shelf.mjs wrote): THE SAME DECLARATIONS UNDER THE SAME NAMES: 'import', 'namespace', 'open', 'def', 'theorem' AND NOTHING ELSE: no command of the shelf's: FOR A HAND-IN. Each laying: the table of numbers ('.._ren') and one theorem, a field a fact of the dump's own or the kernel's comparison; each contract: ONE APPLICATION.
-/
namespace Go.Proofs
open Go.Shelf
def Tryz.aBP:Go.Shelf.Ren:=⟨fun|156=>270|165=>310|166=>311|169=>312|240=>334|241=>335|276=>348|277=>349|n=>n,fun|31=>278|9=>9|3=>3|4=>4|0=>0|20=>20|72=>306|76=>310|70=>304|37=>22|75=>309|127=>321|164=>332|5=>5|80=>312|n=>n,fun|n=>n⟩
theorem Tryz.aDK:Go.Proofs.Lays.n156 Tryz.prog Tryz.aBP:={
 mixed:=by kernel_rfl
 f156:=Tryz.func270.trans (congrArg some (by kernel_rfl))
 f165:=Tryz.func310.trans (congrArg some (by kernel_rfl))
 f166:=Tryz.func311.trans (congrArg some (by kernel_rfl))
 f169:=Tryz.func312.trans (congrArg some (by kernel_rfl))
 f240:=Tryz.func334.trans (congrArg some (by kernel_rfl))
 f241:=Tryz.func335.trans (congrArg some (by kernel_rfl))
 f276:=Tryz.func348.trans (congrArg some (by kernel_rfl))
 f277:=Tryz.func349.trans (congrArg some (by kernel_rfl))
 t0:=Tryz.underlying0
 a0:=Tryz.isAgg0
 z0:=Tryz.sizeOf0
 v0:=Tryz.zeroValue0
 t3:=Tryz.underlying3
 a3:=Tryz.isAgg3
 z3:=Tryz.sizeOf3
 v3:=Tryz.zeroValue3
 t4:=Tryz.underlying4
 a4:=Tryz.isAgg4
 z4:=Tryz.sizeOf4
 v4:=Tryz.zeroValue4
 t9:=Tryz.underlying9
 a9:=Tryz.isAgg9
 z9:=Tryz.sizeOf9
 v9:=Tryz.zeroValue9
 t20:=Tryz.underlying20
 a20:=Tryz.isAgg20
 z20:=Tryz.sizeOf20
 v20:=Tryz.zeroValue20
 t31:=Tryz.underlying278
 a31:=Tryz.isAgg278
 z31:=Tryz.sizeOf278
 v31:=Tryz.zeroValue278
 t37:=Tryz.underlying22
 a37:=Tryz.isAgg22
 z37:=Tryz.sizeOf22
 v37:=Tryz.zeroValue22
 t70:=Tryz.underlying304
 a70:=Tryz.isAgg304
 z70:=Tryz.sizeOf304
 v70:=Tryz.zeroValue304
 t72:=Tryz.underlying306
 a72:=Tryz.isAgg306
 z72:=Tryz.sizeOf306
 v72:=Tryz.zeroValue306
 t75:=Tryz.underlying309
 a75:=Tryz.isAgg309
 z75:=Tryz.sizeOf309
 v75:=Tryz.zeroValue309
 t76:=Tryz.underlying310
 a76:=Tryz.isAgg310
 z76:=Tryz.sizeOf310
 v76:=Tryz.zeroValue310
 t127:=Tryz.underlying321
 a127:=Tryz.isAgg321
 z127:=Tryz.sizeOf321
 v127:=Tryz.zeroValue321
 t164:=Tryz.underlying332
 a164:=Tryz.isAgg332
 z164:=Tryz.sizeOf332
 v164:=Tryz.zeroValue332}
theorem Tryz.aBI:Builder.Extra Tryz.prog Tryz.aBP:={
 sizeBuilder:=by kernel_rfl
 liesBuilder:=by kernel_rfl
 t5:=Tryz.underlying5
 a5:=Tryz.isAgg5
 z5:=Tryz.sizeOf5
 v5:=Tryz.zeroValue5
 infoByte:=by kernel_rfl
 cellsByte:=by kernel_rfl
 sizeByte:=by kernel_rfl
 neB5:=by decide}
open Go.RowKit in
theorem Tryz.strings_Join (bk o c:Nat)(xs:List ByteArray)(sep:ByteArray)(w:World)(hcells:∀(j:Nat) x,xs[j]? =some x→w.cell? ⟨bk,o+j,none⟩=some (.string x))(hbk:bk<w.heap.size)(hN:xs.length≤140737488355328)(hcap:xs.length≤c)(hlen:(Lib.join (xs.map (·.data.toList)) sep.data.toList).length≤140737488355328):
  Calls Tryz.prog 270 #[.slice (some ⟨bk,o,none⟩) xs.length c, .string sep] w fun e w'=>e= .returned (.string ⟨(Lib.join (xs.map (·.data.toList)) sep.data.toList).toArray⟩)∧Below w.heap.size w w':=Any.strings_Join Tryz.aDK Tryz.aBI bk o c xs sep w hcells hbk hN hcap hlen
def Tryz.aCF:Go.Shelf.Ren:=⟨fun|219=>313|217=>336|225=>337|224=>338|267=>339|266=>350|314=>351|n=>n,fun|9=>9|3=>3|4=>4|5=>5|46=>223|146=>336|51=>335|n=>n,fun|1=>0|n=>n⟩
theorem Tryz.aDL:Go.Proofs.Lays.n219 Tryz.prog Tryz.aCF:={
 mixed:=by kernel_rfl
 f217:=Tryz.func336.trans (congrArg some (by kernel_rfl))
 f219:=Tryz.func313.trans (congrArg some (by kernel_rfl))
 f224:=Tryz.func338.trans (congrArg some (by kernel_rfl))
 f225:=Tryz.func337.trans (congrArg some (by kernel_rfl))
 f266:=Tryz.func350.trans (congrArg some (by kernel_rfl))
 f267:=Tryz.func339.trans (congrArg some (by kernel_rfl))
 f314:=Tryz.func351.trans (congrArg some (by kernel_rfl))
 t3:=Tryz.underlying3
 a3:=Tryz.isAgg3
 z3:=Tryz.sizeOf3
 v3:=Tryz.zeroValue3
 t4:=Tryz.underlying4
 a4:=Tryz.isAgg4
 z4:=Tryz.sizeOf4
 v4:=Tryz.zeroValue4
 t5:=Tryz.underlying5
 a5:=Tryz.isAgg5
 z5:=Tryz.sizeOf5
 v5:=Tryz.zeroValue5
 t9:=Tryz.underlying9
 a9:=Tryz.isAgg9
 z9:=Tryz.sizeOf9
 v9:=Tryz.zeroValue9
 t46:=Tryz.underlying223
 a46:=Tryz.isAgg223
 z46:=Tryz.sizeOf223
 v46:=Tryz.zeroValue223
 t51:=Tryz.underlying335
 a51:=Tryz.isAgg335
 z51:=Tryz.sizeOf335
 v51:=Tryz.zeroValue335
 t146:=Tryz.underlying336
 a146:=Tryz.isAgg336
 z146:=Tryz.sizeOf336
 v146:=Tryz.zeroValue336
 g1:=by kernel_rfl}
open Go.RowKit Go.Lib in
theorem Tryz.stringslite_Index_one (s:ByteArray)(c:UInt8)(w:World):
  Calls Tryz.prog 313 #[.string s, .string ⟨#[c]⟩] w fun e w'=>e= .returned (.int .i64 (Lib.indexByte s.data.toList c))∧w'=w:=Any.stringslite_Index_one Tryz.aDL s c w
def Tryz.aCE:Go.Shelf.Ren:=⟨fun|146=>269|221=>309|268=>332|138=>333|143=>273|195=>345|197=>346|218=>347|219=>313|260=>359|217=>336|225=>337|224=>338|267=>339|266=>350|314=>351|n=>n,fun|9=>9|31=>278|3=>3|4=>4|0=>0|105=>330|21=>21|5=>5|46=>223|119=>348|139=>351|138=>350|146=>336|51=>335|n=>n,fun|1=>0|3=>2|4=>3|n=>n⟩
theorem Tryz.aDJ:Go.Proofs.Lays.n146 Tryz.prog Tryz.aCE:={
 mixed:=by kernel_rfl
 f138:=Tryz.func333.trans (congrArg some (by kernel_rfl))
 f143:=Tryz.func273.trans (congrArg some (by kernel_rfl))
 f146:=Tryz.func269.trans (congrArg some (by kernel_rfl))
 f195:=Tryz.func345.trans (congrArg some (by kernel_rfl))
 f197:=Tryz.func346.trans (congrArg some (by kernel_rfl))
 f217:=Tryz.func336.trans (congrArg some (by kernel_rfl))
 f218:=Tryz.func347.trans (congrArg some (by kernel_rfl))
 f219:=Tryz.func313.trans (congrArg some (by kernel_rfl))
 f221:=Tryz.func309.trans (congrArg some (by kernel_rfl))
 f224:=Tryz.func338.trans (congrArg some (by kernel_rfl))
 f225:=Tryz.func337.trans (congrArg some (by kernel_rfl))
 f260:=Tryz.func359.trans (congrArg some (by kernel_rfl))
 f266:=Tryz.func350.trans (congrArg some (by kernel_rfl))
 f267:=Tryz.func339.trans (congrArg some (by kernel_rfl))
 f268:=Tryz.func332.trans (congrArg some (by kernel_rfl))
 f314:=Tryz.func351.trans (congrArg some (by kernel_rfl))
 t0:=Tryz.underlying0
 a0:=Tryz.isAgg0
 z0:=Tryz.sizeOf0
 v0:=Tryz.zeroValue0
 t3:=Tryz.underlying3
 a3:=Tryz.isAgg3
 z3:=Tryz.sizeOf3
 v3:=Tryz.zeroValue3
 t4:=Tryz.underlying4
 a4:=Tryz.isAgg4
 z4:=Tryz.sizeOf4
 v4:=Tryz.zeroValue4
 t5:=Tryz.underlying5
 a5:=Tryz.isAgg5
 z5:=Tryz.sizeOf5
 v5:=Tryz.zeroValue5
 t9:=Tryz.underlying9
 a9:=Tryz.isAgg9
 z9:=Tryz.sizeOf9
 v9:=Tryz.zeroValue9
 t21:=Tryz.underlying21
 a21:=Tryz.isAgg21
 z21:=Tryz.sizeOf21
 v21:=Tryz.zeroValue21
 t31:=Tryz.underlying278
 a31:=Tryz.isAgg278
 z31:=Tryz.sizeOf278
 v31:=Tryz.zeroValue278
 t46:=Tryz.underlying223
 a46:=Tryz.isAgg223
 z46:=Tryz.sizeOf223
 v46:=Tryz.zeroValue223
 t51:=Tryz.underlying335
 a51:=Tryz.isAgg335
 z51:=Tryz.sizeOf335
 v51:=Tryz.zeroValue335
 t105:=Tryz.underlying330
 a105:=Tryz.isAgg330
 z105:=Tryz.sizeOf330
 v105:=Tryz.zeroValue330
 t119:=Tryz.underlying348
 a119:=Tryz.isAgg348
 z119:=Tryz.sizeOf348
 t138:=Tryz.underlying350
 a138:=Tryz.isAgg350
 z138:=Tryz.sizeOf350
 v138:=Tryz.zeroValue350
 t139:=Tryz.underlying351
 a139:=Tryz.isAgg351
 z139:=Tryz.sizeOf351
 v139:=Tryz.zeroValue351
 t146:=Tryz.underlying336
 a146:=Tryz.isAgg336
 z146:=Tryz.sizeOf336
 v146:=Tryz.zeroValue336
 g1:=by kernel_rfl
 g3:=by kernel_rfl
 g4:=by kernel_rfl}
open Go.RowKit Go.Lib in
theorem Tryz.strings_Split (s sep:ByteArray)(m:Int)(w:World)(hs:s.size<4294967281)(hm:w.cell? ⟨0,0,none⟩=some (.int .i64 m))(h1:1≤sep.size):
  Calls Tryz.prog 269 #[.string s, .string sep] w fun e w'=>
   e= .returned (.slice (some ⟨w.heap.size,0,none⟩) (Lib.countB s sep+1) (Lib.countB s sep+1))∧w'=w.alloc (.cells ((Lib.splitB sep 0 (Lib.countB s sep) s).map Value.string).toArray 9):=Any.strings_Split Tryz.aDJ (by kernel_rfl) s sep m w hs hm h1
end Go.Proofs
