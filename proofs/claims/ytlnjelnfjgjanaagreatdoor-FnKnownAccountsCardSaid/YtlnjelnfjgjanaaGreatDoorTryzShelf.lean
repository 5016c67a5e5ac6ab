import Derived.Shelf.Strings.Builder1
import Derived.Shelf.Strings.Builder2
import Derived.Shelf.Strings.OnBuilder
import Derived.Shelf.Strconv.Itoa0
import Derived.Shelf.Strconv.Itoa1
import Derived.Shelf.LaysM
import Derived.Shelf.Strconv.Itoa2
import Derived.Shelf.Strconv.Itoa3
import Derived.Shelf.Strings.Search1
import Derived.Shelf.Strings.Search2
import Derived.Shelf.Strings.Search3
import Derived.Shelf.Strings.Cut
import Derived.Shelf.Strings.Count
import Derived.Shelf.Strings.Shaped
import Derived.Shelf.Strings.Split
import Derived.Shelf.Strings.SplitShaped
import Derived.Shelf.Unicode.Decode
import Derived.Shelf.Strings.RuneCount
import Derived.Shelf.Strings.Explode
import Derived.Shelf.Unicode.DecodeSlow
import Derived.Test.YtlnjelnfjgjanaaGreatDoorProg
/-
  DERIVED: THE SHELF's CONTRACTS AT THIS DUMP, IN PLAIN WORDS (tools/lay-plain.mjs out of 'TryzShelf.lean', which tools/lay-shelf.mjs wrote): THE SAME DECLARATIONS UNDER THE SAME NAMES: 'import', 'namespace', 'open', 'def', 'theorem' AND NOTHING ELSE: no command of the shelf's: FOR A HAND-IN. Each laying: the table of numbers ('.._ren') and one theorem, a field a fact of the dump's own or the kernel's comparison; each contract: ONE APPLICATION.
-/
namespace Go.Proofs
open Go.Shelf
def Tryz.aBJ:Go.Shelf.Ren:=⟨fun|156=>261|165=>283|166=>284|169=>285|240=>314|241=>315|276=>339|277=>340|n=>n,fun|31=>196|9=>9|3=>3|4=>4|0=>0|20=>20|72=>287|76=>291|70=>285|37=>22|75=>290|127=>312|164=>320|5=>5|80=>293|n=>n,fun|n=>n⟩
theorem Tryz.aCY:Go.Proofs.Lays.n156 Tryz.prog Tryz.aBJ:={
 mixed:=by kernel_rfl
 f156:=Tryz.func261.trans (congrArg some (by kernel_rfl))
 f165:=Tryz.func283.trans (congrArg some (by kernel_rfl))
 f166:=Tryz.func284.trans (congrArg some (by kernel_rfl))
 f169:=Tryz.func285.trans (congrArg some (by kernel_rfl))
 f240:=Tryz.func314.trans (congrArg some (by kernel_rfl))
 f241:=Tryz.func315.trans (congrArg some (by kernel_rfl))
 f276:=Tryz.func339.trans (congrArg some (by kernel_rfl))
 f277:=Tryz.func340.trans (congrArg some (by kernel_rfl))
 t0:=Tryz.underlying0
 a0:=Tryz.isAgg0
 z0:=Tryz.sizeOf0
 v0:=Tryz.zeroValue0
 t3:=Tryz.underlying3
 a3:=Tryz.isAgg3
 z3:=Tryz.sizeOf3
 v3:=Tryz.zeroValue3
 t4:=Tryz.underlying4
 a4:=Tryz.isAgg4
 z4:=Tryz.sizeOf4
 v4:=Tryz.zeroValue4
 t9:=Tryz.underlying9
 a9:=Tryz.isAgg9
 z9:=Tryz.sizeOf9
 v9:=Tryz.zeroValue9
 t20:=Tryz.underlying20
 a20:=Tryz.isAgg20
 z20:=Tryz.sizeOf20
 v20:=Tryz.zeroValue20
 t31:=Tryz.underlying196
 a31:=Tryz.isAgg196
 z31:=Tryz.sizeOf196
 v31:=Tryz.zeroValue196
 t37:=Tryz.underlying22
 a37:=Tryz.isAgg22
 z37:=Tryz.sizeOf22
 v37:=Tryz.zeroValue22
 t70:=Tryz.underlying285
 a70:=Tryz.isAgg285
 z70:=Tryz.sizeOf285
 v70:=Tryz.zeroValue285
 t72:=Tryz.underlying287
 a72:=Tryz.isAgg287
 z72:=Tryz.sizeOf287
 v72:=Tryz.zeroValue287
 t75:=Tryz.underlying290
 a75:=Tryz.isAgg290
 z75:=Tryz.sizeOf290
 v75:=Tryz.zeroValue290
 t76:=Tryz.underlying291
 a76:=Tryz.isAgg291
 z76:=Tryz.sizeOf291
 v76:=Tryz.zeroValue291
 t127:=Tryz.underlying312
 a127:=Tryz.isAgg312
 z127:=Tryz.sizeOf312
 v127:=Tryz.zeroValue312
 t164:=Tryz.underlying320
 a164:=Tryz.isAgg320
 z164:=Tryz.sizeOf320
 v164:=Tryz.zeroValue320}
theorem Tryz.aBG:Builder.Extra Tryz.prog Tryz.aBJ:={
 sizeBuilder:=by kernel_rfl
 liesBuilder:=by kernel_rfl
 t5:=Tryz.underlying5
 a5:=Tryz.isAgg5
 z5:=Tryz.sizeOf5
 v5:=Tryz.zeroValue5
 infoByte:=by kernel_rfl
 cellsByte:=by kernel_rfl
 sizeByte:=by kernel_rfl
 neB5:=by decide}
open Go.RowKit in
theorem Tryz.strings_Join (bk o c:Nat)(xs:List ByteArray)(sep:ByteArray)(w:World)(hcells:∀(j:Nat) x,xs[j]? =some x→w.cell? ⟨bk,o+j,none⟩=some (.string x))(hbk:bk<w.heap.size)(hN:xs.length≤140737488355328)(hcap:xs.length≤c)(hlen:(Lib.join (xs.map (·.data.toList)) sep.data.toList).length≤140737488355328):
  Calls Tryz.prog 261 #[.slice (some ⟨bk,o,none⟩) xs.length c, .string sep] w fun e w'=>e= .returned (.string ⟨(Lib.join (xs.map (·.data.toList)) sep.data.toList).toArray⟩)∧Below w.heap.size w w':=Any.strings_Join Tryz.aCY Tryz.aBG bk o c xs sep w hcells hbk hN hcap hlen
def Tryz.aBW:Go.Shelf.Ren:=⟨fun|219=>338|217=>350|225=>351|224=>352|267=>353|266=>360|314=>361|n=>n,fun|9=>9|3=>3|4=>4|5=>5|46=>238|146=>339|51=>338|n=>n,fun|1=>0|n=>n⟩
theorem Tryz.aCZ:Go.Proofs.Lays.n219 Tryz.prog Tryz.aBW:={
 mixed:=by kernel_rfl
 f217:=Tryz.func350.trans (congrArg some (by kernel_rfl))
 f219:=Tryz.func338.trans (congrArg some (by kernel_rfl))
 f224:=Tryz.func352.trans (congrArg some (by kernel_rfl))
 f225:=Tryz.func351.trans (congrArg some (by kernel_rfl))
 f266:=Tryz.func360.trans (congrArg some (by kernel_rfl))
 f267:=Tryz.func353.trans (congrArg some (by kernel_rfl))
 f314:=Tryz.func361.trans (congrArg some (by kernel_rfl))
 t3:=Tryz.underlying3
 a3:=Tryz.isAgg3
 z3:=Tryz.sizeOf3
 v3:=Tryz.zeroValue3
 t4:=Tryz.underlying4
 a4:=Tryz.isAgg4
 z4:=Tryz.sizeOf4
 v4:=Tryz.zeroValue4
 t5:=Tryz.underlying5
 a5:=Tryz.isAgg5
 z5:=Tryz.sizeOf5
 v5:=Tryz.zeroValue5
 t9:=Tryz.underlying9
 a9:=Tryz.isAgg9
 z9:=Tryz.sizeOf9
 v9:=Tryz.zeroValue9
 t46:=Tryz.underlying238
 a46:=Tryz.isAgg238
 z46:=Tryz.sizeOf238
 v46:=Tryz.zeroValue238
 t51:=Tryz.underlying338
 a51:=Tryz.isAgg338
 z51:=Tryz.sizeOf338
 v51:=Tryz.zeroValue338
 t146:=Tryz.underlying339
 a146:=Tryz.isAgg339
 z146:=Tryz.sizeOf339
 v146:=Tryz.zeroValue339
 g1:=by kernel_rfl}
open Go.RowKit Go.Lib in
theorem Tryz.stringslite_Index_one (s:ByteArray)(c:UInt8)(w:World):
  Calls Tryz.prog 338 #[.string s, .string ⟨#[c]⟩] w fun e w'=>e= .returned (.int .i64 (Lib.indexByte s.data.toList c))∧w'=w:=Any.stringslite_Index_one Tryz.aCZ s c w
def Tryz.aDA:Go.Shelf.Ren:=⟨fun|221=>282|268=>311|138=>312|143=>313|195=>335|197=>336|218=>337|219=>338|260=>349|217=>350|225=>351|224=>352|267=>353|266=>360|314=>361|n=>n,fun|9=>9|3=>3|31=>196|4=>4|0=>0|105=>317|21=>21|5=>5|46=>238|119=>334|139=>337|138=>336|146=>339|51=>338|n=>n,fun|1=>0|3=>1|4=>2|n=>n⟩
def Tryz.aBV:Go.Shelf.Ren:=⟨fun|146=>260|221=>282|268=>311|138=>312|143=>313|195=>335|197=>336|218=>337|219=>338|260=>349|217=>350|225=>351|224=>352|267=>353|266=>360|314=>361|n=>n,fun|9=>9|31=>196|3=>3|4=>4|0=>0|105=>317|21=>21|5=>5|46=>238|119=>334|139=>337|138=>336|146=>339|51=>338|n=>n,fun|1=>0|3=>1|4=>2|n=>n⟩
theorem Tryz.aCX:Go.Proofs.Lays.n146 Tryz.prog Tryz.aBV:={
 mixed:=by kernel_rfl
 f138:=Tryz.func312.trans (congrArg some (by kernel_rfl))
 f143:=Tryz.func313.trans (congrArg some (by kernel_rfl))
 f146:=Tryz.func260.trans (congrArg some (by kernel_rfl))
 f195:=Tryz.func335.trans (congrArg some (by kernel_rfl))
 f197:=Tryz.func336.trans (congrArg some (by kernel_rfl))
 f217:=Tryz.func350.trans (congrArg some (by kernel_rfl))
 f218:=Tryz.func337.trans (congrArg some (by kernel_rfl))
 f219:=Tryz.func338.trans (congrArg some (by kernel_rfl))
 f221:=Tryz.func282.trans (congrArg some (by kernel_rfl))
 f224:=Tryz.func352.trans (congrArg some (by kernel_rfl))
 f225:=Tryz.func351.trans (congrArg some (by kernel_rfl))
 f260:=Tryz.func349.trans (congrArg some (by kernel_rfl))
 f266:=Tryz.func360.trans (congrArg some (by kernel_rfl))
 f267:=Tryz.func353.trans (congrArg some (by kernel_rfl))
 f268:=Tryz.func311.trans (congrArg some (by kernel_rfl))
 f314:=Tryz.func361.trans (congrArg some (by kernel_rfl))
 t0:=Tryz.underlying0
 a0:=Tryz.isAgg0
 z0:=Tryz.sizeOf0
 v0:=Tryz.zeroValue0
 t3:=Tryz.underlying3
 a3:=Tryz.isAgg3
 z3:=Tryz.sizeOf3
 v3:=Tryz.zeroValue3
 t4:=Tryz.underlying4
 a4:=Tryz.isAgg4
 z4:=Tryz.sizeOf4
 v4:=Tryz.zeroValue4
 t5:=Tryz.underlying5
 a5:=Tryz.isAgg5
 z5:=Tryz.sizeOf5
 v5:=Tryz.zeroValue5
 t9:=Tryz.underlying9
 a9:=Tryz.isAgg9
 z9:=Tryz.sizeOf9
 v9:=Tryz.zeroValue9
 t21:=Tryz.underlying21
 a21:=Tryz.isAgg21
 z21:=Tryz.sizeOf21
 v21:=Tryz.zeroValue21
 t31:=Tryz.underlying196
 a31:=Tryz.isAgg196
 z31:=Tryz.sizeOf196
 v31:=Tryz.zeroValue196
 t46:=Tryz.underlying238
 a46:=Tryz.isAgg238
 z46:=Tryz.sizeOf238
 v46:=Tryz.zeroValue238
 t51:=Tryz.underlying338
 a51:=Tryz.isAgg338
 z51:=Tryz.sizeOf338
 v51:=Tryz.zeroValue338
 t105:=Tryz.underlying317
 a105:=Tryz.isAgg317
 z105:=Tryz.sizeOf317
 v105:=Tryz.zeroValue317
 t119:=Tryz.underlying334
 a119:=Tryz.isAgg334
 z119:=Tryz.sizeOf334
 t138:=Tryz.underlying336
 a138:=Tryz.isAgg336
 z138:=Tryz.sizeOf336
 v138:=Tryz.zeroValue336
 t139:=Tryz.underlying337
 a139:=Tryz.isAgg337
 z139:=Tryz.sizeOf337
 v139:=Tryz.zeroValue337
 t146:=Tryz.underlying339
 a146:=Tryz.isAgg339
 z146:=Tryz.sizeOf339
 v146:=Tryz.zeroValue339
 g1:=by kernel_rfl
 g3:=by kernel_rfl
 g4:=by kernel_rfl}
open Go.RowKit Go.Lib in
theorem Tryz.strings_Split (s sep:ByteArray)(m:Int)(w:World)(hs:s.size<4294967281)(hm:w.cell? ⟨0,0,none⟩=some (.int .i64 m))(h1:1≤sep.size):
  Calls Tryz.prog 260 #[.string s, .string sep] w fun e w'=>
   e= .returned (.slice (some ⟨w.heap.size,0,none⟩) (Lib.countB s sep+1) (Lib.countB s sep+1))∧w'=w.alloc (.cells ((Lib.splitB sep 0 (Lib.countB s sep) s).map Value.string).toArray 9):=Any.strings_Split Tryz.aCX (by kernel_rfl) s sep m w hs hm h1
end Go.Proofs
