import Derived.Shelf.Strings.Builder1
import Derived.Shelf.Strings.Builder2
import Derived.Shelf.Strings.OnBuilder
import Derived.Shelf.Strconv.Itoa0
import Derived.Shelf.Strconv.Itoa1
import Derived.Shelf.LaysM
import Derived.Shelf.Strconv.Itoa2
import Derived.Shelf.Strconv.Itoa3
import Derived.Shelf.Strings.Search1
import Derived.Shelf.Strings.Search2
import Derived.Shelf.Strings.Search3
import Derived.Shelf.Strings.Cut
import Derived.Shelf.Strings.Count
import Derived.Shelf.Strings.Shaped
import Derived.Shelf.Strings.Split
import Derived.Shelf.Strings.SplitShaped
import Derived.Shelf.Unicode.Decode
import Derived.Shelf.Strings.RuneCount
import Derived.Shelf.Strings.Explode
import Derived.Shelf.Unicode.DecodeSlow
import Derived.Test.YtaaefkcjgkpckaaGreatDoorProg
/-
  DERIVED: THE SHELF's CONTRACTS AT THIS DUMP, IN PLAIN WORDS (tools/lay-plain.mjs out of 'TryzShelf.lean', which tools/lay-shelf.mjs wrote): THE SAME DECLARATIONS UNDER THE SAME NAMES: 'import', 'namespace', 'open', 'def', 'theorem' AND NOTHING ELSE: no command of the shelf's: FOR A HAND-IN. Each laying: the table of numbers ('.._ren') and one theorem, a field a fact of the dump's own or the kernel's comparison; each contract: ONE APPLICATION.
-/
namespace Go.Proofs
open Go.Shelf
def Tryz.aBK:Go.Shelf.Ren:=⟨fun|156=>310|165=>326|166=>327|169=>328|240=>340|241=>341|276=>362|277=>363|n=>n,fun|31=>230|9=>9|3=>3|4=>4|0=>0|20=>20|72=>311|76=>315|70=>309|37=>22|75=>314|127=>321|164=>331|5=>5|80=>317|n=>n,fun|n=>n⟩
theorem Tryz.aCW:Go.Proofs.Lays.n156 Tryz.prog Tryz.aBK:={
 mixed:=by kernel_rfl
 f156:=Tryz.func310.trans (congrArg some (by kernel_rfl))
 f165:=Tryz.func326.trans (congrArg some (by kernel_rfl))
 f166:=Tryz.func327.trans (congrArg some (by kernel_rfl))
 f169:=Tryz.func328.trans (congrArg some (by kernel_rfl))
 f240:=Tryz.func340.trans (congrArg some (by kernel_rfl))
 f241:=Tryz.func341.trans (congrArg some (by kernel_rfl))
 f276:=Tryz.func362.trans (congrArg some (by kernel_rfl))
 f277:=Tryz.func363.trans (congrArg some (by kernel_rfl))
 t0:=Tryz.underlying0
 a0:=Tryz.isAgg0
 z0:=Tryz.sizeOf0
 v0:=Tryz.zeroValue0
 t3:=Tryz.underlying3
 a3:=Tryz.isAgg3
 z3:=Tryz.sizeOf3
 v3:=Tryz.zeroValue3
 t4:=Tryz.underlying4
 a4:=Tryz.isAgg4
 z4:=Tryz.sizeOf4
 v4:=Tryz.zeroValue4
 t9:=Tryz.underlying9
 a9:=Tryz.isAgg9
 z9:=Tryz.sizeOf9
 v9:=Tryz.zeroValue9
 t20:=Tryz.underlying20
 a20:=Tryz.isAgg20
 z20:=Tryz.sizeOf20
 v20:=Tryz.zeroValue20
 t31:=Tryz.underlying230
 a31:=Tryz.isAgg230
 z31:=Tryz.sizeOf230
 v31:=Tryz.zeroValue230
 t37:=Tryz.underlying22
 a37:=Tryz.isAgg22
 z37:=Tryz.sizeOf22
 v37:=Tryz.zeroValue22
 t70:=Tryz.underlying309
 a70:=Tryz.isAgg309
 z70:=Tryz.sizeOf309
 v70:=Tryz.zeroValue309
 t72:=Tryz.underlying311
 a72:=Tryz.isAgg311
 z72:=Tryz.sizeOf311
 v72:=Tryz.zeroValue311
 t75:=Tryz.underlying314
 a75:=Tryz.isAgg314
 z75:=Tryz.sizeOf314
 v75:=Tryz.zeroValue314
 t76:=Tryz.underlying315
 a76:=Tryz.isAgg315
 z76:=Tryz.sizeOf315
 v76:=Tryz.zeroValue315
 t127:=Tryz.underlying321
 a127:=Tryz.isAgg321
 z127:=Tryz.sizeOf321
 v127:=Tryz.zeroValue321
 t164:=Tryz.underlying331
 a164:=Tryz.isAgg331
 z164:=Tryz.sizeOf331
 v164:=Tryz.zeroValue331}
theorem Tryz.aBH:Builder.Extra Tryz.prog Tryz.aBK:={
 sizeBuilder:=by kernel_rfl
 liesBuilder:=by kernel_rfl
 t5:=Tryz.underlying5
 a5:=Tryz.isAgg5
 z5:=Tryz.sizeOf5
 v5:=Tryz.zeroValue5
 infoByte:=by kernel_rfl
 cellsByte:=by kernel_rfl
 sizeByte:=by kernel_rfl
 neB5:=by decide}
open Go.RowKit in
theorem Tryz.strings_Join (bk o c:Nat)(xs:List ByteArray)(sep:ByteArray)(w:World)(hcells:∀(j:Nat) x,xs[j]? =some x→w.cell? ⟨bk,o+j,none⟩=some (.string x))(hbk:bk<w.heap.size)(hN:xs.length≤140737488355328)(hcap:xs.length≤c)(hlen:(Lib.join (xs.map (·.data.toList)) sep.data.toList).length≤140737488355328):
  Calls Tryz.prog 310 #[.slice (some ⟨bk,o,none⟩) xs.length c, .string sep] w fun e w'=>e= .returned (.string ⟨(Lib.join (xs.map (·.data.toList)) sep.data.toList).toArray⟩)∧Below w.heap.size w w':=Any.strings_Join Tryz.aCW Tryz.aBH bk o c xs sep w hcells hbk hN hcap hlen
def Tryz.aBY:Go.Shelf.Ren:=⟨fun|219=>335|217=>351|225=>352|224=>353|267=>354|266=>369|314=>370|n=>n,fun|9=>9|3=>3|4=>4|5=>5|46=>281|146=>335|51=>334|n=>n,fun|1=>0|n=>n⟩
theorem Tryz.aDB:Go.Proofs.Lays.n219 Tryz.prog Tryz.aBY:={
 mixed:=by kernel_rfl
 f217:=Tryz.func351.trans (congrArg some (by kernel_rfl))
 f219:=Tryz.func335.trans (congrArg some (by kernel_rfl))
 f224:=Tryz.func353.trans (congrArg some (by kernel_rfl))
 f225:=Tryz.func352.trans (congrArg some (by kernel_rfl))
 f266:=Tryz.func369.trans (congrArg some (by kernel_rfl))
 f267:=Tryz.func354.trans (congrArg some (by kernel_rfl))
 f314:=Tryz.func370.trans (congrArg some (by kernel_rfl))
 t3:=Tryz.underlying3
 a3:=Tryz.isAgg3
 z3:=Tryz.sizeOf3
 v3:=Tryz.zeroValue3
 t4:=Tryz.underlying4
 a4:=Tryz.isAgg4
 z4:=Tryz.sizeOf4
 v4:=Tryz.zeroValue4
 t5:=Tryz.underlying5
 a5:=Tryz.isAgg5
 z5:=Tryz.sizeOf5
 v5:=Tryz.zeroValue5
 t9:=Tryz.underlying9
 a9:=Tryz.isAgg9
 z9:=Tryz.sizeOf9
 v9:=Tryz.zeroValue9
 t46:=Tryz.underlying281
 a46:=Tryz.isAgg281
 z46:=Tryz.sizeOf281
 v46:=Tryz.zeroValue281
 t51:=Tryz.underlying334
 a51:=Tryz.isAgg334
 z51:=Tryz.sizeOf334
 v51:=Tryz.zeroValue334
 t146:=Tryz.underlying335
 a146:=Tryz.isAgg335
 z146:=Tryz.sizeOf335
 v146:=Tryz.zeroValue335
 g1:=by kernel_rfl}
open Go.RowKit Go.Lib in
theorem Tryz.stringslite_Index_one (s:ByteArray)(c:UInt8)(w:World):
  Calls Tryz.prog 335 #[.string s, .string ⟨#[c]⟩] w fun e w'=>e= .returned (.int .i64 (Lib.indexByte s.data.toList c))∧w'=w:=Any.stringslite_Index_one Tryz.aDB s c w
def Tryz.aDC:Go.Shelf.Ren:=⟨fun|221=>325|268=>338|138=>339|143=>319|195=>359|197=>360|218=>361|219=>335|260=>378|217=>351|225=>352|224=>353|267=>354|266=>369|314=>370|n=>n,fun|9=>9|3=>3|31=>230|4=>4|0=>0|105=>329|21=>21|5=>5|46=>281|119=>347|139=>350|138=>349|146=>335|51=>334|n=>n,fun|1=>0|3=>2|4=>3|n=>n⟩
def Tryz.aBW:Go.Shelf.Ren:=⟨fun|146=>309|221=>325|268=>338|138=>339|143=>319|195=>359|197=>360|218=>361|219=>335|260=>378|217=>351|225=>352|224=>353|267=>354|266=>369|314=>370|n=>n,fun|9=>9|31=>230|3=>3|4=>4|0=>0|105=>329|21=>21|5=>5|46=>281|119=>347|139=>350|138=>349|146=>335|51=>334|n=>n,fun|1=>0|3=>2|4=>3|n=>n⟩
theorem Tryz.aCV:Go.Proofs.Lays.n146 Tryz.prog Tryz.aBW:={
 mixed:=by kernel_rfl
 f138:=Tryz.func339.trans (congrArg some (by kernel_rfl))
 f143:=Tryz.func319.trans (congrArg some (by kernel_rfl))
 f146:=Tryz.func309.trans (congrArg some (by kernel_rfl))
 f195:=Tryz.func359.trans (congrArg some (by kernel_rfl))
 f197:=Tryz.func360.trans (congrArg some (by kernel_rfl))
 f217:=Tryz.func351.trans (congrArg some (by kernel_rfl))
 f218:=Tryz.func361.trans (congrArg some (by kernel_rfl))
 f219:=Tryz.func335.trans (congrArg some (by kernel_rfl))
 f221:=Tryz.func325.trans (congrArg some (by kernel_rfl))
 f224:=Tryz.func353.trans (congrArg some (by kernel_rfl))
 f225:=Tryz.func352.trans (congrArg some (by kernel_rfl))
 f260:=Tryz.func378.trans (congrArg some (by kernel_rfl))
 f266:=Tryz.func369.trans (congrArg some (by kernel_rfl))
 f267:=Tryz.func354.trans (congrArg some (by kernel_rfl))
 f268:=Tryz.func338.trans (congrArg some (by kernel_rfl))
 f314:=Tryz.func370.trans (congrArg some (by kernel_rfl))
 t0:=Tryz.underlying0
 a0:=Tryz.isAgg0
 z0:=Tryz.sizeOf0
 v0:=Tryz.zeroValue0
 t3:=Tryz.underlying3
 a3:=Tryz.isAgg3
 z3:=Tryz.sizeOf3
 v3:=Tryz.zeroValue3
 t4:=Tryz.underlying4
 a4:=Tryz.isAgg4
 z4:=Tryz.sizeOf4
 v4:=Tryz.zeroValue4
 t5:=Tryz.underlying5
 a5:=Tryz.isAgg5
 z5:=Tryz.sizeOf5
 v5:=Tryz.zeroValue5
 t9:=Tryz.underlying9
 a9:=Tryz.isAgg9
 z9:=Tryz.sizeOf9
 v9:=Tryz.zeroValue9
 t21:=Tryz.underlying21
 a21:=Tryz.isAgg21
 z21:=Tryz.sizeOf21
 v21:=Tryz.zeroValue21
 t31:=Tryz.underlying230
 a31:=Tryz.isAgg230
 z31:=Tryz.sizeOf230
 v31:=Tryz.zeroValue230
 t46:=Tryz.underlying281
 a46:=Tryz.isAgg281
 z46:=Tryz.sizeOf281
 v46:=Tryz.zeroValue281
 t51:=Tryz.underlying334
 a51:=Tryz.isAgg334
 z51:=Tryz.sizeOf334
 v51:=Tryz.zeroValue334
 t105:=Tryz.underlying329
 a105:=Tryz.isAgg329
 z105:=Tryz.sizeOf329
 v105:=Tryz.zeroValue329
 t119:=Tryz.underlying347
 a119:=Tryz.isAgg347
 z119:=Tryz.sizeOf347
 t138:=Tryz.underlying349
 a138:=Tryz.isAgg349
 z138:=Tryz.sizeOf349
 v138:=Tryz.zeroValue349
 t139:=Tryz.underlying350
 a139:=Tryz.isAgg350
 z139:=Tryz.sizeOf350
 v139:=Tryz.zeroValue350
 t146:=Tryz.underlying335
 a146:=Tryz.isAgg335
 z146:=Tryz.sizeOf335
 v146:=Tryz.zeroValue335
 g1:=by kernel_rfl
 g3:=by kernel_rfl
 g4:=by kernel_rfl}
open Go.RowKit Go.Lib in
theorem Tryz.strings_Split (s sep:ByteArray)(m:Int)(w:World)(hs:s.size<4294967281)(hm:w.cell? ⟨0,0,none⟩=some (.int .i64 m))(h1:1≤sep.size):
  Calls Tryz.prog 309 #[.string s, .string sep] w fun e w'=>
   e= .returned (.slice (some ⟨w.heap.size,0,none⟩) (Lib.countB s sep+1) (Lib.countB s sep+1))∧w'=w.alloc (.cells ((Lib.splitB sep 0 (Lib.countB s sep) s).map Value.string).toArray 9):=Any.strings_Split Tryz.aCV (by kernel_rfl) s sep m w hs hm h1
end Go.Proofs
