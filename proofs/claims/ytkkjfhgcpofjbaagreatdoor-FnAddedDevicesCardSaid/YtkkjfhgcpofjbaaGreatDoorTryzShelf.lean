import Derived.Shelf.Strings.Builder1
import Derived.Shelf.Strings.Builder2
import Derived.Shelf.Strings.OnBuilder
import Derived.Shelf.Utf8.RuneCount
import Derived.Shelf.Strings.Search1
import Derived.Shelf.Strings.Search2
import Derived.Shelf.Strings.Search3
import Derived.Shelf.Strings.Count
import Derived.Shelf.LaysM
import Derived.Shelf.Strings.Shaped
import Derived.Shelf.Strings.Split
import Derived.Shelf.Strings.SplitShaped
import Derived.Shelf.Unicode.Decode
import Derived.Shelf.Strings.RuneCount
import Derived.Shelf.Strings.Explode
import Derived.Shelf.Unicode.DecodeSlow
import Derived.Shelf.Unicode.DecodeAny
import Derived.Test.YtkkjfhgcpofjbaaGreatDoorProg
/-
  DERIVED: THE SHELF's CONTRACTS AT THIS DUMP, IN PLAIN WORDS (tools/lay-plain.mjs out of 'TryzShelf.lean', which tools/lay-shelf.mjs wrote): THE SAME DECLARATIONS UNDER THE SAME NAMES: 'import', 'namespace', 'open', 'def', 'theorem' AND NOTHING ELSE: no command of the shelf's: FOR A HAND-IN. Each laying: the table of numbers ('.._ren') and one theorem, a field a fact of the dump's own or the kernel's comparison; each contract: ONE APPLICATION.
-/
namespace Go.Proofs
open Go.Shelf
def Tryz.aBK:Go.Shelf.Ren:=⟨fun|156=>227|165=>273|166=>274|169=>275|240=>293|241=>294|276=>308|277=>309|n=>n,fun|31=>207|9=>9|3=>3|4=>4|0=>0|20=>20|72=>276|76=>280|70=>274|37=>22|75=>279|127=>295|164=>305|5=>5|80=>282|n=>n,fun|n=>n⟩
theorem Tryz.aCY:Go.Proofs.Lays.n156 Tryz.prog Tryz.aBK:={
 mixed:=by kernel_rfl
 f156:=Tryz.func227.trans (congrArg some (by kernel_rfl))
 f165:=Tryz.func273.trans (congrArg some (by kernel_rfl))
 f166:=Tryz.func274.trans (congrArg some (by kernel_rfl))
 f169:=Tryz.func275.trans (congrArg some (by kernel_rfl))
 f240:=Tryz.func293.trans (congrArg some (by kernel_rfl))
 f241:=Tryz.func294.trans (congrArg some (by kernel_rfl))
 f276:=Tryz.func308.trans (congrArg some (by kernel_rfl))
 f277:=Tryz.func309.trans (congrArg some (by kernel_rfl))
 t0:=Tryz.underlying0
 a0:=Tryz.isAgg0
 z0:=Tryz.sizeOf0
 v0:=Tryz.zeroValue0
 t3:=Tryz.underlying3
 a3:=Tryz.isAgg3
 z3:=Tryz.sizeOf3
 v3:=Tryz.zeroValue3
 t4:=Tryz.underlying4
 a4:=Tryz.isAgg4
 z4:=Tryz.sizeOf4
 v4:=Tryz.zeroValue4
 t9:=Tryz.underlying9
 a9:=Tryz.isAgg9
 z9:=Tryz.sizeOf9
 v9:=Tryz.zeroValue9
 t20:=Tryz.underlying20
 a20:=Tryz.isAgg20
 z20:=Tryz.sizeOf20
 v20:=Tryz.zeroValue20
 t31:=Tryz.underlying207
 a31:=Tryz.isAgg207
 z31:=Tryz.sizeOf207
 v31:=Tryz.zeroValue207
 t37:=Tryz.underlying22
 a37:=Tryz.isAgg22
 z37:=Tryz.sizeOf22
 v37:=Tryz.zeroValue22
 t70:=Tryz.underlying274
 a70:=Tryz.isAgg274
 z70:=Tryz.sizeOf274
 v70:=Tryz.zeroValue274
 t72:=Tryz.underlying276
 a72:=Tryz.isAgg276
 z72:=Tryz.sizeOf276
 v72:=Tryz.zeroValue276
 t75:=Tryz.underlying279
 a75:=Tryz.isAgg279
 z75:=Tryz.sizeOf279
 v75:=Tryz.zeroValue279
 t76:=Tryz.underlying280
 a76:=Tryz.isAgg280
 z76:=Tryz.sizeOf280
 v76:=Tryz.zeroValue280
 t127:=Tryz.underlying295
 a127:=Tryz.isAgg295
 z127:=Tryz.sizeOf295
 v127:=Tryz.zeroValue295
 t164:=Tryz.underlying305
 a164:=Tryz.isAgg305
 z164:=Tryz.sizeOf305
 v164:=Tryz.zeroValue305}
theorem Tryz.aBG:Builder.Extra Tryz.prog Tryz.aBK:={
 sizeBuilder:=by kernel_rfl
 liesBuilder:=by kernel_rfl
 t5:=Tryz.underlying5
 a5:=Tryz.isAgg5
 z5:=Tryz.sizeOf5
 v5:=Tryz.zeroValue5
 infoByte:=by kernel_rfl
 cellsByte:=by kernel_rfl
 sizeByte:=by kernel_rfl
 neB5:=by decide}
open Go.RowKit in
theorem Tryz.strings_Join (bk o c:Nat)(xs:List ByteArray)(sep:ByteArray)(w:World)(hcells:∀(j:Nat) x,xs[j]? =some x→w.cell? ⟨bk,o+j,none⟩=some (.string x))(hbk:bk<w.heap.size)(hN:xs.length≤140737488355328)(hcap:xs.length≤c)(hlen:(Lib.join (xs.map (·.data.toList)) sep.data.toList).length≤140737488355328):
  Calls Tryz.prog 227 #[.slice (some ⟨bk,o,none⟩) xs.length c, .string sep] w fun e w'=>e= .returned (.string ⟨(Lib.join (xs.map (·.data.toList)) sep.data.toList).toArray⟩)∧Below w.heap.size w w':=Any.strings_Join Tryz.aCY Tryz.aBG bk o c xs sep w hcells hbk hN hcap hlen
def Tryz.aBY:Go.Shelf.Ren:=⟨fun|146=>226|221=>272|268=>290|138=>291|143=>292|195=>304|197=>305|218=>306|219=>307|260=>314|217=>315|225=>316|224=>317|267=>318|266=>322|314=>323|n=>n,fun|9=>9|31=>207|3=>3|4=>4|0=>0|105=>302|21=>21|5=>5|46=>245|119=>310|139=>313|138=>312|146=>315|51=>314|n=>n,fun|1=>0|3=>1|4=>2|n=>n⟩
theorem Tryz.aCX:Go.Proofs.Lays.n146 Tryz.prog Tryz.aBY:={
 mixed:=by kernel_rfl
 f138:=Tryz.func291.trans (congrArg some (by kernel_rfl))
 f143:=Tryz.func292.trans (congrArg some (by kernel_rfl))
 f146:=Tryz.func226.trans (congrArg some (by kernel_rfl))
 f195:=Tryz.func304.trans (congrArg some (by kernel_rfl))
 f197:=Tryz.func305.trans (congrArg some (by kernel_rfl))
 f217:=Tryz.func315.trans (congrArg some (by kernel_rfl))
 f218:=Tryz.func306.trans (congrArg some (by kernel_rfl))
 f219:=Tryz.func307.trans (congrArg some (by kernel_rfl))
 f221:=Tryz.func272.trans (congrArg some (by kernel_rfl))
 f224:=Tryz.func317.trans (congrArg some (by kernel_rfl))
 f225:=Tryz.func316.trans (congrArg some (by kernel_rfl))
 f260:=Tryz.func314.trans (congrArg some (by kernel_rfl))
 f266:=Tryz.func322.trans (congrArg some (by kernel_rfl))
 f267:=Tryz.func318.trans (congrArg some (by kernel_rfl))
 f268:=Tryz.func290.trans (congrArg some (by kernel_rfl))
 f314:=Tryz.func323.trans (congrArg some (by kernel_rfl))
 t0:=Tryz.underlying0
 a0:=Tryz.isAgg0
 z0:=Tryz.sizeOf0
 v0:=Tryz.zeroValue0
 t3:=Tryz.underlying3
 a3:=Tryz.isAgg3
 z3:=Tryz.sizeOf3
 v3:=Tryz.zeroValue3
 t4:=Tryz.underlying4
 a4:=Tryz.isAgg4
 z4:=Tryz.sizeOf4
 v4:=Tryz.zeroValue4
 t5:=Tryz.underlying5
 a5:=Tryz.isAgg5
 z5:=Tryz.sizeOf5
 v5:=Tryz.zeroValue5
 t9:=Tryz.underlying9
 a9:=Tryz.isAgg9
 z9:=Tryz.sizeOf9
 v9:=Tryz.zeroValue9
 t21:=Tryz.underlying21
 a21:=Tryz.isAgg21
 z21:=Tryz.sizeOf21
 v21:=Tryz.zeroValue21
 t31:=Tryz.underlying207
 a31:=Tryz.isAgg207
 z31:=Tryz.sizeOf207
 v31:=Tryz.zeroValue207
 t46:=Tryz.underlying245
 a46:=Tryz.isAgg245
 z46:=Tryz.sizeOf245
 v46:=Tryz.zeroValue245
 t51:=Tryz.underlying314
 a51:=Tryz.isAgg314
 z51:=Tryz.sizeOf314
 v51:=Tryz.zeroValue314
 t105:=Tryz.underlying302
 a105:=Tryz.isAgg302
 z105:=Tryz.sizeOf302
 v105:=Tryz.zeroValue302
 t119:=Tryz.underlying310
 a119:=Tryz.isAgg310
 z119:=Tryz.sizeOf310
 t138:=Tryz.underlying312
 a138:=Tryz.isAgg312
 z138:=Tryz.sizeOf312
 v138:=Tryz.zeroValue312
 t139:=Tryz.underlying313
 a139:=Tryz.isAgg313
 z139:=Tryz.sizeOf313
 v139:=Tryz.zeroValue313
 t146:=Tryz.underlying315
 a146:=Tryz.isAgg315
 z146:=Tryz.sizeOf315
 v146:=Tryz.zeroValue315
 g1:=by kernel_rfl
 g3:=by kernel_rfl
 g4:=by kernel_rfl}
open Go.RowKit Go.Lib in
theorem Tryz.strings_Split (s sep:ByteArray)(m:Int)(w:World)(hs:s.size<4294967281)(hm:w.cell? ⟨0,0,none⟩=some (.int .i64 m))(h1:1≤sep.size):
  Calls Tryz.prog 226 #[.string s, .string sep] w fun e w'=>
   e= .returned (.slice (some ⟨w.heap.size,0,none⟩) (Lib.countB s sep+1) (Lib.countB s sep+1))∧w'=w.alloc (.cells ((Lib.splitB sep 0 (Lib.countB s sep) s).map Value.string).toArray 9):=Any.strings_Split Tryz.aCX (by kernel_rfl) s sep m w hs hm h1
end Go.Proofs
