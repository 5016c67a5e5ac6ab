import Derived.Shelf.Strings.Builder1
import Derived.Shelf.Strings.Builder2
import Derived.Shelf.Strings.OnBuilder
import Derived.Shelf.Strings.Search1
import Derived.Shelf.Strings.Search2
import Derived.Shelf.Strings.Search3
import Derived.Shelf.Strings.Count
import Derived.Shelf.LaysM
import Derived.Shelf.Strings.Shaped
import Derived.Shelf.Strings.Split
import Derived.Shelf.Strings.SplitShaped
import Derived.Shelf.Unicode.Decode
import Derived.Shelf.Strings.RuneCount
import Derived.Shelf.Strings.Explode
import Derived.Shelf.Unicode.DecodeSlow
import Derived.Test.YtahdlpfokhapfaaGreatDoorProg
/-
  DERIVED: THE SHELF's CONTRACTS AT THIS DUMP, IN PLAIN WORDS (tools/lay-plain.mjs out of 'TryzShelf.lean', which tools/lay-shelf.mjs wrote): THE SAME DECLARATIONS UNDER THE SAME NAMES: 'import', 'namespace', 'open', 'def', 'theorem' AND NOTHING ELSE: no command of the shelf's: FOR A HAND-IN. Each laying: the table of numbers ('.._ren') and one theorem, a field a fact of the dump's own or the kernel's comparison; each contract: ONE APPLICATION.
-/
namespace Go.Proofs
open Go.Shelf
def Tryz.aBL:Go.Shelf.Ren:=⟨fun|156=>288|165=>298|166=>299|169=>300|240=>308|241=>309|276=>323|277=>324|n=>n,fun|31=>246|9=>9|3=>3|4=>4|0=>0|20=>20|72=>302|76=>306|70=>300|37=>22|75=>305|127=>317|164=>335|5=>5|80=>308|n=>n,fun|n=>n⟩
theorem Tryz.aDB:Go.Proofs.Lays.n156 Tryz.prog Tryz.aBL:={
 mixed:=by kernel_rfl
 f156:=Tryz.func288.trans (congrArg some (by kernel_rfl))
 f165:=Tryz.func298.trans (congrArg some (by kernel_rfl))
 f166:=Tryz.func299.trans (congrArg some (by kernel_rfl))
 f169:=Tryz.func300.trans (congrArg some (by kernel_rfl))
 f240:=Tryz.func308.trans (congrArg some (by kernel_rfl))
 f241:=Tryz.func309.trans (congrArg some (by kernel_rfl))
 f276:=Tryz.func323.trans (congrArg some (by kernel_rfl))
 f277:=Tryz.func324.trans (congrArg some (by kernel_rfl))
 t0:=Tryz.underlying0
 a0:=Tryz.isAgg0
 z0:=Tryz.sizeOf0
 v0:=Tryz.zeroValue0
 t3:=Tryz.underlying3
 a3:=Tryz.isAgg3
 z3:=Tryz.sizeOf3
 v3:=Tryz.zeroValue3
 t4:=Tryz.underlying4
 a4:=Tryz.isAgg4
 z4:=Tryz.sizeOf4
 v4:=Tryz.zeroValue4
 t9:=Tryz.underlying9
 a9:=Tryz.isAgg9
 z9:=Tryz.sizeOf9
 v9:=Tryz.zeroValue9
 t20:=Tryz.underlying20
 a20:=Tryz.isAgg20
 z20:=Tryz.sizeOf20
 v20:=Tryz.zeroValue20
 t31:=Tryz.underlying246
 a31:=Tryz.isAgg246
 z31:=Tryz.sizeOf246
 v31:=Tryz.zeroValue246
 t37:=Tryz.underlying22
 a37:=Tryz.isAgg22
 z37:=Tryz.sizeOf22
 v37:=Tryz.zeroValue22
 t70:=Tryz.underlying300
 a70:=Tryz.isAgg300
 z70:=Tryz.sizeOf300
 v70:=Tryz.zeroValue300
 t72:=Tryz.underlying302
 a72:=Tryz.isAgg302
 z72:=Tryz.sizeOf302
 v72:=Tryz.zeroValue302
 t75:=Tryz.underlying305
 a75:=Tryz.isAgg305
 z75:=Tryz.sizeOf305
 v75:=Tryz.zeroValue305
 t76:=Tryz.underlying306
 a76:=Tryz.isAgg306
 z76:=Tryz.sizeOf306
 v76:=Tryz.zeroValue306
 t127:=Tryz.underlying317
 a127:=Tryz.isAgg317
 z127:=Tryz.sizeOf317
 v127:=Tryz.zeroValue317
 t164:=Tryz.underlying335
 a164:=Tryz.isAgg335
 z164:=Tryz.sizeOf335
 v164:=Tryz.zeroValue335}
theorem Tryz.aBI:Builder.Extra Tryz.prog Tryz.aBL:={
 sizeBuilder:=by kernel_rfl
 liesBuilder:=by kernel_rfl
 t5:=Tryz.underlying5
 a5:=Tryz.isAgg5
 z5:=Tryz.sizeOf5
 v5:=Tryz.zeroValue5
 infoByte:=by kernel_rfl
 cellsByte:=by kernel_rfl
 sizeByte:=by kernel_rfl
 neB5:=by decide}
open Go.RowKit in
theorem Tryz.strings_Join (bk o c:Nat)(xs:List ByteArray)(sep:ByteArray)(w:World)(hcells:∀(j:Nat) x,xs[j]? =some x→w.cell? ⟨bk,o+j,none⟩=some (.string x))(hbk:bk<w.heap.size)(hN:xs.length≤140737488355328)(hcap:xs.length≤c)(hlen:(Lib.join (xs.map (·.data.toList)) sep.data.toList).length≤140737488355328):
  Calls Tryz.prog 288 #[.slice (some ⟨bk,o,none⟩) xs.length c, .string sep] w fun e w'=>e= .returned (.string ⟨(Lib.join (xs.map (·.data.toList)) sep.data.toList).toArray⟩)∧Below w.heap.size w w':=Any.strings_Join Tryz.aDB Tryz.aBI bk o c xs sep w hcells hbk hN hcap hlen
def Tryz.aBU:Go.Shelf.Ren:=⟨fun|146=>287|221=>297|268=>305|138=>306|143=>307|195=>319|197=>320|218=>321|219=>322|260=>330|217=>331|225=>332|224=>333|267=>334|266=>336|314=>337|n=>n,fun|9=>9|31=>246|3=>3|4=>4|0=>0|105=>332|21=>21|5=>5|46=>225|119=>343|139=>346|138=>345|146=>348|51=>347|n=>n,fun|1=>0|3=>1|4=>2|n=>n⟩
theorem Tryz.aDA:Go.Proofs.Lays.n146 Tryz.prog Tryz.aBU:={
 mixed:=by kernel_rfl
 f138:=Tryz.func306.trans (congrArg some (by kernel_rfl))
 f143:=Tryz.func307.trans (congrArg some (by kernel_rfl))
 f146:=Tryz.func287.trans (congrArg some (by kernel_rfl))
 f195:=Tryz.func319.trans (congrArg some (by kernel_rfl))
 f197:=Tryz.func320.trans (congrArg some (by kernel_rfl))
 f217:=Tryz.func331.trans (congrArg some (by kernel_rfl))
 f218:=Tryz.func321.trans (congrArg some (by kernel_rfl))
 f219:=Tryz.func322.trans (congrArg some (by kernel_rfl))
 f221:=Tryz.func297.trans (congrArg some (by kernel_rfl))
 f224:=Tryz.func333.trans (congrArg some (by kernel_rfl))
 f225:=Tryz.func332.trans (congrArg some (by kernel_rfl))
 f260:=Tryz.func330.trans (congrArg some (by kernel_rfl))
 f266:=Tryz.func336.trans (congrArg some (by kernel_rfl))
 f267:=Tryz.func334.trans (congrArg some (by kernel_rfl))
 f268:=Tryz.func305.trans (congrArg some (by kernel_rfl))
 f314:=Tryz.func337.trans (congrArg some (by kernel_rfl))
 t0:=Tryz.underlying0
 a0:=Tryz.isAgg0
 z0:=Tryz.sizeOf0
 v0:=Tryz.zeroValue0
 t3:=Tryz.underlying3
 a3:=Tryz.isAgg3
 z3:=Tryz.sizeOf3
 v3:=Tryz.zeroValue3
 t4:=Tryz.underlying4
 a4:=Tryz.isAgg4
 z4:=Tryz.sizeOf4
 v4:=Tryz.zeroValue4
 t5:=Tryz.underlying5
 a5:=Tryz.isAgg5
 z5:=Tryz.sizeOf5
 v5:=Tryz.zeroValue5
 t9:=Tryz.underlying9
 a9:=Tryz.isAgg9
 z9:=Tryz.sizeOf9
 v9:=Tryz.zeroValue9
 t21:=Tryz.underlying21
 a21:=Tryz.isAgg21
 z21:=Tryz.sizeOf21
 v21:=Tryz.zeroValue21
 t31:=Tryz.underlying246
 a31:=Tryz.isAgg246
 z31:=Tryz.sizeOf246
 v31:=Tryz.zeroValue246
 t46:=Tryz.underlying225
 a46:=Tryz.isAgg225
 z46:=Tryz.sizeOf225
 v46:=Tryz.zeroValue225
 t51:=Tryz.underlying347
 a51:=Tryz.isAgg347
 z51:=Tryz.sizeOf347
 v51:=Tryz.zeroValue347
 t105:=Tryz.underlying332
 a105:=Tryz.isAgg332
 z105:=Tryz.sizeOf332
 v105:=Tryz.zeroValue332
 t119:=Tryz.underlying343
 a119:=Tryz.isAgg343
 z119:=Tryz.sizeOf343
 t138:=Tryz.underlying345
 a138:=Tryz.isAgg345
 z138:=Tryz.sizeOf345
 v138:=Tryz.zeroValue345
 t139:=Tryz.underlying346
 a139:=Tryz.isAgg346
 z139:=Tryz.sizeOf346
 v139:=Tryz.zeroValue346
 t146:=Tryz.underlying348
 a146:=Tryz.isAgg348
 z146:=Tryz.sizeOf348
 v146:=Tryz.zeroValue348
 g1:=by kernel_rfl
 g3:=by kernel_rfl
 g4:=by kernel_rfl}
open Go.RowKit Go.Lib in
theorem Tryz.strings_Split (s sep:ByteArray)(m:Int)(w:World)(hs:s.size<4294967281)(hm:w.cell? ⟨0,0,none⟩=some (.int .i64 m))(h1:1≤sep.size):
  Calls Tryz.prog 287 #[.string s, .string sep] w fun e w'=>
   e= .returned (.slice (some ⟨w.heap.size,0,none⟩) (Lib.countB s sep+1) (Lib.countB s sep+1))∧w'=w.alloc (.cells ((Lib.splitB sep 0 (Lib.countB s sep) s).map Value.string).toArray 9):=Any.strings_Split Tryz.aDA (by kernel_rfl) s sep m w hs hm h1
end Go.Proofs
