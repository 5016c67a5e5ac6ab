import Derived.Shelf.Strings.Builder1
import Derived.Shelf.Strings.Builder2
import Derived.Shelf.Strings.OnBuilder
import Derived.Shelf.Strings.Search1
import Derived.Shelf.Strings.Search2
import Derived.Shelf.Strings.Search3
import Derived.Shelf.Strings.Count
import Derived.Shelf.LaysM
import Derived.Shelf.Strings.Shaped
import Derived.Shelf.Strings.Split
import Derived.Shelf.Strings.SplitShaped
import Derived.Shelf.Unicode.Decode
import Derived.Shelf.Strings.RuneCount
import Derived.Shelf.Strings.Explode
import Derived.Shelf.Unicode.DecodeSlow
import Derived.Test.YtpnhnhhcncnldaaGreatDoorProg
/-
  DERIVED: THE SHELF's CONTRACTS AT THIS DUMP, IN PLAIN WORDS (tools/lay-plain.mjs out of 'TryzShelf.lean', which tools/lay-shelf.mjs wrote): THE SAME DECLARATIONS UNDER THE SAME NAMES: 'import', 'namespace', 'open', 'def', 'theorem' AND NOTHING ELSE: no command of the shelf's: FOR A HAND-IN. Each laying: the table of numbers ('.._ren') and one theorem, a field a fact of the dump's own or the kernel's comparison; each contract: ONE APPLICATION.
-/
namespace Go.Proofs
open Go.Shelf
def Tryz.aBP:Go.Shelf.Ren:=⟨fun|156=>238|165=>268|166=>269|169=>270|240=>292|241=>293|276=>305|277=>306|n=>n,fun|31=>241|9=>9|3=>3|4=>4|0=>0|20=>20|72=>279|76=>283|70=>277|37=>22|75=>282|127=>306|164=>315|5=>5|80=>285|n=>n,fun|n=>n⟩
theorem Tryz.aDH:Go.Proofs.Lays.n156 Tryz.prog Tryz.aBP:={
 mixed:=by kernel_rfl
 f156:=Tryz.func238.trans (congrArg some (by kernel_rfl))
 f165:=Tryz.func268.trans (congrArg some (by kernel_rfl))
 f166:=Tryz.func269.trans (congrArg some (by kernel_rfl))
 f169:=Tryz.func270.trans (congrArg some (by kernel_rfl))
 f240:=Tryz.func292.trans (congrArg some (by kernel_rfl))
 f241:=Tryz.func293.trans (congrArg some (by kernel_rfl))
 f276:=Tryz.func305.trans (congrArg some (by kernel_rfl))
 f277:=Tryz.func306.trans (congrArg some (by kernel_rfl))
 t0:=Tryz.underlying0
 a0:=Tryz.isAgg0
 z0:=Tryz.sizeOf0
 v0:=Tryz.zeroValue0
 t3:=Tryz.underlying3
 a3:=Tryz.isAgg3
 z3:=Tryz.sizeOf3
 v3:=Tryz.zeroValue3
 t4:=Tryz.underlying4
 a4:=Tryz.isAgg4
 z4:=Tryz.sizeOf4
 v4:=Tryz.zeroValue4
 t9:=Tryz.underlying9
 a9:=Tryz.isAgg9
 z9:=Tryz.sizeOf9
 v9:=Tryz.zeroValue9
 t20:=Tryz.underlying20
 a20:=Tryz.isAgg20
 z20:=Tryz.sizeOf20
 v20:=Tryz.zeroValue20
 t31:=Tryz.underlying241
 a31:=Tryz.isAgg241
 z31:=Tryz.sizeOf241
 v31:=Tryz.zeroValue241
 t37:=Tryz.underlying22
 a37:=Tryz.isAgg22
 z37:=Tryz.sizeOf22
 v37:=Tryz.zeroValue22
 t70:=Tryz.underlying277
 a70:=Tryz.isAgg277
 z70:=Tryz.sizeOf277
 v70:=Tryz.zeroValue277
 t72:=Tryz.underlying279
 a72:=Tryz.isAgg279
 z72:=Tryz.sizeOf279
 v72:=Tryz.zeroValue279
 t75:=Tryz.underlying282
 a75:=Tryz.isAgg282
 z75:=Tryz.sizeOf282
 v75:=Tryz.zeroValue282
 t76:=Tryz.underlying283
 a76:=Tryz.isAgg283
 z76:=Tryz.sizeOf283
 v76:=Tryz.zeroValue283
 t127:=Tryz.underlying306
 a127:=Tryz.isAgg306
 z127:=Tryz.sizeOf306
 v127:=Tryz.zeroValue306
 t164:=Tryz.underlying315
 a164:=Tryz.isAgg315
 z164:=Tryz.sizeOf315
 v164:=Tryz.zeroValue315}
theorem Tryz.aBI:Builder.Extra Tryz.prog Tryz.aBP:={
 sizeBuilder:=by kernel_rfl
 liesBuilder:=by kernel_rfl
 t5:=Tryz.underlying5
 a5:=Tryz.isAgg5
 z5:=Tryz.sizeOf5
 v5:=Tryz.zeroValue5
 infoByte:=by kernel_rfl
 cellsByte:=by kernel_rfl
 sizeByte:=by kernel_rfl
 neB5:=by decide}
open Go.RowKit in
theorem Tryz.strings_Join (bk o c:Nat)(xs:List ByteArray)(sep:ByteArray)(w:World)(hcells:∀(j:Nat) x,xs[j]? =some x→w.cell? ⟨bk,o+j,none⟩=some (.string x))(hbk:bk<w.heap.size)(hN:xs.length≤140737488355328)(hcap:xs.length≤c)(hlen:(Lib.join (xs.map (·.data.toList)) sep.data.toList).length≤140737488355328):
  Calls Tryz.prog 238 #[.slice (some ⟨bk,o,none⟩) xs.length c, .string sep] w fun e w'=>e= .returned (.string ⟨(Lib.join (xs.map (·.data.toList)) sep.data.toList).toArray⟩)∧Below w.heap.size w w':=Any.strings_Join Tryz.aDH Tryz.aBI bk o c xs sep w hcells hbk hN hcap hlen
def Tryz.aCD:Go.Shelf.Ren:=⟨fun|146=>237|221=>267|268=>289|138=>290|143=>291|195=>301|197=>302|218=>303|219=>304|260=>309|217=>310|225=>311|224=>312|267=>313|266=>315|314=>316|n=>n,fun|9=>9|31=>241|3=>3|4=>4|0=>0|105=>312|21=>21|5=>5|46=>195|119=>322|139=>325|138=>324|146=>327|51=>326|n=>n,fun|1=>0|3=>1|4=>2|n=>n⟩
theorem Tryz.aDG:Go.Proofs.Lays.n146 Tryz.prog Tryz.aCD:={
 mixed:=by kernel_rfl
 f138:=Tryz.func290.trans (congrArg some (by kernel_rfl))
 f143:=Tryz.func291.trans (congrArg some (by kernel_rfl))
 f146:=Tryz.func237.trans (congrArg some (by kernel_rfl))
 f195:=Tryz.func301.trans (congrArg some (by kernel_rfl))
 f197:=Tryz.func302.trans (congrArg some (by kernel_rfl))
 f217:=Tryz.func310.trans (congrArg some (by kernel_rfl))
 f218:=Tryz.func303.trans (congrArg some (by kernel_rfl))
 f219:=Tryz.func304.trans (congrArg some (by kernel_rfl))
 f221:=Tryz.func267.trans (congrArg some (by kernel_rfl))
 f224:=Tryz.func312.trans (congrArg some (by kernel_rfl))
 f225:=Tryz.func311.trans (congrArg some (by kernel_rfl))
 f260:=Tryz.func309.trans (congrArg some (by kernel_rfl))
 f266:=Tryz.func315.trans (congrArg some (by kernel_rfl))
 f267:=Tryz.func313.trans (congrArg some (by kernel_rfl))
 f268:=Tryz.func289.trans (congrArg some (by kernel_rfl))
 f314:=Tryz.func316.trans (congrArg some (by kernel_rfl))
 t0:=Tryz.underlying0
 a0:=Tryz.isAgg0
 z0:=Tryz.sizeOf0
 v0:=Tryz.zeroValue0
 t3:=Tryz.underlying3
 a3:=Tryz.isAgg3
 z3:=Tryz.sizeOf3
 v3:=Tryz.zeroValue3
 t4:=Tryz.underlying4
 a4:=Tryz.isAgg4
 z4:=Tryz.sizeOf4
 v4:=Tryz.zeroValue4
 t5:=Tryz.underlying5
 a5:=Tryz.isAgg5
 z5:=Tryz.sizeOf5
 v5:=Tryz.zeroValue5
 t9:=Tryz.underlying9
 a9:=Tryz.isAgg9
 z9:=Tryz.sizeOf9
 v9:=Tryz.zeroValue9
 t21:=Tryz.underlying21
 a21:=Tryz.isAgg21
 z21:=Tryz.sizeOf21
 v21:=Tryz.zeroValue21
 t31:=Tryz.underlying241
 a31:=Tryz.isAgg241
 z31:=Tryz.sizeOf241
 v31:=Tryz.zeroValue241
 t46:=Tryz.underlying195
 a46:=Tryz.isAgg195
 z46:=Tryz.sizeOf195
 v46:=Tryz.zeroValue195
 t51:=Tryz.underlying326
 a51:=Tryz.isAgg326
 z51:=Tryz.sizeOf326
 v51:=Tryz.zeroValue326
 t105:=Tryz.underlying312
 a105:=Tryz.isAgg312
 z105:=Tryz.sizeOf312
 v105:=Tryz.zeroValue312
 t119:=Tryz.underlying322
 a119:=Tryz.isAgg322
 z119:=Tryz.sizeOf322
 t138:=Tryz.underlying324
 a138:=Tryz.isAgg324
 z138:=Tryz.sizeOf324
 v138:=Tryz.zeroValue324
 t139:=Tryz.underlying325
 a139:=Tryz.isAgg325
 z139:=Tryz.sizeOf325
 v139:=Tryz.zeroValue325
 t146:=Tryz.underlying327
 a146:=Tryz.isAgg327
 z146:=Tryz.sizeOf327
 v146:=Tryz.zeroValue327
 g1:=by kernel_rfl
 g3:=by kernel_rfl
 g4:=by kernel_rfl}
open Go.RowKit Go.Lib in
theorem Tryz.strings_Split (s sep:ByteArray)(m:Int)(w:World)(hs:s.size<4294967281)(hm:w.cell? ⟨0,0,none⟩=some (.int .i64 m))(h1:1≤sep.size):
  Calls Tryz.prog 237 #[.string s, .string sep] w fun e w'=>
   e= .returned (.slice (some ⟨w.heap.size,0,none⟩) (Lib.countB s sep+1) (Lib.countB s sep+1))∧w'=w.alloc (.cells ((Lib.splitB sep 0 (Lib.countB s sep) s).map Value.string).toArray 9):=Any.strings_Split Tryz.aDG (by kernel_rfl) s sep m w hs hm h1
end Go.Proofs
