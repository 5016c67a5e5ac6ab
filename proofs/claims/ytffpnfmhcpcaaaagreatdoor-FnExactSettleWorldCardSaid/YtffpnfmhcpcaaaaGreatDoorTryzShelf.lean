import Derived.Shelf.Strings.Builder1
import Derived.Shelf.Strings.Builder2
import Derived.Shelf.Strings.OnBuilder
import Derived.Shelf.Utf8.RuneCount
import Derived.Shelf.Strings.Search1
import Derived.Shelf.Strings.Search2
import Derived.Shelf.Strings.Search3
import Derived.Shelf.Strings.Count
import Derived.Shelf.LaysM
import Derived.Shelf.Strings.Shaped
import Derived.Shelf.Strings.Split
import Derived.Shelf.Strings.SplitShaped
import Derived.Shelf.Unicode.Decode
import Derived.Shelf.Strings.RuneCount
import Derived.Shelf.Strings.Explode
import Derived.Shelf.Unicode.DecodeSlow
import Derived.Shelf.Unicode.DecodeAny
import Derived.Test.YtffpnfmhcpcaaaaGreatDoorProg
/-
  DERIVED: THE SHELF's CONTRACTS AT THIS DUMP, IN PLAIN WORDS (tools/lay-plain.mjs out of 'TryzShelf.lean', which tools/lay-shelf.mjs wrote): THE SAME DECLARATIONS UNDER THE SAME NAMES: 'import', 'namespace', 'open', 'def', 'theorem' AND NOTHING ELSE: no command of the shelf's: FOR A HAND-IN. Each laying: the table of numbers ('.._ren') and one theorem, a field a fact of the dump's own or the kernel's comparison; each contract: ONE APPLICATION.
-/
namespace Go.Proofs
open Go.Shelf
def Tryz.lays156_ren:Go.Shelf.Ren:=⟨fun|156=>293|165=>307|166=>308|169=>309|240=>315|241=>316|276=>321|277=>322|n=>n,fun|31=>301|9=>9|3=>3|4=>4|0=>0|20=>20|72=>334|76=>338|70=>332|37=>134|75=>337|127=>343|164=>348|5=>5|80=>340|n=>n,fun|n=>n⟩
theorem Tryz.lays156:Go.Proofs.Lays.n156 Tryz.prog Tryz.lays156_ren:={
 mixed:=by kernel_rfl
 f156:=Tryz.func293.trans (congrArg some (by kernel_rfl))
 f165:=Tryz.func307.trans (congrArg some (by kernel_rfl))
 f166:=Tryz.func308.trans (congrArg some (by kernel_rfl))
 f169:=Tryz.func309.trans (congrArg some (by kernel_rfl))
 f240:=Tryz.func315.trans (congrArg some (by kernel_rfl))
 f241:=Tryz.func316.trans (congrArg some (by kernel_rfl))
 f276:=Tryz.func321.trans (congrArg some (by kernel_rfl))
 f277:=Tryz.func322.trans (congrArg some (by kernel_rfl))
 t0:=Tryz.underlying0
 a0:=Tryz.isAgg0
 z0:=Tryz.sizeOf0
 v0:=Tryz.zeroValue0
 t3:=Tryz.underlying3
 a3:=Tryz.isAgg3
 z3:=Tryz.sizeOf3
 v3:=Tryz.zeroValue3
 t4:=Tryz.underlying4
 a4:=Tryz.isAgg4
 z4:=Tryz.sizeOf4
 v4:=Tryz.zeroValue4
 t9:=Tryz.underlying9
 a9:=Tryz.isAgg9
 z9:=Tryz.sizeOf9
 v9:=Tryz.zeroValue9
 t20:=Tryz.underlying20
 a20:=Tryz.isAgg20
 z20:=Tryz.sizeOf20
 v20:=Tryz.zeroValue20
 t31:=Tryz.underlying301
 a31:=Tryz.isAgg301
 z31:=Tryz.sizeOf301
 v31:=Tryz.zeroValue301
 t37:=Tryz.underlying134
 a37:=Tryz.isAgg134
 z37:=Tryz.sizeOf134
 v37:=Tryz.zeroValue134
 t70:=Tryz.underlying332
 a70:=Tryz.isAgg332
 z70:=Tryz.sizeOf332
 v70:=Tryz.zeroValue332
 t72:=Tryz.underlying334
 a72:=Tryz.isAgg334
 z72:=Tryz.sizeOf334
 v72:=Tryz.zeroValue334
 t75:=Tryz.underlying337
 a75:=Tryz.isAgg337
 z75:=Tryz.sizeOf337
 v75:=Tryz.zeroValue337
 t76:=Tryz.underlying338
 a76:=Tryz.isAgg338
 z76:=Tryz.sizeOf338
 v76:=Tryz.zeroValue338
 t127:=Tryz.underlying343
 a127:=Tryz.isAgg343
 z127:=Tryz.sizeOf343
 v127:=Tryz.zeroValue343
 t164:=Tryz.underlying348
 a164:=Tryz.isAgg348
 z164:=Tryz.sizeOf348
 v164:=Tryz.zeroValue348}
theorem Tryz.Builder_Extra_156:Builder.Extra Tryz.prog Tryz.lays156_ren:={
 sizeBuilder:=by kernel_rfl
 liesBuilder:=by kernel_rfl
 t5:=Tryz.underlying5
 a5:=Tryz.isAgg5
 z5:=Tryz.sizeOf5
 v5:=Tryz.zeroValue5
 infoByte:=by kernel_rfl
 cellsByte:=by kernel_rfl
 sizeByte:=by kernel_rfl
 neB5:=by decide}
open Go.RowKit in
theorem Tryz.strings_Join (bk o c:Nat)(xs:List ByteArray)(sep:ByteArray)(w:World)(hcells:∀(j:Nat) x,xs[j]? =some x→w.cell? ⟨bk,o+j,none⟩=some (.string x))(hbk:bk<w.heap.size)(hN:xs.length≤140737488355328)(hcap:xs.length≤c)(hlen:(Lib.join (xs.map (·.data.toList)) sep.data.toList).length≤140737488355328):
  Calls Tryz.prog 293 #[.slice (some ⟨bk,o,none⟩) xs.length c, .string sep] w fun e w'=>e= .returned (.string ⟨(Lib.join (xs.map (·.data.toList)) sep.data.toList).toArray⟩)∧Below w.heap.size w w':=Any.strings_Join Tryz.lays156 Tryz.Builder_Extra_156 bk o c xs sep w hcells hbk hN hcap hlen
def Tryz.lays146_ren:Go.Shelf.Ren:=⟨fun|146=>292|221=>306|268=>312|138=>313|143=>314|195=>317|197=>318|218=>319|219=>320|260=>323|217=>324|225=>325|224=>326|267=>327|266=>328|314=>329|n=>n,fun|9=>9|31=>301|3=>3|4=>4|0=>0|105=>345|21=>21|5=>5|46=>330|119=>351|139=>354|138=>353|146=>356|51=>355|n=>n,fun|1=>0|3=>1|4=>2|n=>n⟩
theorem Tryz.lays146:Go.Proofs.Lays.n146 Tryz.prog Tryz.lays146_ren:={
 mixed:=by kernel_rfl
 f138:=Tryz.func313.trans (congrArg some (by kernel_rfl))
 f143:=Tryz.func314.trans (congrArg some (by kernel_rfl))
 f146:=Tryz.func292.trans (congrArg some (by kernel_rfl))
 f195:=Tryz.func317.trans (congrArg some (by kernel_rfl))
 f197:=Tryz.func318.trans (congrArg some (by kernel_rfl))
 f217:=Tryz.func324.trans (congrArg some (by kernel_rfl))
 f218:=Tryz.func319.trans (congrArg some (by kernel_rfl))
 f219:=Tryz.func320.trans (congrArg some (by kernel_rfl))
 f221:=Tryz.func306.trans (congrArg some (by kernel_rfl))
 f224:=Tryz.func326.trans (congrArg some (by kernel_rfl))
 f225:=Tryz.func325.trans (congrArg some (by kernel_rfl))
 f260:=Tryz.func323.trans (congrArg some (by kernel_rfl))
 f266:=Tryz.func328.trans (congrArg some (by kernel_rfl))
 f267:=Tryz.func327.trans (congrArg some (by kernel_rfl))
 f268:=Tryz.func312.trans (congrArg some (by kernel_rfl))
 f314:=Tryz.func329.trans (congrArg some (by kernel_rfl))
 t0:=Tryz.underlying0
 a0:=Tryz.isAgg0
 z0:=Tryz.sizeOf0
 v0:=Tryz.zeroValue0
 t3:=Tryz.underlying3
 a3:=Tryz.isAgg3
 z3:=Tryz.sizeOf3
 v3:=Tryz.zeroValue3
 t4:=Tryz.underlying4
 a4:=Tryz.isAgg4
 z4:=Tryz.sizeOf4
 v4:=Tryz.zeroValue4
 t5:=Tryz.underlying5
 a5:=Tryz.isAgg5
 z5:=Tryz.sizeOf5
 v5:=Tryz.zeroValue5
 t9:=Tryz.underlying9
 a9:=Tryz.isAgg9
 z9:=Tryz.sizeOf9
 v9:=Tryz.zeroValue9
 t21:=Tryz.underlying21
 a21:=Tryz.isAgg21
 z21:=Tryz.sizeOf21
 v21:=Tryz.zeroValue21
 t31:=Tryz.underlying301
 a31:=Tryz.isAgg301
 z31:=Tryz.sizeOf301
 v31:=Tryz.zeroValue301
 t46:=Tryz.underlying330
 a46:=Tryz.isAgg330
 z46:=Tryz.sizeOf330
 v46:=Tryz.zeroValue330
 t51:=Tryz.underlying355
 a51:=Tryz.isAgg355
 z51:=Tryz.sizeOf355
 v51:=Tryz.zeroValue355
 t105:=Tryz.underlying345
 a105:=Tryz.isAgg345
 z105:=Tryz.sizeOf345
 v105:=Tryz.zeroValue345
 t119:=Tryz.underlying351
 a119:=Tryz.isAgg351
 z119:=Tryz.sizeOf351
 t138:=Tryz.underlying353
 a138:=Tryz.isAgg353
 z138:=Tryz.sizeOf353
 v138:=Tryz.zeroValue353
 t139:=Tryz.underlying354
 a139:=Tryz.isAgg354
 z139:=Tryz.sizeOf354
 v139:=Tryz.zeroValue354
 t146:=Tryz.underlying356
 a146:=Tryz.isAgg356
 z146:=Tryz.sizeOf356
 v146:=Tryz.zeroValue356
 g1:=by kernel_rfl
 g3:=by kernel_rfl
 g4:=by kernel_rfl}
open Go.RowKit Go.Lib in
theorem Tryz.strings_Split (s sep:ByteArray)(m:Int)(w:World)(hs:s.size<4294967281)(hm:w.cell? ⟨0,0,none⟩=some (.int .i64 m))(h1:1≤sep.size):
  Calls Tryz.prog 292 #[.string s, .string sep] w fun e w'=>
   e= .returned (.slice (some ⟨w.heap.size,0,none⟩) (Lib.countB s sep+1) (Lib.countB s sep+1))∧w'=w.alloc (.cells ((Lib.splitB sep 0 (Lib.countB s sep) s).map Value.string).toArray 9):=Any.strings_Split Tryz.lays146 (by kernel_rfl) s sep m w hs hm h1
end Go.Proofs
