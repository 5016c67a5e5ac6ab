import Derived.Shelf.Strings.Builder1
import Derived.Shelf.Strings.Builder2
import Derived.Shelf.Strings.OnBuilder
import Derived.Shelf.Utf8.RuneCount
import Derived.Shelf.Strconv.Itoa0
import Derived.Shelf.Strconv.Itoa1
import Derived.Shelf.LaysM
import Derived.Shelf.Strconv.Itoa2
import Derived.Shelf.Strconv.Itoa3
import Derived.Shelf.Strings.Search1
import Derived.Shelf.Strings.Search2
import Derived.Shelf.Strings.Search3
import Derived.Shelf.Strings.Cut
import Derived.Shelf.Strings.Count
import Derived.Shelf.Strings.Shaped
import Derived.Shelf.Strings.Split
import Derived.Shelf.Strings.SplitShaped
import Derived.Shelf.Unicode.Decode
import Derived.Shelf.Strings.RuneCount
import Derived.Shelf.Strings.Explode
import Derived.Shelf.Unicode.DecodeSlow
import Derived.Shelf.Unicode.DecodeAny
import Derived.Test.YtbaeclcknbiehaaGreatDoorProg
/-
  DERIVED: THE SHELF's CONTRACTS AT THIS DUMP, IN PLAIN WORDS (tools/lay-plain.mjs out of 'TryzShelf.lean', which tools/lay-shelf.mjs wrote): THE SAME DECLARATIONS UNDER THE SAME NAMES: 'import', 'namespace', 'open', 'def', 'theorem' AND NOTHING ELSE: no command of the shelf's: FOR A HAND-IN. Each laying: the table of numbers ('.._ren') and one theorem, a field a fact of the dump's own or the kernel's comparison; each contract: ONE APPLICATION.
-/
namespace Go.Proofs
open Go.Shelf
def Tryz.aBJ:Go.Shelf.Ren:=⟨fun|156=>297|165=>353|166=>354|169=>355|240=>403|241=>404|276=>421|277=>422|n=>n,fun|31=>95|9=>9|3=>3|4=>4|0=>0|20=>20|72=>320|76=>324|70=>318|37=>22|75=>323|127=>342|164=>348|5=>5|80=>326|n=>n,fun|n=>n⟩
theorem Tryz.aCU:Go.Proofs.Lays.n156 Tryz.prog Tryz.aBJ:={
 mixed:=by kernel_rfl
 f156:=Tryz.func297.trans (congrArg some (by kernel_rfl))
 f165:=Tryz.func353.trans (congrArg some (by kernel_rfl))
 f166:=Tryz.func354.trans (congrArg some (by kernel_rfl))
 f169:=Tryz.func355.trans (congrArg some (by kernel_rfl))
 f240:=Tryz.func403.trans (congrArg some (by kernel_rfl))
 f241:=Tryz.func404.trans (congrArg some (by kernel_rfl))
 f276:=Tryz.func421.trans (congrArg some (by kernel_rfl))
 f277:=Tryz.func422.trans (congrArg some (by kernel_rfl))
 t0:=Tryz.underlying0
 a0:=Tryz.isAgg0
 z0:=Tryz.sizeOf0
 v0:=Tryz.zeroValue0
 t3:=Tryz.underlying3
 a3:=Tryz.isAgg3
 z3:=Tryz.sizeOf3
 v3:=Tryz.zeroValue3
 t4:=Tryz.underlying4
 a4:=Tryz.isAgg4
 z4:=Tryz.sizeOf4
 v4:=Tryz.zeroValue4
 t9:=Tryz.underlying9
 a9:=Tryz.isAgg9
 z9:=Tryz.sizeOf9
 v9:=Tryz.zeroValue9
 t20:=Tryz.underlying20
 a20:=Tryz.isAgg20
 z20:=Tryz.sizeOf20
 v20:=Tryz.zeroValue20
 t31:=Tryz.underlying95
 a31:=Tryz.isAgg95
 z31:=Tryz.sizeOf95
 v31:=Tryz.zeroValue95
 t37:=Tryz.underlying22
 a37:=Tryz.isAgg22
 z37:=Tryz.sizeOf22
 v37:=Tryz.zeroValue22
 t70:=Tryz.underlying318
 a70:=Tryz.isAgg318
 z70:=Tryz.sizeOf318
 v70:=Tryz.zeroValue318
 t72:=Tryz.underlying320
 a72:=Tryz.isAgg320
 z72:=Tryz.sizeOf320
 v72:=Tryz.zeroValue320
 t75:=Tryz.underlying323
 a75:=Tryz.isAgg323
 z75:=Tryz.sizeOf323
 v75:=Tryz.zeroValue323
 t76:=Tryz.underlying324
 a76:=Tryz.isAgg324
 z76:=Tryz.sizeOf324
 v76:=Tryz.zeroValue324
 t127:=Tryz.underlying342
 a127:=Tryz.isAgg342
 z127:=Tryz.sizeOf342
 v127:=Tryz.zeroValue342
 t164:=Tryz.underlying348
 a164:=Tryz.isAgg348
 z164:=Tryz.sizeOf348
 v164:=Tryz.zeroValue348}
theorem Tryz.aBG:Builder.Extra Tryz.prog Tryz.aBJ:={
 sizeBuilder:=by kernel_rfl
 liesBuilder:=by kernel_rfl
 t5:=Tryz.underlying5
 a5:=Tryz.isAgg5
 z5:=Tryz.sizeOf5
 v5:=Tryz.zeroValue5
 infoByte:=by kernel_rfl
 cellsByte:=by kernel_rfl
 sizeByte:=by kernel_rfl
 neB5:=by decide}
open Go.RowKit in
theorem Tryz.strings_Join (bk o c:Nat)(xs:List ByteArray)(sep:ByteArray)(w:World)(hcells:∀(j:Nat) x,xs[j]? =some x→w.cell? ⟨bk,o+j,none⟩=some (.string x))(hbk:bk<w.heap.size)(hN:xs.length≤140737488355328)(hcap:xs.length≤c)(hlen:(Lib.join (xs.map (·.data.toList)) sep.data.toList).length≤140737488355328):
  Calls Tryz.prog 297 #[.slice (some ⟨bk,o,none⟩) xs.length c, .string sep] w fun e w'=>e= .returned (.string ⟨(Lib.join (xs.map (·.data.toList)) sep.data.toList).toArray⟩)∧Below w.heap.size w w':=Any.strings_Join Tryz.aCU Tryz.aBG bk o c xs sep w hcells hbk hN hcap hlen
def Tryz.aBW:Go.Shelf.Ren:=⟨fun|219=>420|217=>428|225=>429|224=>430|267=>431|266=>437|314=>438|n=>n,fun|9=>9|3=>3|4=>4|5=>5|46=>173|146=>364|51=>363|n=>n,fun|1=>0|n=>n⟩
theorem Tryz.aCV:Go.Proofs.Lays.n219 Tryz.prog Tryz.aBW:={
 mixed:=by kernel_rfl
 f217:=Tryz.func428.trans (congrArg some (by kernel_rfl))
 f219:=Tryz.func420.trans (congrArg some (by kernel_rfl))
 f224:=Tryz.func430.trans (congrArg some (by kernel_rfl))
 f225:=Tryz.func429.trans (congrArg some (by kernel_rfl))
 f266:=Tryz.func437.trans (congrArg some (by kernel_rfl))
 f267:=Tryz.func431.trans (congrArg some (by kernel_rfl))
 f314:=Tryz.func438.trans (congrArg some (by kernel_rfl))
 t3:=Tryz.underlying3
 a3:=Tryz.isAgg3
 z3:=Tryz.sizeOf3
 v3:=Tryz.zeroValue3
 t4:=Tryz.underlying4
 a4:=Tryz.isAgg4
 z4:=Tryz.sizeOf4
 v4:=Tryz.zeroValue4
 t5:=Tryz.underlying5
 a5:=Tryz.isAgg5
 z5:=Tryz.sizeOf5
 v5:=Tryz.zeroValue5
 t9:=Tryz.underlying9
 a9:=Tryz.isAgg9
 z9:=Tryz.sizeOf9
 v9:=Tryz.zeroValue9
 t46:=Tryz.underlying173
 a46:=Tryz.isAgg173
 z46:=Tryz.sizeOf173
 v46:=Tryz.zeroValue173
 t51:=Tryz.underlying363
 a51:=Tryz.isAgg363
 z51:=Tryz.sizeOf363
 v51:=Tryz.zeroValue363
 t146:=Tryz.underlying364
 a146:=Tryz.isAgg364
 z146:=Tryz.sizeOf364
 v146:=Tryz.zeroValue364
 g1:=by kernel_rfl}
open Go.RowKit Go.Lib in
theorem Tryz.stringslite_Index_one (s:ByteArray)(c:UInt8)(w:World):
  Calls Tryz.prog 420 #[.string s, .string ⟨#[c]⟩] w fun e w'=>e= .returned (.int .i64 (Lib.indexByte s.data.toList c))∧w'=w:=Any.stringslite_Index_one Tryz.aCV s c w
def Tryz.aBV:Go.Shelf.Ren:=⟨fun|146=>296|221=>352|268=>400|138=>401|143=>402|195=>417|197=>418|218=>419|219=>420|260=>427|217=>428|225=>429|224=>430|267=>431|266=>437|314=>438|n=>n,fun|9=>9|31=>95|3=>3|4=>4|0=>0|105=>345|21=>21|5=>5|46=>173|119=>359|139=>362|138=>361|146=>364|51=>363|n=>n,fun|1=>0|3=>1|4=>2|n=>n⟩
theorem Tryz.aCT:Go.Proofs.Lays.n146 Tryz.prog Tryz.aBV:={
 mixed:=by kernel_rfl
 f138:=Tryz.func401.trans (congrArg some (by kernel_rfl))
 f143:=Tryz.func402.trans (congrArg some (by kernel_rfl))
 f146:=Tryz.func296.trans (congrArg some (by kernel_rfl))
 f195:=Tryz.func417.trans (congrArg some (by kernel_rfl))
 f197:=Tryz.func418.trans (congrArg some (by kernel_rfl))
 f217:=Tryz.func428.trans (congrArg some (by kernel_rfl))
 f218:=Tryz.func419.trans (congrArg some (by kernel_rfl))
 f219:=Tryz.func420.trans (congrArg some (by kernel_rfl))
 f221:=Tryz.func352.trans (congrArg some (by kernel_rfl))
 f224:=Tryz.func430.trans (congrArg some (by kernel_rfl))
 f225:=Tryz.func429.trans (congrArg some (by kernel_rfl))
 f260:=Tryz.func427.trans (congrArg some (by kernel_rfl))
 f266:=Tryz.func437.trans (congrArg some (by kernel_rfl))
 f267:=Tryz.func431.trans (congrArg some (by kernel_rfl))
 f268:=Tryz.func400.trans (congrArg some (by kernel_rfl))
 f314:=Tryz.func438.trans (congrArg some (by kernel_rfl))
 t0:=Tryz.underlying0
 a0:=Tryz.isAgg0
 z0:=Tryz.sizeOf0
 v0:=Tryz.zeroValue0
 t3:=Tryz.underlying3
 a3:=Tryz.isAgg3
 z3:=Tryz.sizeOf3
 v3:=Tryz.zeroValue3
 t4:=Tryz.underlying4
 a4:=Tryz.isAgg4
 z4:=Tryz.sizeOf4
 v4:=Tryz.zeroValue4
 t5:=Tryz.underlying5
 a5:=Tryz.isAgg5
 z5:=Tryz.sizeOf5
 v5:=Tryz.zeroValue5
 t9:=Tryz.underlying9
 a9:=Tryz.isAgg9
 z9:=Tryz.sizeOf9
 v9:=Tryz.zeroValue9
 t21:=Tryz.underlying21
 a21:=Tryz.isAgg21
 z21:=Tryz.sizeOf21
 v21:=Tryz.zeroValue21
 t31:=Tryz.underlying95
 a31:=Tryz.isAgg95
 z31:=Tryz.sizeOf95
 v31:=Tryz.zeroValue95
 t46:=Tryz.underlying173
 a46:=Tryz.isAgg173
 z46:=Tryz.sizeOf173
 v46:=Tryz.zeroValue173
 t51:=Tryz.underlying363
 a51:=Tryz.isAgg363
 z51:=Tryz.sizeOf363
 v51:=Tryz.zeroValue363
 t105:=Tryz.underlying345
 a105:=Tryz.isAgg345
 z105:=Tryz.sizeOf345
 v105:=Tryz.zeroValue345
 t119:=Tryz.underlying359
 a119:=Tryz.isAgg359
 z119:=Tryz.sizeOf359
 t138:=Tryz.underlying361
 a138:=Tryz.isAgg361
 z138:=Tryz.sizeOf361
 v138:=Tryz.zeroValue361
 t139:=Tryz.underlying362
 a139:=Tryz.isAgg362
 z139:=Tryz.sizeOf362
 v139:=Tryz.zeroValue362
 t146:=Tryz.underlying364
 a146:=Tryz.isAgg364
 z146:=Tryz.sizeOf364
 v146:=Tryz.zeroValue364
 g1:=by kernel_rfl
 g3:=by kernel_rfl
 g4:=by kernel_rfl}
open Go.RowKit Go.Lib in
theorem Tryz.strings_Split (s sep:ByteArray)(m:Int)(w:World)(hs:s.size<4294967281)(hm:w.cell? ⟨0,0,none⟩=some (.int .i64 m))(h1:1≤sep.size):
  Calls Tryz.prog 296 #[.string s, .string sep] w fun e w'=>
   e= .returned (.slice (some ⟨w.heap.size,0,none⟩) (Lib.countB s sep+1) (Lib.countB s sep+1))∧w'=w.alloc (.cells ((Lib.splitB sep 0 (Lib.countB s sep) s).map Value.string).toArray 9):=Any.strings_Split Tryz.aCT (by kernel_rfl) s sep m w hs hm h1
end Go.Proofs
