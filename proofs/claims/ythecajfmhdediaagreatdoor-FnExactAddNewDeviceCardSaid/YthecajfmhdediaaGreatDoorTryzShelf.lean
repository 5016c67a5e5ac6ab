import Derived.Shelf.Strings.Builder1
import Derived.Shelf.Strings.Builder2
import Derived.Shelf.Strings.OnBuilder
import Derived.Shelf.Strings.BuilderF
import Derived.Shelf.Strings.BuilderK
import Derived.Shelf.Utf8.RuneCount
import Derived.Shelf.Strings.Builder2Cap
import Derived.Shelf.Strings.Search1
import Derived.Shelf.Strings.Search2
import Derived.Shelf.Strings.Search3
import Derived.Shelf.Strings.Count
import Derived.Shelf.LaysM
import Derived.Shelf.Strings.Shaped
import Derived.Shelf.Strings.Split
import Derived.Shelf.Strings.SplitShaped
import Derived.Shelf.Unicode.Decode
import Derived.Shelf.Strings.RuneCount
import Derived.Shelf.Strings.Explode
import Derived.Shelf.Unicode.DecodeSlow
import Derived.Shelf.Unicode.DecodeAny
import Derived.Test.YthecajfmhdediaaGreatDoorProg
/-
  DERIVED: THE SHELF's CONTRACTS AT THIS DUMP, IN PLAIN WORDS (tools/lay-plain.mjs out of 'TryzShelf.lean', which tools/lay-shelf.mjs wrote): THE SAME DECLARATIONS UNDER THE SAME NAMES: 'import', 'namespace', 'open', 'def', 'theorem' AND NOTHING ELSE: no command of the shelf's: FOR A HAND-IN. Each laying: the table of numbers ('.._ren') and one theorem, a field a fact of the dump's own or the kernel's comparison; each contract: ONE APPLICATION.
-/
namespace Go.Proofs
open Go.Shelf
def Tryz.lays156_ren:Go.Shelf.Ren:=⟨fun|156=>322|165=>347|166=>348|169=>349|240=>361|241=>362|276=>368|277=>369|n=>n,fun|31=>308|9=>9|3=>3|4=>4|0=>0|20=>20|72=>362|76=>366|70=>360|37=>213|75=>365|127=>372|164=>377|5=>5|80=>368|n=>n,fun|n=>n⟩
theorem Tryz.lays156:Go.Proofs.Lays.n156 Tryz.prog Tryz.lays156_ren:={
 mixed:=by kernel_rfl
 f156:=Tryz.func322.trans (congrArg some (by kernel_rfl))
 f165:=Tryz.func347.trans (congrArg some (by kernel_rfl))
 f166:=Tryz.func348.trans (congrArg some (by kernel_rfl))
 f169:=Tryz.func349.trans (congrArg some (by kernel_rfl))
 f240:=Tryz.func361.trans (congrArg some (by kernel_rfl))
 f241:=Tryz.func362.trans (congrArg some (by kernel_rfl))
 f276:=Tryz.func368.trans (congrArg some (by kernel_rfl))
 f277:=Tryz.func369.trans (congrArg some (by kernel_rfl))
 t0:=Tryz.underlying0
 a0:=Tryz.isAgg0
 z0:=Tryz.sizeOf0
 v0:=Tryz.zeroValue0
 t3:=Tryz.underlying3
 a3:=Tryz.isAgg3
 z3:=Tryz.sizeOf3
 v3:=Tryz.zeroValue3
 t4:=Tryz.underlying4
 a4:=Tryz.isAgg4
 z4:=Tryz.sizeOf4
 v4:=Tryz.zeroValue4
 t9:=Tryz.underlying9
 a9:=Tryz.isAgg9
 z9:=Tryz.sizeOf9
 v9:=Tryz.zeroValue9
 t20:=Tryz.underlying20
 a20:=Tryz.isAgg20
 z20:=Tryz.sizeOf20
 v20:=Tryz.zeroValue20
 t31:=Tryz.underlying308
 a31:=Tryz.isAgg308
 z31:=Tryz.sizeOf308
 v31:=Tryz.zeroValue308
 t37:=Tryz.underlying213
 a37:=Tryz.isAgg213
 z37:=Tryz.sizeOf213
 v37:=Tryz.zeroValue213
 t70:=Tryz.underlying360
 a70:=Tryz.isAgg360
 z70:=Tryz.sizeOf360
 v70:=Tryz.zeroValue360
 t72:=Tryz.underlying362
 a72:=Tryz.isAgg362
 z72:=Tryz.sizeOf362
 v72:=Tryz.zeroValue362
 t75:=Tryz.underlying365
 a75:=Tryz.isAgg365
 z75:=Tryz.sizeOf365
 v75:=Tryz.zeroValue365
 t76:=Tryz.underlying366
 a76:=Tryz.isAgg366
 z76:=Tryz.sizeOf366
 v76:=Tryz.zeroValue366
 t127:=Tryz.underlying372
 a127:=Tryz.isAgg372
 z127:=Tryz.sizeOf372
 v127:=Tryz.zeroValue372
 t164:=Tryz.underlying377
 a164:=Tryz.isAgg377
 z164:=Tryz.sizeOf377
 v164:=Tryz.zeroValue377}
theorem Tryz.Builder_Extra_156:Builder.Extra Tryz.prog Tryz.lays156_ren:={
 sizeBuilder:=by kernel_rfl
 liesBuilder:=by kernel_rfl
 t5:=Tryz.underlying5
 a5:=Tryz.isAgg5
 z5:=Tryz.sizeOf5
 v5:=Tryz.zeroValue5
 infoByte:=by kernel_rfl
 cellsByte:=by kernel_rfl
 sizeByte:=by kernel_rfl
 neB5:=by decide}
open Go.RowKit in
theorem Tryz.strings_Join (bk o c:Nat)(xs:List ByteArray)(sep:ByteArray)(w:World)(hcells:∀(j:Nat) x,xs[j]? =some x→w.cell? ⟨bk,o+j,none⟩=some (.string x))(hbk:bk<w.heap.size)(hN:xs.length≤140737488355328)(hcap:xs.length≤c)(hlen:(Lib.join (xs.map (·.data.toList)) sep.data.toList).length≤140737488355328):
  Calls Tryz.prog 322 #[.slice (some ⟨bk,o,none⟩) xs.length c, .string sep] w fun e w'=>e= .returned (.string ⟨(Lib.join (xs.map (·.data.toList)) sep.data.toList).toArray⟩)∧Below w.heap.size w w':=Any.strings_Join Tryz.lays156 Tryz.Builder_Extra_156 bk o c xs sep w hcells hbk hN hcap hlen
def Tryz.lays146_ren:Go.Shelf.Ren:=⟨fun|146=>321|221=>346|268=>358|138=>359|143=>360|195=>364|197=>365|218=>366|219=>367|260=>370|217=>371|225=>372|224=>373|267=>374|266=>375|314=>376|n=>n,fun|9=>9|31=>308|3=>3|4=>4|0=>0|105=>374|21=>21|5=>5|46=>340|119=>380|139=>383|138=>382|146=>385|51=>384|n=>n,fun|1=>0|3=>1|4=>2|n=>n⟩
theorem Tryz.lays146:Go.Proofs.Lays.n146 Tryz.prog Tryz.lays146_ren:={
 mixed:=by kernel_rfl
 f138:=Tryz.func359.trans (congrArg some (by kernel_rfl))
 f143:=Tryz.func360.trans (congrArg some (by kernel_rfl))
 f146:=Tryz.func321.trans (congrArg some (by kernel_rfl))
 f195:=Tryz.func364.trans (congrArg some (by kernel_rfl))
 f197:=Tryz.func365.trans (congrArg some (by kernel_rfl))
 f217:=Tryz.func371.trans (congrArg some (by kernel_rfl))
 f218:=Tryz.func366.trans (congrArg some (by kernel_rfl))
 f219:=Tryz.func367.trans (congrArg some (by kernel_rfl))
 f221:=Tryz.func346.trans (congrArg some (by kernel_rfl))
 f224:=Tryz.func373.trans (congrArg some (by kernel_rfl))
 f225:=Tryz.func372.trans (congrArg some (by kernel_rfl))
 f260:=Tryz.func370.trans (congrArg some (by kernel_rfl))
 f266:=Tryz.func375.trans (congrArg some (by kernel_rfl))
 f267:=Tryz.func374.trans (congrArg some (by kernel_rfl))
 f268:=Tryz.func358.trans (congrArg some (by kernel_rfl))
 f314:=Tryz.func376.trans (congrArg some (by kernel_rfl))
 t0:=Tryz.underlying0
 a0:=Tryz.isAgg0
 z0:=Tryz.sizeOf0
 v0:=Tryz.zeroValue0
 t3:=Tryz.underlying3
 a3:=Tryz.isAgg3
 z3:=Tryz.sizeOf3
 v3:=Tryz.zeroValue3
 t4:=Tryz.underlying4
 a4:=Tryz.isAgg4
 z4:=Tryz.sizeOf4
 v4:=Tryz.zeroValue4
 t5:=Tryz.underlying5
 a5:=Tryz.isAgg5
 z5:=Tryz.sizeOf5
 v5:=Tryz.zeroValue5
 t9:=Tryz.underlying9
 a9:=Tryz.isAgg9
 z9:=Tryz.sizeOf9
 v9:=Tryz.zeroValue9
 t21:=Tryz.underlying21
 a21:=Tryz.isAgg21
 z21:=Tryz.sizeOf21
 v21:=Tryz.zeroValue21
 t31:=Tryz.underlying308
 a31:=Tryz.isAgg308
 z31:=Tryz.sizeOf308
 v31:=Tryz.zeroValue308
 t46:=Tryz.underlying340
 a46:=Tryz.isAgg340
 z46:=Tryz.sizeOf340
 v46:=Tryz.zeroValue340
 t51:=Tryz.underlying384
 a51:=Tryz.isAgg384
 z51:=Tryz.sizeOf384
 v51:=Tryz.zeroValue384
 t105:=Tryz.underlying374
 a105:=Tryz.isAgg374
 z105:=Tryz.sizeOf374
 v105:=Tryz.zeroValue374
 t119:=Tryz.underlying380
 a119:=Tryz.isAgg380
 z119:=Tryz.sizeOf380
 t138:=Tryz.underlying382
 a138:=Tryz.isAgg382
 z138:=Tryz.sizeOf382
 v138:=Tryz.zeroValue382
 t139:=Tryz.underlying383
 a139:=Tryz.isAgg383
 z139:=Tryz.sizeOf383
 v139:=Tryz.zeroValue383
 t146:=Tryz.underlying385
 a146:=Tryz.isAgg385
 z146:=Tryz.sizeOf385
 v146:=Tryz.zeroValue385
 g1:=by kernel_rfl
 g3:=by kernel_rfl
 g4:=by kernel_rfl}
open Go.RowKit Go.Lib in
theorem Tryz.strings_Split (s sep:ByteArray)(m:Int)(w:World)(hs:s.size<4294967281)(hm:w.cell? ⟨0,0,none⟩=some (.int .i64 m))(h1:1≤sep.size):
  Calls Tryz.prog 321 #[.string s, .string sep] w fun e w'=>
   e= .returned (.slice (some ⟨w.heap.size,0,none⟩) (Lib.countB s sep+1) (Lib.countB s sep+1))∧w'=w.alloc (.cells ((Lib.splitB sep 0 (Lib.countB s sep) s).map Value.string).toArray 9):=Any.strings_Split Tryz.lays146 (by kernel_rfl) s sep m w hs hm h1
end Go.Proofs
