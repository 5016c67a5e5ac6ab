import Derived.Shelf.Strings.Builder1
import Derived.Shelf.Strings.Builder2
import Derived.Shelf.Strings.OnBuilder
import Derived.Shelf.Utf8.RuneCount
import Derived.Shelf.Strings.Search1
import Derived.Shelf.Strings.Search2
import Derived.Shelf.Strings.Search3
import Derived.Shelf.Strings.Count
import Derived.Shelf.LaysM
import Derived.Shelf.Strings.Shaped
import Derived.Shelf.Strings.Split
import Derived.Shelf.Strings.SplitShaped
import Derived.Shelf.Unicode.Decode
import Derived.Shelf.Strings.RuneCount
import Derived.Shelf.Strings.Explode
import Derived.Shelf.Unicode.DecodeSlow
import Derived.Shelf.Unicode.DecodeAny
import Derived.Test.YtjmlamaddedhlaaGreatDoorProg
/-
  DERIVED: THE SHELF's CONTRACTS AT THIS DUMP, IN PLAIN WORDS (tools/lay-plain.mjs out of 'TryzShelf.lean', which tools/lay-shelf.mjs wrote): THE SAME DECLARATIONS UNDER THE SAME NAMES: 'import', 'namespace', 'open', 'def', 'theorem' AND NOTHING ELSE: no command of the shelf's: FOR A HAND-IN. Each laying: the table of numbers ('.._ren') and one theorem, a field a fact of the dump's own or the kernel's comparison; each contract: ONE APPLICATION.
-/
namespace Go.Proofs
open Go.Shelf
def Tryz.aBJ:Go.Shelf.Ren:=⟨fun|156=>293|165=>322|166=>323|169=>324|240=>336|241=>337|276=>343|277=>344|n=>n,fun|31=>244|9=>9|3=>3|4=>4|0=>0|20=>20|72=>277|76=>281|70=>275|37=>22|75=>280|127=>290|164=>294|5=>5|80=>283|n=>n,fun|n=>n⟩
theorem Tryz.aCN:Go.Proofs.Lays.n156 Tryz.prog Tryz.aBJ:={
 mixed:=by kernel_rfl
 f156:=Tryz.func293.trans (congrArg some (by kernel_rfl))
 f165:=Tryz.func322.trans (congrArg some (by kernel_rfl))
 f166:=Tryz.func323.trans (congrArg some (by kernel_rfl))
 f169:=Tryz.func324.trans (congrArg some (by kernel_rfl))
 f240:=Tryz.func336.trans (congrArg some (by kernel_rfl))
 f241:=Tryz.func337.trans (congrArg some (by kernel_rfl))
 f276:=Tryz.func343.trans (congrArg some (by kernel_rfl))
 f277:=Tryz.func344.trans (congrArg some (by kernel_rfl))
 t0:=Tryz.underlying0
 a0:=Tryz.isAgg0
 z0:=Tryz.sizeOf0
 v0:=Tryz.zeroValue0
 t3:=Tryz.underlying3
 a3:=Tryz.isAgg3
 z3:=Tryz.sizeOf3
 v3:=Tryz.zeroValue3
 t4:=Tryz.underlying4
 a4:=Tryz.isAgg4
 z4:=Tryz.sizeOf4
 v4:=Tryz.zeroValue4
 t9:=Tryz.underlying9
 a9:=Tryz.isAgg9
 z9:=Tryz.sizeOf9
 v9:=Tryz.zeroValue9
 t20:=Tryz.underlying20
 a20:=Tryz.isAgg20
 z20:=Tryz.sizeOf20
 v20:=Tryz.zeroValue20
 t31:=Tryz.underlying244
 a31:=Tryz.isAgg244
 z31:=Tryz.sizeOf244
 v31:=Tryz.zeroValue244
 t37:=Tryz.underlying22
 a37:=Tryz.isAgg22
 z37:=Tryz.sizeOf22
 v37:=Tryz.zeroValue22
 t70:=Tryz.underlying275
 a70:=Tryz.isAgg275
 z70:=Tryz.sizeOf275
 v70:=Tryz.zeroValue275
 t72:=Tryz.underlying277
 a72:=Tryz.isAgg277
 z72:=Tryz.sizeOf277
 v72:=Tryz.zeroValue277
 t75:=Tryz.underlying280
 a75:=Tryz.isAgg280
 z75:=Tryz.sizeOf280
 v75:=Tryz.zeroValue280
 t76:=Tryz.underlying281
 a76:=Tryz.isAgg281
 z76:=Tryz.sizeOf281
 v76:=Tryz.zeroValue281
 t127:=Tryz.underlying290
 a127:=Tryz.isAgg290
 z127:=Tryz.sizeOf290
 v127:=Tryz.zeroValue290
 t164:=Tryz.underlying294
 a164:=Tryz.isAgg294
 z164:=Tryz.sizeOf294
 v164:=Tryz.zeroValue294}
theorem Tryz.aBG:Builder.Extra Tryz.prog Tryz.aBJ:={
 sizeBuilder:=by kernel_rfl
 liesBuilder:=by kernel_rfl
 t5:=Tryz.underlying5
 a5:=Tryz.isAgg5
 z5:=Tryz.sizeOf5
 v5:=Tryz.zeroValue5
 infoByte:=by kernel_rfl
 cellsByte:=by kernel_rfl
 sizeByte:=by kernel_rfl
 neB5:=by decide}
open Go.RowKit in
theorem Tryz.strings_Join (bk o c:Nat)(xs:List ByteArray)(sep:ByteArray)(w:World)(hcells:∀(j:Nat) x,xs[j]? =some x→w.cell? ⟨bk,o+j,none⟩=some (.string x))(hbk:bk<w.heap.size)(hN:xs.length≤140737488355328)(hcap:xs.length≤c)(hlen:(Lib.join (xs.map (·.data.toList)) sep.data.toList).length≤140737488355328):
  Calls Tryz.prog 293 #[.slice (some ⟨bk,o,none⟩) xs.length c, .string sep] w fun e w'=>e= .returned (.string ⟨(Lib.join (xs.map (·.data.toList)) sep.data.toList).toArray⟩)∧Below w.heap.size w w':=Any.strings_Join Tryz.aCN Tryz.aBG bk o c xs sep w hcells hbk hN hcap hlen
def Tryz.aCO:Go.Shelf.Ren:=⟨fun|221=>321|268=>333|138=>334|143=>335|195=>339|197=>340|218=>341|219=>342|260=>345|217=>346|225=>347|224=>348|267=>349|266=>350|314=>351|n=>n,fun|9=>9|3=>3|31=>244|4=>4|0=>0|105=>291|21=>21|5=>5|46=>209|119=>298|139=>301|138=>300|146=>303|51=>302|n=>n,fun|1=>0|3=>1|4=>2|n=>n⟩
def Tryz.aBR:Go.Shelf.Ren:=⟨fun|146=>292|221=>321|268=>333|138=>334|143=>335|195=>339|197=>340|218=>341|219=>342|260=>345|217=>346|225=>347|224=>348|267=>349|266=>350|314=>351|n=>n,fun|9=>9|31=>244|3=>3|4=>4|0=>0|105=>291|21=>21|5=>5|46=>209|119=>298|139=>301|138=>300|146=>303|51=>302|n=>n,fun|1=>0|3=>1|4=>2|n=>n⟩
theorem Tryz.aCM:Go.Proofs.Lays.n146 Tryz.prog Tryz.aBR:={
 mixed:=by kernel_rfl
 f138:=Tryz.func334.trans (congrArg some (by kernel_rfl))
 f143:=Tryz.func335.trans (congrArg some (by kernel_rfl))
 f146:=Tryz.func292.trans (congrArg some (by kernel_rfl))
 f195:=Tryz.func339.trans (congrArg some (by kernel_rfl))
 f197:=Tryz.func340.trans (congrArg some (by kernel_rfl))
 f217:=Tryz.func346.trans (congrArg some (by kernel_rfl))
 f218:=Tryz.func341.trans (congrArg some (by kernel_rfl))
 f219:=Tryz.func342.trans (congrArg some (by kernel_rfl))
 f221:=Tryz.func321.trans (congrArg some (by kernel_rfl))
 f224:=Tryz.func348.trans (congrArg some (by kernel_rfl))
 f225:=Tryz.func347.trans (congrArg some (by kernel_rfl))
 f260:=Tryz.func345.trans (congrArg some (by kernel_rfl))
 f266:=Tryz.func350.trans (congrArg some (by kernel_rfl))
 f267:=Tryz.func349.trans (congrArg some (by kernel_rfl))
 f268:=Tryz.func333.trans (congrArg some (by kernel_rfl))
 f314:=Tryz.func351.trans (congrArg some (by kernel_rfl))
 t0:=Tryz.underlying0
 a0:=Tryz.isAgg0
 z0:=Tryz.sizeOf0
 v0:=Tryz.zeroValue0
 t3:=Tryz.underlying3
 a3:=Tryz.isAgg3
 z3:=Tryz.sizeOf3
 v3:=Tryz.zeroValue3
 t4:=Tryz.underlying4
 a4:=Tryz.isAgg4
 z4:=Tryz.sizeOf4
 v4:=Tryz.zeroValue4
 t5:=Tryz.underlying5
 a5:=Tryz.isAgg5
 z5:=Tryz.sizeOf5
 v5:=Tryz.zeroValue5
 t9:=Tryz.underlying9
 a9:=Tryz.isAgg9
 z9:=Tryz.sizeOf9
 v9:=Tryz.zeroValue9
 t21:=Tryz.underlying21
 a21:=Tryz.isAgg21
 z21:=Tryz.sizeOf21
 v21:=Tryz.zeroValue21
 t31:=Tryz.underlying244
 a31:=Tryz.isAgg244
 z31:=Tryz.sizeOf244
 v31:=Tryz.zeroValue244
 t46:=Tryz.underlying209
 a46:=Tryz.isAgg209
 z46:=Tryz.sizeOf209
 v46:=Tryz.zeroValue209
 t51:=Tryz.underlying302
 a51:=Tryz.isAgg302
 z51:=Tryz.sizeOf302
 v51:=Tryz.zeroValue302
 t105:=Tryz.underlying291
 a105:=Tryz.isAgg291
 z105:=Tryz.sizeOf291
 v105:=Tryz.zeroValue291
 t119:=Tryz.underlying298
 a119:=Tryz.isAgg298
 z119:=Tryz.sizeOf298
 t138:=Tryz.underlying300
 a138:=Tryz.isAgg300
 z138:=Tryz.sizeOf300
 v138:=Tryz.zeroValue300
 t139:=Tryz.underlying301
 a139:=Tryz.isAgg301
 z139:=Tryz.sizeOf301
 v139:=Tryz.zeroValue301
 t146:=Tryz.underlying303
 a146:=Tryz.isAgg303
 z146:=Tryz.sizeOf303
 v146:=Tryz.zeroValue303
 g1:=by kernel_rfl
 g3:=by kernel_rfl
 g4:=by kernel_rfl}
open Go.RowKit Go.Lib in
theorem Tryz.strings_Split (s sep:ByteArray)(m:Int)(w:World)(hs:s.size<4294967281)(hm:w.cell? ⟨0,0,none⟩=some (.int .i64 m))(h1:1≤sep.size):
  Calls Tryz.prog 292 #[.string s, .string sep] w fun e w'=>
   e= .returned (.slice (some ⟨w.heap.size,0,none⟩) (Lib.countB s sep+1) (Lib.countB s sep+1))∧w'=w.alloc (.cells ((Lib.splitB sep 0 (Lib.countB s sep) s).map Value.string).toArray 9):=Any.strings_Split Tryz.aCM (by kernel_rfl) s sep m w hs hm h1
end Go.Proofs
