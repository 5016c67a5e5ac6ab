import Derived.Shelf.Strings.Builder1
import Derived.Shelf.Strings.Builder2
import Derived.Shelf.Strings.OnBuilder
import Derived.Shelf.Utf8.RuneCount
import Derived.Shelf.Strconv.Itoa0
import Derived.Shelf.Strconv.Itoa1
import Derived.Shelf.LaysM
import Derived.Shelf.Strconv.Itoa2
import Derived.Shelf.Strconv.Itoa3
import Derived.Shelf.Strings.Search1
import Derived.Shelf.Strings.Search2
import Derived.Shelf.Strings.Search3
import Derived.Shelf.Strings.Cut
import Derived.Shelf.Strings.Count
import Derived.Shelf.Strings.Shaped
import Derived.Shelf.Strings.Split
import Derived.Shelf.Strings.SplitShaped
import Derived.Shelf.Unicode.Decode
import Derived.Shelf.Strings.RuneCount
import Derived.Shelf.Strings.Explode
import Derived.Shelf.Unicode.DecodeSlow
import Derived.Shelf.Unicode.DecodeAny
import Derived.Test.YtchppgifkkcfpaaGreatDoorProg
/-
  DERIVED: THE SHELF's CONTRACTS AT THIS DUMP, IN PLAIN WORDS (tools/lay-plain.mjs out of 'TryzShelf.lean', which tools/lay-shelf.mjs wrote): THE SAME DECLARATIONS UNDER THE SAME NAMES: 'import', 'namespace', 'open', 'def', 'theorem' AND NOTHING ELSE: no command of the shelf's: FOR A HAND-IN. Each laying: the table of numbers ('.._ren') and one theorem, a field a fact of the dump's own or the kernel's comparison; each contract: ONE APPLICATION.
-/
namespace Go.Proofs
open Go.Shelf
def Tryz.aBH:Go.Shelf.Ren:=⟨fun|156=>384|165=>434|166=>435|169=>436|240=>470|241=>471|276=>483|277=>484|n=>n,fun|31=>348|9=>9|3=>3|4=>4|0=>0|20=>20|72=>428|76=>432|70=>426|37=>159|75=>431|127=>445|164=>452|5=>5|80=>434|n=>n,fun|n=>n⟩
theorem Tryz.aCJ:Go.Proofs.Lays.n156 Tryz.prog Tryz.aBH:={
 mixed:=by kernel_rfl
 f156:=Tryz.func384.trans (congrArg some (by kernel_rfl))
 f165:=Tryz.func434.trans (congrArg some (by kernel_rfl))
 f166:=Tryz.func435.trans (congrArg some (by kernel_rfl))
 f169:=Tryz.func436.trans (congrArg some (by kernel_rfl))
 f240:=Tryz.func470.trans (congrArg some (by kernel_rfl))
 f241:=Tryz.func471.trans (congrArg some (by kernel_rfl))
 f276:=Tryz.func483.trans (congrArg some (by kernel_rfl))
 f277:=Tryz.func484.trans (congrArg some (by kernel_rfl))
 t0:=Tryz.underlying0
 a0:=Tryz.isAgg0
 z0:=Tryz.sizeOf0
 v0:=Tryz.zeroValue0
 t3:=Tryz.underlying3
 a3:=Tryz.isAgg3
 z3:=Tryz.sizeOf3
 v3:=Tryz.zeroValue3
 t4:=Tryz.underlying4
 a4:=Tryz.isAgg4
 z4:=Tryz.sizeOf4
 v4:=Tryz.zeroValue4
 t9:=Tryz.underlying9
 a9:=Tryz.isAgg9
 z9:=Tryz.sizeOf9
 v9:=Tryz.zeroValue9
 t20:=Tryz.underlying20
 a20:=Tryz.isAgg20
 z20:=Tryz.sizeOf20
 v20:=Tryz.zeroValue20
 t31:=Tryz.underlying348
 a31:=Tryz.isAgg348
 z31:=Tryz.sizeOf348
 v31:=Tryz.zeroValue348
 t37:=Tryz.underlying159
 a37:=Tryz.isAgg159
 z37:=Tryz.sizeOf159
 v37:=Tryz.zeroValue159
 t70:=Tryz.underlying426
 a70:=Tryz.isAgg426
 z70:=Tryz.sizeOf426
 v70:=Tryz.zeroValue426
 t72:=Tryz.underlying428
 a72:=Tryz.isAgg428
 z72:=Tryz.sizeOf428
 v72:=Tryz.zeroValue428
 t75:=Tryz.underlying431
 a75:=Tryz.isAgg431
 z75:=Tryz.sizeOf431
 v75:=Tryz.zeroValue431
 t76:=Tryz.underlying432
 a76:=Tryz.isAgg432
 z76:=Tryz.sizeOf432
 v76:=Tryz.zeroValue432
 t127:=Tryz.underlying445
 a127:=Tryz.isAgg445
 z127:=Tryz.sizeOf445
 v127:=Tryz.zeroValue445
 t164:=Tryz.underlying452
 a164:=Tryz.isAgg452
 z164:=Tryz.sizeOf452
 v164:=Tryz.zeroValue452}
theorem Tryz.aBF:Builder.Extra Tryz.prog Tryz.aBH:={
 sizeBuilder:=by kernel_rfl
 liesBuilder:=by kernel_rfl
 t5:=Tryz.underlying5
 a5:=Tryz.isAgg5
 z5:=Tryz.sizeOf5
 v5:=Tryz.zeroValue5
 infoByte:=by kernel_rfl
 cellsByte:=by kernel_rfl
 sizeByte:=by kernel_rfl
 neB5:=by decide}
open Go.RowKit in
theorem Tryz.strings_Join (bk o c:Nat)(xs:List ByteArray)(sep:ByteArray)(w:World)(hcells:∀(j:Nat) x,xs[j]? =some x→w.cell? ⟨bk,o+j,none⟩=some (.string x))(hbk:bk<w.heap.size)(hN:xs.length≤140737488355328)(hcap:xs.length≤c)(hlen:(Lib.join (xs.map (·.data.toList)) sep.data.toList).length≤140737488355328):
  Calls Tryz.prog 384 #[.slice (some ⟨bk,o,none⟩) xs.length c, .string sep] w fun e w'=>e= .returned (.string ⟨(Lib.join (xs.map (·.data.toList)) sep.data.toList).toArray⟩)∧Below w.heap.size w w':=Any.strings_Join Tryz.aCJ Tryz.aBF bk o c xs sep w hcells hbk hN hcap hlen
def Tryz.aBP:Go.Shelf.Ren:=⟨fun|219=>482|217=>489|225=>490|224=>491|267=>492|266=>497|314=>498|n=>n,fun|9=>9|3=>3|4=>4|5=>5|46=>417|146=>466|51=>465|n=>n,fun|1=>0|n=>n⟩
theorem Tryz.aCK:Go.Proofs.Lays.n219 Tryz.prog Tryz.aBP:={
 mixed:=by kernel_rfl
 f217:=Tryz.func489.trans (congrArg some (by kernel_rfl))
 f219:=Tryz.func482.trans (congrArg some (by kernel_rfl))
 f224:=Tryz.func491.trans (congrArg some (by kernel_rfl))
 f225:=Tryz.func490.trans (congrArg some (by kernel_rfl))
 f266:=Tryz.func497.trans (congrArg some (by kernel_rfl))
 f267:=Tryz.func492.trans (congrArg some (by kernel_rfl))
 f314:=Tryz.func498.trans (congrArg some (by kernel_rfl))
 t3:=Tryz.underlying3
 a3:=Tryz.isAgg3
 z3:=Tryz.sizeOf3
 v3:=Tryz.zeroValue3
 t4:=Tryz.underlying4
 a4:=Tryz.isAgg4
 z4:=Tryz.sizeOf4
 v4:=Tryz.zeroValue4
 t5:=Tryz.underlying5
 a5:=Tryz.isAgg5
 z5:=Tryz.sizeOf5
 v5:=Tryz.zeroValue5
 t9:=Tryz.underlying9
 a9:=Tryz.isAgg9
 z9:=Tryz.sizeOf9
 v9:=Tryz.zeroValue9
 t46:=Tryz.underlying417
 a46:=Tryz.isAgg417
 z46:=Tryz.sizeOf417
 v46:=Tryz.zeroValue417
 t51:=Tryz.underlying465
 a51:=Tryz.isAgg465
 z51:=Tryz.sizeOf465
 v51:=Tryz.zeroValue465
 t146:=Tryz.underlying466
 a146:=Tryz.isAgg466
 z146:=Tryz.sizeOf466
 v146:=Tryz.zeroValue466
 g1:=by kernel_rfl}
open Go.RowKit Go.Lib in
theorem Tryz.stringslite_Index_one (s:ByteArray)(c:UInt8)(w:World):
  Calls Tryz.prog 482 #[.string s, .string ⟨#[c]⟩] w fun e w'=>e= .returned (.int .i64 (Lib.indexByte s.data.toList c))∧w'=w:=Any.stringslite_Index_one Tryz.aCK s c w
def Tryz.aBO:Go.Shelf.Ren:=⟨fun|146=>383|221=>433|268=>467|138=>468|143=>469|195=>479|197=>480|218=>481|219=>482|260=>488|217=>489|225=>490|224=>491|267=>492|266=>497|314=>498|n=>n,fun|9=>9|31=>348|3=>3|4=>4|0=>0|105=>449|21=>21|5=>5|46=>417|119=>461|139=>464|138=>463|146=>466|51=>465|n=>n,fun|1=>0|3=>1|4=>2|n=>n⟩
theorem Tryz.aCI:Go.Proofs.Lays.n146 Tryz.prog Tryz.aBO:={
 mixed:=by kernel_rfl
 f138:=Tryz.func468.trans (congrArg some (by kernel_rfl))
 f143:=Tryz.func469.trans (congrArg some (by kernel_rfl))
 f146:=Tryz.func383.trans (congrArg some (by kernel_rfl))
 f195:=Tryz.func479.trans (congrArg some (by kernel_rfl))
 f197:=Tryz.func480.trans (congrArg some (by kernel_rfl))
 f217:=Tryz.func489.trans (congrArg some (by kernel_rfl))
 f218:=Tryz.func481.trans (congrArg some (by kernel_rfl))
 f219:=Tryz.func482.trans (congrArg some (by kernel_rfl))
 f221:=Tryz.func433.trans (congrArg some (by kernel_rfl))
 f224:=Tryz.func491.trans (congrArg some (by kernel_rfl))
 f225:=Tryz.func490.trans (congrArg some (by kernel_rfl))
 f260:=Tryz.func488.trans (congrArg some (by kernel_rfl))
 f266:=Tryz.func497.trans (congrArg some (by kernel_rfl))
 f267:=Tryz.func492.trans (congrArg some (by kernel_rfl))
 f268:=Tryz.func467.trans (congrArg some (by kernel_rfl))
 f314:=Tryz.func498.trans (congrArg some (by kernel_rfl))
 t0:=Tryz.underlying0
 a0:=Tryz.isAgg0
 z0:=Tryz.sizeOf0
 v0:=Tryz.zeroValue0
 t3:=Tryz.underlying3
 a3:=Tryz.isAgg3
 z3:=Tryz.sizeOf3
 v3:=Tryz.zeroValue3
 t4:=Tryz.underlying4
 a4:=Tryz.isAgg4
 z4:=Tryz.sizeOf4
 v4:=Tryz.zeroValue4
 t5:=Tryz.underlying5
 a5:=Tryz.isAgg5
 z5:=Tryz.sizeOf5
 v5:=Tryz.zeroValue5
 t9:=Tryz.underlying9
 a9:=Tryz.isAgg9
 z9:=Tryz.sizeOf9
 v9:=Tryz.zeroValue9
 t21:=Tryz.underlying21
 a21:=Tryz.isAgg21
 z21:=Tryz.sizeOf21
 v21:=Tryz.zeroValue21
 t31:=Tryz.underlying348
 a31:=Tryz.isAgg348
 z31:=Tryz.sizeOf348
 v31:=Tryz.zeroValue348
 t46:=Tryz.underlying417
 a46:=Tryz.isAgg417
 z46:=Tryz.sizeOf417
 v46:=Tryz.zeroValue417
 t51:=Tryz.underlying465
 a51:=Tryz.isAgg465
 z51:=Tryz.sizeOf465
 v51:=Tryz.zeroValue465
 t105:=Tryz.underlying449
 a105:=Tryz.isAgg449
 z105:=Tryz.sizeOf449
 v105:=Tryz.zeroValue449
 t119:=Tryz.underlying461
 a119:=Tryz.isAgg461
 z119:=Tryz.sizeOf461
 t138:=Tryz.underlying463
 a138:=Tryz.isAgg463
 z138:=Tryz.sizeOf463
 v138:=Tryz.zeroValue463
 t139:=Tryz.underlying464
 a139:=Tryz.isAgg464
 z139:=Tryz.sizeOf464
 v139:=Tryz.zeroValue464
 t146:=Tryz.underlying466
 a146:=Tryz.isAgg466
 z146:=Tryz.sizeOf466
 v146:=Tryz.zeroValue466
 g1:=by kernel_rfl
 g3:=by kernel_rfl
 g4:=by kernel_rfl}
open Go.RowKit Go.Lib in
theorem Tryz.strings_Split (s sep:ByteArray)(m:Int)(w:World)(hs:s.size<4294967281)(hm:w.cell? ⟨0,0,none⟩=some (.int .i64 m))(h1:1≤sep.size):
  Calls Tryz.prog 383 #[.string s, .string sep] w fun e w'=>
   e= .returned (.slice (some ⟨w.heap.size,0,none⟩) (Lib.countB s sep+1) (Lib.countB s sep+1))∧w'=w.alloc (.cells ((Lib.splitB sep 0 (Lib.countB s sep) s).map Value.string).toArray 9):=Any.strings_Split Tryz.aCI (by kernel_rfl) s sep m w hs hm h1
end Go.Proofs
