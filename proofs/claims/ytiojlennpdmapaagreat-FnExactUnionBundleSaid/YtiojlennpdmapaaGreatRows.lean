/-
  No cell of these rows narrows 'for every input' (looked for: loops, veiled, ifaces, maps, wideKeys, modest, calm, conditions, laid).
  DERIVED. THE GIVEN ROWS OF THIS SEAT. 3 by the template 'for every input the law returns true; each argument reads behind the call as it read before'; 0 by the template 'total and deterministic' (their statements: YtiojlennpdmapaaGreatTotals.lean).
  GIVEN WITH THE SEED: the statements are not yours to turn. If you find one false, say at which input.
  Laid BY PROGRAM, IN A SANDBOX (cutbox-rows.mjs): the forced cells as the released guide's own fill.sh prints them over the translation e2eed0baee3d36ba… (all of the seat's roots in one cut). By AI agents, Wed Nov 11 2026. No macro, syntax, notation, axiom, sorry.
-/
import Derived.Test.YtiojlennpdmapaaGreatChecked
import GoSem.Claim
import GoSem.ClaimJoined
import GoSem.ClaimMapViews
import Derived.JoinedTies
import Derived.KernelRfl
namespace Go.Proofs.YtiojlennpdmapaaGreat
/- THE CELL 'sum', in the pinned program and in every row, IS THE sha256 OF THE DUMP (.gsa) THAT YtiojlennpdmapaaGreatProg.lean LOADS. Nothing in Lean hashes anything: it is a label: what it is worth is what the hold of that sum in a sandbox is worth. -/
noncomputable def Tryz.pinned : Pinned := { name := "ytiojlennpdmapaagreat", sum := "e2eed0baee3d36baae33af7cbea6d6368afc9bf61e1a000ee1b1095511261ba2", checked := Tryz.checked }
namespace Rows
def none {H : Type} : Left H := { results := [], args := [] }

/-- 'laws.FnExactSiteViews': WHATEVER THE INPUT: true; the input reads as it did. -/
def fnExactSiteViewsSpec : ChangeSpec := { name := "fnExactSiteViews", fn := fun _ => fun
  | [d] => { results := [.lit (.bool true)], args := [d] }
  | _ => none }
def fnExactSiteViewsRow : OpenClaim := { program := "ytiojlennpdmapaagreat", sum := "e2eed0baee3d36baae33af7cbea6d6368afc9bf61e1a000ee1b1095511261ba2", func := "loop.example/g00581/laws.FnExactSiteViews", spec := "fnExactSiteViews", apart := false }
def FnExactSiteViewsSaid : Prop := fnExactSiteViewsRow.holds Tryz.pinned (OpenSpec.ofChange fnExactSiteViewsSpec)

/-- ITS FALSE NEIGHBOUR: 'it returns false'. Refute it at one input. -/
def fnExactSiteViewsWrong : ChangeSpec := { name := "fnExactSiteViews", fn := fun _ => fun
  | [d] => { results := [.lit (.bool false)], args := [d] }
  | _ => none }
def FnExactSiteViewsWrongFalsely : Prop := fnExactSiteViewsRow.holds Tryz.pinned (OpenSpec.ofChange fnExactSiteViewsWrong)

/-- 'laws.FnExactReachableDevices': WHATEVER THE INPUT: true; the input reads as it did. -/
def fnExactReachableDevicesSpec : ChangeSpec := { name := "fnExactReachableDevices", fn := fun _ => fun
  | [d] => { results := [.lit (.bool true)], args := [d] }
  | _ => none }
def fnExactReachableDevicesRow : OpenClaim := { program := "ytiojlennpdmapaagreat", sum := "e2eed0baee3d36baae33af7cbea6d6368afc9bf61e1a000ee1b1095511261ba2", func := "loop.example/g00581/laws.FnExactReachableDevices", spec := "fnExactReachableDevices", apart := false }
def FnExactReachableDevicesSaid : Prop := fnExactReachableDevicesRow.holds Tryz.pinned (OpenSpec.ofChange fnExactReachableDevicesSpec)

/-- ITS FALSE NEIGHBOUR: 'it returns false'. Refute it at one input. -/
def fnExactReachableDevicesWrong : ChangeSpec := { name := "fnExactReachableDevices", fn := fun _ => fun
  | [d] => { results := [.lit (.bool false)], args := [d] }
  | _ => none }
def FnExactReachableDevicesWrongFalsely : Prop := fnExactReachableDevicesRow.holds Tryz.pinned (OpenSpec.ofChange fnExactReachableDevicesWrong)

/-- 'laws.FnExactUnionBundle': WHATEVER THE INPUT: true; the input reads as it did. -/
def fnExactUnionBundleSpec : ChangeSpec := { name := "fnExactUnionBundle", fn := fun _ => fun
  | [d] => { results := [.lit (.bool true)], args := [d] }
  | _ => none }
def fnExactUnionBundleRow : OpenClaim := { program := "ytiojlennpdmapaagreat", sum := "e2eed0baee3d36baae33af7cbea6d6368afc9bf61e1a000ee1b1095511261ba2", func := "loop.example/g00581/laws.FnExactUnionBundle", spec := "fnExactUnionBundle", apart := false }
def FnExactUnionBundleSaid : Prop := fnExactUnionBundleRow.holds Tryz.pinned (OpenSpec.ofChange fnExactUnionBundleSpec)

/-- ITS FALSE NEIGHBOUR: 'it returns false'. Refute it at one input. -/
def fnExactUnionBundleWrong : ChangeSpec := { name := "fnExactUnionBundle", fn := fun _ => fun
  | [d] => { results := [.lit (.bool false)], args := [d] }
  | _ => none }
def FnExactUnionBundleWrongFalsely : Prop := fnExactUnionBundleRow.holds Tryz.pinned (OpenSpec.ofChange fnExactUnionBundleWrong)

/- THE SECOND FORM. 'bulk': how many values and letters a reading holds, each counted each time it is reached (what is shared counts as often as it is met; a slice's spare places count too). A statement '..UptoSaid' is the law's where the arguments, and the package variables that the reading takes, are together of bulk at most 1048576: NARROWER than '..Said'. Prove '..Said' where nothing that the law and all that it calls make is longer than what came in: it says more and counts as full. Else prove '..UptoSaid'. A law counts once. -/
mutual
def uptoBulk {H : Type} : DataW H → Nat
  | .lit (.string bytes) => bytes.length + 1
  | .lit _ => 1
  | .nil => 1
  | .ptr d => uptoBulk d + 1
  | .slice elems spare => uptoBulkAll elems + uptoBulkAll spare + 1
  | .agg parts => uptoBulkAll parts + 1
  | .iface _ d => uptoBulk d + 1
  | .map entries => uptoBulkEntries entries + 1
  | .held _ => 1
def uptoBulkAll {H : Type} : List (DataW H) → Nat
  | [] => 0
  | d :: r => uptoBulk d + uptoBulkAll r
def uptoBulkEntries {H : Type} : List (Lit × DataW H) → Nat
  | [] => 0
  | x :: r => uptoBulkEntry x + uptoBulkEntries r
def uptoBulkEntry {H : Type} : Lit × DataW H → Nat
  | (.string bytes, d) => bytes.length + uptoBulk d + 1
  | (_, d) => uptoBulk d + 1
 end
def uptoSmall : (H : Type) → List (DataW H) → Bool := fun _ ds => decide (uptoBulkAll ds ≤ 1048576)
def OpenSpec.upto (s : _root_.Go.ChangeSpec) : _root_.Go.OpenSpec := { _root_.Go.OpenSpec.ofChange s with cond := some uptoSmall }

/-- 'laws.FnExactSiteViews', WHERE WHAT IT READS IS OF BULK AT MOST 1048576: true; the input reads as it did. -/
def fnExactSiteViewsUptoRow : OpenClaim := { program := "ytiojlennpdmapaagreat", sum := "e2eed0baee3d36baae33af7cbea6d6368afc9bf61e1a000ee1b1095511261ba2", func := "loop.example/g00581/laws.FnExactSiteViews", spec := "fnExactSiteViews", apart := false, narrowed := true }
def FnExactSiteViewsUptoSaid : Prop := fnExactSiteViewsUptoRow.holds Tryz.pinned (OpenSpec.upto fnExactSiteViewsSpec)

/-- 'laws.FnExactReachableDevices', WHERE WHAT IT READS IS OF BULK AT MOST 1048576: true; the input reads as it did. -/
def fnExactReachableDevicesUptoRow : OpenClaim := { program := "ytiojlennpdmapaagreat", sum := "e2eed0baee3d36baae33af7cbea6d6368afc9bf61e1a000ee1b1095511261ba2", func := "loop.example/g00581/laws.FnExactReachableDevices", spec := "fnExactReachableDevices", apart := false, narrowed := true }
def FnExactReachableDevicesUptoSaid : Prop := fnExactReachableDevicesUptoRow.holds Tryz.pinned (OpenSpec.upto fnExactReachableDevicesSpec)

/-- 'laws.FnExactUnionBundle', WHERE WHAT IT READS IS OF BULK AT MOST 1048576: true; the input reads as it did. -/
def fnExactUnionBundleUptoRow : OpenClaim := { program := "ytiojlennpdmapaagreat", sum := "e2eed0baee3d36baae33af7cbea6d6368afc9bf61e1a000ee1b1095511261ba2", func := "loop.example/g00581/laws.FnExactUnionBundle", spec := "fnExactUnionBundle", apart := false, narrowed := true }
def FnExactUnionBundleUptoSaid : Prop := fnExactUnionBundleUptoRow.holds Tryz.pinned (OpenSpec.upto fnExactUnionBundleSpec)

end Rows
end Go.Proofs.YtiojlennpdmapaaGreat
