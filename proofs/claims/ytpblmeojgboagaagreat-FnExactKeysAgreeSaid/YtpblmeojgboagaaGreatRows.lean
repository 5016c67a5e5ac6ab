/-
  No cell of these rows narrows 'for every input' (looked for: loops, veiled, ifaces, maps, wideKeys, modest, calm, conditions, laid).
  DERIVED. THE GIVEN ROWS OF THIS SEAT. 8 by the template 'for every input the law returns true; each argument reads behind the call as it read before'; 0 by the template 'total and deterministic' (their statements: YtpblmeojgboagaaGreatTotals.lean).
  GIVEN WITH THE SEED: the statements are not yours to turn. If you find one false, say at which input.
  Laid BY PROGRAM, IN A SANDBOX (cutbox-rows.mjs): the forced cells as the released guide's own fill.sh prints them over the translation 5b2dc8c1b3262835… (all of the seat's roots in one cut). By AI agents, Wed Nov 11 2026. No macro, syntax, notation, axiom, sorry.
-/
import Derived.Test.YtpblmeojgboagaaGreatChecked
import GoSem.Claim
import GoSem.ClaimJoined
import GoSem.ClaimMapViews
import Derived.JoinedTies
import Derived.KernelRfl
namespace Go.Proofs.YtpblmeojgboagaaGreat
/- THE CELL 'sum', in the pinned program and in every row, IS THE sha256 OF THE DUMP (.gsa) THAT YtpblmeojgboagaaGreatProg.lean LOADS. Nothing in Lean hashes anything: it is a label: what it is worth is what the hold of that sum in a sandbox is worth. -/
noncomputable def Tryz.pinned : Pinned := { name := "ytpblmeojgboagaagreat", sum := "5b2dc8c1b32628357aa106b35775c6d360899a1c559da8783db9d75f89cb6596", checked := Tryz.checked }
namespace Rows
def none {H : Type} : Left H := { results := [], args := [] }

/-- 'laws.FnExactGuessesWithin': WHATEVER THE INPUT: true; the input reads as it did. -/
def fnExactGuessesWithinSpec : ChangeSpec := { name := "fnExactGuessesWithin", fn := fun _ => fun
  | [d] => { results := [.lit (.bool true)], args := [d] }
  | _ => none }
def fnExactGuessesWithinRow : OpenClaim := { program := "ytpblmeojgboagaagreat", sum := "5b2dc8c1b32628357aa106b35775c6d360899a1c559da8783db9d75f89cb6596", func := "loop.example/g00581/laws.FnExactGuessesWithin", spec := "fnExactGuessesWithin", apart := false }
def FnExactGuessesWithinSaid : Prop := fnExactGuessesWithinRow.holds Tryz.pinned (OpenSpec.ofChange fnExactGuessesWithinSpec)

/-- ITS FALSE NEIGHBOUR: 'it returns false'. Refute it at one input. -/
def fnExactGuessesWithinWrong : ChangeSpec := { name := "fnExactGuessesWithin", fn := fun _ => fun
  | [d] => { results := [.lit (.bool false)], args := [d] }
  | _ => none }
def FnExactGuessesWithinWrongFalsely : Prop := fnExactGuessesWithinRow.holds Tryz.pinned (OpenSpec.ofChange fnExactGuessesWithinWrong)

/-- 'laws.FnExactRecoveryKey': WHATEVER THE INPUT: true; the input reads as it did. -/
def fnExactRecoveryKeySpec : ChangeSpec := { name := "fnExactRecoveryKey", fn := fun _ => fun
  | [d] => { results := [.lit (.bool true)], args := [d] }
  | _ => none }
def fnExactRecoveryKeyRow : OpenClaim := { program := "ytpblmeojgboagaagreat", sum := "5b2dc8c1b32628357aa106b35775c6d360899a1c559da8783db9d75f89cb6596", func := "loop.example/g00581/laws.FnExactRecoveryKey", spec := "fnExactRecoveryKey", apart := false }
def FnExactRecoveryKeySaid : Prop := fnExactRecoveryKeyRow.holds Tryz.pinned (OpenSpec.ofChange fnExactRecoveryKeySpec)

/-- ITS FALSE NEIGHBOUR: 'it returns false'. Refute it at one input. -/
def fnExactRecoveryKeyWrong : ChangeSpec := { name := "fnExactRecoveryKey", fn := fun _ => fun
  | [d] => { results := [.lit (.bool false)], args := [d] }
  | _ => none }
def FnExactRecoveryKeyWrongFalsely : Prop := fnExactRecoveryKeyRow.holds Tryz.pinned (OpenSpec.ofChange fnExactRecoveryKeyWrong)

/-- 'laws.FnExactIsCutOff': WHATEVER THE INPUT: true; the input reads as it did. -/
def fnExactIsCutOffSpec : ChangeSpec := { name := "fnExactIsCutOff", fn := fun _ => fun
  | [d1, d2] => { results := [.lit (.bool true)], args := [d1, d2] }
  | _ => none }
def fnExactIsCutOffRow : OpenClaim := { program := "ytpblmeojgboagaagreat", sum := "5b2dc8c1b32628357aa106b35775c6d360899a1c559da8783db9d75f89cb6596", func := "loop.example/g00581/laws.FnExactIsCutOff", spec := "fnExactIsCutOff", apart := false }
def FnExactIsCutOffSaid : Prop := fnExactIsCutOffRow.holds Tryz.pinned (OpenSpec.ofChange fnExactIsCutOffSpec)

/-- ITS FALSE NEIGHBOUR: 'it returns false'. Refute it at one input. -/
def fnExactIsCutOffWrong : ChangeSpec := { name := "fnExactIsCutOff", fn := fun _ => fun
  | [d1, d2] => { results := [.lit (.bool false)], args := [d1, d2] }
  | _ => none }
def FnExactIsCutOffWrongFalsely : Prop := fnExactIsCutOffRow.holds Tryz.pinned (OpenSpec.ofChange fnExactIsCutOffWrong)

/-- 'laws.FnExactKnowsAccount': WHATEVER THE INPUT: true; the input reads as it did. -/
def fnExactKnowsAccountSpec : ChangeSpec := { name := "fnExactKnowsAccount", fn := fun _ => fun
  | [d1, d2, d3, d4] => { results := [.lit (.bool true)], args := [d1, d2, d3, d4] }
  | _ => none }
def fnExactKnowsAccountRow : OpenClaim := { program := "ytpblmeojgboagaagreat", sum := "5b2dc8c1b32628357aa106b35775c6d360899a1c559da8783db9d75f89cb6596", func := "loop.example/g00581/laws.FnExactKnowsAccount", spec := "fnExactKnowsAccount", apart := false }
def FnExactKnowsAccountSaid : Prop := fnExactKnowsAccountRow.holds Tryz.pinned (OpenSpec.ofChange fnExactKnowsAccountSpec)

/-- ITS FALSE NEIGHBOUR: 'it returns false'. Refute it at one input. -/
def fnExactKnowsAccountWrong : ChangeSpec := { name := "fnExactKnowsAccount", fn := fun _ => fun
  | [d1, d2, d3, d4] => { results := [.lit (.bool false)], args := [d1, d2, d3, d4] }
  | _ => none }
def FnExactKnowsAccountWrongFalsely : Prop := fnExactKnowsAccountRow.holds Tryz.pinned (OpenSpec.ofChange fnExactKnowsAccountWrong)

/-- 'laws.FnExactCountReachable': WHATEVER THE INPUT: true; the input reads as it did. -/
def fnExactCountReachableSpec : ChangeSpec := { name := "fnExactCountReachable", fn := fun _ => fun
  | [d] => { results := [.lit (.bool true)], args := [d] }
  | _ => none }
def fnExactCountReachableRow : OpenClaim := { program := "ytpblmeojgboagaagreat", sum := "5b2dc8c1b32628357aa106b35775c6d360899a1c559da8783db9d75f89cb6596", func := "loop.example/g00581/laws.FnExactCountReachable", spec := "fnExactCountReachable", apart := false }
def FnExactCountReachableSaid : Prop := fnExactCountReachableRow.holds Tryz.pinned (OpenSpec.ofChange fnExactCountReachableSpec)

/-- ITS FALSE NEIGHBOUR: 'it returns false'. Refute it at one input. -/
def fnExactCountReachableWrong : ChangeSpec := { name := "fnExactCountReachable", fn := fun _ => fun
  | [d] => { results := [.lit (.bool false)], args := [d] }
  | _ => none }
def FnExactCountReachableWrongFalsely : Prop := fnExactCountReachableRow.holds Tryz.pinned (OpenSpec.ofChange fnExactCountReachableWrong)

/-- 'laws.FnExactIsConverged': WHATEVER THE INPUT: true; the input reads as it did. -/
def fnExactIsConvergedSpec : ChangeSpec := { name := "fnExactIsConverged", fn := fun _ => fun
  | [d] => { results := [.lit (.bool true)], args := [d] }
  | _ => none }
def fnExactIsConvergedRow : OpenClaim := { program := "ytpblmeojgboagaagreat", sum := "5b2dc8c1b32628357aa106b35775c6d360899a1c559da8783db9d75f89cb6596", func := "loop.example/g00581/laws.FnExactIsConverged", spec := "fnExactIsConverged", apart := false }
def FnExactIsConvergedSaid : Prop := fnExactIsConvergedRow.holds Tryz.pinned (OpenSpec.ofChange fnExactIsConvergedSpec)

/-- ITS FALSE NEIGHBOUR: 'it returns false'. Refute it at one input. -/
def fnExactIsConvergedWrong : ChangeSpec := { name := "fnExactIsConverged", fn := fun _ => fun
  | [d] => { results := [.lit (.bool false)], args := [d] }
  | _ => none }
def FnExactIsConvergedWrongFalsely : Prop := fnExactIsConvergedRow.holds Tryz.pinned (OpenSpec.ofChange fnExactIsConvergedWrong)

/-- 'laws.FnExactCutIsFinal': WHATEVER THE INPUT: true; the input reads as it did. -/
def fnExactCutIsFinalSpec : ChangeSpec := { name := "fnExactCutIsFinal", fn := fun _ => fun
  | [d1, d2] => { results := [.lit (.bool true)], args := [d1, d2] }
  | _ => none }
def fnExactCutIsFinalRow : OpenClaim := { program := "ytpblmeojgboagaagreat", sum := "5b2dc8c1b32628357aa106b35775c6d360899a1c559da8783db9d75f89cb6596", func := "loop.example/g00581/laws.FnExactCutIsFinal", spec := "fnExactCutIsFinal", apart := false }
def FnExactCutIsFinalSaid : Prop := fnExactCutIsFinalRow.holds Tryz.pinned (OpenSpec.ofChange fnExactCutIsFinalSpec)

/-- ITS FALSE NEIGHBOUR: 'it returns false'. Refute it at one input. -/
def fnExactCutIsFinalWrong : ChangeSpec := { name := "fnExactCutIsFinal", fn := fun _ => fun
  | [d1, d2] => { results := [.lit (.bool false)], args := [d1, d2] }
  | _ => none }
def FnExactCutIsFinalWrongFalsely : Prop := fnExactCutIsFinalRow.holds Tryz.pinned (OpenSpec.ofChange fnExactCutIsFinalWrong)

/-- 'laws.FnExactKeysAgree': WHATEVER THE INPUT: true; the input reads as it did. -/
def fnExactKeysAgreeSpec : ChangeSpec := { name := "fnExactKeysAgree", fn := fun _ => fun
  | [d1, d2] => { results := [.lit (.bool true)], args := [d1, d2] }
  | _ => none }
def fnExactKeysAgreeRow : OpenClaim := { program := "ytpblmeojgboagaagreat", sum := "5b2dc8c1b32628357aa106b35775c6d360899a1c559da8783db9d75f89cb6596", func := "loop.example/g00581/laws.FnExactKeysAgree", spec := "fnExactKeysAgree", apart := false }
def FnExactKeysAgreeSaid : Prop := fnExactKeysAgreeRow.holds Tryz.pinned (OpenSpec.ofChange fnExactKeysAgreeSpec)

/-- ITS FALSE NEIGHBOUR: 'it returns false'. Refute it at one input. -/
def fnExactKeysAgreeWrong : ChangeSpec := { name := "fnExactKeysAgree", fn := fun _ => fun
  | [d1, d2] => { results := [.lit (.bool false)], args := [d1, d2] }
  | _ => none }
def FnExactKeysAgreeWrongFalsely : Prop := fnExactKeysAgreeRow.holds Tryz.pinned (OpenSpec.ofChange fnExactKeysAgreeWrong)

/- THE SECOND FORM. 'bulk': how many values and letters a reading holds, each counted each time it is reached (what is shared counts as often as it is met; a slice's spare places count too). A statement '..UptoSaid' is the law's where the arguments, and the package variables that the reading takes, are together of bulk at most 1048576: NARROWER than '..Said'. Prove '..Said' where nothing that the law and all that it calls make is longer than what came in: it says more and counts as full. Else prove '..UptoSaid'. A law counts once. -/
mutual
def uptoBulk {H : Type} : DataW H → Nat
  | .lit (.string bytes) => bytes.length + 1
  | .lit _ => 1
  | .nil => 1
  | .ptr d => uptoBulk d + 1
  | .slice elems spare => uptoBulkAll elems + uptoBulkAll spare + 1
  | .agg parts => uptoBulkAll parts + 1
  | .iface _ d => uptoBulk d + 1
  | .map entries => uptoBulkEntries entries + 1
  | .held _ => 1
def uptoBulkAll {H : Type} : List (DataW H) → Nat
  | [] => 0
  | d :: r => uptoBulk d + uptoBulkAll r
def uptoBulkEntries {H : Type} : List (Lit × DataW H) → Nat
  | [] => 0
  | x :: r => uptoBulkEntry x + uptoBulkEntries r
def uptoBulkEntry {H : Type} : Lit × DataW H → Nat
  | (.string bytes, d) => bytes.length + uptoBulk d + 1
  | (_, d) => uptoBulk d + 1
 end
def uptoSmall : (H : Type) → List (DataW H) → Bool := fun _ ds => decide (uptoBulkAll ds ≤ 1048576)
def OpenSpec.upto (s : _root_.Go.ChangeSpec) : _root_.Go.OpenSpec := { _root_.Go.OpenSpec.ofChange s with cond := some uptoSmall }

/-- 'laws.FnExactGuessesWithin', WHERE WHAT IT READS IS OF BULK AT MOST 1048576: true; the input reads as it did. -/
def fnExactGuessesWithinUptoRow : OpenClaim := { program := "ytpblmeojgboagaagreat", sum := "5b2dc8c1b32628357aa106b35775c6d360899a1c559da8783db9d75f89cb6596", func := "loop.example/g00581/laws.FnExactGuessesWithin", spec := "fnExactGuessesWithin", apart := false, narrowed := true }
def FnExactGuessesWithinUptoSaid : Prop := fnExactGuessesWithinUptoRow.holds Tryz.pinned (OpenSpec.upto fnExactGuessesWithinSpec)

/-- 'laws.FnExactRecoveryKey', WHERE WHAT IT READS IS OF BULK AT MOST 1048576: true; the input reads as it did. -/
def fnExactRecoveryKeyUptoRow : OpenClaim := { program := "ytpblmeojgboagaagreat", sum := "5b2dc8c1b32628357aa106b35775c6d360899a1c559da8783db9d75f89cb6596", func := "loop.example/g00581/laws.FnExactRecoveryKey", spec := "fnExactRecoveryKey", apart := false, narrowed := true }
def FnExactRecoveryKeyUptoSaid : Prop := fnExactRecoveryKeyUptoRow.holds Tryz.pinned (OpenSpec.upto fnExactRecoveryKeySpec)

/-- 'laws.FnExactIsCutOff', WHERE WHAT IT READS IS OF BULK AT MOST 1048576: true; the input reads as it did. -/
def fnExactIsCutOffUptoRow : OpenClaim := { program := "ytpblmeojgboagaagreat", sum := "5b2dc8c1b32628357aa106b35775c6d360899a1c559da8783db9d75f89cb6596", func := "loop.example/g00581/laws.FnExactIsCutOff", spec := "fnExactIsCutOff", apart := false, narrowed := true }
def FnExactIsCutOffUptoSaid : Prop := fnExactIsCutOffUptoRow.holds Tryz.pinned (OpenSpec.upto fnExactIsCutOffSpec)

/-- 'laws.FnExactKnowsAccount', WHERE WHAT IT READS IS OF BULK AT MOST 1048576: true; the input reads as it did. -/
def fnExactKnowsAccountUptoRow : OpenClaim := { program := "ytpblmeojgboagaagreat", sum := "5b2dc8c1b32628357aa106b35775c6d360899a1c559da8783db9d75f89cb6596", func := "loop.example/g00581/laws.FnExactKnowsAccount", spec := "fnExactKnowsAccount", apart := false, narrowed := true }
def FnExactKnowsAccountUptoSaid : Prop := fnExactKnowsAccountUptoRow.holds Tryz.pinned (OpenSpec.upto fnExactKnowsAccountSpec)

/-- 'laws.FnExactCountReachable', WHERE WHAT IT READS IS OF BULK AT MOST 1048576: true; the input reads as it did. -/
def fnExactCountReachableUptoRow : OpenClaim := { program := "ytpblmeojgboagaagreat", sum := "5b2dc8c1b32628357aa106b35775c6d360899a1c559da8783db9d75f89cb6596", func := "loop.example/g00581/laws.FnExactCountReachable", spec := "fnExactCountReachable", apart := false, narrowed := true }
def FnExactCountReachableUptoSaid : Prop := fnExactCountReachableUptoRow.holds Tryz.pinned (OpenSpec.upto fnExactCountReachableSpec)

/-- 'laws.FnExactIsConverged', WHERE WHAT IT READS IS OF BULK AT MOST 1048576: true; the input reads as it did. -/
def fnExactIsConvergedUptoRow : OpenClaim := { program := "ytpblmeojgboagaagreat", sum := "5b2dc8c1b32628357aa106b35775c6d360899a1c559da8783db9d75f89cb6596", func := "loop.example/g00581/laws.FnExactIsConverged", spec := "fnExactIsConverged", apart := false, narrowed := true }
def FnExactIsConvergedUptoSaid : Prop := fnExactIsConvergedUptoRow.holds Tryz.pinned (OpenSpec.upto fnExactIsConvergedSpec)

/-- 'laws.FnExactCutIsFinal', WHERE WHAT IT READS IS OF BULK AT MOST 1048576: true; the input reads as it did. -/
def fnExactCutIsFinalUptoRow : OpenClaim := { program := "ytpblmeojgboagaagreat", sum := "5b2dc8c1b32628357aa106b35775c6d360899a1c559da8783db9d75f89cb6596", func := "loop.example/g00581/laws.FnExactCutIsFinal", spec := "fnExactCutIsFinal", apart := false, narrowed := true }
def FnExactCutIsFinalUptoSaid : Prop := fnExactCutIsFinalUptoRow.holds Tryz.pinned (OpenSpec.upto fnExactCutIsFinalSpec)

/-- 'laws.FnExactKeysAgree', WHERE WHAT IT READS IS OF BULK AT MOST 1048576: true; the input reads as it did. -/
def fnExactKeysAgreeUptoRow : OpenClaim := { program := "ytpblmeojgboagaagreat", sum := "5b2dc8c1b32628357aa106b35775c6d360899a1c559da8783db9d75f89cb6596", func := "loop.example/g00581/laws.FnExactKeysAgree", spec := "fnExactKeysAgree", apart := false, narrowed := true }
def FnExactKeysAgreeUptoSaid : Prop := fnExactKeysAgreeUptoRow.holds Tryz.pinned (OpenSpec.upto fnExactKeysAgreeSpec)

end Rows
end Go.Proofs.YtpblmeojgboagaaGreat
