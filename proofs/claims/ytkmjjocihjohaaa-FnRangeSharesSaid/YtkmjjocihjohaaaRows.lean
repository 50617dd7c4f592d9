/-
  No cell of these rows narrows 'for every input' (looked for: loops, veiled, ifaces, maps, wideKeys, modest, calm, conditions, laid).
  DERIVED. THE GIVEN ROWS OF THIS SEAT. 10 by the template 'for every input the law returns true; each argument reads behind the call as it read before'; 0 by the template 'total and deterministic' (their statements: YtkmjjocihjohaaaTotals.lean).
  GIVEN WITH THE SEED: the statements are not yours to turn. If you find one false, say at which input.
  Laid BY PROGRAM, IN A SANDBOX (cutbox-rows.mjs): the forced cells as the released guide's own fill.sh prints them over the translation e1d149a12cbb4c62… (all of the seat's roots in one cut). By AI agents, Wed Nov 11 2026. No macro, syntax, notation, axiom, sorry.
-/
import Derived.Test.YtkmjjocihjohaaaChecked
import GoSem.Claim
import GoSem.ClaimJoined
import GoSem.ClaimMapViews
import Derived.JoinedTies
import Derived.KernelRfl
namespace Go.Proofs.Ytkmjjocihjohaaa
/- THE CELL 'sum', in the pinned program and in every row, IS THE sha256 OF THE DUMP (.gsa) THAT YtkmjjocihjohaaaProg.lean LOADS. Nothing in Lean hashes anything: it is a label: what it is worth is what the hold of that sum in a sandbox is worth. -/
noncomputable def Try.pinned : Pinned := { name := "ytkmjjocihjohaaa", sum := "e1d149a12cbb4c627bc9adc5ff5895401c74710f557f2015099888ea50190339", checked := Try.checked }
namespace Rows
def none {H : Type} : Left H := { results := [], args := [] }

/-- 'laws.FnRangeShares': WHATEVER THE INPUT: true; the input reads as it did. -/
def fnRangeSharesSpec : ChangeSpec := { name := "fnRangeShares", fn := fun _ => fun
  | [d] => { results := [.lit (.bool true)], args := [d] }
  | _ => none }
def fnRangeSharesRow : OpenClaim := { program := "ytkmjjocihjohaaa", sum := "e1d149a12cbb4c627bc9adc5ff5895401c74710f557f2015099888ea50190339", func := "loop.example/g00910/laws.FnRangeShares", spec := "fnRangeShares", recurses := true, apart := false }
def FnRangeSharesSaid : Prop := fnRangeSharesRow.holds Try.pinned (OpenSpec.ofChange fnRangeSharesSpec)

/-- ITS FALSE NEIGHBOUR: 'it returns false'. Refute it at one input. -/
def fnRangeSharesWrong : ChangeSpec := { name := "fnRangeShares", fn := fun _ => fun
  | [d] => { results := [.lit (.bool false)], args := [d] }
  | _ => none }
def FnRangeSharesWrongFalsely : Prop := fnRangeSharesRow.holds Try.pinned (OpenSpec.ofChange fnRangeSharesWrong)

/-- 'laws.FnRangeSets': WHATEVER THE INPUT: true; the input reads as it did. -/
def fnRangeSetsSpec : ChangeSpec := { name := "fnRangeSets", fn := fun _ => fun
  | [d] => { results := [.lit (.bool true)], args := [d] }
  | _ => none }
def fnRangeSetsRow : OpenClaim := { program := "ytkmjjocihjohaaa", sum := "e1d149a12cbb4c627bc9adc5ff5895401c74710f557f2015099888ea50190339", func := "loop.example/g00910/laws.FnRangeSets", spec := "fnRangeSets", recurses := true, apart := false }
def FnRangeSetsSaid : Prop := fnRangeSetsRow.holds Try.pinned (OpenSpec.ofChange fnRangeSetsSpec)

/-- ITS FALSE NEIGHBOUR: 'it returns false'. Refute it at one input. -/
def fnRangeSetsWrong : ChangeSpec := { name := "fnRangeSets", fn := fun _ => fun
  | [d] => { results := [.lit (.bool false)], args := [d] }
  | _ => none }
def FnRangeSetsWrongFalsely : Prop := fnRangeSetsRow.holds Try.pinned (OpenSpec.ofChange fnRangeSetsWrong)

/-- 'laws.FnVariantValues': WHATEVER THE INPUT: true; the input reads as it did. -/
def fnVariantValuesSpec : ChangeSpec := { name := "fnVariantValues", fn := fun _ => fun
  | [d] => { results := [.lit (.bool true)], args := [d] }
  | _ => none }
def fnVariantValuesRow : OpenClaim := { program := "ytkmjjocihjohaaa", sum := "e1d149a12cbb4c627bc9adc5ff5895401c74710f557f2015099888ea50190339", func := "loop.example/g00910/laws.FnVariantValues", spec := "fnVariantValues", unfollowed := true, recurses := true, apart := false }
def FnVariantValuesSaid : Prop := fnVariantValuesRow.holds Try.pinned (OpenSpec.ofChange fnVariantValuesSpec)

/-- ITS FALSE NEIGHBOUR: 'it returns false'. Refute it at one input. -/
def fnVariantValuesWrong : ChangeSpec := { name := "fnVariantValues", fn := fun _ => fun
  | [d] => { results := [.lit (.bool false)], args := [d] }
  | _ => none }
def FnVariantValuesWrongFalsely : Prop := fnVariantValuesRow.holds Try.pinned (OpenSpec.ofChange fnVariantValuesWrong)

/-- 'laws.FnAllowedHands': WHATEVER THE INPUT: true; the input reads as it did. -/
def fnAllowedHandsSpec : ChangeSpec := { name := "fnAllowedHands", fn := fun _ => fun
  | [d] => { results := [.lit (.bool true)], args := [d] }
  | _ => none }
def fnAllowedHandsRow : OpenClaim := { program := "ytkmjjocihjohaaa", sum := "e1d149a12cbb4c627bc9adc5ff5895401c74710f557f2015099888ea50190339", func := "loop.example/g00910/laws.FnAllowedHands", spec := "fnAllowedHands", unfollowed := true, recurses := true, apart := false }
def FnAllowedHandsSaid : Prop := fnAllowedHandsRow.holds Try.pinned (OpenSpec.ofChange fnAllowedHandsSpec)

/-- ITS FALSE NEIGHBOUR: 'it returns false'. Refute it at one input. -/
def fnAllowedHandsWrong : ChangeSpec := { name := "fnAllowedHands", fn := fun _ => fun
  | [d] => { results := [.lit (.bool false)], args := [d] }
  | _ => none }
def FnAllowedHandsWrongFalsely : Prop := fnAllowedHandsRow.holds Try.pinned (OpenSpec.ofChange fnAllowedHandsWrong)

/-- 'laws.FnExactCheckDown': WHATEVER THE INPUT: true; the input reads as it did. -/
def fnExactCheckDownSpec : ChangeSpec := { name := "fnExactCheckDown", fn := fun _ => fun
  | [d] => { results := [.lit (.bool true)], args := [d] }
  | _ => none }
def fnExactCheckDownRow : OpenClaim := { program := "ytkmjjocihjohaaa", sum := "e1d149a12cbb4c627bc9adc5ff5895401c74710f557f2015099888ea50190339", func := "loop.example/g00910/laws.FnExactCheckDown", spec := "fnExactCheckDown", apart := false }
def FnExactCheckDownSaid : Prop := fnExactCheckDownRow.holds Try.pinned (OpenSpec.ofChange fnExactCheckDownSpec)

/-- ITS FALSE NEIGHBOUR: 'it returns false'. Refute it at one input. -/
def fnExactCheckDownWrong : ChangeSpec := { name := "fnExactCheckDown", fn := fun _ => fun
  | [d] => { results := [.lit (.bool false)], args := [d] }
  | _ => none }
def FnExactCheckDownWrongFalsely : Prop := fnExactCheckDownRow.holds Try.pinned (OpenSpec.ofChange fnExactCheckDownWrong)

/-- 'laws.FnExactApplyAction': WHATEVER THE INPUT: true; the input reads as it did. -/
def fnExactApplyActionSpec : ChangeSpec := { name := "fnExactApplyAction", fn := fun _ => fun
  | [d1, d2] => { results := [.lit (.bool true)], args := [d1, d2] }
  | _ => none }
def fnExactApplyActionRow : OpenClaim := { program := "ytkmjjocihjohaaa", sum := "e1d149a12cbb4c627bc9adc5ff5895401c74710f557f2015099888ea50190339", func := "loop.example/g00910/laws.FnExactApplyAction", spec := "fnExactApplyAction", apart := false }
def FnExactApplyActionSaid : Prop := fnExactApplyActionRow.holds Try.pinned (OpenSpec.ofChange fnExactApplyActionSpec)

/-- ITS FALSE NEIGHBOUR: 'it returns false'. Refute it at one input. -/
def fnExactApplyActionWrong : ChangeSpec := { name := "fnExactApplyAction", fn := fun _ => fun
  | [d1, d2] => { results := [.lit (.bool false)], args := [d1, d2] }
  | _ => none }
def FnExactApplyActionWrongFalsely : Prop := fnExactApplyActionRow.holds Try.pinned (OpenSpec.ofChange fnExactApplyActionWrong)

/-- 'laws.FnExactNextRound': WHATEVER THE INPUT: true; the input reads as it did. -/
def fnExactNextRoundSpec : ChangeSpec := { name := "fnExactNextRound", fn := fun _ => fun
  | [d1, d2, d3] => { results := [.lit (.bool true)], args := [d1, d2, d3] }
  | _ => none }
def fnExactNextRoundRow : OpenClaim := { program := "ytkmjjocihjohaaa", sum := "e1d149a12cbb4c627bc9adc5ff5895401c74710f557f2015099888ea50190339", func := "loop.example/g00910/laws.FnExactNextRound", spec := "fnExactNextRound", apart := false }
def FnExactNextRoundSaid : Prop := fnExactNextRoundRow.holds Try.pinned (OpenSpec.ofChange fnExactNextRoundSpec)

/-- ITS FALSE NEIGHBOUR: 'it returns false'. Refute it at one input. -/
def fnExactNextRoundWrong : ChangeSpec := { name := "fnExactNextRound", fn := fun _ => fun
  | [d1, d2, d3] => { results := [.lit (.bool false)], args := [d1, d2, d3] }
  | _ => none }
def FnExactNextRoundWrongFalsely : Prop := fnExactNextRoundRow.holds Try.pinned (OpenSpec.ofChange fnExactNextRoundWrong)

/-- 'laws.FnChoices': WHATEVER THE INPUT: true; the input reads as it did. -/
def fnChoicesSpec : ChangeSpec := { name := "fnChoices", fn := fun _ => fun
  | [d] => { results := [.lit (.bool true)], args := [d] }
  | _ => none }
def fnChoicesRow : OpenClaim := { program := "ytkmjjocihjohaaa", sum := "e1d149a12cbb4c627bc9adc5ff5895401c74710f557f2015099888ea50190339", func := "loop.example/g00910/laws.FnChoices", spec := "fnChoices", apart := false }
def FnChoicesSaid : Prop := fnChoicesRow.holds Try.pinned (OpenSpec.ofChange fnChoicesSpec)

/-- ITS FALSE NEIGHBOUR: 'it returns false'. Refute it at one input. -/
def fnChoicesWrong : ChangeSpec := { name := "fnChoices", fn := fun _ => fun
  | [d] => { results := [.lit (.bool false)], args := [d] }
  | _ => none }
def FnChoicesWrongFalsely : Prop := fnChoicesRow.holds Try.pinned (OpenSpec.ofChange fnChoicesWrong)

/-- 'laws.FnActions': WHATEVER THE INPUT: true; the input reads as it did. -/
def fnActionsSpec : ChangeSpec := { name := "fnActions", fn := fun _ => fun
  | [d] => { results := [.lit (.bool true)], args := [d] }
  | _ => none }
def fnActionsRow : OpenClaim := { program := "ytkmjjocihjohaaa", sum := "e1d149a12cbb4c627bc9adc5ff5895401c74710f557f2015099888ea50190339", func := "loop.example/g00910/laws.FnActions", spec := "fnActions", apart := false }
def FnActionsSaid : Prop := fnActionsRow.holds Try.pinned (OpenSpec.ofChange fnActionsSpec)

/-- ITS FALSE NEIGHBOUR: 'it returns false'. Refute it at one input. -/
def fnActionsWrong : ChangeSpec := { name := "fnActions", fn := fun _ => fun
  | [d] => { results := [.lit (.bool false)], args := [d] }
  | _ => none }
def FnActionsWrongFalsely : Prop := fnActionsRow.holds Try.pinned (OpenSpec.ofChange fnActionsWrong)

/-- 'laws.FnRounds': WHATEVER THE INPUT: true; the input reads as it did. -/
def fnRoundsSpec : ChangeSpec := { name := "fnRounds", fn := fun _ => fun
  | [d] => { results := [.lit (.bool true)], args := [d] }
  | _ => none }
def fnRoundsRow : OpenClaim := { program := "ytkmjjocihjohaaa", sum := "e1d149a12cbb4c627bc9adc5ff5895401c74710f557f2015099888ea50190339", func := "loop.example/g00910/laws.FnRounds", spec := "fnRounds", apart := false }
def FnRoundsSaid : Prop := fnRoundsRow.holds Try.pinned (OpenSpec.ofChange fnRoundsSpec)

/-- ITS FALSE NEIGHBOUR: 'it returns false'. Refute it at one input. -/
def fnRoundsWrong : ChangeSpec := { name := "fnRounds", fn := fun _ => fun
  | [d] => { results := [.lit (.bool false)], args := [d] }
  | _ => none }
def FnRoundsWrongFalsely : Prop := fnRoundsRow.holds Try.pinned (OpenSpec.ofChange fnRoundsWrong)

/- THE SECOND FORM. 'bulk': how many values and letters a reading holds, each counted each time it is reached (what is shared counts as often as it is met; a slice's spare places count too). A statement '..UptoSaid' is the law's where the arguments, and the package variables that the reading takes, are together of bulk at most 1048576: NARROWER than '..Said'. Prove '..Said' where nothing that the law and all that it calls make is longer than what came in: it says more and counts as full. Else prove '..UptoSaid'. A law counts once. -/
mutual
def uptoBulk {H : Type} : DataW H → Nat
  | .lit (.string bytes) => bytes.length + 1
  | .lit _ => 1
  | .nil => 1
  | .ptr d => uptoBulk d + 1
  | .slice elems spare => uptoBulkAll elems + uptoBulkAll spare + 1
  | .agg parts => uptoBulkAll parts + 1
  | .iface _ d => uptoBulk d + 1
  | .map entries => uptoBulkEntries entries + 1
  | .held _ => 1
def uptoBulkAll {H : Type} : List (DataW H) → Nat
  | [] => 0
  | d :: r => uptoBulk d + uptoBulkAll r
def uptoBulkEntries {H : Type} : List (Lit × DataW H) → Nat
  | [] => 0
  | x :: r => uptoBulkEntry x + uptoBulkEntries r
def uptoBulkEntry {H : Type} : Lit × DataW H → Nat
  | (.string bytes, d) => bytes.length + uptoBulk d + 1
  | (_, d) => uptoBulk d + 1
 end
def uptoSmall : (H : Type) → List (DataW H) → Bool := fun _ ds => decide (uptoBulkAll ds ≤ 1048576)
def OpenSpec.upto (s : _root_.Go.ChangeSpec) : _root_.Go.OpenSpec := { _root_.Go.OpenSpec.ofChange s with cond := some uptoSmall }

/-- 'laws.FnRangeShares', WHERE WHAT IT READS IS OF BULK AT MOST 1048576: true; the input reads as it did. -/
def fnRangeSharesUptoRow : OpenClaim := { program := "ytkmjjocihjohaaa", sum := "e1d149a12cbb4c627bc9adc5ff5895401c74710f557f2015099888ea50190339", func := "loop.example/g00910/laws.FnRangeShares", spec := "fnRangeShares", recurses := true, apart := false, narrowed := true }
def FnRangeSharesUptoSaid : Prop := fnRangeSharesUptoRow.holds Try.pinned (OpenSpec.upto fnRangeSharesSpec)

/-- 'laws.FnRangeSets', WHERE WHAT IT READS IS OF BULK AT MOST 1048576: true; the input reads as it did. -/
def fnRangeSetsUptoRow : OpenClaim := { program := "ytkmjjocihjohaaa", sum := "e1d149a12cbb4c627bc9adc5ff5895401c74710f557f2015099888ea50190339", func := "loop.example/g00910/laws.FnRangeSets", spec := "fnRangeSets", recurses := true, apart := false, narrowed := true }
def FnRangeSetsUptoSaid : Prop := fnRangeSetsUptoRow.holds Try.pinned (OpenSpec.upto fnRangeSetsSpec)

/-- 'laws.FnVariantValues', WHERE WHAT IT READS IS OF BULK AT MOST 1048576: true; the input reads as it did. -/
def fnVariantValuesUptoRow : OpenClaim := { program := "ytkmjjocihjohaaa", sum := "e1d149a12cbb4c627bc9adc5ff5895401c74710f557f2015099888ea50190339", func := "loop.example/g00910/laws.FnVariantValues", spec := "fnVariantValues", unfollowed := true, recurses := true, apart := false, narrowed := true }
def FnVariantValuesUptoSaid : Prop := fnVariantValuesUptoRow.holds Try.pinned (OpenSpec.upto fnVariantValuesSpec)

/-- 'laws.FnAllowedHands', WHERE WHAT IT READS IS OF BULK AT MOST 1048576: true; the input reads as it did. -/
def fnAllowedHandsUptoRow : OpenClaim := { program := "ytkmjjocihjohaaa", sum := "e1d149a12cbb4c627bc9adc5ff5895401c74710f557f2015099888ea50190339", func := "loop.example/g00910/laws.FnAllowedHands", spec := "fnAllowedHands", unfollowed := true, recurses := true, apart := false, narrowed := true }
def FnAllowedHandsUptoSaid : Prop := fnAllowedHandsUptoRow.holds Try.pinned (OpenSpec.upto fnAllowedHandsSpec)

/-- 'laws.FnExactCheckDown', WHERE WHAT IT READS IS OF BULK AT MOST 1048576: true; the input reads as it did. -/
def fnExactCheckDownUptoRow : OpenClaim := { program := "ytkmjjocihjohaaa", sum := "e1d149a12cbb4c627bc9adc5ff5895401c74710f557f2015099888ea50190339", func := "loop.example/g00910/laws.FnExactCheckDown", spec := "fnExactCheckDown", apart := false, narrowed := true }
def FnExactCheckDownUptoSaid : Prop := fnExactCheckDownUptoRow.holds Try.pinned (OpenSpec.upto fnExactCheckDownSpec)

/-- 'laws.FnExactApplyAction', WHERE WHAT IT READS IS OF BULK AT MOST 1048576: true; the input reads as it did. -/
def fnExactApplyActionUptoRow : OpenClaim := { program := "ytkmjjocihjohaaa", sum := "e1d149a12cbb4c627bc9adc5ff5895401c74710f557f2015099888ea50190339", func := "loop.example/g00910/laws.FnExactApplyAction", spec := "fnExactApplyAction", apart := false, narrowed := true }
def FnExactApplyActionUptoSaid : Prop := fnExactApplyActionUptoRow.holds Try.pinned (OpenSpec.upto fnExactApplyActionSpec)

/-- 'laws.FnExactNextRound', WHERE WHAT IT READS IS OF BULK AT MOST 1048576: true; the input reads as it did. -/
def fnExactNextRoundUptoRow : OpenClaim := { program := "ytkmjjocihjohaaa", sum := "e1d149a12cbb4c627bc9adc5ff5895401c74710f557f2015099888ea50190339", func := "loop.example/g00910/laws.FnExactNextRound", spec := "fnExactNextRound", apart := false, narrowed := true }
def FnExactNextRoundUptoSaid : Prop := fnExactNextRoundUptoRow.holds Try.pinned (OpenSpec.upto fnExactNextRoundSpec)

/-- 'laws.FnChoices', WHERE WHAT IT READS IS OF BULK AT MOST 1048576: true; the input reads as it did. -/
def fnChoicesUptoRow : OpenClaim := { program := "ytkmjjocihjohaaa", sum := "e1d149a12cbb4c627bc9adc5ff5895401c74710f557f2015099888ea50190339", func := "loop.example/g00910/laws.FnChoices", spec := "fnChoices", apart := false, narrowed := true }
def FnChoicesUptoSaid : Prop := fnChoicesUptoRow.holds Try.pinned (OpenSpec.upto fnChoicesSpec)

/-- 'laws.FnActions', WHERE WHAT IT READS IS OF BULK AT MOST 1048576: true; the input reads as it did. -/
def fnActionsUptoRow : OpenClaim := { program := "ytkmjjocihjohaaa", sum := "e1d149a12cbb4c627bc9adc5ff5895401c74710f557f2015099888ea50190339", func := "loop.example/g00910/laws.FnActions", spec := "fnActions", apart := false, narrowed := true }
def FnActionsUptoSaid : Prop := fnActionsUptoRow.holds Try.pinned (OpenSpec.upto fnActionsSpec)

/-- 'laws.FnRounds', WHERE WHAT IT READS IS OF BULK AT MOST 1048576: true; the input reads as it did. -/
def fnRoundsUptoRow : OpenClaim := { program := "ytkmjjocihjohaaa", sum := "e1d149a12cbb4c627bc9adc5ff5895401c74710f557f2015099888ea50190339", func := "loop.example/g00910/laws.FnRounds", spec := "fnRounds", apart := false, narrowed := true }
def FnRoundsUptoSaid : Prop := fnRoundsUptoRow.holds Try.pinned (OpenSpec.upto fnRoundsSpec)

end Rows
end Go.Proofs.Ytkmjjocihjohaaa
