/-
  No cell of these rows narrows 'for every input' (looked for: loops, veiled, ifaces, maps, wideKeys, modest, calm, conditions, laid).
  DERIVED. THE GIVEN ROWS OF THIS SEAT. 12 by the template 'for every input the law returns true; each argument reads behind the call as it read before'; 0 by the template 'total and deterministic' (their statements: YtmcobmphmmgdmaaTotals.lean).
  GIVEN WITH THE SEED: the statements are not yours to turn. If you find one false, say at which input.
  Laid BY PROGRAM, IN A SANDBOX (cutbox-rows.mjs): the forced cells as the released guide's own fill.sh prints them over the translation 2204a33901de7fad… (all of the seat's roots in one cut). By AI agents, Wed Nov 11 2026. No macro, syntax, notation, axiom, sorry.
-/
import Derived.Test.YtmcobmphmmgdmaaChecked
import GoSem.Claim
import GoSem.ClaimJoined
import GoSem.ClaimMapViews
import Derived.JoinedTies
import Derived.KernelRfl
namespace Go.Proofs.Ytmcobmphmmgdmaa
/- THE CELL 'sum', in the pinned program and in every row, IS THE sha256 OF THE DUMP (.gsa) THAT YtmcobmphmmgdmaaProg.lean LOADS. Nothing in Lean hashes anything: it is a label: what it is worth is what the hold of that sum in a sandbox is worth. -/
noncomputable def Try.pinned : Pinned := { name := "ytmcobmphmmgdmaa", sum := "2204a33901de7fadcb82699ca105ac5652956f6a0e2c3b74593500b89a31e9b6", checked := Try.checked }
namespace Rows
def none {H : Type} : Left H := { results := [], args := [] }

/-- 'laws.FnExactIsBetting': WHATEVER THE INPUT: true; the input reads as it did. -/
def fnExactIsBettingSpec : ChangeSpec := { name := "fnExactIsBetting", fn := fun _ => fun
  | [d] => { results := [.lit (.bool true)], args := [d] }
  | _ => none }
def fnExactIsBettingRow : OpenClaim := { program := "ytmcobmphmmgdmaa", sum := "2204a33901de7fadcb82699ca105ac5652956f6a0e2c3b74593500b89a31e9b6", func := "loop.example/g00910/laws.FnExactIsBetting", spec := "fnExactIsBetting", apart := false }
def FnExactIsBettingSaid : Prop := fnExactIsBettingRow.holds Try.pinned (OpenSpec.ofChange fnExactIsBettingSpec)

/-- ITS FALSE NEIGHBOUR: 'it returns false'. Refute it at one input. -/
def fnExactIsBettingWrong : ChangeSpec := { name := "fnExactIsBetting", fn := fun _ => fun
  | [d] => { results := [.lit (.bool false)], args := [d] }
  | _ => none }
def FnExactIsBettingWrongFalsely : Prop := fnExactIsBettingRow.holds Try.pinned (OpenSpec.ofChange fnExactIsBettingWrong)

/-- 'laws.FnExactChipsIn': WHATEVER THE INPUT: true; the input reads as it did. -/
def fnExactChipsInSpec : ChangeSpec := { name := "fnExactChipsIn", fn := fun _ => fun
  | [d] => { results := [.lit (.bool true)], args := [d] }
  | _ => none }
def fnExactChipsInRow : OpenClaim := { program := "ytmcobmphmmgdmaa", sum := "2204a33901de7fadcb82699ca105ac5652956f6a0e2c3b74593500b89a31e9b6", func := "loop.example/g00910/laws.FnExactChipsIn", spec := "fnExactChipsIn", apart := false }
def FnExactChipsInSaid : Prop := fnExactChipsInRow.holds Try.pinned (OpenSpec.ofChange fnExactChipsInSpec)

/-- ITS FALSE NEIGHBOUR: 'it returns false'. Refute it at one input. -/
def fnExactChipsInWrong : ChangeSpec := { name := "fnExactChipsIn", fn := fun _ => fun
  | [d] => { results := [.lit (.bool false)], args := [d] }
  | _ => none }
def FnExactChipsInWrongFalsely : Prop := fnExactChipsInRow.holds Try.pinned (OpenSpec.ofChange fnExactChipsInWrong)

/-- 'laws.FnExactPotIn': WHATEVER THE INPUT: true; the input reads as it did. -/
def fnExactPotInSpec : ChangeSpec := { name := "fnExactPotIn", fn := fun _ => fun
  | [d] => { results := [.lit (.bool true)], args := [d] }
  | _ => none }
def fnExactPotInRow : OpenClaim := { program := "ytmcobmphmmgdmaa", sum := "2204a33901de7fadcb82699ca105ac5652956f6a0e2c3b74593500b89a31e9b6", func := "loop.example/g00910/laws.FnExactPotIn", spec := "fnExactPotIn", apart := false }
def FnExactPotInSaid : Prop := fnExactPotInRow.holds Try.pinned (OpenSpec.ofChange fnExactPotInSpec)

/-- ITS FALSE NEIGHBOUR: 'it returns false'. Refute it at one input. -/
def fnExactPotInWrong : ChangeSpec := { name := "fnExactPotIn", fn := fun _ => fun
  | [d] => { results := [.lit (.bool false)], args := [d] }
  | _ => none }
def FnExactPotInWrongFalsely : Prop := fnExactPotInRow.holds Try.pinned (OpenSpec.ofChange fnExactPotInWrong)

/-- 'laws.FnExactWinnerByFolds': WHATEVER THE INPUT: true; the input reads as it did. -/
def fnExactWinnerByFoldsSpec : ChangeSpec := { name := "fnExactWinnerByFolds", fn := fun _ => fun
  | [d] => { results := [.lit (.bool true)], args := [d] }
  | _ => none }
def fnExactWinnerByFoldsRow : OpenClaim := { program := "ytmcobmphmmgdmaa", sum := "2204a33901de7fadcb82699ca105ac5652956f6a0e2c3b74593500b89a31e9b6", func := "loop.example/g00910/laws.FnExactWinnerByFolds", spec := "fnExactWinnerByFolds", apart := false }
def FnExactWinnerByFoldsSaid : Prop := fnExactWinnerByFoldsRow.holds Try.pinned (OpenSpec.ofChange fnExactWinnerByFoldsSpec)

/-- ITS FALSE NEIGHBOUR: 'it returns false'. Refute it at one input. -/
def fnExactWinnerByFoldsWrong : ChangeSpec := { name := "fnExactWinnerByFolds", fn := fun _ => fun
  | [d] => { results := [.lit (.bool false)], args := [d] }
  | _ => none }
def FnExactWinnerByFoldsWrongFalsely : Prop := fnExactWinnerByFoldsRow.holds Try.pinned (OpenSpec.ofChange fnExactWinnerByFoldsWrong)

/-- 'laws.FnExactIsOpen': WHATEVER THE INPUT: true; the input reads as it did. -/
def fnExactIsOpenSpec : ChangeSpec := { name := "fnExactIsOpen", fn := fun _ => fun
  | [d] => { results := [.lit (.bool true)], args := [d] }
  | _ => none }
def fnExactIsOpenRow : OpenClaim := { program := "ytmcobmphmmgdmaa", sum := "2204a33901de7fadcb82699ca105ac5652956f6a0e2c3b74593500b89a31e9b6", func := "loop.example/g00910/laws.FnExactIsOpen", spec := "fnExactIsOpen", apart := false }
def FnExactIsOpenSaid : Prop := fnExactIsOpenRow.holds Try.pinned (OpenSpec.ofChange fnExactIsOpenSpec)

/-- ITS FALSE NEIGHBOUR: 'it returns false'. Refute it at one input. -/
def fnExactIsOpenWrong : ChangeSpec := { name := "fnExactIsOpen", fn := fun _ => fun
  | [d] => { results := [.lit (.bool false)], args := [d] }
  | _ => none }
def FnExactIsOpenWrongFalsely : Prop := fnExactIsOpenRow.holds Try.pinned (OpenSpec.ofChange fnExactIsOpenWrong)

/-- 'laws.FnExactLiveSeats': WHATEVER THE INPUT: true; the input reads as it did. -/
def fnExactLiveSeatsSpec : ChangeSpec := { name := "fnExactLiveSeats", fn := fun _ => fun
  | [d] => { results := [.lit (.bool true)], args := [d] }
  | _ => none }
def fnExactLiveSeatsRow : OpenClaim := { program := "ytmcobmphmmgdmaa", sum := "2204a33901de7fadcb82699ca105ac5652956f6a0e2c3b74593500b89a31e9b6", func := "loop.example/g00910/laws.FnExactLiveSeats", spec := "fnExactLiveSeats", apart := false }
def FnExactLiveSeatsSaid : Prop := fnExactLiveSeatsRow.holds Try.pinned (OpenSpec.ofChange fnExactLiveSeatsSpec)

/-- ITS FALSE NEIGHBOUR: 'it returns false'. Refute it at one input. -/
def fnExactLiveSeatsWrong : ChangeSpec := { name := "fnExactLiveSeats", fn := fun _ => fun
  | [d] => { results := [.lit (.bool false)], args := [d] }
  | _ => none }
def FnExactLiveSeatsWrongFalsely : Prop := fnExactLiveSeatsRow.holds Try.pinned (OpenSpec.ofChange fnExactLiveSeatsWrong)

/-- 'laws.FnExactContributions': WHATEVER THE INPUT: true; the input reads as it did. -/
def fnExactContributionsSpec : ChangeSpec := { name := "fnExactContributions", fn := fun _ => fun
  | [d] => { results := [.lit (.bool true)], args := [d] }
  | _ => none }
def fnExactContributionsRow : OpenClaim := { program := "ytmcobmphmmgdmaa", sum := "2204a33901de7fadcb82699ca105ac5652956f6a0e2c3b74593500b89a31e9b6", func := "loop.example/g00910/laws.FnExactContributions", spec := "fnExactContributions", apart := false }
def FnExactContributionsSaid : Prop := fnExactContributionsRow.holds Try.pinned (OpenSpec.ofChange fnExactContributionsSpec)

/-- ITS FALSE NEIGHBOUR: 'it returns false'. Refute it at one input. -/
def fnExactContributionsWrong : ChangeSpec := { name := "fnExactContributions", fn := fun _ => fun
  | [d] => { results := [.lit (.bool false)], args := [d] }
  | _ => none }
def FnExactContributionsWrongFalsely : Prop := fnExactContributionsRow.holds Try.pinned (OpenSpec.ofChange fnExactContributionsWrong)

/-- 'laws.FnExactIsSettled': WHATEVER THE INPUT: true; the input reads as it did. -/
def fnExactIsSettledSpec : ChangeSpec := { name := "fnExactIsSettled", fn := fun _ => fun
  | [d] => { results := [.lit (.bool true)], args := [d] }
  | _ => none }
def fnExactIsSettledRow : OpenClaim := { program := "ytmcobmphmmgdmaa", sum := "2204a33901de7fadcb82699ca105ac5652956f6a0e2c3b74593500b89a31e9b6", func := "loop.example/g00910/laws.FnExactIsSettled", spec := "fnExactIsSettled", apart := false }
def FnExactIsSettledSaid : Prop := fnExactIsSettledRow.holds Try.pinned (OpenSpec.ofChange fnExactIsSettledSpec)

/-- ITS FALSE NEIGHBOUR: 'it returns false'. Refute it at one input. -/
def fnExactIsSettledWrong : ChangeSpec := { name := "fnExactIsSettled", fn := fun _ => fun
  | [d] => { results := [.lit (.bool false)], args := [d] }
  | _ => none }
def FnExactIsSettledWrongFalsely : Prop := fnExactIsSettledRow.holds Try.pinned (OpenSpec.ofChange fnExactIsSettledWrong)

/-- 'laws.FnExactChoicesIn': WHATEVER THE INPUT: true; the input reads as it did. -/
def fnExactChoicesInSpec : ChangeSpec := { name := "fnExactChoicesIn", fn := fun _ => fun
  | [d] => { results := [.lit (.bool true)], args := [d] }
  | _ => none }
def fnExactChoicesInRow : OpenClaim := { program := "ytmcobmphmmgdmaa", sum := "2204a33901de7fadcb82699ca105ac5652956f6a0e2c3b74593500b89a31e9b6", func := "loop.example/g00910/laws.FnExactChoicesIn", spec := "fnExactChoicesIn", apart := false }
def FnExactChoicesInSaid : Prop := fnExactChoicesInRow.holds Try.pinned (OpenSpec.ofChange fnExactChoicesInSpec)

/-- ITS FALSE NEIGHBOUR: 'it returns false'. Refute it at one input. -/
def fnExactChoicesInWrong : ChangeSpec := { name := "fnExactChoicesIn", fn := fun _ => fun
  | [d] => { results := [.lit (.bool false)], args := [d] }
  | _ => none }
def FnExactChoicesInWrongFalsely : Prop := fnExactChoicesInRow.holds Try.pinned (OpenSpec.ofChange fnExactChoicesInWrong)

/-- 'laws.FnExactIsLegal': WHATEVER THE INPUT: true; the input reads as it did. -/
def fnExactIsLegalSpec : ChangeSpec := { name := "fnExactIsLegal", fn := fun _ => fun
  | [d1, d2] => { results := [.lit (.bool true)], args := [d1, d2] }
  | _ => none }
def fnExactIsLegalRow : OpenClaim := { program := "ytmcobmphmmgdmaa", sum := "2204a33901de7fadcb82699ca105ac5652956f6a0e2c3b74593500b89a31e9b6", func := "loop.example/g00910/laws.FnExactIsLegal", spec := "fnExactIsLegal", apart := false }
def FnExactIsLegalSaid : Prop := fnExactIsLegalRow.holds Try.pinned (OpenSpec.ofChange fnExactIsLegalSpec)

/-- ITS FALSE NEIGHBOUR: 'it returns false'. Refute it at one input. -/
def fnExactIsLegalWrong : ChangeSpec := { name := "fnExactIsLegal", fn := fun _ => fun
  | [d1, d2] => { results := [.lit (.bool false)], args := [d1, d2] }
  | _ => none }
def FnExactIsLegalWrongFalsely : Prop := fnExactIsLegalRow.holds Try.pinned (OpenSpec.ofChange fnExactIsLegalWrong)

/-- 'laws.FnChips': WHATEVER THE INPUT: true; the input reads as it did. -/
def fnChipsSpec : ChangeSpec := { name := "fnChips", fn := fun _ => fun
  | [d] => { results := [.lit (.bool true)], args := [d] }
  | _ => none }
def fnChipsRow : OpenClaim := { program := "ytmcobmphmmgdmaa", sum := "2204a33901de7fadcb82699ca105ac5652956f6a0e2c3b74593500b89a31e9b6", func := "loop.example/g00910/laws.FnChips", spec := "fnChips", apart := false }
def FnChipsSaid : Prop := fnChipsRow.holds Try.pinned (OpenSpec.ofChange fnChipsSpec)

/-- ITS FALSE NEIGHBOUR: 'it returns false'. Refute it at one input. -/
def fnChipsWrong : ChangeSpec := { name := "fnChips", fn := fun _ => fun
  | [d] => { results := [.lit (.bool false)], args := [d] }
  | _ => none }
def FnChipsWrongFalsely : Prop := fnChipsRow.holds Try.pinned (OpenSpec.ofChange fnChipsWrong)

/-- 'laws.FnExactFirstRound': WHATEVER THE INPUT: true; the input reads as it did. -/
def fnExactFirstRoundSpec : ChangeSpec := { name := "fnExactFirstRound", fn := fun _ => fun
  | [d] => { results := [.lit (.bool true)], args := [d] }
  | _ => none }
def fnExactFirstRoundRow : OpenClaim := { program := "ytmcobmphmmgdmaa", sum := "2204a33901de7fadcb82699ca105ac5652956f6a0e2c3b74593500b89a31e9b6", func := "loop.example/g00910/laws.FnExactFirstRound", spec := "fnExactFirstRound", apart := false }
def FnExactFirstRoundSaid : Prop := fnExactFirstRoundRow.holds Try.pinned (OpenSpec.ofChange fnExactFirstRoundSpec)

/-- ITS FALSE NEIGHBOUR: 'it returns false'. Refute it at one input. -/
def fnExactFirstRoundWrong : ChangeSpec := { name := "fnExactFirstRound", fn := fun _ => fun
  | [d] => { results := [.lit (.bool false)], args := [d] }
  | _ => none }
def FnExactFirstRoundWrongFalsely : Prop := fnExactFirstRoundRow.holds Try.pinned (OpenSpec.ofChange fnExactFirstRoundWrong)

/- THE SECOND FORM. 'bulk': how many values and letters a reading holds, each counted each time it is reached (what is shared counts as often as it is met; a slice's spare places count too). A statement '..UptoSaid' is the law's where the arguments, and the package variables that the reading takes, are together of bulk at most 1048576: NARROWER than '..Said'. Prove '..Said' where nothing that the law and all that it calls make is longer than what came in: it says more and counts as full. Else prove '..UptoSaid'. A law counts once. -/
mutual
def uptoBulk {H : Type} : DataW H → Nat
  | .lit (.string bytes) => bytes.length + 1
  | .lit _ => 1
  | .nil => 1
  | .ptr d => uptoBulk d + 1
  | .slice elems spare => uptoBulkAll elems + uptoBulkAll spare + 1
  | .agg parts => uptoBulkAll parts + 1
  | .iface _ d => uptoBulk d + 1
  | .map entries => uptoBulkEntries entries + 1
  | .held _ => 1
def uptoBulkAll {H : Type} : List (DataW H) → Nat
  | [] => 0
  | d :: r => uptoBulk d + uptoBulkAll r
def uptoBulkEntries {H : Type} : List (Lit × DataW H) → Nat
  | [] => 0
  | x :: r => uptoBulkEntry x + uptoBulkEntries r
def uptoBulkEntry {H : Type} : Lit × DataW H → Nat
  | (.string bytes, d) => bytes.length + uptoBulk d + 1
  | (_, d) => uptoBulk d + 1
 end
def uptoSmall : (H : Type) → List (DataW H) → Bool := fun _ ds => decide (uptoBulkAll ds ≤ 1048576)
def OpenSpec.upto (s : _root_.Go.ChangeSpec) : _root_.Go.OpenSpec := { _root_.Go.OpenSpec.ofChange s with cond := some uptoSmall }

/-- 'laws.FnExactIsBetting', WHERE WHAT IT READS IS OF BULK AT MOST 1048576: true; the input reads as it did. -/
def fnExactIsBettingUptoRow : OpenClaim := { program := "ytmcobmphmmgdmaa", sum := "2204a33901de7fadcb82699ca105ac5652956f6a0e2c3b74593500b89a31e9b6", func := "loop.example/g00910/laws.FnExactIsBetting", spec := "fnExactIsBetting", apart := false, narrowed := true }
def FnExactIsBettingUptoSaid : Prop := fnExactIsBettingUptoRow.holds Try.pinned (OpenSpec.upto fnExactIsBettingSpec)

/-- 'laws.FnExactChipsIn', WHERE WHAT IT READS IS OF BULK AT MOST 1048576: true; the input reads as it did. -/
def fnExactChipsInUptoRow : OpenClaim := { program := "ytmcobmphmmgdmaa", sum := "2204a33901de7fadcb82699ca105ac5652956f6a0e2c3b74593500b89a31e9b6", func := "loop.example/g00910/laws.FnExactChipsIn", spec := "fnExactChipsIn", apart := false, narrowed := true }
def FnExactChipsInUptoSaid : Prop := fnExactChipsInUptoRow.holds Try.pinned (OpenSpec.upto fnExactChipsInSpec)

/-- 'laws.FnExactPotIn', WHERE WHAT IT READS IS OF BULK AT MOST 1048576: true; the input reads as it did. -/
def fnExactPotInUptoRow : OpenClaim := { program := "ytmcobmphmmgdmaa", sum := "2204a33901de7fadcb82699ca105ac5652956f6a0e2c3b74593500b89a31e9b6", func := "loop.example/g00910/laws.FnExactPotIn", spec := "fnExactPotIn", apart := false, narrowed := true }
def FnExactPotInUptoSaid : Prop := fnExactPotInUptoRow.holds Try.pinned (OpenSpec.upto fnExactPotInSpec)

/-- 'laws.FnExactWinnerByFolds', WHERE WHAT IT READS IS OF BULK AT MOST 1048576: true; the input reads as it did. -/
def fnExactWinnerByFoldsUptoRow : OpenClaim := { program := "ytmcobmphmmgdmaa", sum := "2204a33901de7fadcb82699ca105ac5652956f6a0e2c3b74593500b89a31e9b6", func := "loop.example/g00910/laws.FnExactWinnerByFolds", spec := "fnExactWinnerByFolds", apart := false, narrowed := true }
def FnExactWinnerByFoldsUptoSaid : Prop := fnExactWinnerByFoldsUptoRow.holds Try.pinned (OpenSpec.upto fnExactWinnerByFoldsSpec)

/-- 'laws.FnExactIsOpen', WHERE WHAT IT READS IS OF BULK AT MOST 1048576: true; the input reads as it did. -/
def fnExactIsOpenUptoRow : OpenClaim := { program := "ytmcobmphmmgdmaa", sum := "2204a33901de7fadcb82699ca105ac5652956f6a0e2c3b74593500b89a31e9b6", func := "loop.example/g00910/laws.FnExactIsOpen", spec := "fnExactIsOpen", apart := false, narrowed := true }
def FnExactIsOpenUptoSaid : Prop := fnExactIsOpenUptoRow.holds Try.pinned (OpenSpec.upto fnExactIsOpenSpec)

/-- 'laws.FnExactLiveSeats', WHERE WHAT IT READS IS OF BULK AT MOST 1048576: true; the input reads as it did. -/
def fnExactLiveSeatsUptoRow : OpenClaim := { program := "ytmcobmphmmgdmaa", sum := "2204a33901de7fadcb82699ca105ac5652956f6a0e2c3b74593500b89a31e9b6", func := "loop.example/g00910/laws.FnExactLiveSeats", spec := "fnExactLiveSeats", apart := false, narrowed := true }
def FnExactLiveSeatsUptoSaid : Prop := fnExactLiveSeatsUptoRow.holds Try.pinned (OpenSpec.upto fnExactLiveSeatsSpec)

/-- 'laws.FnExactContributions', WHERE WHAT IT READS IS OF BULK AT MOST 1048576: true; the input reads as it did. -/
def fnExactContributionsUptoRow : OpenClaim := { program := "ytmcobmphmmgdmaa", sum := "2204a33901de7fadcb82699ca105ac5652956f6a0e2c3b74593500b89a31e9b6", func := "loop.example/g00910/laws.FnExactContributions", spec := "fnExactContributions", apart := false, narrowed := true }
def FnExactContributionsUptoSaid : Prop := fnExactContributionsUptoRow.holds Try.pinned (OpenSpec.upto fnExactContributionsSpec)

/-- 'laws.FnExactIsSettled', WHERE WHAT IT READS IS OF BULK AT MOST 1048576: true; the input reads as it did. -/
def fnExactIsSettledUptoRow : OpenClaim := { program := "ytmcobmphmmgdmaa", sum := "2204a33901de7fadcb82699ca105ac5652956f6a0e2c3b74593500b89a31e9b6", func := "loop.example/g00910/laws.FnExactIsSettled", spec := "fnExactIsSettled", apart := false, narrowed := true }
def FnExactIsSettledUptoSaid : Prop := fnExactIsSettledUptoRow.holds Try.pinned (OpenSpec.upto fnExactIsSettledSpec)

/-- 'laws.FnExactChoicesIn', WHERE WHAT IT READS IS OF BULK AT MOST 1048576: true; the input reads as it did. -/
def fnExactChoicesInUptoRow : OpenClaim := { program := "ytmcobmphmmgdmaa", sum := "2204a33901de7fadcb82699ca105ac5652956f6a0e2c3b74593500b89a31e9b6", func := "loop.example/g00910/laws.FnExactChoicesIn", spec := "fnExactChoicesIn", apart := false, narrowed := true }
def FnExactChoicesInUptoSaid : Prop := fnExactChoicesInUptoRow.holds Try.pinned (OpenSpec.upto fnExactChoicesInSpec)

/-- 'laws.FnExactIsLegal', WHERE WHAT IT READS IS OF BULK AT MOST 1048576: true; the input reads as it did. -/
def fnExactIsLegalUptoRow : OpenClaim := { program := "ytmcobmphmmgdmaa", sum := "2204a33901de7fadcb82699ca105ac5652956f6a0e2c3b74593500b89a31e9b6", func := "loop.example/g00910/laws.FnExactIsLegal", spec := "fnExactIsLegal", apart := false, narrowed := true }
def FnExactIsLegalUptoSaid : Prop := fnExactIsLegalUptoRow.holds Try.pinned (OpenSpec.upto fnExactIsLegalSpec)

/-- 'laws.FnChips', WHERE WHAT IT READS IS OF BULK AT MOST 1048576: true; the input reads as it did. -/
def fnChipsUptoRow : OpenClaim := { program := "ytmcobmphmmgdmaa", sum := "2204a33901de7fadcb82699ca105ac5652956f6a0e2c3b74593500b89a31e9b6", func := "loop.example/g00910/laws.FnChips", spec := "fnChips", apart := false, narrowed := true }
def FnChipsUptoSaid : Prop := fnChipsUptoRow.holds Try.pinned (OpenSpec.upto fnChipsSpec)

/-- 'laws.FnExactFirstRound', WHERE WHAT IT READS IS OF BULK AT MOST 1048576: true; the input reads as it did. -/
def fnExactFirstRoundUptoRow : OpenClaim := { program := "ytmcobmphmmgdmaa", sum := "2204a33901de7fadcb82699ca105ac5652956f6a0e2c3b74593500b89a31e9b6", func := "loop.example/g00910/laws.FnExactFirstRound", spec := "fnExactFirstRound", apart := false, narrowed := true }
def FnExactFirstRoundUptoSaid : Prop := fnExactFirstRoundUptoRow.holds Try.pinned (OpenSpec.upto fnExactFirstRoundSpec)

end Rows
end Go.Proofs.Ytmcobmphmmgdmaa
