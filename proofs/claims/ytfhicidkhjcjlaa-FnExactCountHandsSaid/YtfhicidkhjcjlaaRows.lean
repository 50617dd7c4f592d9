/-
  No cell of these rows narrows 'for every input' (looked for: loops, veiled, ifaces, maps, wideKeys, modest, calm, conditions, laid).
  DERIVED. THE GIVEN ROWS OF THIS SEAT. 11 by the template 'for every input the law returns true; each argument reads behind the call as it read before'; 0 by the template 'total and deterministic' (their statements: YtfhicidkhjcjlaaTotals.lean).
  GIVEN WITH THE SEED: the statements are not yours to turn. If you find one false, say at which input.
  Laid BY PROGRAM, IN A SANDBOX (cutbox-rows.mjs): the forced cells as the released guide's own fill.sh prints them over the translation 1df5b9787f97c56a… (all of the seat's roots in one cut). By AI agents, Wed Nov 11 2026. No macro, syntax, notation, axiom, sorry.
-/
import Derived.Test.YtfhicidkhjcjlaaChecked
import GoSem.Claim
import GoSem.ClaimJoined
import GoSem.ClaimMapViews
import Derived.JoinedTies
import Derived.KernelRfl
namespace Go.Proofs.Ytfhicidkhjcjlaa
/- THE CELL 'sum', in the pinned program and in every row, IS THE sha256 OF THE DUMP (.gsa) THAT YtfhicidkhjcjlaaProg.lean LOADS. Nothing in Lean hashes anything: it is a label: what it is worth is what the hold of that sum in a sandbox is worth. -/
noncomputable def Try.pinned : Pinned := { name := "ytfhicidkhjcjlaa", sum := "1df5b9787f97c56a5d058515c41f97b12acba4caa3e1b2293f2c23bc6149ea87", checked := Try.checked }
namespace Rows
def none {H : Type} : Left H := { results := [], args := [] }

/-- 'laws.FnExactIsSuited': WHATEVER THE INPUT: true; the input reads as it did. -/
def fnExactIsSuitedSpec : ChangeSpec := { name := "fnExactIsSuited", fn := fun _ => fun
  | [d] => { results := [.lit (.bool true)], args := [d] }
  | _ => none }
def fnExactIsSuitedRow : OpenClaim := { program := "ytfhicidkhjcjlaa", sum := "1df5b9787f97c56a5d058515c41f97b12acba4caa3e1b2293f2c23bc6149ea87", func := "loop.example/g00910/laws.FnExactIsSuited", spec := "fnExactIsSuited", apart := false }
def FnExactIsSuitedSaid : Prop := fnExactIsSuitedRow.holds Try.pinned (OpenSpec.ofChange fnExactIsSuitedSpec)

/-- ITS FALSE NEIGHBOUR: 'it returns false'. Refute it at one input. -/
def fnExactIsSuitedWrong : ChangeSpec := { name := "fnExactIsSuited", fn := fun _ => fun
  | [d] => { results := [.lit (.bool false)], args := [d] }
  | _ => none }
def FnExactIsSuitedWrongFalsely : Prop := fnExactIsSuitedRow.holds Try.pinned (OpenSpec.ofChange fnExactIsSuitedWrong)

/-- 'laws.FnExactIsVariant': WHATEVER THE INPUT: true; the input reads as it did. -/
def fnExactIsVariantSpec : ChangeSpec := { name := "fnExactIsVariant", fn := fun _ => fun
  | [d] => { results := [.lit (.bool true)], args := [d] }
  | _ => none }
def fnExactIsVariantRow : OpenClaim := { program := "ytfhicidkhjcjlaa", sum := "1df5b9787f97c56a5d058515c41f97b12acba4caa3e1b2293f2c23bc6149ea87", func := "loop.example/g00910/laws.FnExactIsVariant", spec := "fnExactIsVariant", apart := false }
def FnExactIsVariantSaid : Prop := fnExactIsVariantRow.holds Try.pinned (OpenSpec.ofChange fnExactIsVariantSpec)

/-- ITS FALSE NEIGHBOUR: 'it returns false'. Refute it at one input. -/
def fnExactIsVariantWrong : ChangeSpec := { name := "fnExactIsVariant", fn := fun _ => fun
  | [d] => { results := [.lit (.bool false)], args := [d] }
  | _ => none }
def FnExactIsVariantWrongFalsely : Prop := fnExactIsVariantRow.holds Try.pinned (OpenSpec.ofChange fnExactIsVariantWrong)

/-- 'laws.FnExactClassText': WHATEVER THE INPUT: true; the input reads as it did. -/
def fnExactClassTextSpec : ChangeSpec := { name := "fnExactClassText", fn := fun _ => fun
  | [d] => { results := [.lit (.bool true)], args := [d] }
  | _ => none }
def fnExactClassTextRow : OpenClaim := { program := "ytfhicidkhjcjlaa", sum := "1df5b9787f97c56a5d058515c41f97b12acba4caa3e1b2293f2c23bc6149ea87", func := "loop.example/g00910/laws.FnExactClassText", spec := "fnExactClassText", apart := false }
def FnExactClassTextSaid : Prop := fnExactClassTextRow.holds Try.pinned (OpenSpec.ofChange fnExactClassTextSpec)

/-- ITS FALSE NEIGHBOUR: 'it returns false'. Refute it at one input. -/
def fnExactClassTextWrong : ChangeSpec := { name := "fnExactClassText", fn := fun _ => fun
  | [d] => { results := [.lit (.bool false)], args := [d] }
  | _ => none }
def FnExactClassTextWrongFalsely : Prop := fnExactClassTextRow.holds Try.pinned (OpenSpec.ofChange fnExactClassTextWrong)

/-- 'laws.FnExactReadClass': WHATEVER THE INPUT: true; the input reads as it did. -/
def fnExactReadClassSpec : ChangeSpec := { name := "fnExactReadClass", fn := fun _ => fun
  | [d] => { results := [.lit (.bool true)], args := [d] }
  | _ => none }
def fnExactReadClassRow : OpenClaim := { program := "ytfhicidkhjcjlaa", sum := "1df5b9787f97c56a5d058515c41f97b12acba4caa3e1b2293f2c23bc6149ea87", func := "loop.example/g00910/laws.FnExactReadClass", spec := "fnExactReadClass", apart := false }
def FnExactReadClassSaid : Prop := fnExactReadClassRow.holds Try.pinned (OpenSpec.ofChange fnExactReadClassSpec)

/-- ITS FALSE NEIGHBOUR: 'it returns false'. Refute it at one input. -/
def fnExactReadClassWrong : ChangeSpec := { name := "fnExactReadClass", fn := fun _ => fun
  | [d] => { results := [.lit (.bool false)], args := [d] }
  | _ => none }
def FnExactReadClassWrongFalsely : Prop := fnExactReadClassRow.holds Try.pinned (OpenSpec.ofChange fnExactReadClassWrong)

/-- 'laws.FnExactIsRange': WHATEVER THE INPUT: true; the input reads as it did. -/
def fnExactIsRangeSpec : ChangeSpec := { name := "fnExactIsRange", fn := fun _ => fun
  | [d] => { results := [.lit (.bool true)], args := [d] }
  | _ => none }
def fnExactIsRangeRow : OpenClaim := { program := "ytfhicidkhjcjlaa", sum := "1df5b9787f97c56a5d058515c41f97b12acba4caa3e1b2293f2c23bc6149ea87", func := "loop.example/g00910/laws.FnExactIsRange", spec := "fnExactIsRange", apart := false }
def FnExactIsRangeSaid : Prop := fnExactIsRangeRow.holds Try.pinned (OpenSpec.ofChange fnExactIsRangeSpec)

/-- ITS FALSE NEIGHBOUR: 'it returns false'. Refute it at one input. -/
def fnExactIsRangeWrong : ChangeSpec := { name := "fnExactIsRange", fn := fun _ => fun
  | [d] => { results := [.lit (.bool false)], args := [d] }
  | _ => none }
def FnExactIsRangeWrongFalsely : Prop := fnExactIsRangeRow.holds Try.pinned (OpenSpec.ofChange fnExactIsRangeWrong)

/-- 'laws.FnExactCountHands': WHATEVER THE INPUT: true; the input reads as it did. -/
def fnExactCountHandsSpec : ChangeSpec := { name := "fnExactCountHands", fn := fun _ => fun
  | [d] => { results := [.lit (.bool true)], args := [d] }
  | _ => none }
def fnExactCountHandsRow : OpenClaim := { program := "ytfhicidkhjcjlaa", sum := "1df5b9787f97c56a5d058515c41f97b12acba4caa3e1b2293f2c23bc6149ea87", func := "loop.example/g00910/laws.FnExactCountHands", spec := "fnExactCountHands", apart := false }
def FnExactCountHandsSaid : Prop := fnExactCountHandsRow.holds Try.pinned (OpenSpec.ofChange fnExactCountHandsSpec)

/-- ITS FALSE NEIGHBOUR: 'it returns false'. Refute it at one input. -/
def fnExactCountHandsWrong : ChangeSpec := { name := "fnExactCountHands", fn := fun _ => fun
  | [d] => { results := [.lit (.bool false)], args := [d] }
  | _ => none }
def FnExactCountHandsWrongFalsely : Prop := fnExactCountHandsRow.holds Try.pinned (OpenSpec.ofChange fnExactCountHandsWrong)

/-- 'laws.FnExactStandardVariant': WHATEVER THE INPUT: true; the input reads as it did. -/
def fnExactStandardVariantSpec : ChangeSpec := { name := "fnExactStandardVariant", fn := fun _ => fun
  | [d] => { results := [.lit (.bool true)], args := [d] }
  | _ => none }
def fnExactStandardVariantRow : OpenClaim := { program := "ytfhicidkhjcjlaa", sum := "1df5b9787f97c56a5d058515c41f97b12acba4caa3e1b2293f2c23bc6149ea87", func := "loop.example/g00910/laws.FnExactStandardVariant", spec := "fnExactStandardVariant", apart := false }
def FnExactStandardVariantSaid : Prop := fnExactStandardVariantRow.holds Try.pinned (OpenSpec.ofChange fnExactStandardVariantSpec)

/-- ITS FALSE NEIGHBOUR: 'it returns false'. Refute it at one input. -/
def fnExactStandardVariantWrong : ChangeSpec := { name := "fnExactStandardVariant", fn := fun _ => fun
  | [d] => { results := [.lit (.bool false)], args := [d] }
  | _ => none }
def FnExactStandardVariantWrongFalsely : Prop := fnExactStandardVariantRow.holds Try.pinned (OpenSpec.ofChange fnExactStandardVariantWrong)

/-- 'laws.FnExactClassOf': WHATEVER THE INPUT: true; the input reads as it did. -/
def fnExactClassOfSpec : ChangeSpec := { name := "fnExactClassOf", fn := fun _ => fun
  | [d] => { results := [.lit (.bool true)], args := [d] }
  | _ => none }
def fnExactClassOfRow : OpenClaim := { program := "ytfhicidkhjcjlaa", sum := "1df5b9787f97c56a5d058515c41f97b12acba4caa3e1b2293f2c23bc6149ea87", func := "loop.example/g00910/laws.FnExactClassOf", spec := "fnExactClassOf", apart := false }
def FnExactClassOfSaid : Prop := fnExactClassOfRow.holds Try.pinned (OpenSpec.ofChange fnExactClassOfSpec)

/-- ITS FALSE NEIGHBOUR: 'it returns false'. Refute it at one input. -/
def fnExactClassOfWrong : ChangeSpec := { name := "fnExactClassOf", fn := fun _ => fun
  | [d] => { results := [.lit (.bool false)], args := [d] }
  | _ => none }
def FnExactClassOfWrongFalsely : Prop := fnExactClassOfRow.holds Try.pinned (OpenSpec.ofChange fnExactClassOfWrong)

/-- 'laws.FnExactCommonRange': WHATEVER THE INPUT: true; the input reads as it did. -/
def fnExactCommonRangeSpec : ChangeSpec := { name := "fnExactCommonRange", fn := fun _ => fun
  | [d1, d2] => { results := [.lit (.bool true)], args := [d1, d2] }
  | _ => none }
def fnExactCommonRangeRow : OpenClaim := { program := "ytfhicidkhjcjlaa", sum := "1df5b9787f97c56a5d058515c41f97b12acba4caa3e1b2293f2c23bc6149ea87", func := "loop.example/g00910/laws.FnExactCommonRange", spec := "fnExactCommonRange", apart := false }
def FnExactCommonRangeSaid : Prop := fnExactCommonRangeRow.holds Try.pinned (OpenSpec.ofChange fnExactCommonRangeSpec)

/-- ITS FALSE NEIGHBOUR: 'it returns false'. Refute it at one input. -/
def fnExactCommonRangeWrong : ChangeSpec := { name := "fnExactCommonRange", fn := fun _ => fun
  | [d1, d2] => { results := [.lit (.bool false)], args := [d1, d2] }
  | _ => none }
def FnExactCommonRangeWrongFalsely : Prop := fnExactCommonRangeRow.holds Try.pinned (OpenSpec.ofChange fnExactCommonRangeWrong)

/-- 'laws.FnExactOtherRange': WHATEVER THE INPUT: true; the input reads as it did. -/
def fnExactOtherRangeSpec : ChangeSpec := { name := "fnExactOtherRange", fn := fun _ => fun
  | [d] => { results := [.lit (.bool true)], args := [d] }
  | _ => none }
def fnExactOtherRangeRow : OpenClaim := { program := "ytfhicidkhjcjlaa", sum := "1df5b9787f97c56a5d058515c41f97b12acba4caa3e1b2293f2c23bc6149ea87", func := "loop.example/g00910/laws.FnExactOtherRange", spec := "fnExactOtherRange", apart := false }
def FnExactOtherRangeSaid : Prop := fnExactOtherRangeRow.holds Try.pinned (OpenSpec.ofChange fnExactOtherRangeSpec)

/-- ITS FALSE NEIGHBOUR: 'it returns false'. Refute it at one input. -/
def fnExactOtherRangeWrong : ChangeSpec := { name := "fnExactOtherRange", fn := fun _ => fun
  | [d] => { results := [.lit (.bool false)], args := [d] }
  | _ => none }
def FnExactOtherRangeWrongFalsely : Prop := fnExactOtherRangeRow.holds Try.pinned (OpenSpec.ofChange fnExactOtherRangeWrong)

/-- 'laws.FnExactCombosOf': WHATEVER THE INPUT: true; the input reads as it did. -/
def fnExactCombosOfSpec : ChangeSpec := { name := "fnExactCombosOf", fn := fun _ => fun
  | [d] => { results := [.lit (.bool true)], args := [d] }
  | _ => none }
def fnExactCombosOfRow : OpenClaim := { program := "ytfhicidkhjcjlaa", sum := "1df5b9787f97c56a5d058515c41f97b12acba4caa3e1b2293f2c23bc6149ea87", func := "loop.example/g00910/laws.FnExactCombosOf", spec := "fnExactCombosOf", apart := false }
def FnExactCombosOfSaid : Prop := fnExactCombosOfRow.holds Try.pinned (OpenSpec.ofChange fnExactCombosOfSpec)

/-- ITS FALSE NEIGHBOUR: 'it returns false'. Refute it at one input. -/
def fnExactCombosOfWrong : ChangeSpec := { name := "fnExactCombosOf", fn := fun _ => fun
  | [d] => { results := [.lit (.bool false)], args := [d] }
  | _ => none }
def FnExactCombosOfWrongFalsely : Prop := fnExactCombosOfRow.holds Try.pinned (OpenSpec.ofChange fnExactCombosOfWrong)

/- THE SECOND FORM. 'bulk': how many values and letters a reading holds, each counted each time it is reached (what is shared counts as often as it is met; a slice's spare places count too). A statement '..UptoSaid' is the law's where the arguments, and the package variables that the reading takes, are together of bulk at most 1048576: NARROWER than '..Said'. Prove '..Said' where nothing that the law and all that it calls make is longer than what came in: it says more and counts as full. Else prove '..UptoSaid'. A law counts once. -/
mutual
def uptoBulk {H : Type} : DataW H → Nat
  | .lit (.string bytes) => bytes.length + 1
  | .lit _ => 1
  | .nil => 1
  | .ptr d => uptoBulk d + 1
  | .slice elems spare => uptoBulkAll elems + uptoBulkAll spare + 1
  | .agg parts => uptoBulkAll parts + 1
  | .iface _ d => uptoBulk d + 1
  | .map entries => uptoBulkEntries entries + 1
  | .held _ => 1
def uptoBulkAll {H : Type} : List (DataW H) → Nat
  | [] => 0
  | d :: r => uptoBulk d + uptoBulkAll r
def uptoBulkEntries {H : Type} : List (Lit × DataW H) → Nat
  | [] => 0
  | x :: r => uptoBulkEntry x + uptoBulkEntries r
def uptoBulkEntry {H : Type} : Lit × DataW H → Nat
  | (.string bytes, d) => bytes.length + uptoBulk d + 1
  | (_, d) => uptoBulk d + 1
 end
def uptoSmall : (H : Type) → List (DataW H) → Bool := fun _ ds => decide (uptoBulkAll ds ≤ 1048576)
def OpenSpec.upto (s : _root_.Go.ChangeSpec) : _root_.Go.OpenSpec := { _root_.Go.OpenSpec.ofChange s with cond := some uptoSmall }

/-- 'laws.FnExactIsSuited', WHERE WHAT IT READS IS OF BULK AT MOST 1048576: true; the input reads as it did. -/
def fnExactIsSuitedUptoRow : OpenClaim := { program := "ytfhicidkhjcjlaa", sum := "1df5b9787f97c56a5d058515c41f97b12acba4caa3e1b2293f2c23bc6149ea87", func := "loop.example/g00910/laws.FnExactIsSuited", spec := "fnExactIsSuited", apart := false, narrowed := true }
def FnExactIsSuitedUptoSaid : Prop := fnExactIsSuitedUptoRow.holds Try.pinned (OpenSpec.upto fnExactIsSuitedSpec)

/-- 'laws.FnExactIsVariant', WHERE WHAT IT READS IS OF BULK AT MOST 1048576: true; the input reads as it did. -/
def fnExactIsVariantUptoRow : OpenClaim := { program := "ytfhicidkhjcjlaa", sum := "1df5b9787f97c56a5d058515c41f97b12acba4caa3e1b2293f2c23bc6149ea87", func := "loop.example/g00910/laws.FnExactIsVariant", spec := "fnExactIsVariant", apart := false, narrowed := true }
def FnExactIsVariantUptoSaid : Prop := fnExactIsVariantUptoRow.holds Try.pinned (OpenSpec.upto fnExactIsVariantSpec)

/-- 'laws.FnExactClassText', WHERE WHAT IT READS IS OF BULK AT MOST 1048576: true; the input reads as it did. -/
def fnExactClassTextUptoRow : OpenClaim := { program := "ytfhicidkhjcjlaa", sum := "1df5b9787f97c56a5d058515c41f97b12acba4caa3e1b2293f2c23bc6149ea87", func := "loop.example/g00910/laws.FnExactClassText", spec := "fnExactClassText", apart := false, narrowed := true }
def FnExactClassTextUptoSaid : Prop := fnExactClassTextUptoRow.holds Try.pinned (OpenSpec.upto fnExactClassTextSpec)

/-- 'laws.FnExactReadClass', WHERE WHAT IT READS IS OF BULK AT MOST 1048576: true; the input reads as it did. -/
def fnExactReadClassUptoRow : OpenClaim := { program := "ytfhicidkhjcjlaa", sum := "1df5b9787f97c56a5d058515c41f97b12acba4caa3e1b2293f2c23bc6149ea87", func := "loop.example/g00910/laws.FnExactReadClass", spec := "fnExactReadClass", apart := false, narrowed := true }
def FnExactReadClassUptoSaid : Prop := fnExactReadClassUptoRow.holds Try.pinned (OpenSpec.upto fnExactReadClassSpec)

/-- 'laws.FnExactIsRange', WHERE WHAT IT READS IS OF BULK AT MOST 1048576: true; the input reads as it did. -/
def fnExactIsRangeUptoRow : OpenClaim := { program := "ytfhicidkhjcjlaa", sum := "1df5b9787f97c56a5d058515c41f97b12acba4caa3e1b2293f2c23bc6149ea87", func := "loop.example/g00910/laws.FnExactIsRange", spec := "fnExactIsRange", apart := false, narrowed := true }
def FnExactIsRangeUptoSaid : Prop := fnExactIsRangeUptoRow.holds Try.pinned (OpenSpec.upto fnExactIsRangeSpec)

/-- 'laws.FnExactCountHands', WHERE WHAT IT READS IS OF BULK AT MOST 1048576: true; the input reads as it did. -/
def fnExactCountHandsUptoRow : OpenClaim := { program := "ytfhicidkhjcjlaa", sum := "1df5b9787f97c56a5d058515c41f97b12acba4caa3e1b2293f2c23bc6149ea87", func := "loop.example/g00910/laws.FnExactCountHands", spec := "fnExactCountHands", apart := false, narrowed := true }
def FnExactCountHandsUptoSaid : Prop := fnExactCountHandsUptoRow.holds Try.pinned (OpenSpec.upto fnExactCountHandsSpec)

/-- 'laws.FnExactStandardVariant', WHERE WHAT IT READS IS OF BULK AT MOST 1048576: true; the input reads as it did. -/
def fnExactStandardVariantUptoRow : OpenClaim := { program := "ytfhicidkhjcjlaa", sum := "1df5b9787f97c56a5d058515c41f97b12acba4caa3e1b2293f2c23bc6149ea87", func := "loop.example/g00910/laws.FnExactStandardVariant", spec := "fnExactStandardVariant", apart := false, narrowed := true }
def FnExactStandardVariantUptoSaid : Prop := fnExactStandardVariantUptoRow.holds Try.pinned (OpenSpec.upto fnExactStandardVariantSpec)

/-- 'laws.FnExactClassOf', WHERE WHAT IT READS IS OF BULK AT MOST 1048576: true; the input reads as it did. -/
def fnExactClassOfUptoRow : OpenClaim := { program := "ytfhicidkhjcjlaa", sum := "1df5b9787f97c56a5d058515c41f97b12acba4caa3e1b2293f2c23bc6149ea87", func := "loop.example/g00910/laws.FnExactClassOf", spec := "fnExactClassOf", apart := false, narrowed := true }
def FnExactClassOfUptoSaid : Prop := fnExactClassOfUptoRow.holds Try.pinned (OpenSpec.upto fnExactClassOfSpec)

/-- 'laws.FnExactCommonRange', WHERE WHAT IT READS IS OF BULK AT MOST 1048576: true; the input reads as it did. -/
def fnExactCommonRangeUptoRow : OpenClaim := { program := "ytfhicidkhjcjlaa", sum := "1df5b9787f97c56a5d058515c41f97b12acba4caa3e1b2293f2c23bc6149ea87", func := "loop.example/g00910/laws.FnExactCommonRange", spec := "fnExactCommonRange", apart := false, narrowed := true }
def FnExactCommonRangeUptoSaid : Prop := fnExactCommonRangeUptoRow.holds Try.pinned (OpenSpec.upto fnExactCommonRangeSpec)

/-- 'laws.FnExactOtherRange', WHERE WHAT IT READS IS OF BULK AT MOST 1048576: true; the input reads as it did. -/
def fnExactOtherRangeUptoRow : OpenClaim := { program := "ytfhicidkhjcjlaa", sum := "1df5b9787f97c56a5d058515c41f97b12acba4caa3e1b2293f2c23bc6149ea87", func := "loop.example/g00910/laws.FnExactOtherRange", spec := "fnExactOtherRange", apart := false, narrowed := true }
def FnExactOtherRangeUptoSaid : Prop := fnExactOtherRangeUptoRow.holds Try.pinned (OpenSpec.upto fnExactOtherRangeSpec)

/-- 'laws.FnExactCombosOf', WHERE WHAT IT READS IS OF BULK AT MOST 1048576: true; the input reads as it did. -/
def fnExactCombosOfUptoRow : OpenClaim := { program := "ytfhicidkhjcjlaa", sum := "1df5b9787f97c56a5d058515c41f97b12acba4caa3e1b2293f2c23bc6149ea87", func := "loop.example/g00910/laws.FnExactCombosOf", spec := "fnExactCombosOf", apart := false, narrowed := true }
def FnExactCombosOfUptoSaid : Prop := fnExactCombosOfUptoRow.holds Try.pinned (OpenSpec.upto fnExactCombosOfSpec)

end Rows
end Go.Proofs.Ytfhicidkhjcjlaa
