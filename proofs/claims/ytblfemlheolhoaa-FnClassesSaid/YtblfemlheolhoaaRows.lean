/-
  No cell of these rows narrows 'for every input' (looked for: loops, veiled, ifaces, maps, wideKeys, modest, calm, conditions, laid).
  DERIVED. THE GIVEN ROWS OF THIS SEAT. 12 by the template 'for every input the law returns true; each argument reads behind the call as it read before'; 0 by the template 'total and deterministic' (their statements: YtblfemlheolhoaaTotals.lean).
  GIVEN WITH THE SEED: the statements are not yours to turn. If you find one false, say at which input.
  Laid BY PROGRAM, IN A SANDBOX (cutbox-rows.mjs): the forced cells as the released guide's own fill.sh prints them over the translation a53f1dce70a9f466… (all of the seat's roots in one cut). By AI agents, Wed Nov 11 2026. No macro, syntax, notation, axiom, sorry.
-/
import Derived.Test.YtblfemlheolhoaaChecked
import GoSem.Claim
import GoSem.ClaimJoined
import GoSem.ClaimMapViews
import Derived.JoinedTies
import Derived.KernelRfl
namespace Go.Proofs.Ytblfemlheolhoaa
/- THE CELL 'sum', in the pinned program and in every row, IS THE sha256 OF THE DUMP (.gsa) THAT YtblfemlheolhoaaProg.lean LOADS. Nothing in Lean hashes anything: it is a label: what it is worth is what the hold of that sum in a sandbox is worth. -/
noncomputable def Try.pinned : Pinned := { name := "ytblfemlheolhoaa", sum := "a53f1dce70a9f4667e49ca25d8fa013d4ee8330732cdcbcf304b515872fadd64", checked := Try.checked }
namespace Rows
def none {H : Type} : Left H := { results := [], args := [] }

/-- 'laws.FnExactCombosWithout': WHATEVER THE INPUT: true; the input reads as it did. -/
def fnExactCombosWithoutSpec : ChangeSpec := { name := "fnExactCombosWithout", fn := fun _ => fun
  | [d1, d2] => { results := [.lit (.bool true)], args := [d1, d2] }
  | _ => none }
def fnExactCombosWithoutRow : OpenClaim := { program := "ytblfemlheolhoaa", sum := "a53f1dce70a9f4667e49ca25d8fa013d4ee8330732cdcbcf304b515872fadd64", func := "loop.example/g00910/laws.FnExactCombosWithout", spec := "fnExactCombosWithout", apart := false }
def FnExactCombosWithoutSaid : Prop := fnExactCombosWithoutRow.holds Try.pinned (OpenSpec.ofChange fnExactCombosWithoutSpec)

/-- ITS FALSE NEIGHBOUR: 'it returns false'. Refute it at one input. -/
def fnExactCombosWithoutWrong : ChangeSpec := { name := "fnExactCombosWithout", fn := fun _ => fun
  | [d1, d2] => { results := [.lit (.bool false)], args := [d1, d2] }
  | _ => none }
def FnExactCombosWithoutWrongFalsely : Prop := fnExactCombosWithoutRow.holds Try.pinned (OpenSpec.ofChange fnExactCombosWithoutWrong)

/-- 'laws.FnExactRangeText': WHATEVER THE INPUT: true; the input reads as it did. -/
def fnExactRangeTextSpec : ChangeSpec := { name := "fnExactRangeText", fn := fun _ => fun
  | [d] => { results := [.lit (.bool true)], args := [d] }
  | _ => none }
def fnExactRangeTextRow : OpenClaim := { program := "ytblfemlheolhoaa", sum := "a53f1dce70a9f4667e49ca25d8fa013d4ee8330732cdcbcf304b515872fadd64", func := "loop.example/g00910/laws.FnExactRangeText", spec := "fnExactRangeText", inPlace := ["internal/abi.NoEscape", "internal/bytealg.MakeNoZero"], unfollowed := true, recurses := true, apart := false }
def FnExactRangeTextSaid : Prop := fnExactRangeTextRow.holds Try.pinned (OpenSpec.ofChange fnExactRangeTextSpec)

/-- ITS FALSE NEIGHBOUR: 'it returns false'. Refute it at one input. -/
def fnExactRangeTextWrong : ChangeSpec := { name := "fnExactRangeText", fn := fun _ => fun
  | [d] => { results := [.lit (.bool false)], args := [d] }
  | _ => none }
def FnExactRangeTextWrongFalsely : Prop := fnExactRangeTextRow.holds Try.pinned (OpenSpec.ofChange fnExactRangeTextWrong)

/-- 'laws.FnExactShareOf': WHATEVER THE INPUT: true; the input reads as it did. -/
def fnExactShareOfSpec : ChangeSpec := { name := "fnExactShareOf", fn := fun _ => fun
  | [d] => { results := [.lit (.bool true)], args := [d] }
  | _ => none }
def fnExactShareOfRow : OpenClaim := { program := "ytblfemlheolhoaa", sum := "a53f1dce70a9f4667e49ca25d8fa013d4ee8330732cdcbcf304b515872fadd64", func := "loop.example/g00910/laws.FnExactShareOf", spec := "fnExactShareOf", recurses := true, apart := false }
def FnExactShareOfSaid : Prop := fnExactShareOfRow.holds Try.pinned (OpenSpec.ofChange fnExactShareOfSpec)

/-- ITS FALSE NEIGHBOUR: 'it returns false'. Refute it at one input. -/
def fnExactShareOfWrong : ChangeSpec := { name := "fnExactShareOf", fn := fun _ => fun
  | [d] => { results := [.lit (.bool false)], args := [d] }
  | _ => none }
def FnExactShareOfWrongFalsely : Prop := fnExactShareOfRow.holds Try.pinned (OpenSpec.ofChange fnExactShareOfWrong)

/-- 'laws.FnExactCountCombos': WHATEVER THE INPUT: true; the input reads as it did. -/
def fnExactCountCombosSpec : ChangeSpec := { name := "fnExactCountCombos", fn := fun _ => fun
  | [d1, d2] => { results := [.lit (.bool true)], args := [d1, d2] }
  | _ => none }
def fnExactCountCombosRow : OpenClaim := { program := "ytblfemlheolhoaa", sum := "a53f1dce70a9f4667e49ca25d8fa013d4ee8330732cdcbcf304b515872fadd64", func := "loop.example/g00910/laws.FnExactCountCombos", spec := "fnExactCountCombos", apart := false }
def FnExactCountCombosSaid : Prop := fnExactCountCombosRow.holds Try.pinned (OpenSpec.ofChange fnExactCountCombosSpec)

/-- ITS FALSE NEIGHBOUR: 'it returns false'. Refute it at one input. -/
def fnExactCountCombosWrong : ChangeSpec := { name := "fnExactCountCombos", fn := fun _ => fun
  | [d1, d2] => { results := [.lit (.bool false)], args := [d1, d2] }
  | _ => none }
def FnExactCountCombosWrongFalsely : Prop := fnExactCountCombosRow.holds Try.pinned (OpenSpec.ofChange fnExactCountCombosWrong)

/-- 'laws.FnExactRangeCombos': WHATEVER THE INPUT: true; the input reads as it did. -/
def fnExactRangeCombosSpec : ChangeSpec := { name := "fnExactRangeCombos", fn := fun _ => fun
  | [d1, d2] => { results := [.lit (.bool true)], args := [d1, d2] }
  | _ => none }
def fnExactRangeCombosRow : OpenClaim := { program := "ytblfemlheolhoaa", sum := "a53f1dce70a9f4667e49ca25d8fa013d4ee8330732cdcbcf304b515872fadd64", func := "loop.example/g00910/laws.FnExactRangeCombos", spec := "fnExactRangeCombos", apart := false }
def FnExactRangeCombosSaid : Prop := fnExactRangeCombosRow.holds Try.pinned (OpenSpec.ofChange fnExactRangeCombosSpec)

/-- ITS FALSE NEIGHBOUR: 'it returns false'. Refute it at one input. -/
def fnExactRangeCombosWrong : ChangeSpec := { name := "fnExactRangeCombos", fn := fun _ => fun
  | [d1, d2] => { results := [.lit (.bool false)], args := [d1, d2] }
  | _ => none }
def FnExactRangeCombosWrongFalsely : Prop := fnExactRangeCombosRow.holds Try.pinned (OpenSpec.ofChange fnExactRangeCombosWrong)

/-- 'laws.FnExactJoinRanges': WHATEVER THE INPUT: true; the input reads as it did. -/
def fnExactJoinRangesSpec : ChangeSpec := { name := "fnExactJoinRanges", fn := fun _ => fun
  | [d1, d2] => { results := [.lit (.bool true)], args := [d1, d2] }
  | _ => none }
def fnExactJoinRangesRow : OpenClaim := { program := "ytblfemlheolhoaa", sum := "a53f1dce70a9f4667e49ca25d8fa013d4ee8330732cdcbcf304b515872fadd64", func := "loop.example/g00910/laws.FnExactJoinRanges", spec := "fnExactJoinRanges", recurses := true, apart := false }
def FnExactJoinRangesSaid : Prop := fnExactJoinRangesRow.holds Try.pinned (OpenSpec.ofChange fnExactJoinRangesSpec)

/-- ITS FALSE NEIGHBOUR: 'it returns false'. Refute it at one input. -/
def fnExactJoinRangesWrong : ChangeSpec := { name := "fnExactJoinRanges", fn := fun _ => fun
  | [d1, d2] => { results := [.lit (.bool false)], args := [d1, d2] }
  | _ => none }
def FnExactJoinRangesWrongFalsely : Prop := fnExactJoinRangesRow.holds Try.pinned (OpenSpec.ofChange fnExactJoinRangesWrong)

/-- 'laws.FnExactHandsIn': WHATEVER THE INPUT: true; the input reads as it did. -/
def fnExactHandsInSpec : ChangeSpec := { name := "fnExactHandsIn", fn := fun _ => fun
  | [d1, d2, d3] => { results := [.lit (.bool true)], args := [d1, d2, d3] }
  | _ => none }
def fnExactHandsInRow : OpenClaim := { program := "ytblfemlheolhoaa", sum := "a53f1dce70a9f4667e49ca25d8fa013d4ee8330732cdcbcf304b515872fadd64", func := "loop.example/g00910/laws.FnExactHandsIn", spec := "fnExactHandsIn", unfollowed := true, recurses := true, apart := false }
def FnExactHandsInSaid : Prop := fnExactHandsInRow.holds Try.pinned (OpenSpec.ofChange fnExactHandsInSpec)

/-- ITS FALSE NEIGHBOUR: 'it returns false'. Refute it at one input. -/
def fnExactHandsInWrong : ChangeSpec := { name := "fnExactHandsIn", fn := fun _ => fun
  | [d1, d2, d3] => { results := [.lit (.bool false)], args := [d1, d2, d3] }
  | _ => none }
def FnExactHandsInWrongFalsely : Prop := fnExactHandsInRow.holds Try.pinned (OpenSpec.ofChange fnExactHandsInWrong)

/-- 'laws.FnExactSuitOrbit': WHATEVER THE INPUT: true; the input reads as it did. -/
def fnExactSuitOrbitSpec : ChangeSpec := { name := "fnExactSuitOrbit", fn := fun _ => fun
  | [d] => { results := [.lit (.bool true)], args := [d] }
  | _ => none }
def fnExactSuitOrbitRow : OpenClaim := { program := "ytblfemlheolhoaa", sum := "a53f1dce70a9f4667e49ca25d8fa013d4ee8330732cdcbcf304b515872fadd64", func := "loop.example/g00910/laws.FnExactSuitOrbit", spec := "fnExactSuitOrbit", unfollowed := true, recurses := true, apart := false }
def FnExactSuitOrbitSaid : Prop := fnExactSuitOrbitRow.holds Try.pinned (OpenSpec.ofChange fnExactSuitOrbitSpec)

/-- ITS FALSE NEIGHBOUR: 'it returns false'. Refute it at one input. -/
def fnExactSuitOrbitWrong : ChangeSpec := { name := "fnExactSuitOrbit", fn := fun _ => fun
  | [d] => { results := [.lit (.bool false)], args := [d] }
  | _ => none }
def FnExactSuitOrbitWrongFalsely : Prop := fnExactSuitOrbitRow.holds Try.pinned (OpenSpec.ofChange fnExactSuitOrbitWrong)

/-- 'laws.FnExactCanonicalCards': WHATEVER THE INPUT: true; the input reads as it did. -/
def fnExactCanonicalCardsSpec : ChangeSpec := { name := "fnExactCanonicalCards", fn := fun _ => fun
  | [d] => { results := [.lit (.bool true)], args := [d] }
  | _ => none }
def fnExactCanonicalCardsRow : OpenClaim := { program := "ytblfemlheolhoaa", sum := "a53f1dce70a9f4667e49ca25d8fa013d4ee8330732cdcbcf304b515872fadd64", func := "loop.example/g00910/laws.FnExactCanonicalCards", spec := "fnExactCanonicalCards", recurses := true, apart := false }
def FnExactCanonicalCardsSaid : Prop := fnExactCanonicalCardsRow.holds Try.pinned (OpenSpec.ofChange fnExactCanonicalCardsSpec)

/-- ITS FALSE NEIGHBOUR: 'it returns false'. Refute it at one input. -/
def fnExactCanonicalCardsWrong : ChangeSpec := { name := "fnExactCanonicalCards", fn := fun _ => fun
  | [d] => { results := [.lit (.bool false)], args := [d] }
  | _ => none }
def FnExactCanonicalCardsWrongFalsely : Prop := fnExactCanonicalCardsRow.holds Try.pinned (OpenSpec.ofChange fnExactCanonicalCardsWrong)

/-- 'laws.FnExactLowIn': WHATEVER THE INPUT: true; the input reads as it did. -/
def fnExactLowInSpec : ChangeSpec := { name := "fnExactLowIn", fn := fun _ => fun
  | [d1, d2, d3] => { results := [.lit (.bool true)], args := [d1, d2, d3] }
  | _ => none }
def fnExactLowInRow : OpenClaim := { program := "ytblfemlheolhoaa", sum := "a53f1dce70a9f4667e49ca25d8fa013d4ee8330732cdcbcf304b515872fadd64", func := "loop.example/g00910/laws.FnExactLowIn", spec := "fnExactLowIn", unfollowed := true, recurses := true, apart := false }
def FnExactLowInSaid : Prop := fnExactLowInRow.holds Try.pinned (OpenSpec.ofChange fnExactLowInSpec)

/-- ITS FALSE NEIGHBOUR: 'it returns false'. Refute it at one input. -/
def fnExactLowInWrong : ChangeSpec := { name := "fnExactLowIn", fn := fun _ => fun
  | [d1, d2, d3] => { results := [.lit (.bool false)], args := [d1, d2, d3] }
  | _ => none }
def FnExactLowInWrongFalsely : Prop := fnExactLowInRow.holds Try.pinned (OpenSpec.ofChange fnExactLowInWrong)

/-- 'laws.FnCombos': WHATEVER THE INPUT: true; the input reads as it did. -/
def fnCombosSpec : ChangeSpec := { name := "fnCombos", fn := fun _ => fun
  | [d] => { results := [.lit (.bool true)], args := [d] }
  | _ => none }
def fnCombosRow : OpenClaim := { program := "ytblfemlheolhoaa", sum := "a53f1dce70a9f4667e49ca25d8fa013d4ee8330732cdcbcf304b515872fadd64", func := "loop.example/g00910/laws.FnCombos", spec := "fnCombos", apart := false }
def FnCombosSaid : Prop := fnCombosRow.holds Try.pinned (OpenSpec.ofChange fnCombosSpec)

/-- ITS FALSE NEIGHBOUR: 'it returns false'. Refute it at one input. -/
def fnCombosWrong : ChangeSpec := { name := "fnCombos", fn := fun _ => fun
  | [d] => { results := [.lit (.bool false)], args := [d] }
  | _ => none }
def FnCombosWrongFalsely : Prop := fnCombosRow.holds Try.pinned (OpenSpec.ofChange fnCombosWrong)

/-- 'laws.FnClasses': WHATEVER THE INPUT: true; the input reads as it did. -/
def fnClassesSpec : ChangeSpec := { name := "fnClasses", fn := fun _ => fun
  | [d] => { results := [.lit (.bool true)], args := [d] }
  | _ => none }
def fnClassesRow : OpenClaim := { program := "ytblfemlheolhoaa", sum := "a53f1dce70a9f4667e49ca25d8fa013d4ee8330732cdcbcf304b515872fadd64", func := "loop.example/g00910/laws.FnClasses", spec := "fnClasses", apart := false }
def FnClassesSaid : Prop := fnClassesRow.holds Try.pinned (OpenSpec.ofChange fnClassesSpec)

/-- ITS FALSE NEIGHBOUR: 'it returns false'. Refute it at one input. -/
def fnClassesWrong : ChangeSpec := { name := "fnClasses", fn := fun _ => fun
  | [d] => { results := [.lit (.bool false)], args := [d] }
  | _ => none }
def FnClassesWrongFalsely : Prop := fnClassesRow.holds Try.pinned (OpenSpec.ofChange fnClassesWrong)

/- THE SECOND FORM. 'bulk': how many values and letters a reading holds, each counted each time it is reached (what is shared counts as often as it is met; a slice's spare places count too). A statement '..UptoSaid' is the law's where the arguments, and the package variables that the reading takes, are together of bulk at most 1048576: NARROWER than '..Said'. Prove '..Said' where nothing that the law and all that it calls make is longer than what came in: it says more and counts as full. Else prove '..UptoSaid'. A law counts once. -/
mutual
def uptoBulk {H : Type} : DataW H → Nat
  | .lit (.string bytes) => bytes.length + 1
  | .lit _ => 1
  | .nil => 1
  | .ptr d => uptoBulk d + 1
  | .slice elems spare => uptoBulkAll elems + uptoBulkAll spare + 1
  | .agg parts => uptoBulkAll parts + 1
  | .iface _ d => uptoBulk d + 1
  | .map entries => uptoBulkEntries entries + 1
  | .held _ => 1
def uptoBulkAll {H : Type} : List (DataW H) → Nat
  | [] => 0
  | d :: r => uptoBulk d + uptoBulkAll r
def uptoBulkEntries {H : Type} : List (Lit × DataW H) → Nat
  | [] => 0
  | x :: r => uptoBulkEntry x + uptoBulkEntries r
def uptoBulkEntry {H : Type} : Lit × DataW H → Nat
  | (.string bytes, d) => bytes.length + uptoBulk d + 1
  | (_, d) => uptoBulk d + 1
 end
def uptoSmall : (H : Type) → List (DataW H) → Bool := fun _ ds => decide (uptoBulkAll ds ≤ 1048576)
def OpenSpec.upto (s : _root_.Go.ChangeSpec) : _root_.Go.OpenSpec := { _root_.Go.OpenSpec.ofChange s with cond := some uptoSmall }

/-- 'laws.FnExactCombosWithout', WHERE WHAT IT READS IS OF BULK AT MOST 1048576: true; the input reads as it did. -/
def fnExactCombosWithoutUptoRow : OpenClaim := { program := "ytblfemlheolhoaa", sum := "a53f1dce70a9f4667e49ca25d8fa013d4ee8330732cdcbcf304b515872fadd64", func := "loop.example/g00910/laws.FnExactCombosWithout", spec := "fnExactCombosWithout", apart := false, narrowed := true }
def FnExactCombosWithoutUptoSaid : Prop := fnExactCombosWithoutUptoRow.holds Try.pinned (OpenSpec.upto fnExactCombosWithoutSpec)

/-- 'laws.FnExactRangeText', WHERE WHAT IT READS IS OF BULK AT MOST 1048576: true; the input reads as it did. -/
def fnExactRangeTextUptoRow : OpenClaim := { program := "ytblfemlheolhoaa", sum := "a53f1dce70a9f4667e49ca25d8fa013d4ee8330732cdcbcf304b515872fadd64", func := "loop.example/g00910/laws.FnExactRangeText", spec := "fnExactRangeText", inPlace := ["internal/abi.NoEscape", "internal/bytealg.MakeNoZero"], unfollowed := true, recurses := true, apart := false, narrowed := true }
def FnExactRangeTextUptoSaid : Prop := fnExactRangeTextUptoRow.holds Try.pinned (OpenSpec.upto fnExactRangeTextSpec)

/-- 'laws.FnExactShareOf', WHERE WHAT IT READS IS OF BULK AT MOST 1048576: true; the input reads as it did. -/
def fnExactShareOfUptoRow : OpenClaim := { program := "ytblfemlheolhoaa", sum := "a53f1dce70a9f4667e49ca25d8fa013d4ee8330732cdcbcf304b515872fadd64", func := "loop.example/g00910/laws.FnExactShareOf", spec := "fnExactShareOf", recurses := true, apart := false, narrowed := true }
def FnExactShareOfUptoSaid : Prop := fnExactShareOfUptoRow.holds Try.pinned (OpenSpec.upto fnExactShareOfSpec)

/-- 'laws.FnExactCountCombos', WHERE WHAT IT READS IS OF BULK AT MOST 1048576: true; the input reads as it did. -/
def fnExactCountCombosUptoRow : OpenClaim := { program := "ytblfemlheolhoaa", sum := "a53f1dce70a9f4667e49ca25d8fa013d4ee8330732cdcbcf304b515872fadd64", func := "loop.example/g00910/laws.FnExactCountCombos", spec := "fnExactCountCombos", apart := false, narrowed := true }
def FnExactCountCombosUptoSaid : Prop := fnExactCountCombosUptoRow.holds Try.pinned (OpenSpec.upto fnExactCountCombosSpec)

/-- 'laws.FnExactRangeCombos', WHERE WHAT IT READS IS OF BULK AT MOST 1048576: true; the input reads as it did. -/
def fnExactRangeCombosUptoRow : OpenClaim := { program := "ytblfemlheolhoaa", sum := "a53f1dce70a9f4667e49ca25d8fa013d4ee8330732cdcbcf304b515872fadd64", func := "loop.example/g00910/laws.FnExactRangeCombos", spec := "fnExactRangeCombos", apart := false, narrowed := true }
def FnExactRangeCombosUptoSaid : Prop := fnExactRangeCombosUptoRow.holds Try.pinned (OpenSpec.upto fnExactRangeCombosSpec)

/-- 'laws.FnExactJoinRanges', WHERE WHAT IT READS IS OF BULK AT MOST 1048576: true; the input reads as it did. -/
def fnExactJoinRangesUptoRow : OpenClaim := { program := "ytblfemlheolhoaa", sum := "a53f1dce70a9f4667e49ca25d8fa013d4ee8330732cdcbcf304b515872fadd64", func := "loop.example/g00910/laws.FnExactJoinRanges", spec := "fnExactJoinRanges", recurses := true, apart := false, narrowed := true }
def FnExactJoinRangesUptoSaid : Prop := fnExactJoinRangesUptoRow.holds Try.pinned (OpenSpec.upto fnExactJoinRangesSpec)

/-- 'laws.FnExactHandsIn', WHERE WHAT IT READS IS OF BULK AT MOST 1048576: true; the input reads as it did. -/
def fnExactHandsInUptoRow : OpenClaim := { program := "ytblfemlheolhoaa", sum := "a53f1dce70a9f4667e49ca25d8fa013d4ee8330732cdcbcf304b515872fadd64", func := "loop.example/g00910/laws.FnExactHandsIn", spec := "fnExactHandsIn", unfollowed := true, recurses := true, apart := false, narrowed := true }
def FnExactHandsInUptoSaid : Prop := fnExactHandsInUptoRow.holds Try.pinned (OpenSpec.upto fnExactHandsInSpec)

/-- 'laws.FnExactSuitOrbit', WHERE WHAT IT READS IS OF BULK AT MOST 1048576: true; the input reads as it did. -/
def fnExactSuitOrbitUptoRow : OpenClaim := { program := "ytblfemlheolhoaa", sum := "a53f1dce70a9f4667e49ca25d8fa013d4ee8330732cdcbcf304b515872fadd64", func := "loop.example/g00910/laws.FnExactSuitOrbit", spec := "fnExactSuitOrbit", unfollowed := true, recurses := true, apart := false, narrowed := true }
def FnExactSuitOrbitUptoSaid : Prop := fnExactSuitOrbitUptoRow.holds Try.pinned (OpenSpec.upto fnExactSuitOrbitSpec)

/-- 'laws.FnExactCanonicalCards', WHERE WHAT IT READS IS OF BULK AT MOST 1048576: true; the input reads as it did. -/
def fnExactCanonicalCardsUptoRow : OpenClaim := { program := "ytblfemlheolhoaa", sum := "a53f1dce70a9f4667e49ca25d8fa013d4ee8330732cdcbcf304b515872fadd64", func := "loop.example/g00910/laws.FnExactCanonicalCards", spec := "fnExactCanonicalCards", recurses := true, apart := false, narrowed := true }
def FnExactCanonicalCardsUptoSaid : Prop := fnExactCanonicalCardsUptoRow.holds Try.pinned (OpenSpec.upto fnExactCanonicalCardsSpec)

/-- 'laws.FnExactLowIn', WHERE WHAT IT READS IS OF BULK AT MOST 1048576: true; the input reads as it did. -/
def fnExactLowInUptoRow : OpenClaim := { program := "ytblfemlheolhoaa", sum := "a53f1dce70a9f4667e49ca25d8fa013d4ee8330732cdcbcf304b515872fadd64", func := "loop.example/g00910/laws.FnExactLowIn", spec := "fnExactLowIn", unfollowed := true, recurses := true, apart := false, narrowed := true }
def FnExactLowInUptoSaid : Prop := fnExactLowInUptoRow.holds Try.pinned (OpenSpec.upto fnExactLowInSpec)

/-- 'laws.FnCombos', WHERE WHAT IT READS IS OF BULK AT MOST 1048576: true; the input reads as it did. -/
def fnCombosUptoRow : OpenClaim := { program := "ytblfemlheolhoaa", sum := "a53f1dce70a9f4667e49ca25d8fa013d4ee8330732cdcbcf304b515872fadd64", func := "loop.example/g00910/laws.FnCombos", spec := "fnCombos", apart := false, narrowed := true }
def FnCombosUptoSaid : Prop := fnCombosUptoRow.holds Try.pinned (OpenSpec.upto fnCombosSpec)

/-- 'laws.FnClasses', WHERE WHAT IT READS IS OF BULK AT MOST 1048576: true; the input reads as it did. -/
def fnClassesUptoRow : OpenClaim := { program := "ytblfemlheolhoaa", sum := "a53f1dce70a9f4667e49ca25d8fa013d4ee8330732cdcbcf304b515872fadd64", func := "loop.example/g00910/laws.FnClasses", spec := "fnClasses", apart := false, narrowed := true }
def FnClassesUptoSaid : Prop := fnClassesUptoRow.holds Try.pinned (OpenSpec.upto fnClassesSpec)

end Rows
end Go.Proofs.Ytblfemlheolhoaa
