/-
  No cell of these rows narrows 'for every input' (looked for: loops, veiled, ifaces, maps, wideKeys, modest, calm, conditions, laid).
  DERIVED. THE GIVEN ROWS OF THIS SEAT. 8 by the template 'for every input the law returns true; each argument reads behind the call as it read before'; 0 by the template 'total and deterministic' (their statements: YtokelcedamegbaaTotals.lean).
  GIVEN WITH THE SEED: the statements are not yours to turn. If you find one false, say at which input.
  Laid BY PROGRAM, IN A SANDBOX (cutbox-rows.mjs): the forced cells as the released guide's own fill.sh prints them over the translation 09f82a68e8c6674a… (all of the seat's roots in one cut). By AI agents, Wed Nov 11 2026. No macro, syntax, notation, axiom, sorry.
-/
import Derived.Test.YtokelcedamegbaaChecked
import GoSem.Claim
import GoSem.ClaimJoined
import GoSem.ClaimMapViews
import Derived.JoinedTies
import Derived.KernelRfl
namespace Go.Proofs.Ytokelcedamegbaa
/- THE CELL 'sum', in the pinned program and in every row, IS THE sha256 OF THE DUMP (.gsa) THAT YtokelcedamegbaaProg.lean LOADS. Nothing in Lean hashes anything: it is a label: what it is worth is what the hold of that sum in a sandbox is worth. -/
noncomputable def Try.pinned : Pinned := { name := "ytokelcedamegbaa", sum := "09f82a68e8c6674a016c1e66772a8c30f4d4a96d0b39316a3e2d5bf36de6114d", checked := Try.checked }
namespace Rows
def none {H : Type} : Left H := { results := [], args := [] }

/-- 'laws.FnExactClassesOf': WHATEVER THE INPUT: true; the input reads as it did. -/
def fnExactClassesOfSpec : ChangeSpec := { name := "fnExactClassesOf", fn := fun _ => fun
  | [d] => { results := [.lit (.bool true)], args := [d] }
  | _ => none }
def fnExactClassesOfRow : OpenClaim := { program := "ytokelcedamegbaa", sum := "09f82a68e8c6674a016c1e66772a8c30f4d4a96d0b39316a3e2d5bf36de6114d", func := "loop.example/g01275/laws.FnExactClassesOf", spec := "fnExactClassesOf", unfollowed := true, recurses := true, apart := false }
def FnExactClassesOfSaid : Prop := fnExactClassesOfRow.holds Try.pinned (OpenSpec.ofChange fnExactClassesOfSpec)

/-- ITS FALSE NEIGHBOUR: 'it returns false'. Refute it at one input. -/
def fnExactClassesOfWrong : ChangeSpec := { name := "fnExactClassesOf", fn := fun _ => fun
  | [d] => { results := [.lit (.bool false)], args := [d] }
  | _ => none }
def FnExactClassesOfWrongFalsely : Prop := fnExactClassesOfRow.holds Try.pinned (OpenSpec.ofChange fnExactClassesOfWrong)

/-- 'laws.FnExactCountWeighted': WHATEVER THE INPUT: true; the input reads as it did. -/
def fnExactCountWeightedSpec : ChangeSpec := { name := "fnExactCountWeighted", fn := fun _ => fun
  | [d] => { results := [.lit (.bool true)], args := [d] }
  | _ => none }
def fnExactCountWeightedRow : OpenClaim := { program := "ytokelcedamegbaa", sum := "09f82a68e8c6674a016c1e66772a8c30f4d4a96d0b39316a3e2d5bf36de6114d", func := "loop.example/g01275/laws.FnExactCountWeighted", spec := "fnExactCountWeighted", unfollowed := true, recurses := true, apart := false }
def FnExactCountWeightedSaid : Prop := fnExactCountWeightedRow.holds Try.pinned (OpenSpec.ofChange fnExactCountWeightedSpec)

/-- ITS FALSE NEIGHBOUR: 'it returns false'. Refute it at one input. -/
def fnExactCountWeightedWrong : ChangeSpec := { name := "fnExactCountWeighted", fn := fun _ => fun
  | [d] => { results := [.lit (.bool false)], args := [d] }
  | _ => none }
def FnExactCountWeightedWrongFalsely : Prop := fnExactCountWeightedRow.holds Try.pinned (OpenSpec.ofChange fnExactCountWeightedWrong)

/-- 'laws.FnExactHasWeights': WHATEVER THE INPUT: true; the input reads as it did. -/
def fnExactHasWeightsSpec : ChangeSpec := { name := "fnExactHasWeights", fn := fun _ => fun
  | [d] => { results := [.lit (.bool true)], args := [d] }
  | _ => none }
def fnExactHasWeightsRow : OpenClaim := { program := "ytokelcedamegbaa", sum := "09f82a68e8c6674a016c1e66772a8c30f4d4a96d0b39316a3e2d5bf36de6114d", func := "loop.example/g01275/laws.FnExactHasWeights", spec := "fnExactHasWeights", unfollowed := true, recurses := true, apart := false }
def FnExactHasWeightsSaid : Prop := fnExactHasWeightsRow.holds Try.pinned (OpenSpec.ofChange fnExactHasWeightsSpec)

/-- ITS FALSE NEIGHBOUR: 'it returns false'. Refute it at one input. -/
def fnExactHasWeightsWrong : ChangeSpec := { name := "fnExactHasWeights", fn := fun _ => fun
  | [d] => { results := [.lit (.bool false)], args := [d] }
  | _ => none }
def FnExactHasWeightsWrongFalsely : Prop := fnExactHasWeightsRow.holds Try.pinned (OpenSpec.ofChange fnExactHasWeightsWrong)

/-- 'laws.FnExactHeadsGame': WHATEVER THE INPUT: true; the input reads as it did. -/
def fnExactHeadsGameSpec : ChangeSpec := { name := "fnExactHeadsGame", fn := fun _ => fun
  | [d1, d2] => { results := [.lit (.bool true)], args := [d1, d2] }
  | _ => none }
def fnExactHeadsGameRow : OpenClaim := { program := "ytokelcedamegbaa", sum := "09f82a68e8c6674a016c1e66772a8c30f4d4a96d0b39316a3e2d5bf36de6114d", func := "loop.example/g01275/laws.FnExactHeadsGame", spec := "fnExactHeadsGame", unfollowed := true, recurses := true, apart := false }
def FnExactHeadsGameSaid : Prop := fnExactHeadsGameRow.holds Try.pinned (OpenSpec.ofChange fnExactHeadsGameSpec)

/-- ITS FALSE NEIGHBOUR: 'it returns false'. Refute it at one input. -/
def fnExactHeadsGameWrong : ChangeSpec := { name := "fnExactHeadsGame", fn := fun _ => fun
  | [d1, d2] => { results := [.lit (.bool false)], args := [d1, d2] }
  | _ => none }
def FnExactHeadsGameWrongFalsely : Prop := fnExactHeadsGameRow.holds Try.pinned (OpenSpec.ofChange fnExactHeadsGameWrong)

/-- 'laws.FnExactAllGame': WHATEVER THE INPUT: true; the input reads as it did. -/
def fnExactAllGameSpec : ChangeSpec := { name := "fnExactAllGame", fn := fun _ => fun
  | [d] => { results := [.lit (.bool true)], args := [d] }
  | _ => none }
def fnExactAllGameRow : OpenClaim := { program := "ytokelcedamegbaa", sum := "09f82a68e8c6674a016c1e66772a8c30f4d4a96d0b39316a3e2d5bf36de6114d", func := "loop.example/g01275/laws.FnExactAllGame", spec := "fnExactAllGame", unfollowed := true, recurses := true, apart := false }
def FnExactAllGameSaid : Prop := fnExactAllGameRow.holds Try.pinned (OpenSpec.ofChange fnExactAllGameSpec)

/-- ITS FALSE NEIGHBOUR: 'it returns false'. Refute it at one input. -/
def fnExactAllGameWrong : ChangeSpec := { name := "fnExactAllGame", fn := fun _ => fun
  | [d] => { results := [.lit (.bool false)], args := [d] }
  | _ => none }
def FnExactAllGameWrongFalsely : Prop := fnExactAllGameRow.holds Try.pinned (OpenSpec.ofChange fnExactAllGameWrong)

/-- 'laws.FnExactSomeGame': WHATEVER THE INPUT: true; the input reads as it did. -/
def fnExactSomeGameSpec : ChangeSpec := { name := "fnExactSomeGame", fn := fun _ => fun
  | [d] => { results := [.lit (.bool true)], args := [d] }
  | _ => none }
def fnExactSomeGameRow : OpenClaim := { program := "ytokelcedamegbaa", sum := "09f82a68e8c6674a016c1e66772a8c30f4d4a96d0b39316a3e2d5bf36de6114d", func := "loop.example/g01275/laws.FnExactSomeGame", spec := "fnExactSomeGame", unfollowed := true, recurses := true, apart := false }
def FnExactSomeGameSaid : Prop := fnExactSomeGameRow.holds Try.pinned (OpenSpec.ofChange fnExactSomeGameSpec)

/-- ITS FALSE NEIGHBOUR: 'it returns false'. Refute it at one input. -/
def fnExactSomeGameWrong : ChangeSpec := { name := "fnExactSomeGame", fn := fun _ => fun
  | [d] => { results := [.lit (.bool false)], args := [d] }
  | _ => none }
def FnExactSomeGameWrongFalsely : Prop := fnExactSomeGameRow.holds Try.pinned (OpenSpec.ofChange fnExactSomeGameWrong)

/-- 'laws.FnExactStandsTrades': WHATEVER THE INPUT: true; the input reads as it did. -/
def fnExactStandsTradesSpec : ChangeSpec := { name := "fnExactStandsTrades", fn := fun _ => fun
  | [d] => { results := [.lit (.bool true)], args := [d] }
  | _ => none }
def fnExactStandsTradesRow : OpenClaim := { program := "ytokelcedamegbaa", sum := "09f82a68e8c6674a016c1e66772a8c30f4d4a96d0b39316a3e2d5bf36de6114d", func := "loop.example/g01275/laws.FnExactStandsTrades", spec := "fnExactStandsTrades", unfollowed := true, recurses := true, apart := false }
def FnExactStandsTradesSaid : Prop := fnExactStandsTradesRow.holds Try.pinned (OpenSpec.ofChange fnExactStandsTradesSpec)

/-- ITS FALSE NEIGHBOUR: 'it returns false'. Refute it at one input. -/
def fnExactStandsTradesWrong : ChangeSpec := { name := "fnExactStandsTrades", fn := fun _ => fun
  | [d] => { results := [.lit (.bool false)], args := [d] }
  | _ => none }
def FnExactStandsTradesWrongFalsely : Prop := fnExactStandsTradesRow.holds Try.pinned (OpenSpec.ofChange fnExactStandsTradesWrong)

/-- 'laws.FnExactCouncilGame': WHATEVER THE INPUT: true; the input reads as it did. -/
def fnExactCouncilGameSpec : ChangeSpec := { name := "fnExactCouncilGame", fn := fun _ => fun
  | [d1, d2] => { results := [.lit (.bool true)], args := [d1, d2] }
  | _ => none }
def fnExactCouncilGameRow : OpenClaim := { program := "ytokelcedamegbaa", sum := "09f82a68e8c6674a016c1e66772a8c30f4d4a96d0b39316a3e2d5bf36de6114d", func := "loop.example/g01275/laws.FnExactCouncilGame", spec := "fnExactCouncilGame", unfollowed := true, recurses := true, apart := false }
def FnExactCouncilGameSaid : Prop := fnExactCouncilGameRow.holds Try.pinned (OpenSpec.ofChange fnExactCouncilGameSpec)

/-- ITS FALSE NEIGHBOUR: 'it returns false'. Refute it at one input. -/
def fnExactCouncilGameWrong : ChangeSpec := { name := "fnExactCouncilGame", fn := fun _ => fun
  | [d1, d2] => { results := [.lit (.bool false)], args := [d1, d2] }
  | _ => none }
def FnExactCouncilGameWrongFalsely : Prop := fnExactCouncilGameRow.holds Try.pinned (OpenSpec.ofChange fnExactCouncilGameWrong)

/- THE SECOND FORM. 'bulk': how many values and letters a reading holds, each counted each time it is reached (what is shared counts as often as it is met; a slice's spare places count too). A statement '..UptoSaid' is the law's where the arguments, and the package variables that the reading takes, are together of bulk at most 1048576: NARROWER than '..Said'. Prove '..Said' where nothing that the law and all that it calls make is longer than what came in: it says more and counts as full. Else prove '..UptoSaid'. A law counts once. -/
mutual
def uptoBulk {H : Type} : DataW H → Nat
  | .lit (.string bytes) => bytes.length + 1
  | .lit _ => 1
  | .nil => 1
  | .ptr d => uptoBulk d + 1
  | .slice elems spare => uptoBulkAll elems + uptoBulkAll spare + 1
  | .agg parts => uptoBulkAll parts + 1
  | .iface _ d => uptoBulk d + 1
  | .map entries => uptoBulkEntries entries + 1
  | .held _ => 1
def uptoBulkAll {H : Type} : List (DataW H) → Nat
  | [] => 0
  | d :: r => uptoBulk d + uptoBulkAll r
def uptoBulkEntries {H : Type} : List (Lit × DataW H) → Nat
  | [] => 0
  | x :: r => uptoBulkEntry x + uptoBulkEntries r
def uptoBulkEntry {H : Type} : Lit × DataW H → Nat
  | (.string bytes, d) => bytes.length + uptoBulk d + 1
  | (_, d) => uptoBulk d + 1
 end
def uptoSmall : (H : Type) → List (DataW H) → Bool := fun _ ds => decide (uptoBulkAll ds ≤ 1048576)
def OpenSpec.upto (s : _root_.Go.ChangeSpec) : _root_.Go.OpenSpec := { _root_.Go.OpenSpec.ofChange s with cond := some uptoSmall }

/-- 'laws.FnExactClassesOf', WHERE WHAT IT READS IS OF BULK AT MOST 1048576: true; the input reads as it did. -/
def fnExactClassesOfUptoRow : OpenClaim := { program := "ytokelcedamegbaa", sum := "09f82a68e8c6674a016c1e66772a8c30f4d4a96d0b39316a3e2d5bf36de6114d", func := "loop.example/g01275/laws.FnExactClassesOf", spec := "fnExactClassesOf", unfollowed := true, recurses := true, apart := false, narrowed := true }
def FnExactClassesOfUptoSaid : Prop := fnExactClassesOfUptoRow.holds Try.pinned (OpenSpec.upto fnExactClassesOfSpec)

/-- 'laws.FnExactCountWeighted', WHERE WHAT IT READS IS OF BULK AT MOST 1048576: true; the input reads as it did. -/
def fnExactCountWeightedUptoRow : OpenClaim := { program := "ytokelcedamegbaa", sum := "09f82a68e8c6674a016c1e66772a8c30f4d4a96d0b39316a3e2d5bf36de6114d", func := "loop.example/g01275/laws.FnExactCountWeighted", spec := "fnExactCountWeighted", unfollowed := true, recurses := true, apart := false, narrowed := true }
def FnExactCountWeightedUptoSaid : Prop := fnExactCountWeightedUptoRow.holds Try.pinned (OpenSpec.upto fnExactCountWeightedSpec)

/-- 'laws.FnExactHasWeights', WHERE WHAT IT READS IS OF BULK AT MOST 1048576: true; the input reads as it did. -/
def fnExactHasWeightsUptoRow : OpenClaim := { program := "ytokelcedamegbaa", sum := "09f82a68e8c6674a016c1e66772a8c30f4d4a96d0b39316a3e2d5bf36de6114d", func := "loop.example/g01275/laws.FnExactHasWeights", spec := "fnExactHasWeights", unfollowed := true, recurses := true, apart := false, narrowed := true }
def FnExactHasWeightsUptoSaid : Prop := fnExactHasWeightsUptoRow.holds Try.pinned (OpenSpec.upto fnExactHasWeightsSpec)

/-- 'laws.FnExactHeadsGame', WHERE WHAT IT READS IS OF BULK AT MOST 1048576: true; the input reads as it did. -/
def fnExactHeadsGameUptoRow : OpenClaim := { program := "ytokelcedamegbaa", sum := "09f82a68e8c6674a016c1e66772a8c30f4d4a96d0b39316a3e2d5bf36de6114d", func := "loop.example/g01275/laws.FnExactHeadsGame", spec := "fnExactHeadsGame", unfollowed := true, recurses := true, apart := false, narrowed := true }
def FnExactHeadsGameUptoSaid : Prop := fnExactHeadsGameUptoRow.holds Try.pinned (OpenSpec.upto fnExactHeadsGameSpec)

/-- 'laws.FnExactAllGame', WHERE WHAT IT READS IS OF BULK AT MOST 1048576: true; the input reads as it did. -/
def fnExactAllGameUptoRow : OpenClaim := { program := "ytokelcedamegbaa", sum := "09f82a68e8c6674a016c1e66772a8c30f4d4a96d0b39316a3e2d5bf36de6114d", func := "loop.example/g01275/laws.FnExactAllGame", spec := "fnExactAllGame", unfollowed := true, recurses := true, apart := false, narrowed := true }
def FnExactAllGameUptoSaid : Prop := fnExactAllGameUptoRow.holds Try.pinned (OpenSpec.upto fnExactAllGameSpec)

/-- 'laws.FnExactSomeGame', WHERE WHAT IT READS IS OF BULK AT MOST 1048576: true; the input reads as it did. -/
def fnExactSomeGameUptoRow : OpenClaim := { program := "ytokelcedamegbaa", sum := "09f82a68e8c6674a016c1e66772a8c30f4d4a96d0b39316a3e2d5bf36de6114d", func := "loop.example/g01275/laws.FnExactSomeGame", spec := "fnExactSomeGame", unfollowed := true, recurses := true, apart := false, narrowed := true }
def FnExactSomeGameUptoSaid : Prop := fnExactSomeGameUptoRow.holds Try.pinned (OpenSpec.upto fnExactSomeGameSpec)

/-- 'laws.FnExactStandsTrades', WHERE WHAT IT READS IS OF BULK AT MOST 1048576: true; the input reads as it did. -/
def fnExactStandsTradesUptoRow : OpenClaim := { program := "ytokelcedamegbaa", sum := "09f82a68e8c6674a016c1e66772a8c30f4d4a96d0b39316a3e2d5bf36de6114d", func := "loop.example/g01275/laws.FnExactStandsTrades", spec := "fnExactStandsTrades", unfollowed := true, recurses := true, apart := false, narrowed := true }
def FnExactStandsTradesUptoSaid : Prop := fnExactStandsTradesUptoRow.holds Try.pinned (OpenSpec.upto fnExactStandsTradesSpec)

/-- 'laws.FnExactCouncilGame', WHERE WHAT IT READS IS OF BULK AT MOST 1048576: true; the input reads as it did. -/
def fnExactCouncilGameUptoRow : OpenClaim := { program := "ytokelcedamegbaa", sum := "09f82a68e8c6674a016c1e66772a8c30f4d4a96d0b39316a3e2d5bf36de6114d", func := "loop.example/g01275/laws.FnExactCouncilGame", spec := "fnExactCouncilGame", unfollowed := true, recurses := true, apart := false, narrowed := true }
def FnExactCouncilGameUptoSaid : Prop := fnExactCouncilGameUptoRow.holds Try.pinned (OpenSpec.upto fnExactCouncilGameSpec)

end Rows
end Go.Proofs.Ytokelcedamegbaa
