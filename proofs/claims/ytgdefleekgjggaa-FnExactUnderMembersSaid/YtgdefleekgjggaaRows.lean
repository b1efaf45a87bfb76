/-
  No cell of these rows narrows 'for every input' (looked for: loops, veiled, ifaces, maps, wideKeys, modest, calm, conditions, laid).
  DERIVED. THE GIVEN ROWS OF THIS SEAT. 12 by the template 'for every input the law returns true; each argument reads behind the call as it read before'; 0 by the template 'total and deterministic' (their statements: YtgdefleekgjggaaTotals.lean).
  GIVEN WITH THE SEED: the statements are not yours to turn. If you find one false, say at which input.
  Laid BY PROGRAM, IN A SANDBOX (cutbox-rows.mjs): the forced cells as the released guide's own fill.sh prints them over the translation f1d97228767fab9c… (all of the seat's roots in one cut). By AI agents, Wed Nov 11 2026. No macro, syntax, notation, axiom, sorry.
-/
import Derived.Test.YtgdefleekgjggaaChecked
import GoSem.Claim
import GoSem.ClaimJoined
import GoSem.ClaimMapViews
import Derived.JoinedTies
import Derived.KernelRfl
namespace Go.Proofs.Ytgdefleekgjggaa
/- THE CELL 'sum', in the pinned program and in every row, IS THE sha256 OF THE DUMP (.gsa) THAT YtgdefleekgjggaaProg.lean LOADS. Nothing in Lean hashes anything: it is a label: what it is worth is what the hold of that sum in a sandbox is worth. -/
noncomputable def Try.pinned : Pinned := { name := "ytgdefleekgjggaa", sum := "f1d97228767fab9c340738ca35bae64d877934b29dc2a1e2fbc46ef4570c0a5d", checked := Try.checked }
namespace Rows
def none {H : Type} : Left H := { results := [], args := [] }

/-- 'laws.FnExactWinsAll': WHATEVER THE INPUT: true; the input reads as it did. -/
def fnExactWinsAllSpec : ChangeSpec := { name := "fnExactWinsAll", fn := fun _ => fun
  | [d1, d2] => { results := [.lit (.bool true)], args := [d1, d2] }
  | _ => none }
def fnExactWinsAllRow : OpenClaim := { program := "ytgdefleekgjggaa", sum := "f1d97228767fab9c340738ca35bae64d877934b29dc2a1e2fbc46ef4570c0a5d", func := "loop.example/g01275/laws.FnExactWinsAll", spec := "fnExactWinsAll", unfollowed := true, recurses := true, apart := false }
def FnExactWinsAllSaid : Prop := fnExactWinsAllRow.holds Try.pinned (OpenSpec.ofChange fnExactWinsAllSpec)

/-- ITS FALSE NEIGHBOUR: 'it returns false'. Refute it at one input. -/
def fnExactWinsAllWrong : ChangeSpec := { name := "fnExactWinsAll", fn := fun _ => fun
  | [d1, d2] => { results := [.lit (.bool false)], args := [d1, d2] }
  | _ => none }
def FnExactWinsAllWrongFalsely : Prop := fnExactWinsAllRow.holds Try.pinned (OpenSpec.ofChange fnExactWinsAllWrong)

/-- 'laws.FnExactWinsSome': WHATEVER THE INPUT: true; the input reads as it did. -/
def fnExactWinsSomeSpec : ChangeSpec := { name := "fnExactWinsSome", fn := fun _ => fun
  | [d1, d2] => { results := [.lit (.bool true)], args := [d1, d2] }
  | _ => none }
def fnExactWinsSomeRow : OpenClaim := { program := "ytgdefleekgjggaa", sum := "f1d97228767fab9c340738ca35bae64d877934b29dc2a1e2fbc46ef4570c0a5d", func := "loop.example/g01275/laws.FnExactWinsSome", spec := "fnExactWinsSome", unfollowed := true, recurses := true, apart := false }
def FnExactWinsSomeSaid : Prop := fnExactWinsSomeRow.holds Try.pinned (OpenSpec.ofChange fnExactWinsSomeSpec)

/-- ITS FALSE NEIGHBOUR: 'it returns false'. Refute it at one input. -/
def fnExactWinsSomeWrong : ChangeSpec := { name := "fnExactWinsSome", fn := fun _ => fun
  | [d1, d2] => { results := [.lit (.bool false)], args := [d1, d2] }
  | _ => none }
def FnExactWinsSomeWrongFalsely : Prop := fnExactWinsSomeRow.holds Try.pinned (OpenSpec.ofChange fnExactWinsSomeWrong)

/-- 'laws.FnExactWinsCouncil': WHATEVER THE INPUT: true; the input reads as it did. -/
def fnExactWinsCouncilSpec : ChangeSpec := { name := "fnExactWinsCouncil", fn := fun _ => fun
  | [d1, d2, d3] => { results := [.lit (.bool true)], args := [d1, d2, d3] }
  | _ => none }
def fnExactWinsCouncilRow : OpenClaim := { program := "ytgdefleekgjggaa", sum := "f1d97228767fab9c340738ca35bae64d877934b29dc2a1e2fbc46ef4570c0a5d", func := "loop.example/g01275/laws.FnExactWinsCouncil", spec := "fnExactWinsCouncil", unfollowed := true, recurses := true, apart := false }
def FnExactWinsCouncilSaid : Prop := fnExactWinsCouncilRow.holds Try.pinned (OpenSpec.ofChange fnExactWinsCouncilSpec)

/-- ITS FALSE NEIGHBOUR: 'it returns false'. Refute it at one input. -/
def fnExactWinsCouncilWrong : ChangeSpec := { name := "fnExactWinsCouncil", fn := fun _ => fun
  | [d1, d2, d3] => { results := [.lit (.bool false)], args := [d1, d2, d3] }
  | _ => none }
def FnExactWinsCouncilWrongFalsely : Prop := fnExactWinsCouncilRow.holds Try.pinned (OpenSpec.ofChange fnExactWinsCouncilWrong)

/-- 'laws.FnExactSwingsOfChambers': WHATEVER THE INPUT: true; the input reads as it did. -/
def fnExactSwingsOfChambersSpec : ChangeSpec := { name := "fnExactSwingsOfChambers", fn := fun _ => fun
  | [d] => { results := [.lit (.bool true)], args := [d] }
  | _ => none }
def fnExactSwingsOfChambersRow : OpenClaim := { program := "ytgdefleekgjggaa", sum := "f1d97228767fab9c340738ca35bae64d877934b29dc2a1e2fbc46ef4570c0a5d", func := "loop.example/g01275/laws.FnExactSwingsOfChambers", spec := "fnExactSwingsOfChambers", unfollowed := true, recurses := true, apart := false }
def FnExactSwingsOfChambersSaid : Prop := fnExactSwingsOfChambersRow.holds Try.pinned (OpenSpec.ofChange fnExactSwingsOfChambersSpec)

/-- ITS FALSE NEIGHBOUR: 'it returns false'. Refute it at one input. -/
def fnExactSwingsOfChambersWrong : ChangeSpec := { name := "fnExactSwingsOfChambers", fn := fun _ => fun
  | [d] => { results := [.lit (.bool false)], args := [d] }
  | _ => none }
def FnExactSwingsOfChambersWrongFalsely : Prop := fnExactSwingsOfChambersRow.holds Try.pinned (OpenSpec.ofChange fnExactSwingsOfChambersWrong)

/-- 'laws.FnExactGiverGains': WHATEVER THE INPUT: true; the input reads as it did. -/
def fnExactGiverGainsSpec : ChangeSpec := { name := "fnExactGiverGains", fn := fun _ => fun
  | [d1, d2, d3, d4] => { results := [.lit (.bool true)], args := [d1, d2, d3, d4] }
  | _ => none }
def fnExactGiverGainsRow : OpenClaim := { program := "ytgdefleekgjggaa", sum := "f1d97228767fab9c340738ca35bae64d877934b29dc2a1e2fbc46ef4570c0a5d", func := "loop.example/g01275/laws.FnExactGiverGains", spec := "fnExactGiverGains", unfollowed := true, recurses := true, apart := false }
def FnExactGiverGainsSaid : Prop := fnExactGiverGainsRow.holds Try.pinned (OpenSpec.ofChange fnExactGiverGainsSpec)

/-- ITS FALSE NEIGHBOUR: 'it returns false'. Refute it at one input. -/
def fnExactGiverGainsWrong : ChangeSpec := { name := "fnExactGiverGains", fn := fun _ => fun
  | [d1, d2, d3, d4] => { results := [.lit (.bool false)], args := [d1, d2, d3, d4] }
  | _ => none }
def FnExactGiverGainsWrongFalsely : Prop := fnExactGiverGainsRow.holds Try.pinned (OpenSpec.ofChange fnExactGiverGainsWrong)

/-- 'laws.FnExactIsWorth': WHATEVER THE INPUT: true; the input reads as it did. -/
def fnExactIsWorthSpec : ChangeSpec := { name := "fnExactIsWorth", fn := fun _ => fun
  | [d1, d2, d3] => { results := [.lit (.bool true)], args := [d1, d2, d3] }
  | _ => none }
def fnExactIsWorthRow : OpenClaim := { program := "ytgdefleekgjggaa", sum := "f1d97228767fab9c340738ca35bae64d877934b29dc2a1e2fbc46ef4570c0a5d", func := "loop.example/g01275/laws.FnExactIsWorth", spec := "fnExactIsWorth", unfollowed := true, recurses := true, apart := false }
def FnExactIsWorthSaid : Prop := fnExactIsWorthRow.holds Try.pinned (OpenSpec.ofChange fnExactIsWorthSpec)

/-- ITS FALSE NEIGHBOUR: 'it returns false'. Refute it at one input. -/
def fnExactIsWorthWrong : ChangeSpec := { name := "fnExactIsWorth", fn := fun _ => fun
  | [d1, d2, d3] => { results := [.lit (.bool false)], args := [d1, d2, d3] }
  | _ => none }
def FnExactIsWorthWrongFalsely : Prop := fnExactIsWorthRow.holds Try.pinned (OpenSpec.ofChange fnExactIsWorthWrong)

/-- 'laws.FnExactIsComplete': WHATEVER THE INPUT: true; the input reads as it did. -/
def fnExactIsCompleteSpec : ChangeSpec := { name := "fnExactIsComplete", fn := fun _ => fun
  | [d] => { results := [.lit (.bool true)], args := [d] }
  | _ => none }
def fnExactIsCompleteRow : OpenClaim := { program := "ytgdefleekgjggaa", sum := "f1d97228767fab9c340738ca35bae64d877934b29dc2a1e2fbc46ef4570c0a5d", func := "loop.example/g01275/laws.FnExactIsComplete", spec := "fnExactIsComplete", unfollowed := true, recurses := true, apart := false }
def FnExactIsCompleteSaid : Prop := fnExactIsCompleteRow.holds Try.pinned (OpenSpec.ofChange fnExactIsCompleteSpec)

/-- ITS FALSE NEIGHBOUR: 'it returns false'. Refute it at one input. -/
def fnExactIsCompleteWrong : ChangeSpec := { name := "fnExactIsComplete", fn := fun _ => fun
  | [d] => { results := [.lit (.bool false)], args := [d] }
  | _ => none }
def FnExactIsCompleteWrongFalsely : Prop := fnExactIsCompleteRow.holds Try.pinned (OpenSpec.ofChange fnExactIsCompleteWrong)

/-- 'laws.FnExactNewcomerHelps': WHATEVER THE INPUT: true; the input reads as it did. -/
def fnExactNewcomerHelpsSpec : ChangeSpec := { name := "fnExactNewcomerHelps", fn := fun _ => fun
  | [d1, d2] => { results := [.lit (.bool true)], args := [d1, d2] }
  | _ => none }
def fnExactNewcomerHelpsRow : OpenClaim := { program := "ytgdefleekgjggaa", sum := "f1d97228767fab9c340738ca35bae64d877934b29dc2a1e2fbc46ef4570c0a5d", func := "loop.example/g01275/laws.FnExactNewcomerHelps", spec := "fnExactNewcomerHelps", unfollowed := true, recurses := true, apart := false }
def FnExactNewcomerHelpsSaid : Prop := fnExactNewcomerHelpsRow.holds Try.pinned (OpenSpec.ofChange fnExactNewcomerHelpsSpec)

/-- ITS FALSE NEIGHBOUR: 'it returns false'. Refute it at one input. -/
def fnExactNewcomerHelpsWrong : ChangeSpec := { name := "fnExactNewcomerHelps", fn := fun _ => fun
  | [d1, d2] => { results := [.lit (.bool false)], args := [d1, d2] }
  | _ => none }
def FnExactNewcomerHelpsWrongFalsely : Prop := fnExactNewcomerHelpsRow.holds Try.pinned (OpenSpec.ofChange fnExactNewcomerHelpsWrong)

/-- 'laws.FnExactAreUnlike': WHATEVER THE INPUT: true; the input reads as it did. -/
def fnExactAreUnlikeSpec : ChangeSpec := { name := "fnExactAreUnlike", fn := fun _ => fun
  | [d1, d2, d3] => { results := [.lit (.bool true)], args := [d1, d2, d3] }
  | _ => none }
def fnExactAreUnlikeRow : OpenClaim := { program := "ytgdefleekgjggaa", sum := "f1d97228767fab9c340738ca35bae64d877934b29dc2a1e2fbc46ef4570c0a5d", func := "loop.example/g01275/laws.FnExactAreUnlike", spec := "fnExactAreUnlike", unfollowed := true, recurses := true, apart := false }
def FnExactAreUnlikeSaid : Prop := fnExactAreUnlikeRow.holds Try.pinned (OpenSpec.ofChange fnExactAreUnlikeSpec)

/-- ITS FALSE NEIGHBOUR: 'it returns false'. Refute it at one input. -/
def fnExactAreUnlikeWrong : ChangeSpec := { name := "fnExactAreUnlike", fn := fun _ => fun
  | [d1, d2, d3] => { results := [.lit (.bool false)], args := [d1, d2, d3] }
  | _ => none }
def FnExactAreUnlikeWrongFalsely : Prop := fnExactAreUnlikeRow.holds Try.pinned (OpenSpec.ofChange fnExactAreUnlikeWrong)

/-- 'laws.FnExactCompareMembers': WHATEVER THE INPUT: true; the input reads as it did. -/
def fnExactCompareMembersSpec : ChangeSpec := { name := "fnExactCompareMembers", fn := fun _ => fun
  | [d1, d2, d3] => { results := [.lit (.bool true)], args := [d1, d2, d3] }
  | _ => none }
def fnExactCompareMembersRow : OpenClaim := { program := "ytgdefleekgjggaa", sum := "f1d97228767fab9c340738ca35bae64d877934b29dc2a1e2fbc46ef4570c0a5d", func := "loop.example/g01275/laws.FnExactCompareMembers", spec := "fnExactCompareMembers", unfollowed := true, recurses := true, apart := false }
def FnExactCompareMembersSaid : Prop := fnExactCompareMembersRow.holds Try.pinned (OpenSpec.ofChange fnExactCompareMembersSpec)

/-- ITS FALSE NEIGHBOUR: 'it returns false'. Refute it at one input. -/
def fnExactCompareMembersWrong : ChangeSpec := { name := "fnExactCompareMembers", fn := fun _ => fun
  | [d1, d2, d3] => { results := [.lit (.bool false)], args := [d1, d2, d3] }
  | _ => none }
def FnExactCompareMembersWrongFalsely : Prop := fnExactCompareMembersRow.holds Try.pinned (OpenSpec.ofChange fnExactCompareMembersWrong)

/-- 'laws.FnExactUnionGain': WHATEVER THE INPUT: true; the input reads as it did. -/
def fnExactUnionGainSpec : ChangeSpec := { name := "fnExactUnionGain", fn := fun _ => fun
  | [d1, d2] => { results := [.lit (.bool true)], args := [d1, d2] }
  | _ => none }
def fnExactUnionGainRow : OpenClaim := { program := "ytgdefleekgjggaa", sum := "f1d97228767fab9c340738ca35bae64d877934b29dc2a1e2fbc46ef4570c0a5d", func := "loop.example/g01275/laws.FnExactUnionGain", spec := "fnExactUnionGain", unfollowed := true, recurses := true, apart := false }
def FnExactUnionGainSaid : Prop := fnExactUnionGainRow.holds Try.pinned (OpenSpec.ofChange fnExactUnionGainSpec)

/-- ITS FALSE NEIGHBOUR: 'it returns false'. Refute it at one input. -/
def fnExactUnionGainWrong : ChangeSpec := { name := "fnExactUnionGain", fn := fun _ => fun
  | [d1, d2] => { results := [.lit (.bool false)], args := [d1, d2] }
  | _ => none }
def FnExactUnionGainWrongFalsely : Prop := fnExactUnionGainRow.holds Try.pinned (OpenSpec.ofChange fnExactUnionGainWrong)

/-- 'laws.FnExactUnderMembers': WHATEVER THE INPUT: true; the input reads as it did. -/
def fnExactUnderMembersSpec : ChangeSpec := { name := "fnExactUnderMembers", fn := fun _ => fun
  | [d1, d2] => { results := [.lit (.bool true)], args := [d1, d2] }
  | _ => none }
def fnExactUnderMembersRow : OpenClaim := { program := "ytgdefleekgjggaa", sum := "f1d97228767fab9c340738ca35bae64d877934b29dc2a1e2fbc46ef4570c0a5d", func := "loop.example/g01275/laws.FnExactUnderMembers", spec := "fnExactUnderMembers", unfollowed := true, recurses := true, apart := false }
def FnExactUnderMembersSaid : Prop := fnExactUnderMembersRow.holds Try.pinned (OpenSpec.ofChange fnExactUnderMembersSpec)

/-- ITS FALSE NEIGHBOUR: 'it returns false'. Refute it at one input. -/
def fnExactUnderMembersWrong : ChangeSpec := { name := "fnExactUnderMembers", fn := fun _ => fun
  | [d1, d2] => { results := [.lit (.bool false)], args := [d1, d2] }
  | _ => none }
def FnExactUnderMembersWrongFalsely : Prop := fnExactUnderMembersRow.holds Try.pinned (OpenSpec.ofChange fnExactUnderMembersWrong)

/- THE SECOND FORM. 'bulk': how many values and letters a reading holds, each counted each time it is reached (what is shared counts as often as it is met; a slice's spare places count too). A statement '..UptoSaid' is the law's where the arguments, and the package variables that the reading takes, are together of bulk at most 1048576: NARROWER than '..Said'. Prove '..Said' where nothing that the law and all that it calls make is longer than what came in: it says more and counts as full. Else prove '..UptoSaid'. A law counts once. -/
mutual
def uptoBulk {H : Type} : DataW H → Nat
  | .lit (.string bytes) => bytes.length + 1
  | .lit _ => 1
  | .nil => 1
  | .ptr d => uptoBulk d + 1
  | .slice elems spare => uptoBulkAll elems + uptoBulkAll spare + 1
  | .agg parts => uptoBulkAll parts + 1
  | .iface _ d => uptoBulk d + 1
  | .map entries => uptoBulkEntries entries + 1
  | .held _ => 1
def uptoBulkAll {H : Type} : List (DataW H) → Nat
  | [] => 0
  | d :: r => uptoBulk d + uptoBulkAll r
def uptoBulkEntries {H : Type} : List (Lit × DataW H) → Nat
  | [] => 0
  | x :: r => uptoBulkEntry x + uptoBulkEntries r
def uptoBulkEntry {H : Type} : Lit × DataW H → Nat
  | (.string bytes, d) => bytes.length + uptoBulk d + 1
  | (_, d) => uptoBulk d + 1
 end
def uptoSmall : (H : Type) → List (DataW H) → Bool := fun _ ds => decide (uptoBulkAll ds ≤ 1048576)
def OpenSpec.upto (s : _root_.Go.ChangeSpec) : _root_.Go.OpenSpec := { _root_.Go.OpenSpec.ofChange s with cond := some uptoSmall }

/-- 'laws.FnExactWinsAll', WHERE WHAT IT READS IS OF BULK AT MOST 1048576: true; the input reads as it did. -/
def fnExactWinsAllUptoRow : OpenClaim := { program := "ytgdefleekgjggaa", sum := "f1d97228767fab9c340738ca35bae64d877934b29dc2a1e2fbc46ef4570c0a5d", func := "loop.example/g01275/laws.FnExactWinsAll", spec := "fnExactWinsAll", unfollowed := true, recurses := true, apart := false, narrowed := true }
def FnExactWinsAllUptoSaid : Prop := fnExactWinsAllUptoRow.holds Try.pinned (OpenSpec.upto fnExactWinsAllSpec)

/-- 'laws.FnExactWinsSome', WHERE WHAT IT READS IS OF BULK AT MOST 1048576: true; the input reads as it did. -/
def fnExactWinsSomeUptoRow : OpenClaim := { program := "ytgdefleekgjggaa", sum := "f1d97228767fab9c340738ca35bae64d877934b29dc2a1e2fbc46ef4570c0a5d", func := "loop.example/g01275/laws.FnExactWinsSome", spec := "fnExactWinsSome", unfollowed := true, recurses := true, apart := false, narrowed := true }
def FnExactWinsSomeUptoSaid : Prop := fnExactWinsSomeUptoRow.holds Try.pinned (OpenSpec.upto fnExactWinsSomeSpec)

/-- 'laws.FnExactWinsCouncil', WHERE WHAT IT READS IS OF BULK AT MOST 1048576: true; the input reads as it did. -/
def fnExactWinsCouncilUptoRow : OpenClaim := { program := "ytgdefleekgjggaa", sum := "f1d97228767fab9c340738ca35bae64d877934b29dc2a1e2fbc46ef4570c0a5d", func := "loop.example/g01275/laws.FnExactWinsCouncil", spec := "fnExactWinsCouncil", unfollowed := true, recurses := true, apart := false, narrowed := true }
def FnExactWinsCouncilUptoSaid : Prop := fnExactWinsCouncilUptoRow.holds Try.pinned (OpenSpec.upto fnExactWinsCouncilSpec)

/-- 'laws.FnExactSwingsOfChambers', WHERE WHAT IT READS IS OF BULK AT MOST 1048576: true; the input reads as it did. -/
def fnExactSwingsOfChambersUptoRow : OpenClaim := { program := "ytgdefleekgjggaa", sum := "f1d97228767fab9c340738ca35bae64d877934b29dc2a1e2fbc46ef4570c0a5d", func := "loop.example/g01275/laws.FnExactSwingsOfChambers", spec := "fnExactSwingsOfChambers", unfollowed := true, recurses := true, apart := false, narrowed := true }
def FnExactSwingsOfChambersUptoSaid : Prop := fnExactSwingsOfChambersUptoRow.holds Try.pinned (OpenSpec.upto fnExactSwingsOfChambersSpec)

/-- 'laws.FnExactGiverGains', WHERE WHAT IT READS IS OF BULK AT MOST 1048576: true; the input reads as it did. -/
def fnExactGiverGainsUptoRow : OpenClaim := { program := "ytgdefleekgjggaa", sum := "f1d97228767fab9c340738ca35bae64d877934b29dc2a1e2fbc46ef4570c0a5d", func := "loop.example/g01275/laws.FnExactGiverGains", spec := "fnExactGiverGains", unfollowed := true, recurses := true, apart := false, narrowed := true }
def FnExactGiverGainsUptoSaid : Prop := fnExactGiverGainsUptoRow.holds Try.pinned (OpenSpec.upto fnExactGiverGainsSpec)

/-- 'laws.FnExactIsWorth', WHERE WHAT IT READS IS OF BULK AT MOST 1048576: true; the input reads as it did. -/
def fnExactIsWorthUptoRow : OpenClaim := { program := "ytgdefleekgjggaa", sum := "f1d97228767fab9c340738ca35bae64d877934b29dc2a1e2fbc46ef4570c0a5d", func := "loop.example/g01275/laws.FnExactIsWorth", spec := "fnExactIsWorth", unfollowed := true, recurses := true, apart := false, narrowed := true }
def FnExactIsWorthUptoSaid : Prop := fnExactIsWorthUptoRow.holds Try.pinned (OpenSpec.upto fnExactIsWorthSpec)

/-- 'laws.FnExactIsComplete', WHERE WHAT IT READS IS OF BULK AT MOST 1048576: true; the input reads as it did. -/
def fnExactIsCompleteUptoRow : OpenClaim := { program := "ytgdefleekgjggaa", sum := "f1d97228767fab9c340738ca35bae64d877934b29dc2a1e2fbc46ef4570c0a5d", func := "loop.example/g01275/laws.FnExactIsComplete", spec := "fnExactIsComplete", unfollowed := true, recurses := true, apart := false, narrowed := true }
def FnExactIsCompleteUptoSaid : Prop := fnExactIsCompleteUptoRow.holds Try.pinned (OpenSpec.upto fnExactIsCompleteSpec)

/-- 'laws.FnExactNewcomerHelps', WHERE WHAT IT READS IS OF BULK AT MOST 1048576: true; the input reads as it did. -/
def fnExactNewcomerHelpsUptoRow : OpenClaim := { program := "ytgdefleekgjggaa", sum := "f1d97228767fab9c340738ca35bae64d877934b29dc2a1e2fbc46ef4570c0a5d", func := "loop.example/g01275/laws.FnExactNewcomerHelps", spec := "fnExactNewcomerHelps", unfollowed := true, recurses := true, apart := false, narrowed := true }
def FnExactNewcomerHelpsUptoSaid : Prop := fnExactNewcomerHelpsUptoRow.holds Try.pinned (OpenSpec.upto fnExactNewcomerHelpsSpec)

/-- 'laws.FnExactAreUnlike', WHERE WHAT IT READS IS OF BULK AT MOST 1048576: true; the input reads as it did. -/
def fnExactAreUnlikeUptoRow : OpenClaim := { program := "ytgdefleekgjggaa", sum := "f1d97228767fab9c340738ca35bae64d877934b29dc2a1e2fbc46ef4570c0a5d", func := "loop.example/g01275/laws.FnExactAreUnlike", spec := "fnExactAreUnlike", unfollowed := true, recurses := true, apart := false, narrowed := true }
def FnExactAreUnlikeUptoSaid : Prop := fnExactAreUnlikeUptoRow.holds Try.pinned (OpenSpec.upto fnExactAreUnlikeSpec)

/-- 'laws.FnExactCompareMembers', WHERE WHAT IT READS IS OF BULK AT MOST 1048576: true; the input reads as it did. -/
def fnExactCompareMembersUptoRow : OpenClaim := { program := "ytgdefleekgjggaa", sum := "f1d97228767fab9c340738ca35bae64d877934b29dc2a1e2fbc46ef4570c0a5d", func := "loop.example/g01275/laws.FnExactCompareMembers", spec := "fnExactCompareMembers", unfollowed := true, recurses := true, apart := false, narrowed := true }
def FnExactCompareMembersUptoSaid : Prop := fnExactCompareMembersUptoRow.holds Try.pinned (OpenSpec.upto fnExactCompareMembersSpec)

/-- 'laws.FnExactUnionGain', WHERE WHAT IT READS IS OF BULK AT MOST 1048576: true; the input reads as it did. -/
def fnExactUnionGainUptoRow : OpenClaim := { program := "ytgdefleekgjggaa", sum := "f1d97228767fab9c340738ca35bae64d877934b29dc2a1e2fbc46ef4570c0a5d", func := "loop.example/g01275/laws.FnExactUnionGain", spec := "fnExactUnionGain", unfollowed := true, recurses := true, apart := false, narrowed := true }
def FnExactUnionGainUptoSaid : Prop := fnExactUnionGainUptoRow.holds Try.pinned (OpenSpec.upto fnExactUnionGainSpec)

/-- 'laws.FnExactUnderMembers', WHERE WHAT IT READS IS OF BULK AT MOST 1048576: true; the input reads as it did. -/
def fnExactUnderMembersUptoRow : OpenClaim := { program := "ytgdefleekgjggaa", sum := "f1d97228767fab9c340738ca35bae64d877934b29dc2a1e2fbc46ef4570c0a5d", func := "loop.example/g01275/laws.FnExactUnderMembers", spec := "fnExactUnderMembers", unfollowed := true, recurses := true, apart := false, narrowed := true }
def FnExactUnderMembersUptoSaid : Prop := fnExactUnderMembersUptoRow.holds Try.pinned (OpenSpec.upto fnExactUnderMembersSpec)

end Rows
end Go.Proofs.Ytgdefleekgjggaa
