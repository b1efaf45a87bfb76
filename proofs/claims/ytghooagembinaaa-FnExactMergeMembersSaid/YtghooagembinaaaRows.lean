/-
  No cell of these rows narrows 'for every input' (looked for: loops, veiled, ifaces, maps, wideKeys, modest, calm, conditions, laid).
  DERIVED. THE GIVEN ROWS OF THIS SEAT. 11 by the template 'for every input the law returns true; each argument reads behind the call as it read before'; 0 by the template 'total and deterministic' (their statements: YtghooagembinaaaTotals.lean).
  GIVEN WITH THE SEED: the statements are not yours to turn. If you find one false, say at which input.
  Laid BY PROGRAM, IN A SANDBOX (cutbox-rows.mjs): the forced cells as the released guide's own fill.sh prints them over the translation 61f32460b620227c… (all of the seat's roots in one cut). By AI agents, Wed Nov 11 2026. No macro, syntax, notation, axiom, sorry.
-/
import Derived.Test.YtghooagembinaaaChecked
import GoSem.Claim
import GoSem.ClaimJoined
import GoSem.ClaimMapViews
import Derived.JoinedTies
import Derived.KernelRfl
namespace Go.Proofs.Ytghooagembinaaa
/- THE CELL 'sum', in the pinned program and in every row, IS THE sha256 OF THE DUMP (.gsa) THAT YtghooagembinaaaProg.lean LOADS. Nothing in Lean hashes anything: it is a label: what it is worth is what the hold of that sum in a sandbox is worth. -/
noncomputable def Try.pinned : Pinned := { name := "ytghooagembinaaa", sum := "61f32460b620227c8bc07c4b1c72733416e92f476d1a15a3b747b9127739b7b7", checked := Try.checked }
namespace Rows
def none {H : Type} : Left H := { results := [], args := [] }

/-- 'laws.FnExactAreChambers': WHATEVER THE INPUT: true; the input reads as it did. -/
def fnExactAreChambersSpec : ChangeSpec := { name := "fnExactAreChambers", fn := fun _ => fun
  | [d] => { results := [.lit (.bool true)], args := [d] }
  | _ => none }
def fnExactAreChambersRow : OpenClaim := { program := "ytghooagembinaaa", sum := "61f32460b620227c8bc07c4b1c72733416e92f476d1a15a3b747b9127739b7b7", func := "loop.example/g01275/laws.FnExactAreChambers", spec := "fnExactAreChambers", unfollowed := true, recurses := true, apart := false }
def FnExactAreChambersSaid : Prop := fnExactAreChambersRow.holds Try.pinned (OpenSpec.ofChange fnExactAreChambersSpec)

/-- ITS FALSE NEIGHBOUR: 'it returns false'. Refute it at one input. -/
def fnExactAreChambersWrong : ChangeSpec := { name := "fnExactAreChambers", fn := fun _ => fun
  | [d] => { results := [.lit (.bool false)], args := [d] }
  | _ => none }
def FnExactAreChambersWrongFalsely : Prop := fnExactAreChambersRow.holds Try.pinned (OpenSpec.ofChange fnExactAreChambersWrong)

/-- 'laws.FnExactAreCouncil': WHATEVER THE INPUT: true; the input reads as it did. -/
def fnExactAreCouncilSpec : ChangeSpec := { name := "fnExactAreCouncil", fn := fun _ => fun
  | [d1, d2] => { results := [.lit (.bool true)], args := [d1, d2] }
  | _ => none }
def fnExactAreCouncilRow : OpenClaim := { program := "ytghooagembinaaa", sum := "61f32460b620227c8bc07c4b1c72733416e92f476d1a15a3b747b9127739b7b7", func := "loop.example/g01275/laws.FnExactAreCouncil", spec := "fnExactAreCouncil", unfollowed := true, recurses := true, apart := false }
def FnExactAreCouncilSaid : Prop := fnExactAreCouncilRow.holds Try.pinned (OpenSpec.ofChange fnExactAreCouncilSpec)

/-- ITS FALSE NEIGHBOUR: 'it returns false'. Refute it at one input. -/
def fnExactAreCouncilWrong : ChangeSpec := { name := "fnExactAreCouncil", fn := fun _ => fun
  | [d1, d2] => { results := [.lit (.bool false)], args := [d1, d2] }
  | _ => none }
def FnExactAreCouncilWrongFalsely : Prop := fnExactAreCouncilRow.holds Try.pinned (OpenSpec.ofChange fnExactAreCouncilWrong)

/-- 'laws.FnExactRaiseQuota': WHATEVER THE INPUT: true; the input reads as it did. -/
def fnExactRaiseQuotaSpec : ChangeSpec := { name := "fnExactRaiseQuota", fn := fun _ => fun
  | [d1, d2] => { results := [.lit (.bool true)], args := [d1, d2] }
  | _ => none }
def fnExactRaiseQuotaRow : OpenClaim := { program := "ytghooagembinaaa", sum := "61f32460b620227c8bc07c4b1c72733416e92f476d1a15a3b747b9127739b7b7", func := "loop.example/g01275/laws.FnExactRaiseQuota", spec := "fnExactRaiseQuota", unfollowed := true, recurses := true, apart := false }
def FnExactRaiseQuotaSaid : Prop := fnExactRaiseQuotaRow.holds Try.pinned (OpenSpec.ofChange fnExactRaiseQuotaSpec)

/-- ITS FALSE NEIGHBOUR: 'it returns false'. Refute it at one input. -/
def fnExactRaiseQuotaWrong : ChangeSpec := { name := "fnExactRaiseQuota", fn := fun _ => fun
  | [d1, d2] => { results := [.lit (.bool false)], args := [d1, d2] }
  | _ => none }
def FnExactRaiseQuotaWrongFalsely : Prop := fnExactRaiseQuotaRow.holds Try.pinned (OpenSpec.ofChange fnExactRaiseQuotaWrong)

/-- 'laws.FnExactAddMember': WHATEVER THE INPUT: true; the input reads as it did. -/
def fnExactAddMemberSpec : ChangeSpec := { name := "fnExactAddMember", fn := fun _ => fun
  | [d1, d2] => { results := [.lit (.bool true)], args := [d1, d2] }
  | _ => none }
def fnExactAddMemberRow : OpenClaim := { program := "ytghooagembinaaa", sum := "61f32460b620227c8bc07c4b1c72733416e92f476d1a15a3b747b9127739b7b7", func := "loop.example/g01275/laws.FnExactAddMember", spec := "fnExactAddMember", unfollowed := true, recurses := true, apart := false }
def FnExactAddMemberSaid : Prop := fnExactAddMemberRow.holds Try.pinned (OpenSpec.ofChange fnExactAddMemberSpec)

/-- ITS FALSE NEIGHBOUR: 'it returns false'. Refute it at one input. -/
def fnExactAddMemberWrong : ChangeSpec := { name := "fnExactAddMember", fn := fun _ => fun
  | [d1, d2] => { results := [.lit (.bool false)], args := [d1, d2] }
  | _ => none }
def FnExactAddMemberWrongFalsely : Prop := fnExactAddMemberRow.holds Try.pinned (OpenSpec.ofChange fnExactAddMemberWrong)

/-- 'laws.FnExactGiveWeight': WHATEVER THE INPUT: true; the input reads as it did. -/
def fnExactGiveWeightSpec : ChangeSpec := { name := "fnExactGiveWeight", fn := fun _ => fun
  | [d1, d2, d3, d4] => { results := [.lit (.bool true)], args := [d1, d2, d3, d4] }
  | _ => none }
def fnExactGiveWeightRow : OpenClaim := { program := "ytghooagembinaaa", sum := "61f32460b620227c8bc07c4b1c72733416e92f476d1a15a3b747b9127739b7b7", func := "loop.example/g01275/laws.FnExactGiveWeight", spec := "fnExactGiveWeight", unfollowed := true, recurses := true, apart := false }
def FnExactGiveWeightSaid : Prop := fnExactGiveWeightRow.holds Try.pinned (OpenSpec.ofChange fnExactGiveWeightSpec)

/-- ITS FALSE NEIGHBOUR: 'it returns false'. Refute it at one input. -/
def fnExactGiveWeightWrong : ChangeSpec := { name := "fnExactGiveWeight", fn := fun _ => fun
  | [d1, d2, d3, d4] => { results := [.lit (.bool false)], args := [d1, d2, d3, d4] }
  | _ => none }
def FnExactGiveWeightWrongFalsely : Prop := fnExactGiveWeightRow.holds Try.pinned (OpenSpec.ofChange fnExactGiveWeightWrong)

/-- 'laws.FnExactPlaceInCouncil': WHATEVER THE INPUT: true; the input reads as it did. -/
def fnExactPlaceInCouncilSpec : ChangeSpec := { name := "fnExactPlaceInCouncil", fn := fun _ => fun
  | [d1, d2] => { results := [.lit (.bool true)], args := [d1, d2] }
  | _ => none }
def fnExactPlaceInCouncilRow : OpenClaim := { program := "ytghooagembinaaa", sum := "61f32460b620227c8bc07c4b1c72733416e92f476d1a15a3b747b9127739b7b7", func := "loop.example/g01275/laws.FnExactPlaceInCouncil", spec := "fnExactPlaceInCouncil", unfollowed := true, recurses := true, apart := false }
def FnExactPlaceInCouncilSaid : Prop := fnExactPlaceInCouncilRow.holds Try.pinned (OpenSpec.ofChange fnExactPlaceInCouncilSpec)

/-- ITS FALSE NEIGHBOUR: 'it returns false'. Refute it at one input. -/
def fnExactPlaceInCouncilWrong : ChangeSpec := { name := "fnExactPlaceInCouncil", fn := fun _ => fun
  | [d1, d2] => { results := [.lit (.bool false)], args := [d1, d2] }
  | _ => none }
def FnExactPlaceInCouncilWrongFalsely : Prop := fnExactPlaceInCouncilRow.holds Try.pinned (OpenSpec.ofChange fnExactPlaceInCouncilWrong)

/-- 'laws.FnExactCountQuarrelWins': WHATEVER THE INPUT: true; the input reads as it did. -/
def fnExactCountQuarrelWinsSpec : ChangeSpec := { name := "fnExactCountQuarrelWins", fn := fun _ => fun
  | [d1, d2, d3] => { results := [.lit (.bool true)], args := [d1, d2, d3] }
  | _ => none }
def fnExactCountQuarrelWinsRow : OpenClaim := { program := "ytghooagembinaaa", sum := "61f32460b620227c8bc07c4b1c72733416e92f476d1a15a3b747b9127739b7b7", func := "loop.example/g01275/laws.FnExactCountQuarrelWins", spec := "fnExactCountQuarrelWins", unfollowed := true, recurses := true, apart := false }
def FnExactCountQuarrelWinsSaid : Prop := fnExactCountQuarrelWinsRow.holds Try.pinned (OpenSpec.ofChange fnExactCountQuarrelWinsSpec)

/-- ITS FALSE NEIGHBOUR: 'it returns false'. Refute it at one input. -/
def fnExactCountQuarrelWinsWrong : ChangeSpec := { name := "fnExactCountQuarrelWins", fn := fun _ => fun
  | [d1, d2, d3] => { results := [.lit (.bool false)], args := [d1, d2, d3] }
  | _ => none }
def FnExactCountQuarrelWinsWrongFalsely : Prop := fnExactCountQuarrelWinsRow.holds Try.pinned (OpenSpec.ofChange fnExactCountQuarrelWinsWrong)

/-- 'laws.FnExactQuarrelSwings': WHATEVER THE INPUT: true; the input reads as it did. -/
def fnExactQuarrelSwingsSpec : ChangeSpec := { name := "fnExactQuarrelSwings", fn := fun _ => fun
  | [d1, d2, d3] => { results := [.lit (.bool true)], args := [d1, d2, d3] }
  | _ => none }
def fnExactQuarrelSwingsRow : OpenClaim := { program := "ytghooagembinaaa", sum := "61f32460b620227c8bc07c4b1c72733416e92f476d1a15a3b747b9127739b7b7", func := "loop.example/g01275/laws.FnExactQuarrelSwings", spec := "fnExactQuarrelSwings", unfollowed := true, recurses := true, apart := false }
def FnExactQuarrelSwingsSaid : Prop := fnExactQuarrelSwingsRow.holds Try.pinned (OpenSpec.ofChange fnExactQuarrelSwingsSpec)

/-- ITS FALSE NEIGHBOUR: 'it returns false'. Refute it at one input. -/
def fnExactQuarrelSwingsWrong : ChangeSpec := { name := "fnExactQuarrelSwings", fn := fun _ => fun
  | [d1, d2, d3] => { results := [.lit (.bool false)], args := [d1, d2, d3] }
  | _ => none }
def FnExactQuarrelSwingsWrongFalsely : Prop := fnExactQuarrelSwingsRow.holds Try.pinned (OpenSpec.ofChange fnExactQuarrelSwingsWrong)

/-- 'laws.FnExactQuarrelHelps': WHATEVER THE INPUT: true; the input reads as it did. -/
def fnExactQuarrelHelpsSpec : ChangeSpec := { name := "fnExactQuarrelHelps", fn := fun _ => fun
  | [d1, d2, d3] => { results := [.lit (.bool true)], args := [d1, d2, d3] }
  | _ => none }
def fnExactQuarrelHelpsRow : OpenClaim := { program := "ytghooagembinaaa", sum := "61f32460b620227c8bc07c4b1c72733416e92f476d1a15a3b747b9127739b7b7", func := "loop.example/g01275/laws.FnExactQuarrelHelps", spec := "fnExactQuarrelHelps", unfollowed := true, recurses := true, apart := false }
def FnExactQuarrelHelpsSaid : Prop := fnExactQuarrelHelpsRow.holds Try.pinned (OpenSpec.ofChange fnExactQuarrelHelpsSpec)

/-- ITS FALSE NEIGHBOUR: 'it returns false'. Refute it at one input. -/
def fnExactQuarrelHelpsWrong : ChangeSpec := { name := "fnExactQuarrelHelps", fn := fun _ => fun
  | [d1, d2, d3] => { results := [.lit (.bool false)], args := [d1, d2, d3] }
  | _ => none }
def FnExactQuarrelHelpsWrongFalsely : Prop := fnExactQuarrelHelpsRow.holds Try.pinned (OpenSpec.ofChange fnExactQuarrelHelpsWrong)

/-- 'laws.FnExactMergeMembers': WHATEVER THE INPUT: true; the input reads as it did. -/
def fnExactMergeMembersSpec : ChangeSpec := { name := "fnExactMergeMembers", fn := fun _ => fun
  | [d1, d2] => { results := [.lit (.bool true)], args := [d1, d2] }
  | _ => none }
def fnExactMergeMembersRow : OpenClaim := { program := "ytghooagembinaaa", sum := "61f32460b620227c8bc07c4b1c72733416e92f476d1a15a3b747b9127739b7b7", func := "loop.example/g01275/laws.FnExactMergeMembers", spec := "fnExactMergeMembers", unfollowed := true, recurses := true, apart := false }
def FnExactMergeMembersSaid : Prop := fnExactMergeMembersRow.holds Try.pinned (OpenSpec.ofChange fnExactMergeMembersSpec)

/-- ITS FALSE NEIGHBOUR: 'it returns false'. Refute it at one input. -/
def fnExactMergeMembersWrong : ChangeSpec := { name := "fnExactMergeMembers", fn := fun _ => fun
  | [d1, d2] => { results := [.lit (.bool false)], args := [d1, d2] }
  | _ => none }
def FnExactMergeMembersWrongFalsely : Prop := fnExactMergeMembersRow.holds Try.pinned (OpenSpec.ofChange fnExactMergeMembersWrong)

/-- 'laws.FnExactCountCouncilWins': WHATEVER THE INPUT: true; the input reads as it did. -/
def fnExactCountCouncilWinsSpec : ChangeSpec := { name := "fnExactCountCouncilWins", fn := fun _ => fun
  | [d1, d2] => { results := [.lit (.bool true)], args := [d1, d2] }
  | _ => none }
def fnExactCountCouncilWinsRow : OpenClaim := { program := "ytghooagembinaaa", sum := "61f32460b620227c8bc07c4b1c72733416e92f476d1a15a3b747b9127739b7b7", func := "loop.example/g01275/laws.FnExactCountCouncilWins", spec := "fnExactCountCouncilWins", unfollowed := true, recurses := true, apart := false }
def FnExactCountCouncilWinsSaid : Prop := fnExactCountCouncilWinsRow.holds Try.pinned (OpenSpec.ofChange fnExactCountCouncilWinsSpec)

/-- ITS FALSE NEIGHBOUR: 'it returns false'. Refute it at one input. -/
def fnExactCountCouncilWinsWrong : ChangeSpec := { name := "fnExactCountCouncilWins", fn := fun _ => fun
  | [d1, d2] => { results := [.lit (.bool false)], args := [d1, d2] }
  | _ => none }
def FnExactCountCouncilWinsWrongFalsely : Prop := fnExactCountCouncilWinsRow.holds Try.pinned (OpenSpec.ofChange fnExactCountCouncilWinsWrong)

/- THE SECOND FORM. 'bulk': how many values and letters a reading holds, each counted each time it is reached (what is shared counts as often as it is met; a slice's spare places count too). A statement '..UptoSaid' is the law's where the arguments, and the package variables that the reading takes, are together of bulk at most 1048576: NARROWER than '..Said'. Prove '..Said' where nothing that the law and all that it calls make is longer than what came in: it says more and counts as full. Else prove '..UptoSaid'. A law counts once. -/
mutual
def uptoBulk {H : Type} : DataW H → Nat
  | .lit (.string bytes) => bytes.length + 1
  | .lit _ => 1
  | .nil => 1
  | .ptr d => uptoBulk d + 1
  | .slice elems spare => uptoBulkAll elems + uptoBulkAll spare + 1
  | .agg parts => uptoBulkAll parts + 1
  | .iface _ d => uptoBulk d + 1
  | .map entries => uptoBulkEntries entries + 1
  | .held _ => 1
def uptoBulkAll {H : Type} : List (DataW H) → Nat
  | [] => 0
  | d :: r => uptoBulk d + uptoBulkAll r
def uptoBulkEntries {H : Type} : List (Lit × DataW H) → Nat
  | [] => 0
  | x :: r => uptoBulkEntry x + uptoBulkEntries r
def uptoBulkEntry {H : Type} : Lit × DataW H → Nat
  | (.string bytes, d) => bytes.length + uptoBulk d + 1
  | (_, d) => uptoBulk d + 1
 end
def uptoSmall : (H : Type) → List (DataW H) → Bool := fun _ ds => decide (uptoBulkAll ds ≤ 1048576)
def OpenSpec.upto (s : _root_.Go.ChangeSpec) : _root_.Go.OpenSpec := { _root_.Go.OpenSpec.ofChange s with cond := some uptoSmall }

/-- 'laws.FnExactAreChambers', WHERE WHAT IT READS IS OF BULK AT MOST 1048576: true; the input reads as it did. -/
def fnExactAreChambersUptoRow : OpenClaim := { program := "ytghooagembinaaa", sum := "61f32460b620227c8bc07c4b1c72733416e92f476d1a15a3b747b9127739b7b7", func := "loop.example/g01275/laws.FnExactAreChambers", spec := "fnExactAreChambers", unfollowed := true, recurses := true, apart := false, narrowed := true }
def FnExactAreChambersUptoSaid : Prop := fnExactAreChambersUptoRow.holds Try.pinned (OpenSpec.upto fnExactAreChambersSpec)

/-- 'laws.FnExactAreCouncil', WHERE WHAT IT READS IS OF BULK AT MOST 1048576: true; the input reads as it did. -/
def fnExactAreCouncilUptoRow : OpenClaim := { program := "ytghooagembinaaa", sum := "61f32460b620227c8bc07c4b1c72733416e92f476d1a15a3b747b9127739b7b7", func := "loop.example/g01275/laws.FnExactAreCouncil", spec := "fnExactAreCouncil", unfollowed := true, recurses := true, apart := false, narrowed := true }
def FnExactAreCouncilUptoSaid : Prop := fnExactAreCouncilUptoRow.holds Try.pinned (OpenSpec.upto fnExactAreCouncilSpec)

/-- 'laws.FnExactRaiseQuota', WHERE WHAT IT READS IS OF BULK AT MOST 1048576: true; the input reads as it did. -/
def fnExactRaiseQuotaUptoRow : OpenClaim := { program := "ytghooagembinaaa", sum := "61f32460b620227c8bc07c4b1c72733416e92f476d1a15a3b747b9127739b7b7", func := "loop.example/g01275/laws.FnExactRaiseQuota", spec := "fnExactRaiseQuota", unfollowed := true, recurses := true, apart := false, narrowed := true }
def FnExactRaiseQuotaUptoSaid : Prop := fnExactRaiseQuotaUptoRow.holds Try.pinned (OpenSpec.upto fnExactRaiseQuotaSpec)

/-- 'laws.FnExactAddMember', WHERE WHAT IT READS IS OF BULK AT MOST 1048576: true; the input reads as it did. -/
def fnExactAddMemberUptoRow : OpenClaim := { program := "ytghooagembinaaa", sum := "61f32460b620227c8bc07c4b1c72733416e92f476d1a15a3b747b9127739b7b7", func := "loop.example/g01275/laws.FnExactAddMember", spec := "fnExactAddMember", unfollowed := true, recurses := true, apart := false, narrowed := true }
def FnExactAddMemberUptoSaid : Prop := fnExactAddMemberUptoRow.holds Try.pinned (OpenSpec.upto fnExactAddMemberSpec)

/-- 'laws.FnExactGiveWeight', WHERE WHAT IT READS IS OF BULK AT MOST 1048576: true; the input reads as it did. -/
def fnExactGiveWeightUptoRow : OpenClaim := { program := "ytghooagembinaaa", sum := "61f32460b620227c8bc07c4b1c72733416e92f476d1a15a3b747b9127739b7b7", func := "loop.example/g01275/laws.FnExactGiveWeight", spec := "fnExactGiveWeight", unfollowed := true, recurses := true, apart := false, narrowed := true }
def FnExactGiveWeightUptoSaid : Prop := fnExactGiveWeightUptoRow.holds Try.pinned (OpenSpec.upto fnExactGiveWeightSpec)

/-- 'laws.FnExactPlaceInCouncil', WHERE WHAT IT READS IS OF BULK AT MOST 1048576: true; the input reads as it did. -/
def fnExactPlaceInCouncilUptoRow : OpenClaim := { program := "ytghooagembinaaa", sum := "61f32460b620227c8bc07c4b1c72733416e92f476d1a15a3b747b9127739b7b7", func := "loop.example/g01275/laws.FnExactPlaceInCouncil", spec := "fnExactPlaceInCouncil", unfollowed := true, recurses := true, apart := false, narrowed := true }
def FnExactPlaceInCouncilUptoSaid : Prop := fnExactPlaceInCouncilUptoRow.holds Try.pinned (OpenSpec.upto fnExactPlaceInCouncilSpec)

/-- 'laws.FnExactCountQuarrelWins', WHERE WHAT IT READS IS OF BULK AT MOST 1048576: true; the input reads as it did. -/
def fnExactCountQuarrelWinsUptoRow : OpenClaim := { program := "ytghooagembinaaa", sum := "61f32460b620227c8bc07c4b1c72733416e92f476d1a15a3b747b9127739b7b7", func := "loop.example/g01275/laws.FnExactCountQuarrelWins", spec := "fnExactCountQuarrelWins", unfollowed := true, recurses := true, apart := false, narrowed := true }
def FnExactCountQuarrelWinsUptoSaid : Prop := fnExactCountQuarrelWinsUptoRow.holds Try.pinned (OpenSpec.upto fnExactCountQuarrelWinsSpec)

/-- 'laws.FnExactQuarrelSwings', WHERE WHAT IT READS IS OF BULK AT MOST 1048576: true; the input reads as it did. -/
def fnExactQuarrelSwingsUptoRow : OpenClaim := { program := "ytghooagembinaaa", sum := "61f32460b620227c8bc07c4b1c72733416e92f476d1a15a3b747b9127739b7b7", func := "loop.example/g01275/laws.FnExactQuarrelSwings", spec := "fnExactQuarrelSwings", unfollowed := true, recurses := true, apart := false, narrowed := true }
def FnExactQuarrelSwingsUptoSaid : Prop := fnExactQuarrelSwingsUptoRow.holds Try.pinned (OpenSpec.upto fnExactQuarrelSwingsSpec)

/-- 'laws.FnExactQuarrelHelps', WHERE WHAT IT READS IS OF BULK AT MOST 1048576: true; the input reads as it did. -/
def fnExactQuarrelHelpsUptoRow : OpenClaim := { program := "ytghooagembinaaa", sum := "61f32460b620227c8bc07c4b1c72733416e92f476d1a15a3b747b9127739b7b7", func := "loop.example/g01275/laws.FnExactQuarrelHelps", spec := "fnExactQuarrelHelps", unfollowed := true, recurses := true, apart := false, narrowed := true }
def FnExactQuarrelHelpsUptoSaid : Prop := fnExactQuarrelHelpsUptoRow.holds Try.pinned (OpenSpec.upto fnExactQuarrelHelpsSpec)

/-- 'laws.FnExactMergeMembers', WHERE WHAT IT READS IS OF BULK AT MOST 1048576: true; the input reads as it did. -/
def fnExactMergeMembersUptoRow : OpenClaim := { program := "ytghooagembinaaa", sum := "61f32460b620227c8bc07c4b1c72733416e92f476d1a15a3b747b9127739b7b7", func := "loop.example/g01275/laws.FnExactMergeMembers", spec := "fnExactMergeMembers", unfollowed := true, recurses := true, apart := false, narrowed := true }
def FnExactMergeMembersUptoSaid : Prop := fnExactMergeMembersUptoRow.holds Try.pinned (OpenSpec.upto fnExactMergeMembersSpec)

/-- 'laws.FnExactCountCouncilWins', WHERE WHAT IT READS IS OF BULK AT MOST 1048576: true; the input reads as it did. -/
def fnExactCountCouncilWinsUptoRow : OpenClaim := { program := "ytghooagembinaaa", sum := "61f32460b620227c8bc07c4b1c72733416e92f476d1a15a3b747b9127739b7b7", func := "loop.example/g01275/laws.FnExactCountCouncilWins", spec := "fnExactCountCouncilWins", unfollowed := true, recurses := true, apart := false, narrowed := true }
def FnExactCountCouncilWinsUptoSaid : Prop := fnExactCountCouncilWinsUptoRow.holds Try.pinned (OpenSpec.upto fnExactCountCouncilWinsSpec)

end Rows
end Go.Proofs.Ytghooagembinaaa
