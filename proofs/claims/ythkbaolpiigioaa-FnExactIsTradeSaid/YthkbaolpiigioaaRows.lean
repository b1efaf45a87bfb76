/-
  No cell of these rows narrows 'for every input' (looked for: loops, veiled, ifaces, maps, wideKeys, modest, calm, conditions, laid).
  DERIVED. THE GIVEN ROWS OF THIS SEAT. 12 by the template 'for every input the law returns true; each argument reads behind the call as it read before'; 0 by the template 'total and deterministic' (their statements: YthkbaolpiigioaaTotals.lean).
  GIVEN WITH THE SEED: the statements are not yours to turn. If you find one false, say at which input.
  Laid BY PROGRAM, IN A SANDBOX (cutbox-rows.mjs): the forced cells as the released guide's own fill.sh prints them over the translation f8e246a5eee9f014… (all of the seat's roots in one cut). By AI agents, Wed Nov 11 2026. No macro, syntax, notation, axiom, sorry.
-/
import Derived.Test.YthkbaolpiigioaaChecked
import GoSem.Claim
import GoSem.ClaimJoined
import GoSem.ClaimMapViews
import Derived.JoinedTies
import Derived.KernelRfl
namespace Go.Proofs.Ythkbaolpiigioaa
/- THE CELL 'sum', in the pinned program and in every row, IS THE sha256 OF THE DUMP (.gsa) THAT YthkbaolpiigioaaProg.lean LOADS. Nothing in Lean hashes anything: it is a label: what it is worth is what the hold of that sum in a sandbox is worth. -/
noncomputable def Try.pinned : Pinned := { name := "ythkbaolpiigioaa", sum := "f8e246a5eee9f0141abb89a5f2f17e072bb576a927957159b238b6c7961defe0", checked := Try.checked }
namespace Rows
def none {H : Type} : Left H := { results := [], args := [] }

/-- 'laws.FnExactSplitMember': WHATEVER THE INPUT: true; the input reads as it did. -/
def fnExactSplitMemberSpec : ChangeSpec := { name := "fnExactSplitMember", fn := fun _ => fun
  | [d1, d2, d3] => { results := [.lit (.bool true)], args := [d1, d2, d3] }
  | _ => none }
def fnExactSplitMemberRow : OpenClaim := { program := "ythkbaolpiigioaa", sum := "f8e246a5eee9f0141abb89a5f2f17e072bb576a927957159b238b6c7961defe0", func := "loop.example/g01275/laws.FnExactSplitMember", spec := "fnExactSplitMember", inPlace := ["slices.overlaps[int]"], unfollowed := true, recurses := true, apart := false }
def FnExactSplitMemberSaid : Prop := fnExactSplitMemberRow.holds Try.pinned (OpenSpec.ofChange fnExactSplitMemberSpec)

/-- ITS FALSE NEIGHBOUR: 'it returns false'. Refute it at one input. -/
def fnExactSplitMemberWrong : ChangeSpec := { name := "fnExactSplitMember", fn := fun _ => fun
  | [d1, d2, d3] => { results := [.lit (.bool false)], args := [d1, d2, d3] }
  | _ => none }
def FnExactSplitMemberWrongFalsely : Prop := fnExactSplitMemberRow.holds Try.pinned (OpenSpec.ofChange fnExactSplitMemberWrong)

/-- 'laws.FnExactInnerChances': WHATEVER THE INPUT: true; the input reads as it did. -/
def fnExactInnerChancesSpec : ChangeSpec := { name := "fnExactInnerChances", fn := fun _ => fun
  | [d] => { results := [.lit (.bool true)], args := [d] }
  | _ => none }
def fnExactInnerChancesRow : OpenClaim := { program := "ythkbaolpiigioaa", sum := "f8e246a5eee9f0141abb89a5f2f17e072bb576a927957159b238b6c7961defe0", func := "loop.example/g01275/laws.FnExactInnerChances", spec := "fnExactInnerChances", unfollowed := true, recurses := true, apart := false }
def FnExactInnerChancesSaid : Prop := fnExactInnerChancesRow.holds Try.pinned (OpenSpec.ofChange fnExactInnerChancesSpec)

/-- ITS FALSE NEIGHBOUR: 'it returns false'. Refute it at one input. -/
def fnExactInnerChancesWrong : ChangeSpec := { name := "fnExactInnerChances", fn := fun _ => fun
  | [d] => { results := [.lit (.bool false)], args := [d] }
  | _ => none }
def FnExactInnerChancesWrongFalsely : Prop := fnExactInnerChancesRow.holds Try.pinned (OpenSpec.ofChange fnExactInnerChancesWrong)

/-- 'laws.FnExactNeedlessChambers': WHATEVER THE INPUT: true; the input reads as it did. -/
def fnExactNeedlessChambersSpec : ChangeSpec := { name := "fnExactNeedlessChambers", fn := fun _ => fun
  | [d] => { results := [.lit (.bool true)], args := [d] }
  | _ => none }
def fnExactNeedlessChambersRow : OpenClaim := { program := "ythkbaolpiigioaa", sum := "f8e246a5eee9f0141abb89a5f2f17e072bb576a927957159b238b6c7961defe0", func := "loop.example/g01275/laws.FnExactNeedlessChambers", spec := "fnExactNeedlessChambers", unfollowed := true, recurses := true, apart := false }
def FnExactNeedlessChambersSaid : Prop := fnExactNeedlessChambersRow.holds Try.pinned (OpenSpec.ofChange fnExactNeedlessChambersSpec)

/-- ITS FALSE NEIGHBOUR: 'it returns false'. Refute it at one input. -/
def fnExactNeedlessChambersWrong : ChangeSpec := { name := "fnExactNeedlessChambers", fn := fun _ => fun
  | [d] => { results := [.lit (.bool false)], args := [d] }
  | _ => none }
def FnExactNeedlessChambersWrongFalsely : Prop := fnExactNeedlessChambersRow.holds Try.pinned (OpenSpec.ofChange fnExactNeedlessChambersWrong)

/-- 'laws.FnExactQuotasOfPower': WHATEVER THE INPUT: true; the input reads as it did. -/
def fnExactQuotasOfPowerSpec : ChangeSpec := { name := "fnExactQuotasOfPower", fn := fun _ => fun
  | [d1, d2] => { results := [.lit (.bool true)], args := [d1, d2] }
  | _ => none }
def fnExactQuotasOfPowerRow : OpenClaim := { program := "ythkbaolpiigioaa", sum := "f8e246a5eee9f0141abb89a5f2f17e072bb576a927957159b238b6c7961defe0", func := "loop.example/g01275/laws.FnExactQuotasOfPower", spec := "fnExactQuotasOfPower", unfollowed := true, recurses := true, apart := false }
def FnExactQuotasOfPowerSaid : Prop := fnExactQuotasOfPowerRow.holds Try.pinned (OpenSpec.ofChange fnExactQuotasOfPowerSpec)

/-- ITS FALSE NEIGHBOUR: 'it returns false'. Refute it at one input. -/
def fnExactQuotasOfPowerWrong : ChangeSpec := { name := "fnExactQuotasOfPower", fn := fun _ => fun
  | [d1, d2] => { results := [.lit (.bool false)], args := [d1, d2] }
  | _ => none }
def FnExactQuotasOfPowerWrongFalsely : Prop := fnExactQuotasOfPowerRow.holds Try.pinned (OpenSpec.ofChange fnExactQuotasOfPowerWrong)

/-- 'laws.FnExactWorthTable': WHATEVER THE INPUT: true; the input reads as it did. -/
def fnExactWorthTableSpec : ChangeSpec := { name := "fnExactWorthTable", fn := fun _ => fun
  | [d] => { results := [.lit (.bool true)], args := [d] }
  | _ => none }
def fnExactWorthTableRow : OpenClaim := { program := "ythkbaolpiigioaa", sum := "f8e246a5eee9f0141abb89a5f2f17e072bb576a927957159b238b6c7961defe0", func := "loop.example/g01275/laws.FnExactWorthTable", spec := "fnExactWorthTable", unfollowed := true, recurses := true, apart := false }
def FnExactWorthTableSaid : Prop := fnExactWorthTableRow.holds Try.pinned (OpenSpec.ofChange fnExactWorthTableSpec)

/-- ITS FALSE NEIGHBOUR: 'it returns false'. Refute it at one input. -/
def fnExactWorthTableWrong : ChangeSpec := { name := "fnExactWorthTable", fn := fun _ => fun
  | [d] => { results := [.lit (.bool false)], args := [d] }
  | _ => none }
def FnExactWorthTableWrongFalsely : Prop := fnExactWorthTableRow.holds Try.pinned (OpenSpec.ofChange fnExactWorthTableWrong)

/-- 'laws.FnExactCouncilPowers': WHATEVER THE INPUT: true; the input reads as it did. -/
def fnExactCouncilPowersSpec : ChangeSpec := { name := "fnExactCouncilPowers", fn := fun _ => fun
  | [d1, d2] => { results := [.lit (.bool true)], args := [d1, d2] }
  | _ => none }
def fnExactCouncilPowersRow : OpenClaim := { program := "ythkbaolpiigioaa", sum := "f8e246a5eee9f0141abb89a5f2f17e072bb576a927957159b238b6c7961defe0", func := "loop.example/g01275/laws.FnExactCouncilPowers", spec := "fnExactCouncilPowers", unfollowed := true, recurses := true, apart := false }
def FnExactCouncilPowersSaid : Prop := fnExactCouncilPowersRow.holds Try.pinned (OpenSpec.ofChange fnExactCouncilPowersSpec)

/-- ITS FALSE NEIGHBOUR: 'it returns false'. Refute it at one input. -/
def fnExactCouncilPowersWrong : ChangeSpec := { name := "fnExactCouncilPowers", fn := fun _ => fun
  | [d1, d2] => { results := [.lit (.bool false)], args := [d1, d2] }
  | _ => none }
def FnExactCouncilPowersWrongFalsely : Prop := fnExactCouncilPowersRow.holds Try.pinned (OpenSpec.ofChange fnExactCouncilPowersWrong)

/-- 'laws.FnExactIsTrade': WHATEVER THE INPUT: true; the input reads as it did. -/
def fnExactIsTradeSpec : ChangeSpec := { name := "fnExactIsTrade", fn := fun _ => fun
  | [d1, d2] => { results := [.lit (.bool true)], args := [d1, d2] }
  | _ => none }
def fnExactIsTradeRow : OpenClaim := { program := "ythkbaolpiigioaa", sum := "f8e246a5eee9f0141abb89a5f2f17e072bb576a927957159b238b6c7961defe0", func := "loop.example/g01275/laws.FnExactIsTrade", spec := "fnExactIsTrade", unfollowed := true, recurses := true, apart := false }
def FnExactIsTradeSaid : Prop := fnExactIsTradeRow.holds Try.pinned (OpenSpec.ofChange fnExactIsTradeSpec)

/-- ITS FALSE NEIGHBOUR: 'it returns false'. Refute it at one input. -/
def fnExactIsTradeWrong : ChangeSpec := { name := "fnExactIsTrade", fn := fun _ => fun
  | [d1, d2] => { results := [.lit (.bool false)], args := [d1, d2] }
  | _ => none }
def FnExactIsTradeWrongFalsely : Prop := fnExactIsTradeRow.holds Try.pinned (OpenSpec.ofChange fnExactIsTradeWrong)

/-- 'laws.FnExactSplitGain': WHATEVER THE INPUT: true; the input reads as it did. -/
def fnExactSplitGainSpec : ChangeSpec := { name := "fnExactSplitGain", fn := fun _ => fun
  | [d1, d2, d3] => { results := [.lit (.bool true)], args := [d1, d2, d3] }
  | _ => none }
def fnExactSplitGainRow : OpenClaim := { program := "ythkbaolpiigioaa", sum := "f8e246a5eee9f0141abb89a5f2f17e072bb576a927957159b238b6c7961defe0", func := "loop.example/g01275/laws.FnExactSplitGain", spec := "fnExactSplitGain", inPlace := ["slices.overlaps[int]"], unfollowed := true, recurses := true, apart := false }
def FnExactSplitGainSaid : Prop := fnExactSplitGainRow.holds Try.pinned (OpenSpec.ofChange fnExactSplitGainSpec)

/-- ITS FALSE NEIGHBOUR: 'it returns false'. Refute it at one input. -/
def fnExactSplitGainWrong : ChangeSpec := { name := "fnExactSplitGain", fn := fun _ => fun
  | [d1, d2, d3] => { results := [.lit (.bool false)], args := [d1, d2, d3] }
  | _ => none }
def FnExactSplitGainWrongFalsely : Prop := fnExactSplitGainRow.holds Try.pinned (OpenSpec.ofChange fnExactSplitGainWrong)

/-- 'laws.FnExactUnionGainByOrders': WHATEVER THE INPUT: true; the input reads as it did. -/
def fnExactUnionGainByOrdersSpec : ChangeSpec := { name := "fnExactUnionGainByOrders", fn := fun _ => fun
  | [d1, d2] => { results := [.lit (.bool true)], args := [d1, d2] }
  | _ => none }
def fnExactUnionGainByOrdersRow : OpenClaim := { program := "ythkbaolpiigioaa", sum := "f8e246a5eee9f0141abb89a5f2f17e072bb576a927957159b238b6c7961defe0", func := "loop.example/g01275/laws.FnExactUnionGainByOrders", spec := "fnExactUnionGainByOrders", unfollowed := true, recurses := true, apart := false }
def FnExactUnionGainByOrdersSaid : Prop := fnExactUnionGainByOrdersRow.holds Try.pinned (OpenSpec.ofChange fnExactUnionGainByOrdersSpec)

/-- ITS FALSE NEIGHBOUR: 'it returns false'. Refute it at one input. -/
def fnExactUnionGainByOrdersWrong : ChangeSpec := { name := "fnExactUnionGainByOrders", fn := fun _ => fun
  | [d1, d2] => { results := [.lit (.bool false)], args := [d1, d2] }
  | _ => none }
def FnExactUnionGainByOrdersWrongFalsely : Prop := fnExactUnionGainByOrdersRow.holds Try.pinned (OpenSpec.ofChange fnExactUnionGainByOrdersWrong)

/-- 'laws.FnExactBestSplits': WHATEVER THE INPUT: true; the input reads as it did. -/
def fnExactBestSplitsSpec : ChangeSpec := { name := "fnExactBestSplits", fn := fun _ => fun
  | [d1, d2] => { results := [.lit (.bool true)], args := [d1, d2] }
  | _ => none }
def fnExactBestSplitsRow : OpenClaim := { program := "ythkbaolpiigioaa", sum := "f8e246a5eee9f0141abb89a5f2f17e072bb576a927957159b238b6c7961defe0", func := "loop.example/g01275/laws.FnExactBestSplits", spec := "fnExactBestSplits", inPlace := ["slices.overlaps[int]"], unfollowed := true, recurses := true, apart := false }
def FnExactBestSplitsSaid : Prop := fnExactBestSplitsRow.holds Try.pinned (OpenSpec.ofChange fnExactBestSplitsSpec)

/-- ITS FALSE NEIGHBOUR: 'it returns false'. Refute it at one input. -/
def fnExactBestSplitsWrong : ChangeSpec := { name := "fnExactBestSplits", fn := fun _ => fun
  | [d1, d2] => { results := [.lit (.bool false)], args := [d1, d2] }
  | _ => none }
def FnExactBestSplitsWrongFalsely : Prop := fnExactBestSplitsRow.holds Try.pinned (OpenSpec.ofChange fnExactBestSplitsWrong)

/-- 'laws.FnExactBestPartners': WHATEVER THE INPUT: true; the input reads as it did. -/
def fnExactBestPartnersSpec : ChangeSpec := { name := "fnExactBestPartners", fn := fun _ => fun
  | [d1, d2] => { results := [.lit (.bool true)], args := [d1, d2] }
  | _ => none }
def fnExactBestPartnersRow : OpenClaim := { program := "ythkbaolpiigioaa", sum := "f8e246a5eee9f0141abb89a5f2f17e072bb576a927957159b238b6c7961defe0", func := "loop.example/g01275/laws.FnExactBestPartners", spec := "fnExactBestPartners", unfollowed := true, recurses := true, apart := false }
def FnExactBestPartnersSaid : Prop := fnExactBestPartnersRow.holds Try.pinned (OpenSpec.ofChange fnExactBestPartnersSpec)

/-- ITS FALSE NEIGHBOUR: 'it returns false'. Refute it at one input. -/
def fnExactBestPartnersWrong : ChangeSpec := { name := "fnExactBestPartners", fn := fun _ => fun
  | [d1, d2] => { results := [.lit (.bool false)], args := [d1, d2] }
  | _ => none }
def FnExactBestPartnersWrongFalsely : Prop := fnExactBestPartnersRow.holds Try.pinned (OpenSpec.ofChange fnExactBestPartnersWrong)

/-- 'laws.FnExactOrderOfWorth': WHATEVER THE INPUT: true; the input reads as it did. -/
def fnExactOrderOfWorthSpec : ChangeSpec := { name := "fnExactOrderOfWorth", fn := fun _ => fun
  | [d] => { results := [.lit (.bool true)], args := [d] }
  | _ => none }
def fnExactOrderOfWorthRow : OpenClaim := { program := "ythkbaolpiigioaa", sum := "f8e246a5eee9f0141abb89a5f2f17e072bb576a927957159b238b6c7961defe0", func := "loop.example/g01275/laws.FnExactOrderOfWorth", spec := "fnExactOrderOfWorth", unfollowed := true, recurses := true, apart := false }
def FnExactOrderOfWorthSaid : Prop := fnExactOrderOfWorthRow.holds Try.pinned (OpenSpec.ofChange fnExactOrderOfWorthSpec)

/-- ITS FALSE NEIGHBOUR: 'it returns false'. Refute it at one input. -/
def fnExactOrderOfWorthWrong : ChangeSpec := { name := "fnExactOrderOfWorth", fn := fun _ => fun
  | [d] => { results := [.lit (.bool false)], args := [d] }
  | _ => none }
def FnExactOrderOfWorthWrongFalsely : Prop := fnExactOrderOfWorthRow.holds Try.pinned (OpenSpec.ofChange fnExactOrderOfWorthWrong)

/- THE SECOND FORM. 'bulk': how many values and letters a reading holds, each counted each time it is reached (what is shared counts as often as it is met; a slice's spare places count too). A statement '..UptoSaid' is the law's where the arguments, and the package variables that the reading takes, are together of bulk at most 1048576: NARROWER than '..Said'. Prove '..Said' where nothing that the law and all that it calls make is longer than what came in: it says more and counts as full. Else prove '..UptoSaid'. A law counts once. -/
mutual
def uptoBulk {H : Type} : DataW H → Nat
  | .lit (.string bytes) => bytes.length + 1
  | .lit _ => 1
  | .nil => 1
  | .ptr d => uptoBulk d + 1
  | .slice elems spare => uptoBulkAll elems + uptoBulkAll spare + 1
  | .agg parts => uptoBulkAll parts + 1
  | .iface _ d => uptoBulk d + 1
  | .map entries => uptoBulkEntries entries + 1
  | .held _ => 1
def uptoBulkAll {H : Type} : List (DataW H) → Nat
  | [] => 0
  | d :: r => uptoBulk d + uptoBulkAll r
def uptoBulkEntries {H : Type} : List (Lit × DataW H) → Nat
  | [] => 0
  | x :: r => uptoBulkEntry x + uptoBulkEntries r
def uptoBulkEntry {H : Type} : Lit × DataW H → Nat
  | (.string bytes, d) => bytes.length + uptoBulk d + 1
  | (_, d) => uptoBulk d + 1
 end
def uptoSmall : (H : Type) → List (DataW H) → Bool := fun _ ds => decide (uptoBulkAll ds ≤ 1048576)
def OpenSpec.upto (s : _root_.Go.ChangeSpec) : _root_.Go.OpenSpec := { _root_.Go.OpenSpec.ofChange s with cond := some uptoSmall }

/-- 'laws.FnExactSplitMember', WHERE WHAT IT READS IS OF BULK AT MOST 1048576: true; the input reads as it did. -/
def fnExactSplitMemberUptoRow : OpenClaim := { program := "ythkbaolpiigioaa", sum := "f8e246a5eee9f0141abb89a5f2f17e072bb576a927957159b238b6c7961defe0", func := "loop.example/g01275/laws.FnExactSplitMember", spec := "fnExactSplitMember", inPlace := ["slices.overlaps[int]"], unfollowed := true, recurses := true, apart := false, narrowed := true }
def FnExactSplitMemberUptoSaid : Prop := fnExactSplitMemberUptoRow.holds Try.pinned (OpenSpec.upto fnExactSplitMemberSpec)

/-- 'laws.FnExactInnerChances', WHERE WHAT IT READS IS OF BULK AT MOST 1048576: true; the input reads as it did. -/
def fnExactInnerChancesUptoRow : OpenClaim := { program := "ythkbaolpiigioaa", sum := "f8e246a5eee9f0141abb89a5f2f17e072bb576a927957159b238b6c7961defe0", func := "loop.example/g01275/laws.FnExactInnerChances", spec := "fnExactInnerChances", unfollowed := true, recurses := true, apart := false, narrowed := true }
def FnExactInnerChancesUptoSaid : Prop := fnExactInnerChancesUptoRow.holds Try.pinned (OpenSpec.upto fnExactInnerChancesSpec)

/-- 'laws.FnExactNeedlessChambers', WHERE WHAT IT READS IS OF BULK AT MOST 1048576: true; the input reads as it did. -/
def fnExactNeedlessChambersUptoRow : OpenClaim := { program := "ythkbaolpiigioaa", sum := "f8e246a5eee9f0141abb89a5f2f17e072bb576a927957159b238b6c7961defe0", func := "loop.example/g01275/laws.FnExactNeedlessChambers", spec := "fnExactNeedlessChambers", unfollowed := true, recurses := true, apart := false, narrowed := true }
def FnExactNeedlessChambersUptoSaid : Prop := fnExactNeedlessChambersUptoRow.holds Try.pinned (OpenSpec.upto fnExactNeedlessChambersSpec)

/-- 'laws.FnExactQuotasOfPower', WHERE WHAT IT READS IS OF BULK AT MOST 1048576: true; the input reads as it did. -/
def fnExactQuotasOfPowerUptoRow : OpenClaim := { program := "ythkbaolpiigioaa", sum := "f8e246a5eee9f0141abb89a5f2f17e072bb576a927957159b238b6c7961defe0", func := "loop.example/g01275/laws.FnExactQuotasOfPower", spec := "fnExactQuotasOfPower", unfollowed := true, recurses := true, apart := false, narrowed := true }
def FnExactQuotasOfPowerUptoSaid : Prop := fnExactQuotasOfPowerUptoRow.holds Try.pinned (OpenSpec.upto fnExactQuotasOfPowerSpec)

/-- 'laws.FnExactWorthTable', WHERE WHAT IT READS IS OF BULK AT MOST 1048576: true; the input reads as it did. -/
def fnExactWorthTableUptoRow : OpenClaim := { program := "ythkbaolpiigioaa", sum := "f8e246a5eee9f0141abb89a5f2f17e072bb576a927957159b238b6c7961defe0", func := "loop.example/g01275/laws.FnExactWorthTable", spec := "fnExactWorthTable", unfollowed := true, recurses := true, apart := false, narrowed := true }
def FnExactWorthTableUptoSaid : Prop := fnExactWorthTableUptoRow.holds Try.pinned (OpenSpec.upto fnExactWorthTableSpec)

/-- 'laws.FnExactCouncilPowers', WHERE WHAT IT READS IS OF BULK AT MOST 1048576: true; the input reads as it did. -/
def fnExactCouncilPowersUptoRow : OpenClaim := { program := "ythkbaolpiigioaa", sum := "f8e246a5eee9f0141abb89a5f2f17e072bb576a927957159b238b6c7961defe0", func := "loop.example/g01275/laws.FnExactCouncilPowers", spec := "fnExactCouncilPowers", unfollowed := true, recurses := true, apart := false, narrowed := true }
def FnExactCouncilPowersUptoSaid : Prop := fnExactCouncilPowersUptoRow.holds Try.pinned (OpenSpec.upto fnExactCouncilPowersSpec)

/-- 'laws.FnExactIsTrade', WHERE WHAT IT READS IS OF BULK AT MOST 1048576: true; the input reads as it did. -/
def fnExactIsTradeUptoRow : OpenClaim := { program := "ythkbaolpiigioaa", sum := "f8e246a5eee9f0141abb89a5f2f17e072bb576a927957159b238b6c7961defe0", func := "loop.example/g01275/laws.FnExactIsTrade", spec := "fnExactIsTrade", unfollowed := true, recurses := true, apart := false, narrowed := true }
def FnExactIsTradeUptoSaid : Prop := fnExactIsTradeUptoRow.holds Try.pinned (OpenSpec.upto fnExactIsTradeSpec)

/-- 'laws.FnExactSplitGain', WHERE WHAT IT READS IS OF BULK AT MOST 1048576: true; the input reads as it did. -/
def fnExactSplitGainUptoRow : OpenClaim := { program := "ythkbaolpiigioaa", sum := "f8e246a5eee9f0141abb89a5f2f17e072bb576a927957159b238b6c7961defe0", func := "loop.example/g01275/laws.FnExactSplitGain", spec := "fnExactSplitGain", inPlace := ["slices.overlaps[int]"], unfollowed := true, recurses := true, apart := false, narrowed := true }
def FnExactSplitGainUptoSaid : Prop := fnExactSplitGainUptoRow.holds Try.pinned (OpenSpec.upto fnExactSplitGainSpec)

/-- 'laws.FnExactUnionGainByOrders', WHERE WHAT IT READS IS OF BULK AT MOST 1048576: true; the input reads as it did. -/
def fnExactUnionGainByOrdersUptoRow : OpenClaim := { program := "ythkbaolpiigioaa", sum := "f8e246a5eee9f0141abb89a5f2f17e072bb576a927957159b238b6c7961defe0", func := "loop.example/g01275/laws.FnExactUnionGainByOrders", spec := "fnExactUnionGainByOrders", unfollowed := true, recurses := true, apart := false, narrowed := true }
def FnExactUnionGainByOrdersUptoSaid : Prop := fnExactUnionGainByOrdersUptoRow.holds Try.pinned (OpenSpec.upto fnExactUnionGainByOrdersSpec)

/-- 'laws.FnExactBestSplits', WHERE WHAT IT READS IS OF BULK AT MOST 1048576: true; the input reads as it did. -/
def fnExactBestSplitsUptoRow : OpenClaim := { program := "ythkbaolpiigioaa", sum := "f8e246a5eee9f0141abb89a5f2f17e072bb576a927957159b238b6c7961defe0", func := "loop.example/g01275/laws.FnExactBestSplits", spec := "fnExactBestSplits", inPlace := ["slices.overlaps[int]"], unfollowed := true, recurses := true, apart := false, narrowed := true }
def FnExactBestSplitsUptoSaid : Prop := fnExactBestSplitsUptoRow.holds Try.pinned (OpenSpec.upto fnExactBestSplitsSpec)

/-- 'laws.FnExactBestPartners', WHERE WHAT IT READS IS OF BULK AT MOST 1048576: true; the input reads as it did. -/
def fnExactBestPartnersUptoRow : OpenClaim := { program := "ythkbaolpiigioaa", sum := "f8e246a5eee9f0141abb89a5f2f17e072bb576a927957159b238b6c7961defe0", func := "loop.example/g01275/laws.FnExactBestPartners", spec := "fnExactBestPartners", unfollowed := true, recurses := true, apart := false, narrowed := true }
def FnExactBestPartnersUptoSaid : Prop := fnExactBestPartnersUptoRow.holds Try.pinned (OpenSpec.upto fnExactBestPartnersSpec)

/-- 'laws.FnExactOrderOfWorth', WHERE WHAT IT READS IS OF BULK AT MOST 1048576: true; the input reads as it did. -/
def fnExactOrderOfWorthUptoRow : OpenClaim := { program := "ythkbaolpiigioaa", sum := "f8e246a5eee9f0141abb89a5f2f17e072bb576a927957159b238b6c7961defe0", func := "loop.example/g01275/laws.FnExactOrderOfWorth", spec := "fnExactOrderOfWorth", unfollowed := true, recurses := true, apart := false, narrowed := true }
def FnExactOrderOfWorthUptoSaid : Prop := fnExactOrderOfWorthUptoRow.holds Try.pinned (OpenSpec.upto fnExactOrderOfWorthSpec)

end Rows
end Go.Proofs.Ythkbaolpiigioaa
