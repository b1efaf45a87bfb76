/- PROVED HERE: the law FnExactIsTrade of the program gives true for every input that it can be called with, and its arguments read afterwards as before. Conditions: none beyond the given row's own. The row, out of the pure statement and the printed walk. -/
import Derived.Test.YthkbaolpiigioaaRows
import Derived.WalkKit
import Derived.ProofKit
import Derived.OpenShut
import Derived.ShutString
import Derived.ChangeOld
import Derived.Below
import Derived.SizedLaws
import Derived.Test.YthkbaolpiigioaaCIsTrade3
import Derived.Test.YthkbaolpiigioaaCIsTrade5
namespace Go.Proofs.Ythkbaolpiigioaa.fnExactIsTrade
open Go.ChangeShapes Go.WideShapes Go.ChangeAt Go.RowKit
open Go.ChangeMaps (open_string shut_string)
set_option linter.unusedVariables false
theorem own : ownKnob Try.prog.godebug = none := by kernel_rfl
theorem laidOut : laidOutB Try.prog = true := by kernel_rfl
set_option maxRecDepth 100000 in
theorem lifted (os : Os) (started : os.Started) (H : Type) (enc : TypeId × Value → H) :
    ReturnsInHanded {} Try.checked os 9 .any (Rows.fnExactIsTradeSpec.pre6 enc Try.prog Try.f9 Rows.fnExactIsTradeRow.domain false) (Rows.fnExactIsTradeSpec.post enc Try.prog Try.f9 false true false false) := by
  refine returnsInHanded_of_change_sized (C := Try.checked) own started (by kernel_rfl) Try.func9
    (ChangeSpec.witness6 (enc := enc) (C := Try.checked) false ⟨#[], #[.agg #[.int .i64 0, .slice none 0 0], .agg #[.slice none 0 0, .slice none 0 0]], []⟩ 8 (by kernel_rfl) (by kernel_rfl) (by kernel_rfl) (by kernel_rfl)) ?_
  intro W base args ds gs before hval0 hW hcnd hsz0 _
  have hval : ∀ (j : Nat) t v, Try.f9.params[j]? = some t → args[j]? = some v → Value.okWide Try.prog W .any base t v := hval0
  have hW' := hW
  obtain ⟨p, q, hA0, hV, rfl, hfz, hnd⟩ := hW
  have hA : DataW.TrodAll enc Try.prog W 0 (fun _ => true) true Try.f9.params.toList args.toList ds p := hA0
  rw [Try.params9] at hA hval
  obtain ⟨v0, vs0, d0, ds0, p0, q0, hargs, rfl, rfl, h0, r0⟩ := trodAll_cons hA
  obtain ⟨v1, vs1, d1, ds1, p1, q1, rfl, rfl, rfl, h1, r1⟩ := trodAll_cons r0
  obtain ⟨rfl, rfl, rfl⟩ := trodAll_nil r1
  obtain rfl : args = #[v0, v1] := by cases args; simp_all
  obtain ⟨rfl, rfl⟩ := trodVars_none hV
  have k0 := h0
  have lt0 : ∀ x ∈ p0, x.block < W.heap.size := by obtain ⟨m, hm⟩ := k0; exact DataW.trod_lt m _ _ _ hm
  obtain ⟨cs0, x0, rfl, hK0, o0⟩ := P.open_agg_ Try.underlying53 P.op_laws_Game (hval 0 53 v0 rfl rfl) h0
  obtain ⟨A0_1, c0_1, e0, hc0_1, hr0_1⟩ := P.k_laws_Game_open hK0
  obtain ⟨cs0⟩ := cs0
  simp only at e0
  subst e0
  have k1 := h1
  have lt1 : ∀ x ∈ p1, x.block < W.heap.size := by obtain ⟨m, hm⟩ := k1; exact DataW.trod_lt m _ _ _ hm
  obtain ⟨cs1, x1, rfl, hK1, o1⟩ := P.open_agg_ Try.underlying67 P.op_laws_Trade (hval 1 67 v1 rfl rfl) h1
  obtain ⟨A1_0, c1_0, A1_1, c1_1, e1, hc1_0, hr1_0, hc1_1, hr1_1⟩ := P.k_laws_Trade_open hK1
  obtain ⟨cs1⟩ := cs1
  simp only at e1
  subst e1
  clear hA0 hval0 hsz0
  obtain ⟨k, h⟩ := P.laws_FnExactIsTrade_pure x0.f0 x0.f1 x1.f0 x1.f1 o0.1 o0.2 o1.1 o1.2
  refine (P.laws_FnExactIsTrade.calls k x0.f0 A0_1 c0_1 x0.f1 A1_0 c1_0 x1.f0 A1_1 c1_1 x1.f1 true W hr0_1 hc0_1 hr1_0 hc1_0 hr1_1 hc1_1 ⟨rfl⟩ h).mono fun e W' ⟨he, bel⟩ => ?_
  subst he
  exact ⟨_, rfl, _, _, _, [], _, [], hW', trodAll_mk1 (shut_bool Try.underlying4 _), (trodAll_cons_mk (Below.trod laidOut (by kernel_rfl) (of_decide_eq_true (by kernel_rfl)) k0 bel lt0) (trodAll_cons_mk (Below.trod laidOut (by kernel_rfl) (of_decide_eq_true (by kernel_rfl)) k1 bel lt1) trodAll_mk0)), rfl, bel.frame _, fun h => by cases h⟩
theorem over : Rows.fnExactIsTradeRow.holds Try.pinned (OpenSpec.ofChange Rows.fnExactIsTradeSpec) :=
  OpenClaim.holds_of_wide 9 Try.f9 rfl rfl rfl rfl rfl rfl rfl ⟨rfl, rfl, rfl, rfl, rfl⟩ rfl rfl rfl rfl rfl (by kernel_rfl) Try.func9 (by kernel_rfl)
    (of_decide_eq_true (by kernel_rfl)) (by unfold Func.isWrapper; first | (rw [if_pos (by decide +kernel)]; kernel_rfl) | (rw [if_neg (by decide +kernel)]; exact ⟨rfl, rfl⟩))
    (fun os started H enc _ => lifted os started H enc)
theorem proved : Rows.FnExactIsTradeSaid := over
end Go.Proofs.Ythkbaolpiigioaa.fnExactIsTrade
namespace Go.Proofs.Ythkbaolpiigioaa
/-- The row, under a short name, for the claim. -/
theorem fnExactIsTrade_holds : Rows.FnExactIsTradeSaid := fnExactIsTrade.proved
#print axioms fnExactIsTrade_holds
end Go.Proofs.Ythkbaolpiigioaa
