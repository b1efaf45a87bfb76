/- PROVED HERE: the law FnExactCouncilGame of the program gives true for every input that it can be called with, and its arguments read afterwards as before. Conditions: none beyond the given row's own. The row, out of the pure statement and the printed walk. -/
import Derived.Test.YtokelcedamegbaaRows
import Derived.WalkKit
import Derived.ProofKit
import Derived.OpenShut
import Derived.ShutString
import Derived.ChangeOld
import Derived.Below
import Derived.SizedLaws
import Derived.Test.YtokelcedamegbaaCCouncilGame4
import Derived.Test.YtokelcedamegbaaCCouncilGame6
import Derived.Test.YtokelcedamegbaaCCouncilGame7
namespace Go.Proofs.Ytokelcedamegbaa.fnExactCouncilGame
open Go.ChangeShapes Go.WideShapes Go.ChangeAt Go.RowKit
open Go.ChangeMaps (open_string shut_string)
set_option linter.unusedVariables false
theorem own : ownKnob Try.prog.godebug = none := by kernel_rfl
theorem laidOut : laidOutB Try.prog = true := by kernel_rfl
set_option maxRecDepth 100000 in
theorem lifted (os : Os) (started : os.Started) (H : Type) (enc : TypeId × Value → H) :
    ReturnsInHanded {} Try.checked os 10 .any (Rows.fnExactCouncilGameSpec.pre6 enc Try.prog Try.f10 Rows.fnExactCouncilGameRow.domain false) (Rows.fnExactCouncilGameSpec.post enc Try.prog Try.f10 false true false false) := by
  refine returnsInHanded_of_change_sized (C := Try.checked) own started (by kernel_rfl) Try.func10
    (ChangeSpec.witness6 (enc := enc) (C := Try.checked) false ⟨#[], #[.agg #[.int .i64 0, .slice none 0 0], .slice none 0 0], []⟩ 8 (by kernel_rfl) (by kernel_rfl) (by kernel_rfl) (by kernel_rfl)) ?_
  intro W base args ds gs before hval0 hW hcnd hsz0 _
  have hval : ∀ (j : Nat) t v, Try.f10.params[j]? = some t → args[j]? = some v → Value.okWide Try.prog W .any base t v := hval0
  have hW' := hW
  obtain ⟨p, q, hA0, hV, rfl, hfz, hnd⟩ := hW
  have hA : DataW.TrodAll enc Try.prog W 0 (fun _ => true) true Try.f10.params.toList args.toList ds p := hA0
  rw [Try.params10] at hA hval
  obtain ⟨v0, vs0, d0, ds0, p0, q0, hargs, rfl, rfl, h0, r0⟩ := trodAll_cons hA
  obtain ⟨v1, vs1, d1, ds1, p1, q1, rfl, rfl, rfl, h1, r1⟩ := trodAll_cons r0
  obtain ⟨rfl, rfl, rfl⟩ := trodAll_nil r1
  obtain rfl : args = #[v0, v1] := by cases args; simp_all
  obtain ⟨rfl, rfl⟩ := trodVars_none hV
  have k0 := h0
  have lt0 : ∀ x ∈ p0, x.block < W.heap.size := by obtain ⟨m, hm⟩ := k0; exact DataW.trod_lt m _ _ _ hm
  obtain ⟨cs0, x0, rfl, hK0, o0⟩ := P.open_agg_ Try.underlying42 P.op_laws_Committee (hval 0 42 v0 rfl rfl) h0
  obtain ⟨A0_1, c0_1, e0, hc0_1, hr0_1⟩ := P.k_laws_Committee_open hK0
  obtain ⟨cs0⟩ := cs0
  simp only at e0
  subst e0
  have k1 := h1
  have lt1 : ∀ x ∈ p1, x.block < W.heap.size := by obtain ⟨m, hm⟩ := k1; exact DataW.trod_lt m _ _ _ hm
  obtain ⟨A1, c1, l1, rfl, hc1, hr1, o1⟩ := P.open_row_ Try.underlying51 ((P.Opens.slice Try.underlying51 (by kernel_rfl) P.op_laws_Committee)) (hval 1 51 v1 rfl rfl) h1
  clear hA0 hval0 hsz0
  obtain ⟨k, h⟩ := P.laws_FnExactCouncilGame_pure x0.f0 x0.f1 l1 o0.1 o0.2 o1
  refine (P.laws_FnExactCouncilGame.calls k x0.f0 A0_1 c0_1 x0.f1 A1 c1 l1 true W hr0_1 hc0_1 hr1 hc1 ⟨rfl⟩ h).mono fun e W' ⟨he, bel⟩ => ?_
  subst he
  exact ⟨_, rfl, _, _, _, [], _, [], hW', trodAll_mk1 (shut_bool Try.underlying4 _), (trodAll_cons_mk (Below.trod laidOut (by kernel_rfl) (of_decide_eq_true (by kernel_rfl)) k0 bel lt0) (trodAll_cons_mk (Below.trod laidOut (by kernel_rfl) (of_decide_eq_true (by kernel_rfl)) k1 bel lt1) trodAll_mk0)), rfl, bel.frame _, fun h => by cases h⟩
theorem over : Rows.fnExactCouncilGameRow.holds Try.pinned (OpenSpec.ofChange Rows.fnExactCouncilGameSpec) :=
  OpenClaim.holds_of_wide 10 Try.f10 rfl rfl rfl rfl rfl rfl rfl ⟨rfl, rfl, rfl, rfl, rfl⟩ rfl rfl rfl rfl rfl (by kernel_rfl) Try.func10 (by kernel_rfl)
    (of_decide_eq_true (by kernel_rfl)) (by unfold Func.isWrapper; first | (rw [if_pos (by decide +kernel)]; kernel_rfl) | (rw [if_neg (by decide +kernel)]; exact ⟨rfl, rfl⟩))
    (fun os started H enc _ => lifted os started H enc)
theorem proved : Rows.FnExactCouncilGameSaid := over
end Go.Proofs.Ytokelcedamegbaa.fnExactCouncilGame
namespace Go.Proofs.Ytokelcedamegbaa
/-- The row, under a short name, for the claim. -/
theorem fnExactCouncilGame_holds : Rows.FnExactCouncilGameSaid := fnExactCouncilGame.proved
#print axioms fnExactCouncilGame_holds
end Go.Proofs.Ytokelcedamegbaa
