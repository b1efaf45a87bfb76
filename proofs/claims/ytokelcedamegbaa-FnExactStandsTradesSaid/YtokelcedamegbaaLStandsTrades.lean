/- PROVED HERE: the law FnExactStandsTrades of the program gives true for every input that it can be called with, and its arguments read afterwards as before. Conditions: none beyond the given row's own. The row, out of the pure statement and the printed walk. -/
import Derived.Test.YtokelcedamegbaaRows
import Derived.WalkKit
import Derived.ProofKit
import Derived.OpenShut
import Derived.ShutString
import Derived.ChangeOld
import Derived.Below
import Derived.SizedLaws
import Derived.Test.YtokelcedamegbaaCStandsTrades4
import Derived.Test.YtokelcedamegbaaCStandsTrades6
import Derived.Test.YtokelcedamegbaaCStandsTrades7
namespace Go.Proofs.Ytokelcedamegbaa.fnExactStandsTrades
open Go.ChangeShapes Go.WideShapes Go.ChangeAt Go.RowKit
open Go.ChangeMaps (open_string shut_string)
set_option linter.unusedVariables false
theorem own : ownKnob Try.prog.godebug = none := by kernel_rfl
theorem laidOut : laidOutB Try.prog = true := by kernel_rfl
set_option maxRecDepth 100000 in
theorem lifted (os : Os) (started : os.Started) (H : Type) (enc : TypeId × Value → H) :
    ReturnsInHanded {} Try.checked os 9 .any (Rows.fnExactStandsTradesSpec.pre6 enc Try.prog Try.f9 Rows.fnExactStandsTradesRow.domain false) (Rows.fnExactStandsTradesSpec.post enc Try.prog Try.f9 false true false false) := by
  refine returnsInHanded_of_change_sized (C := Try.checked) own started (by kernel_rfl) Try.func9
    (ChangeSpec.witness6 (enc := enc) (C := Try.checked) false ⟨#[], #[.agg #[.int .i64 0, .slice none 0 0]], []⟩ 8 (by kernel_rfl) (by kernel_rfl) (by kernel_rfl) (by kernel_rfl)) ?_
  intro W base args ds gs before hval0 hW hcnd hsz0 _
  have hval : ∀ (j : Nat) t v, Try.f9.params[j]? = some t → args[j]? = some v → Value.okWide Try.prog W .any base t v := hval0
  have hW' := hW
  obtain ⟨p, q, hA0, hV, rfl, hfz, hnd⟩ := hW
  have hA : DataW.TrodAll enc Try.prog W 0 (fun _ => true) true Try.f9.params.toList args.toList ds p := hA0
  rw [Try.params9] at hA hval
  obtain ⟨v0, vs0, d0, ds0, p0, q0, hargs, rfl, rfl, h0, r0⟩ := trodAll_cons hA
  obtain ⟨rfl, rfl, rfl⟩ := trodAll_nil r0
  obtain rfl : args = #[v0] := by cases args; simp_all
  obtain ⟨rfl, rfl⟩ := trodVars_none hV
  have k0 := h0
  have lt0 : ∀ x ∈ p0, x.block < W.heap.size := by obtain ⟨m, hm⟩ := k0; exact DataW.trod_lt m _ _ _ hm
  obtain ⟨cs0, x0, rfl, hK0, o0⟩ := P.open_agg_ Try.underlying24 P.op_laws_Game (hval 0 24 v0 rfl rfl) h0
  obtain ⟨A0_1, c0_1, e0, hc0_1, hr0_1⟩ := P.k_laws_Game_open hK0
  obtain ⟨cs0⟩ := cs0
  simp only at e0
  subst e0
  clear hA0 hval0 hsz0
  obtain ⟨k, h⟩ := P.laws_FnExactStandsTrades_pure x0.f0 x0.f1 o0.1 o0.2
  refine (P.laws_FnExactStandsTrades.calls k x0.f0 A0_1 c0_1 x0.f1 true W hr0_1 hc0_1 ⟨rfl⟩ h).mono fun e W' ⟨he, bel⟩ => ?_
  subst he
  exact ⟨_, rfl, _, _, _, [], _, [], hW', trodAll_mk1 (shut_bool Try.underlying4 _), (trodAll_cons_mk (Below.trod laidOut (by kernel_rfl) (of_decide_eq_true (by kernel_rfl)) k0 bel lt0) trodAll_mk0), rfl, bel.frame _, fun h => by cases h⟩
theorem over : Rows.fnExactStandsTradesRow.holds Try.pinned (OpenSpec.ofChange Rows.fnExactStandsTradesSpec) :=
  OpenClaim.holds_of_wide 9 Try.f9 rfl rfl rfl rfl rfl rfl rfl ⟨rfl, rfl, rfl, rfl, rfl⟩ rfl rfl rfl rfl rfl (by kernel_rfl) Try.func9 (by kernel_rfl)
    (of_decide_eq_true (by kernel_rfl)) (by unfold Func.isWrapper; first | (rw [if_pos (by decide +kernel)]; kernel_rfl) | (rw [if_neg (by decide +kernel)]; exact ⟨rfl, rfl⟩))
    (fun os started H enc _ => lifted os started H enc)
theorem proved : Rows.FnExactStandsTradesSaid := over
end Go.Proofs.Ytokelcedamegbaa.fnExactStandsTrades
namespace Go.Proofs.Ytokelcedamegbaa
/-- The row, under a short name, for the claim. -/
theorem fnExactStandsTrades_holds : Rows.FnExactStandsTradesSaid := fnExactStandsTrades.proved
#print axioms fnExactStandsTrades_holds
end Go.Proofs.Ytokelcedamegbaa
