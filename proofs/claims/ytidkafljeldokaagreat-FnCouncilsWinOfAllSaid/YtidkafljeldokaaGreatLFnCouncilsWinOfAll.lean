/- PROVED HERE: the law FnCouncilsWinOfAll of the program gives true for every input that it can be called with, and its arguments read afterwards as before. Conditions: none beyond the given row's own. The row, out of the pure statement and the printed walk. -/
import Derived.Test.YtidkafljeldokaaGreatRows
import Derived.WalkKit
import Derived.ProofKit
import Derived.OpenShut
import Derived.ShutString
import Derived.ChangeOld
import Derived.Below
import Derived.SizedLaws
import Derived.Test.YtidkafljeldokaaGreatCFnCouncilsWinOfAll4
import Derived.Test.YtidkafljeldokaaGreatCFnCouncilsWinOfAll6
import Derived.Test.YtidkafljeldokaaGreatCFnCouncilsWinOfAll7
namespace Go.Proofs.YtidkafljeldokaaGreat.fnCouncilsWinOfAll
open Go.ChangeShapes Go.WideShapes Go.ChangeAt Go.RowKit
open Go.ChangeMaps (open_string shut_string)
set_option linter.unusedVariables false
theorem own : ownKnob Tryz.prog.godebug = none := by kernel_rfl
theorem laidOut : laidOutB Tryz.prog = true := by kernel_rfl
set_option maxRecDepth 100000 in
theorem lifted (os : Os) (started : os.Started) (H : Type) (enc : TypeId × Value → H) :
    ReturnsInHanded {} Tryz.checked os 3 .any (Rows.fnCouncilsWinOfAllSpec.pre6 enc Tryz.prog Tryz.f3 Rows.fnCouncilsWinOfAllRow.domain false) (Rows.fnCouncilsWinOfAllSpec.post enc Tryz.prog Tryz.f3 false true false false) := by
  refine returnsInHanded_of_change_sized (C := Tryz.checked) own started (by kernel_rfl) Tryz.func3
    (ChangeSpec.witness6 (enc := enc) (C := Tryz.checked) false ⟨#[], #[.agg #[.int .i64 0, .slice none 0 0], .slice none 0 0, .agg #[.int .i64 0, .slice none 0 0], .slice none 0 0, .slice none 0 0, .slice none 0 0, .int .i64 0, .slice none 0 0, .agg #[.int .i64 0, .slice none 0 0]], []⟩ 8 (by kernel_rfl) (by kernel_rfl) (by kernel_rfl) (by kernel_rfl)) ?_
  intro W base args ds gs before hval0 hW hcnd hsz0 _
  have hval : ∀ (j : Nat) t v, Tryz.f3.params[j]? = some t → args[j]? = some v → Value.okWide Tryz.prog W .any base t v := hval0
  have hW' := hW
  obtain ⟨p, q, hA0, hV, rfl, hfz, hnd⟩ := hW
  have hA : DataW.TrodAll enc Tryz.prog W 0 (fun _ => true) true Tryz.f3.params.toList args.toList ds p := hA0
  rw [Tryz.params3] at hA hval
  obtain ⟨v0, vs0, d0, ds0, p0, q0, hargs, rfl, rfl, h0, r0⟩ := trodAll_cons hA
  obtain ⟨v1, vs1, d1, ds1, p1, q1, rfl, rfl, rfl, h1, r1⟩ := trodAll_cons r0
  obtain ⟨v2, vs2, d2, ds2, p2, q2, rfl, rfl, rfl, h2, r2⟩ := trodAll_cons r1
  obtain ⟨v3, vs3, d3, ds3, p3, q3, rfl, rfl, rfl, h3, r3⟩ := trodAll_cons r2
  obtain ⟨v4, vs4, d4, ds4, p4, q4, rfl, rfl, rfl, h4, r4⟩ := trodAll_cons r3
  obtain ⟨v5, vs5, d5, ds5, p5, q5, rfl, rfl, rfl, h5, r5⟩ := trodAll_cons r4
  obtain ⟨v6, vs6, d6, ds6, p6, q6, rfl, rfl, rfl, h6, r6⟩ := trodAll_cons r5
  obtain ⟨v7, vs7, d7, ds7, p7, q7, rfl, rfl, rfl, h7, r7⟩ := trodAll_cons r6
  obtain ⟨v8, vs8, d8, ds8, p8, q8, rfl, rfl, rfl, h8, r8⟩ := trodAll_cons r7
  obtain ⟨rfl, rfl, rfl⟩ := trodAll_nil r8
  obtain rfl : args = #[v0, v1, v2, v3, v4, v5, v6, v7, v8] := by cases args; simp_all
  obtain ⟨rfl, rfl⟩ := trodVars_none hV
  have k0 := h0
  have lt0 : ∀ x ∈ p0, x.block < W.heap.size := by obtain ⟨m, hm⟩ := k0; exact DataW.trod_lt m _ _ _ hm
  obtain ⟨cs0, x0, rfl, hK0, o0⟩ := P.open_agg_ Tryz.underlying24 P.op_impl_Committee (hval 0 24 v0 rfl rfl) h0
  obtain ⟨A0_1, c0_1, e0, hc0_1, hr0_1⟩ := P.k_impl_Committee_open hK0
  obtain ⟨cs0⟩ := cs0
  simp only at e0
  subst e0
  have k1 := h1
  have lt1 : ∀ x ∈ p1, x.block < W.heap.size := by obtain ⟨m, hm⟩ := k1; exact DataW.trod_lt m _ _ _ hm
  obtain ⟨A1, c1, l1, rfl, hc1, hr1, o1⟩ := P.open_row_ Tryz.underlying25 ((P.Opens.slice Tryz.underlying25 (by kernel_rfl) P.op_impl_Committee)) (hval 1 25 v1 rfl rfl) h1
  have k2 := h2
  have lt2 : ∀ x ∈ p2, x.block < W.heap.size := by obtain ⟨m, hm⟩ := k2; exact DataW.trod_lt m _ _ _ hm
  obtain ⟨cs2, x2, rfl, hK2, o2⟩ := P.open_agg_ Tryz.underlying24 P.op_impl_Committee (hval 2 24 v2 rfl rfl) h2
  obtain ⟨A2_1, c2_1, e2, hc2_1, hr2_1⟩ := P.k_impl_Committee_open hK2
  obtain ⟨cs2⟩ := cs2
  simp only at e2
  subst e2
  have k3 := h3
  have lt3 : ∀ x ∈ p3, x.block < W.heap.size := by obtain ⟨m, hm⟩ := k3; exact DataW.trod_lt m _ _ _ hm
  obtain ⟨A3, c3, l3, rfl, hc3, hr3, o3⟩ := P.open_row_ Tryz.underlying25 ((P.Opens.slice Tryz.underlying25 (by kernel_rfl) P.op_impl_Committee)) (hval 3 25 v3 rfl rfl) h3
  have k4 := h4
  have lt4 : ∀ x ∈ p4, x.block < W.heap.size := by obtain ⟨m, hm⟩ := k4; exact DataW.trod_lt m _ _ _ hm
  obtain ⟨A4, c4, l4, rfl, hc4, hr4, o4⟩ := P.open_row_ Tryz.underlying26 ((P.Opens.slice Tryz.underlying26 (by kernel_rfl) (P.Opens.slice Tryz.underlying22 (by kernel_rfl) (P.Opens.int Tryz.underlying3)))) (hval 4 26 v4 rfl rfl) h4
  have k5 := h5
  have lt5 : ∀ x ∈ p5, x.block < W.heap.size := by obtain ⟨m, hm⟩ := k5; exact DataW.trod_lt m _ _ _ hm
  obtain ⟨A5, c5, l5, rfl, hc5, hr5, o5⟩ := P.open_row_ Tryz.underlying25 ((P.Opens.slice Tryz.underlying25 (by kernel_rfl) P.op_impl_Committee)) (hval 5 25 v5 rfl rfl) h5
  have k6 := h6
  have lt6 : ∀ x ∈ p6, x.block < W.heap.size := by obtain ⟨m, hm⟩ := k6; exact DataW.trod_lt m _ _ _ hm
  obtain ⟨a6, rfl, o6⟩ := P.open_int_ Tryz.underlying3 (hval 6 3 v6 rfl rfl) h6
  have k7 := h7
  have lt7 : ∀ x ∈ p7, x.block < W.heap.size := by obtain ⟨m, hm⟩ := k7; exact DataW.trod_lt m _ _ _ hm
  obtain ⟨A7, c7, l7, rfl, hc7, hr7, o7⟩ := P.open_row_ Tryz.underlying25 ((P.Opens.slice Tryz.underlying25 (by kernel_rfl) P.op_impl_Committee)) (hval 7 25 v7 rfl rfl) h7
  have k8 := h8
  have lt8 : ∀ x ∈ p8, x.block < W.heap.size := by obtain ⟨m, hm⟩ := k8; exact DataW.trod_lt m _ _ _ hm
  obtain ⟨cs8, x8, rfl, hK8, o8⟩ := P.open_agg_ Tryz.underlying24 P.op_impl_Committee (hval 8 24 v8 rfl rfl) h8
  obtain ⟨A8_1, c8_1, e8, hc8_1, hr8_1⟩ := P.k_impl_Committee_open hK8
  obtain ⟨cs8⟩ := cs8
  simp only at e8
  subst e8
  clear hA0 hval0 hsz0
  obtain ⟨k, h⟩ := P.laws_FnCouncilsWinOfAll_pure x0.f0 x0.f1 l1 x2.f0 x2.f1 l3 l4 l5 a6 l7 x8.f0 x8.f1 o0.1 o0.2 o1 o2.1 o2.2 o3 o4 o5 o6 o7 o8.1 o8.2
  refine (P.laws_FnCouncilsWinOfAll.calls k x0.f0 A0_1 c0_1 x0.f1 A1 c1 l1 x2.f0 A2_1 c2_1 x2.f1 A3 c3 l3 A4 c4 l4 A5 c5 l5 a6 A7 c7 l7 x8.f0 A8_1 c8_1 x8.f1 true W hr0_1 hc0_1 hr1 hc1 hr2_1 hc2_1 hr3 hc3 hr4 hc4 hr5 hc5 hr7 hc7 hr8_1 hc8_1 ⟨rfl⟩ h).mono fun e W' ⟨he, bel⟩ => ?_
  subst he
  exact ⟨_, rfl, _, _, _, [], _, [], hW', trodAll_mk1 (shut_bool Tryz.underlying4 _), (trodAll_cons_mk (Below.trod laidOut (by kernel_rfl) (of_decide_eq_true (by kernel_rfl)) k0 bel lt0) (trodAll_cons_mk (Below.trod laidOut (by kernel_rfl) (of_decide_eq_true (by kernel_rfl)) k1 bel lt1) (trodAll_cons_mk (Below.trod laidOut (by kernel_rfl) (of_decide_eq_true (by kernel_rfl)) k2 bel lt2) (trodAll_cons_mk (Below.trod laidOut (by kernel_rfl) (of_decide_eq_true (by kernel_rfl)) k3 bel lt3) (trodAll_cons_mk (Below.trod laidOut (by kernel_rfl) (of_decide_eq_true (by kernel_rfl)) k4 bel lt4) (trodAll_cons_mk (Below.trod laidOut (by kernel_rfl) (of_decide_eq_true (by kernel_rfl)) k5 bel lt5) (trodAll_cons_mk (Below.trod laidOut (by kernel_rfl) (of_decide_eq_true (by kernel_rfl)) k6 bel lt6) (trodAll_cons_mk (Below.trod laidOut (by kernel_rfl) (of_decide_eq_true (by kernel_rfl)) k7 bel lt7) (trodAll_cons_mk (Below.trod laidOut (by kernel_rfl) (of_decide_eq_true (by kernel_rfl)) k8 bel lt8) trodAll_mk0))))))))), rfl, bel.frame _, fun h => by cases h⟩
theorem over : Rows.fnCouncilsWinOfAllRow.holds Tryz.pinned (OpenSpec.ofChange Rows.fnCouncilsWinOfAllSpec) :=
  OpenClaim.holds_of_wide 3 Tryz.f3 rfl rfl rfl rfl rfl rfl rfl ⟨rfl, rfl, rfl, rfl, rfl⟩ rfl rfl rfl rfl rfl (by kernel_rfl) Tryz.func3 (by kernel_rfl)
    (of_decide_eq_true (by kernel_rfl)) (by unfold Func.isWrapper; first | (rw [if_pos (by decide +kernel)]; kernel_rfl) | (rw [if_neg (by decide +kernel)]; exact ⟨rfl, rfl⟩))
    (fun os started H enc _ => lifted os started H enc)
theorem proved : Rows.FnCouncilsWinOfAllSaid := over
end Go.Proofs.YtidkafljeldokaaGreat.fnCouncilsWinOfAll
namespace Go.Proofs.YtidkafljeldokaaGreat
/-- The row, under a short name, for the claim. -/
theorem fnCouncilsWinOfAll_holds : Rows.FnCouncilsWinOfAllSaid := fnCouncilsWinOfAll.proved
#print axioms fnCouncilsWinOfAll_holds
end Go.Proofs.YtidkafljeldokaaGreat
