/- Part 4 of the texts below the law FnExactNeedlessChambers. Printed by this session's driver over the kit's printer, but for the hand contracts and the plain laws. -/
import Derived.Deep.RegionLaw
import Derived.Lib.SliceRun
import Derived.Shelf.RegionOpenPlain
import Derived.Test.YthkbaolpiigioaaCNeedlessChambers1
import Derived.Test.YthkbaolpiigioaaCNeedlessChambers2
import Derived.Test.YthkbaolpiigioaaCNeedlessChambers3
set_option linter.unusedVariables false
set_option linter.unusedSimpArgs false
namespace Go.Proofs.Ythkbaolpiigioaa.P
open Go.RowKit Go.Proofs.YthkbaolpiigioaaW.PrintWords Go.Proofs.YthkbaolpiigioaaW.PrintLast Go.Proofs.YthkbaolpiigioaaW.PrintMore
attribute [local go_sem] max2_int min2_int max_two min_two max_three min_three max_four min_four   -- for this text's walks alone
set_option linter.unusedVariables false
set_option linter.unusedSimpArgs false

/-! ### slices_Equal_bool_bool: function 159 -/
def slices_Equal_bool_bool.l0 : Nat → List Bool → List Bool → Int → Int → Option (Bool)
  | 0, _, _, _, _ => none
  | k + 1, x0, x1, x12, x13 => if x13 < x12 then (if 0 ≤ x13 then (if x13 < (x0.length : Int) then (if x13 < (x1.length : Int) then (if ((rdOf false x0 x13) != (rdOf false x1 x13)) = true then (some false) else (slices_Equal_bool_bool.l0 k x0 x1 x12 (wrap64 (x13 + 1)))) else (none)) else (none)) else (none)) else (some true)
def slices_Equal_bool_bool.f (k : Nat) (l0 : List Bool) (l1 : List Bool) : Option (Bool) := if (l0.length : Int) = (l1.length : Int) then (slices_Equal_bool_bool.l0 k l0 l1 (l0.length : Int) 0) else (some false)
theorem slices_Equal_bool_bool.mono_l : ∀ k, (∀ y0 y1 y2 y3, LeO (slices_Equal_bool_bool.l0 k y0 y1 y2 y3) (slices_Equal_bool_bool.l0 (k + 1) y0 y1 y2 y3))
  | 0 => fun _ _ _ _ r h => by simp [slices_Equal_bool_bool.l0] at h
  | k + 1 => by
    have ih0 := slices_Equal_bool_bool.mono_l k
    · intro y0 y1 y2 y3
      unfold slices_Equal_bool_bool.l0
      repeat' first
      | (with_reducible exact ih0 _ _ _ _)
      | (with_reducible exact LeO.refl _)
      | (with_reducible exact LeO.none _)
      | (with_reducible refine LeO.ite ?_ ?_)
      | (with_reducible refine LeO.bind ?_ (fun _ => ?_))
      | exact ih0 _ _ _ _
      | exact LeO.none _
      | refine LeO.ite ?_ ?_
      | refine LeO.bind ?_ (fun _ => ?_)
theorem slices_Equal_bool_bool.mono : ∀ a0 a1 k, LeO (slices_Equal_bool_bool.f k a0 a1) (slices_Equal_bool_bool.f (k + 1) a0 a1) := by
  intro a0 a1 k
  have ih0 := slices_Equal_bool_bool.mono_l k
  unfold slices_Equal_bool_bool.f
  repeat' first
      | (with_reducible exact ih0 _ _ _ _)
      | (with_reducible exact LeO.refl _)
      | (with_reducible exact LeO.none _)
      | (with_reducible refine LeO.ite ?_ ?_)
      | (with_reducible refine LeO.bind ?_ (fun _ => ?_))
      | exact ih0 _ _ _ _
      | exact LeO.none _
      | refine LeO.ite ?_ ?_
      | refine LeO.bind ?_ (fun _ => ?_)
set_option maxHeartbeats 8000000 in
set_option maxRecDepth 100000 in
theorem slices_Equal_bool_bool.calls (k : Nat) (A0 : Option Addr) (c0 : Nat) (l0 : List Bool) (A1 : Option Addr) (c1 : Nat) (l1 : List Bool) (r : Bool) (w : World) (hr0 : Kd.C Kd.bool w A0 l0.length l0) (hc0 : l0.length ≤ c0) (hr1 : Kd.C Kd.bool w A1 l1.length l1) (hc1 : l1.length ≤ c1) (h : slices_Equal_bool_bool.f k l0 l1 = some r) :
    Calls Try.prog 159 #[.slice A0 l0.length c0, .slice A1 l1.length c1] w fun e w' => e = .returned (.bool r) ∧ Drawn0 w w' := by
  have HR0 := Aside0.mk hr0
  have HC0 := Aside0.mk hc0
  clear hr0 hc0
  have HR1 := Aside0.mk hr1
  have HC1 := Aside0.mk hc1
  clear hr1 hc1
  have H : (if (l0.length : Int) = (l1.length : Int) then (slices_Equal_bool_bool.l0 k l0 l1 (l0.length : Int) 0) else (some false)) = some r := h
  clear h
  by_cases c3 : (l0.length : Int) = (l1.length : Int)
  · rw [if_pos c3] at H
    have c3b0 : ((l0.length : Int) == (l1.length : Int)) = true := beq_iff_eq.mpr c3
    have c3b1 : ((l0.length : Int) != (l1.length : Int)) = false := bne_eq_false_iff_eq.mpr c3
    have c3b2 : (l0.length == l1.length) = true := by first | simpa using c3 | (simp at c3 ⊢; omega)
    clear c3
    have H' := Aside0.mk H
    clear H
    go_enter Try.func159, Try.ntmps159
    go_wp2
    repeat (go_quiet (fail); try go_wp2)
    go_loopg [13] k (fun kq v13 w' => ∃ (x13_1 : Int), v13 = .int .i64 x13_1 ∧ Aside0 (slices_Equal_bool_bool.l0 kq l0 l1 (l0.length : Int) x13_1 = some r) ∧ Aside0 (kq ≤ k) ∧ Drawn0 w w')
    case atStart => exact ⟨(0), (by first | rfl | (simp; done) | (simp [*]; done)), H', ⟨Nat.le_refl _⟩, by repeat (first | exact Drawn0.refl _ | apply Drawn0.step)⟩
    case round =>
      clear H'
      try clear c1
      try clear p2
      try clear c3
      try clear c3b0
      try clear c3b1
      try clear c3b2
      obtain ⟨x13_1, rfl, HA, HK1, ⟨m1, rfl⟩⟩ := hrel
      cases gk with
      | zero => exact absurd HA.out (by simp [slices_Equal_bool_bool.l0])
      | succ k1 =>
        have H := HA.out
        clear HA
        simp only [slices_Equal_bool_bool.l0] at H
        by_cases c4 : x13_1 < (l0.length : Int)
        · rw [if_pos c4] at H
          have c4b0 : decide (x13_1 < (l0.length : Int)) = true := decide_eq_true c4
          clear c4
          by_cases c5 : 0 ≤ x13_1
          · rw [if_pos c5] at H
            have c5b0 : decide (0 ≤ x13_1) = true := decide_eq_true c5
            clear c5
            by_cases c6 : x13_1 < (l0.length : Int)
            · rw [if_pos c6] at H
              have c6b0 : decide (x13_1 < (l0.length : Int)) = true := decide_eq_true c6
              clear c6
              by_cases c7 : x13_1 < (l1.length : Int)
              · rw [if_pos c7] at H
                have c7b0 : decide (x13_1 < (l1.length : Int)) = true := decide_eq_true c7
                clear c7
                by_cases c8 : ((rdOf false l0 x13_1) != (rdOf false l1 x13_1)) = true
                · rw [if_pos c8] at H
                  have c8b0 : ((rdOf false l0 x13_1) != (rdOf false l1 x13_1)) = true := c8
                  (try (have c8b1 : decide ((rdOf false l0 x13_1) = (rdOf false l1 x13_1)) = false := by simpa using c8))
                  (try (have c8b2 : ((rdOf false l0 x13_1) == (rdOf false l1 x13_1)) = false := by simpa using c8))
                  (try (have c8b3 : ¬ ((rdOf false l0 x13_1) = (rdOf false l1 x13_1)) := by simpa using c8))
                  clear c8
                  obtain rfl := Option.some.inj H
                  have p494 : 0 ≤ (x13_1 : Int) := of_decide_eq_true (by first | (with_reducible assumption) | assumption)
                  have q494 : x13_1 < (l0.length : Int) := of_decide_eq_true (by first | (with_reducible assumption) | assumption)
                  obtain ⟨ad494, e494, hx494_0⟩ := Kd.at_bool HR0.out x13_1 p494 q494
                  cases e494
                  replace p494 := eq_true p494
                  replace q494 := eq_true q494
                  have p495 : 0 ≤ (x13_1 : Int) := of_decide_eq_true (by first | (with_reducible assumption) | assumption)
                  have q495 : x13_1 < (l1.length : Int) := of_decide_eq_true (by first | (with_reducible assumption) | assumption)
                  obtain ⟨ad495, e495, hx495_0⟩ := Kd.at_bool HR1.out x13_1 p495 q495
                  cases e495
                  replace p495 := eq_true p495
                  replace q495 := eq_true q495
                  go_wp2
                  repeat (go_quiet (fail); try go_wp2)
                  go_ret
                  exact ⟨by first | rfl | (simp; done) | (simp [*]; done), by repeat (first | exact Drawn0.refl _ | apply Drawn0.step)⟩
                · rw [if_neg c8] at H
                  have c8b0 : ((rdOf false l0 x13_1) != (rdOf false l1 x13_1)) = false := by simpa using c8
                  (try (have c8b1 : decide ((rdOf false l0 x13_1) = (rdOf false l1 x13_1)) = true := by simpa using c8))
                  (try (have c8b2 : ((rdOf false l0 x13_1) == (rdOf false l1 x13_1)) = true := by simpa using c8))
                  clear c8
                  have H' := Aside0.mk H
                  clear H
                  have p494 : 0 ≤ (x13_1 : Int) := of_decide_eq_true (by first | (with_reducible assumption) | assumption)
                  have q494 : x13_1 < (l0.length : Int) := of_decide_eq_true (by first | (with_reducible assumption) | assumption)
                  obtain ⟨ad494, e494, hx494_0⟩ := Kd.at_bool HR0.out x13_1 p494 q494
                  cases e494
                  replace p494 := eq_true p494
                  replace q494 := eq_true q494
                  have p495 : 0 ≤ (x13_1 : Int) := of_decide_eq_true (by first | (with_reducible assumption) | assumption)
                  have q495 : x13_1 < (l1.length : Int) := of_decide_eq_true (by first | (with_reducible assumption) | assumption)
                  obtain ⟨ad495, e495, hx495_0⟩ := Kd.at_bool HR1.out x13_1 p495 q495
                  cases e495
                  replace p495 := eq_true p495
                  replace q495 := eq_true q495
                  go_wp2
                  repeat (go_quiet (fail); try go_wp2)
                  go_roundg k1
                  case measure => have := HK1.out; omega
                  case rel => exact ⟨(wrap64 (x13_1 + 1)), (by first | rfl | (simp; done) | (simp [*]; done)), H', ⟨by have := HK1.out; omega⟩, by repeat (first | exact Drawn0.refl _ | apply Drawn0.step)⟩
              · rw [if_neg c7] at H
                exact absurd H (by simp)
            · rw [if_neg c6] at H
              exact absurd H (by simp)
          · rw [if_neg c5] at H
            exact absurd H (by simp)
        · rw [if_neg c4] at H
          have c4b0 : decide (x13_1 < (l0.length : Int)) = false := decide_eq_false c4
          clear c4
          obtain rfl := Option.some.inj H
          go_wp2
          repeat (go_quiet (fail); try go_wp2)
          go_ret
          exact ⟨by first | rfl | (simp; done) | (simp [*]; done), by repeat (first | exact Drawn0.refl _ | apply Drawn0.step)⟩
  · rw [if_neg c3] at H
    have c3b0 : ((l0.length : Int) == (l1.length : Int)) = false := beq_eq_false_iff_ne.mpr c3
    have c3b1 : ((l0.length : Int) != (l1.length : Int)) = true := bne_iff_ne.mpr c3
    have c3b2 : (l0.length == l1.length) = false := by first | simpa using c3 | (simp at c3 ⊢; omega)
    obtain rfl := Option.some.inj H
    go_enter Try.func159, Try.ntmps159
    go_wp2
    repeat (go_quiet (fail); try go_wp2)
    go_ret
    exact ⟨by first | rfl | (simp; done) | (simp [*]; done), by repeat (first | exact Drawn0.refl _ | apply Drawn0.step)⟩


/-! ### impl_votes_same: function 90 -/
def impl_votes_same.f (k : Nat) (a0_0 : Int) (l0_1 : List Bool) (a1_0 : Int) (l1_1 : List Bool) : Option (Bool) := (slices_Equal_bool_bool.f k l0_1 l1_1).bind fun t498 => (some t498)
theorem impl_votes_same.mono : ∀ a0 a1 a2 a3 k, LeO (impl_votes_same.f k a0 a1 a2 a3) (impl_votes_same.f (k + 1) a0 a1 a2 a3) := by
  intro a0 a1 a2 a3 k
  unfold impl_votes_same.f
  repeat' first
      | (with_reducible exact slices_Equal_bool_bool.mono _ _ _)
      | (with_reducible exact LeO.refl _)
      | (with_reducible exact LeO.none _)
      | (with_reducible refine LeO.ite ?_ ?_)
      | (with_reducible refine LeO.bind ?_ (fun _ => ?_))
      | exact slices_Equal_bool_bool.mono _ _ _
      | exact LeO.none _
      | refine LeO.ite ?_ ?_
      | refine LeO.bind ?_ (fun _ => ?_)
set_option maxHeartbeats 8000000 in
set_option maxRecDepth 100000 in
theorem impl_votes_same.calls (k : Nat) (a0_0 : Int) (A0_1 : Option Addr) (c0_1 : Nat) (l0_1 : List Bool) (a1_0 : Int) (A1_1 : Option Addr) (c1_1 : Nat) (l1_1 : List Bool) (r : Bool) (w : World) (hr0_1 : Kd.C Kd.bool w A0_1 l0_1.length l0_1) (hc0_1 : l0_1.length ≤ c0_1) (hr1_1 : Kd.C Kd.bool w A1_1 l1_1.length l1_1) (hc1_1 : l1_1.length ≤ c1_1) (h : impl_votes_same.f k a0_0 l0_1 a1_0 l1_1 = some r) :
    Calls Try.prog 90 #[.agg #[.int .i64 a0_0, .slice A0_1 l0_1.length c0_1], .agg #[.int .i64 a1_0, .slice A1_1 l1_1.length c1_1]] w fun e w' => e = .returned (.bool r) ∧ Below w.heap.size w w' := by
  have hu94 := Try.underlying94
  have HR0_1 := Aside0.mk hr0_1
  have HC0_1 := Aside0.mk hc0_1
  clear hr0_1 hc0_1
  have HR1_1 := Aside0.mk hr1_1
  have HC1_1 := Aside0.mk hc1_1
  clear hr1_1 hc1_1
  have HB := Aside0.mk (Below.refl w.heap.size w)
  have H : ((slices_Equal_bool_bool.f k l0_1 l1_1).bind fun t498 => (some t498)) = some r := h
  clear h
  replace H := Option.bind_eq_some_iff.mp H
  obtain ⟨t498, A30, H⟩ := H
  replace H : (some t498) = some r := H
  have A3 := Aside0.mk A30
  clear A30
  obtain rfl := Option.some.inj H
  go_enter Try.func90, Try.ntmps90
  go_wp2_with (first | ((with_reducible refine gate_dst (N := 2) rfl ?_); refine box_event ?hg (N := 2) ?hd (cs := #[.int .i64 a0_0, .slice A0_1 l0_1.length c0_1]) (t := 94) ?hr ?_; (case hd => rfl); (case hg => rfl); (case hr => first | (go_simp; done) | (go_simp; rfl)); intro gb496 hg w4 hbox hb; have n0_ := Aside0.mk (below_step (by repeat (first | (with_reducible first | exact HB.out | apply below_alloc | apply pw_below_drewN | apply below_drew1) | exact HB.out)) hb); have n1_ := Aside0.mk (hbox); have n2_ := Aside0.mk ((by rw [hg]; exact (below_size (by repeat (first | (with_reducible first | exact HB.out | apply below_alloc | apply pw_below_drewN | apply below_drew1) | exact HB.out))) : w.heap.size ≤ gb496)); have n3_ := Aside0.mk ((by rw [hg]; exact (below_size (by repeat (first | (with_reducible first | exact HB.out | apply below_alloc | apply pw_below_drewN | apply below_drew1) | exact HB.out))) : w.heap.size ≤ gb496)); clear HB; have HB := n0_; have BK496 := n1_; have GW496 := n2_; have GE496 := n3_; clear n0_ n1_ n2_ n3_; clear hb hbox hg) | ((with_reducible refine gate_dst (N := 3) rfl ?_); refine box_event ?hg (N := 3) ?hd (cs := #[.int .i64 a1_0, .slice A1_1 l1_1.length c1_1]) (t := 94) ?hr ?_; (case hd => rfl); (case hg => rfl); (case hr => first | (go_simp; done) | (go_simp; rfl)); intro gb497 hg w5 hbox hb; have n0_ := Aside0.mk (blk_below (g := gb496) (o := .cells #[.int .i64 a0_0, .slice A0_1 l0_1.length c0_1] 94 (0, 0)) (by (with_reducible repeat (first | refine blk_drewN ?_ _ | refine blk_drew ?_ | refine blk_alloc ?_ _)); exact BK496.out) hb); have n1_ := Aside0.mk (below_step (by repeat (first | (with_reducible first | exact HB.out | apply below_alloc | apply pw_below_drewN | apply below_drew1 | refine below_set ?_ GE496.out) | exact HB.out)) hb); have n2_ := Aside0.mk (hbox); have n3_ := Aside0.mk ((by rw [hg]; exact (below_size (by repeat (first | (with_reducible first | exact HB.out | apply below_alloc | apply pw_below_drewN | apply below_drew1 | refine below_set ?_ GE496.out) | exact HB.out))) : w.heap.size ≤ gb497)); have n4_ := Aside0.mk ((by rw [hg]; exact (below_size (by repeat (first | (with_reducible first | exact HB.out | apply below_alloc | apply pw_below_drewN | apply below_drew1 | refine below_set ?_ GE496.out) | exact HB.out))) : w.heap.size ≤ gb497)); have n5_ := Aside0.mk ((by rw [hg]; exact Nat.ne_of_lt (blk_lt (g := gb496) (o := .cells #[.int .i64 a0_0, .slice A0_1 l0_1.length c0_1] 94 (0, 0)) (by (with_reducible repeat (first | refine blk_drewN ?_ _ | refine blk_drew ?_ | refine blk_alloc ?_ _)); exact BK496.out)) : gb496 ≠ gb497)); have n6_ := Aside0.mk ((by rw [hg]; exact Nat.ne_of_gt (blk_lt (g := gb496) (o := .cells #[.int .i64 a0_0, .slice A0_1 l0_1.length c0_1] 94 (0, 0)) (by (with_reducible repeat (first | refine blk_drewN ?_ _ | refine blk_drew ?_ | refine blk_alloc ?_ _)); exact BK496.out)) : gb497 ≠ gb496)); clear BK496; clear HB; have BK496 := n0_; have HB := n1_; have BK497 := n2_; have GW497 := n3_; have GE497 := n4_; have NB496_497 := n5_; have NB497_496 := n6_; clear n0_ n1_ n2_ n3_ n4_ n5_ n6_; clear hb hbox hg; have hnb6 := NB496_497.out; have hnc6 := NB497_496.out; have hcz7_0 : w5.cell? ⟨gb496, 0, none⟩ = some (.int .i64 a0_0) := (blk_cell BK496.out 0).trans rfl; have hcz7_1 : w5.cell? ⟨gb496, 1, none⟩ = some (.slice A0_1 l0_1.length c0_1) := (blk_cell BK496.out 1).trans rfl; have hfz7_0 := blk_frozen BK496.out 0; have hfz7_1 := blk_frozen BK496.out 1; have hcz8_0 : w5.cell? ⟨gb497, 0, none⟩ = some (.int .i64 a1_0) := (blk_cell BK497.out 0).trans rfl; have hcz8_1 : w5.cell? ⟨gb497, 1, none⟩ = some (.slice A1_1 l1_1.length c1_1) := (blk_cell BK497.out 1).trans rfl; have hfz8_0 := blk_frozen BK497.out 0; have hfz8_1 := blk_frozen BK497.out 1) | ((with_reducible refine gate_callee (f := 159) rfl ?_); refine goesL_ (some 9) rfl rfl Try.func159 (by kernel_rfl) rfl #[.slice A0_1 l0_1.length c0_1, .slice A1_1 l1_1.length c1_1] rfl (by (try simp only [List.map_toArray, List.map_cons, List.map_nil]); first | done | rfl | (simp only [List.length_drop, List.length_take]; rfl)) ?_; (with_reducible refine (slices_Equal_bool_bool.calls k _ _ l0_1 _ _ l1_1 t498 _ ?side1 ?side2 ?side3 ?side4 A3.out).mono ?_); (case side1 => repeat (first | exact (Kd.C_below HR0_1.out HB.out) | (with_reducible refine Kd.C_alloc ?_ _) | (with_reducible refine Kd.C_drewN ?_ _) | (with_reducible refine Kd.C_drew ?_))); (case side2 => exact HC0_1.out); (case side3 => repeat (first | exact (Kd.C_below HR1_1.out HB.out) | (with_reducible refine Kd.C_alloc ?_ _) | (with_reducible refine Kd.C_drewN ?_ _) | (with_reducible refine Kd.C_drew ?_))); (case side4 => exact HC1_1.out); rintro e w' ⟨rfl, ⟨nd, rfl⟩⟩; refine ⟨_, rfl, ?_⟩))
  go_ret
  exact ⟨by first | rfl | (simp [errW_none, errW_some] <;> rfl) | (simp [*, errW_none, errW_some] <;> rfl), by repeat (first | (with_reducible first | exact HB.out | apply below_alloc | apply pw_below_drewN | apply below_drew1 | refine below_set ?_ GE496.out | refine below_set ?_ GE497.out) | exact HB.out)⟩


/-- The cells of a row's elements are plain ones. -/
theorem impl_NeedlessChambers_1.ones {w : World} {l : List S_impl_Committee} {news : List Value} (h : Reps (k_impl_Committee.K w) 2 l news) : ∀ u ∈ news, u.oneCell' = true := by
  intro u hu
  obtain ⟨q, hq, rfl⟩ := List.mem_iff_getElem.1 hu
  have hql : q / 2 < l.length := by
    rw [Nat.div_lt_iff_lt_mul (by decide)]
    rw [← h.1]
    exact hq
  have hc := h.2 (q / 2) _ (List.getElem?_eq_getElem hql)
  refine k_impl_Committee.K_one hc _ ?_
  rw [List.mem_iff_getElem?]
  refine ⟨q % 2, ?_⟩
  rw [List.getElem?_take, if_pos (Nat.mod_lt _ (by decide)), List.getElem?_drop, Nat.mul_comm, Nat.div_add_mod, List.getElem?_eq_getElem hq]
set_option maxHeartbeats 2000000 in
set_option maxRecDepth 100000 in
theorem impl_NeedlessChambers_1.clone (A : Option Addr) (c : Nat) (l : List S_impl_Committee) (w : World) (h : Kd.C k_impl_Committee w A l.length l) (hl : 0 < l.length) (hm : l.length < 1000000) :
    Calls Try.prog 89 #[.slice A l.length c] w fun e w' => ∃ g cap cs, e = .returned (.slice (some ⟨g, 0, none⟩) l.length cap) ∧ w.heap.size ≤ g ∧ w'.heap[g]? = some (.cells cs 26 (0, 0)) ∧ l.length ≤ cap ∧ cap ≤ maxLen ∧ cs.size = cap * 2 ∧ Reps (k_impl_Committee.K w) 2 l (cs.toList.take (l.length * 2)) ∧ Below w.heap.size w w' := by
  have hq_ : ∀ (w : World) (a : Option Addr) (n c n' c' : Nat), (binOp .eql 38 (.slice a n c) (.slice none n' c')).run Try.prog w = .ok (.bool a.isNone) w := fun w a n c n' c' => Lib.run_eql_slice_nil w _ _ a n c n' c' Try.underlying38
  obtain ⟨ad, rfl, _⟩ := h.2.2 hl
  obtain ⟨news, hnr, hnc⟩ := ReadsRow.inner_ h
  have hnr : Reps (k_impl_Committee.K w) 2 l news := hnr
  have hone := impl_NeedlessChambers_1.ones hnr
  obtain ⟨i0, hi, hzz⟩ := Option.map_eq_some_iff.1 info26
  simp only [Prod.mk.injEq] at hzz
  obtain ⟨hz0, hz1, hz2⟩ := hzz
  have X : Aside0 (∀ j u, news[j]? = some u → w.cell? (ad.add j) = some u) := ⟨hnc⟩
  clear hnc h
  go_enter Try.func89, Try.ntmps89
  go_wp2_with (at_builtin; refine wpList_append_own _ rfl _ _ 38 rfl w.heap.size 26 i0 _ 2 32 Try.underlying38 hi hz0 hz1 hz2 rfl (by decide) _ _ _ rfl (World.ownsRow_made w #[] 0 (Nat.le_refl _) (Nat.zero_le _) (by simp)) ad l.length c news rfl ?qc1 ?qc2 ?qc3 ?qc4 ?qc5 ?qc6 ?_)
  case qc1 => exact hnr.1
  case qc2 =>
    intro j u hj
    exact Lib.cell?_alloc_some _ (X.out j u hj)
  case qc3 => exact hone
  case qc4 => rw [Nat.zero_add]; simp only [maxLen]; omega
  case qc5 => rw [Nat.zero_add]; omega
  case qc6 => simp
  intro v' w1 hown hgrow hnil
  go_wp2
  go_ret
  have hb : Below w.heap.size w w1 := ((Below.refl _ w).alloc (Nat.le_refl _) _).grown hgrow (by simp) (by intro k hk; simp [Value.ownBlock] at hk; omega)

  obtain ⟨hl2, ⟨_, hz⟩ | ⟨g, cap, cur, rfl, hbg, hgg, hnc, hcm, hcs, hct⟩⟩ := hown
  · omega
  · exact ⟨g, cap, cur, rfl, hbg, hgg, hnc, hcm, hcs, hct ▸ hnr, hb⟩
theorem impl_NeedlessChambers_1.setCells_blk {g : Nat} {t : TypeId} : ∀ (vs : List Value) (o : Nat) (w : World) (cs : Array Value), w.heap[g]? = some (.cells cs t (0, 0)) → o + vs.length ≤ cs.size → ∃ cs', (w.setCells g o vs).heap[g]? = some (.cells cs' t (0, 0)) ∧ cs'.toList = cs.toList.take o ++ vs ++ cs.toList.drop (o + vs.length)
  | [], o, w, cs, h, ho => ⟨cs, h, by simp⟩
  | v :: vs, o, w, cs, h, ho => by
    rw [List.length_cons] at ho
    obtain ⟨cs', h1, h2⟩ := impl_NeedlessChambers_1.setCells_blk vs (o + 1) (w.setCell ⟨g, o, none⟩ v) (cs.setIfInBounds o v) (blk_set h o v) (by rw [Array.size_setIfInBounds]; omega)
    refine ⟨cs', h1, h2.trans ?_⟩
    have hl : o < cs.toList.length := by rw [Array.length_toList]; omega
    rw [Array.toList_setIfInBounds, List.length_cons]
    have e1 : (cs.toList.set o v).take (o + 1) = cs.toList.take o ++ [v] := by
      rw [List.take_set, List.set_eq_take_append_cons_drop]
      have : (cs.toList.take (o + 1)).length = o + 1 := by rw [List.length_take]; omega
      rw [if_pos (by omega), List.take_take, Nat.min_eq_left (by omega), List.drop_eq_nil_of_le (by omega)]
    have e2 : (cs.toList.set o v).drop (o + 1 + vs.length) = cs.toList.drop (o + (vs.length + 1)) := by
      rw [List.drop_set_of_lt (by omega)]
      congr 1
      omega
    rw [e1, e2]
    simp
theorem impl_NeedlessChambers_1.setCells_low {B g : Nat} {a : World} (hg : B ≤ g) : ∀ (vs : List Value) (o : Nat) (w : World), Below B a w → Below B a (w.setCells g o vs)
  | [], _, _, h => h
  | v :: vs, o, w, h => impl_NeedlessChambers_1.setCells_low hg vs (o + 1) _ (h.setCell hg v)
theorem impl_NeedlessChambers_1.clears (w : World) (ty : TypeId) (b o c : Nat) (cs : Array Value) (t : TypeId) (hb : w.heap[b]? = some (.cells cs t (0, 0))) (ho : o + 2 ≤ cs.size) :
    (Builtin.clear_ #[38] ty #[.slice (some ⟨b, o, none⟩) 1 c]).run Try.prog w = .ok (.tuple #[]) (w.setCells b o [.int .i64 0, .slice none 0 0]) := by
  have hst := run_storeCells_cells (P := Try.prog) b o [.int .i64 0, .slice none 0 0] 0 w (fun j hj => by rw [Nat.add_zero, blk_cell hb, Array.getElem?_eq_getElem (by simp at hj; omega)]; rfl) (fun j hj => blk_frozen hb _) (fun v hv => by rcases List.mem_cons.1 hv with rfl | hv; rfl; rcases List.mem_cons.1 hv with rfl | hv; rfl; cases hv)
  simp only [Nat.add_zero] at hst
  have hv : (zeroValue 26).run Try.prog w = .ok (.agg #[.int .i64 0, .slice none 0 0]) w := by kernel_rfl
  have hzc : (Builtin.zeroCells (Value.agg #[.int .i64 0, .slice none 0 0]).cells 1).toList = [.int .i64 0, .slice none 0 0] := by kernel_rfl
  simp [Builtin.clear_, run_underlying Try.underlying38, hv, hzc, hst]
set_option maxHeartbeats 4000000 in
set_option maxRecDepth 1000000 in
theorem impl_NeedlessChambers_1.delete (g cap n i j : Nat) (hij : j = i + 1) (cs : Array Value) (w : World) (hg : w.heap[g]? = some (.cells cs 26 (0, 0))) (hnc : n ≤ cap) (hcm : cap ≤ 9223372036854775807) (hcs : cs.size = cap * 2) (hin : i < n) (h1 : ∀ u ∈ cs.toList.take (n * 2), u.oneCell' = true) :
    Calls Try.prog 88 #[.slice (some ⟨g, 0, none⟩) n cap, .int .i64 (i : Int), .int .i64 (j : Int)] w fun e w' => e = .returned (.slice (some ⟨g, 0, none⟩) (n - 1) cap) ∧ ∃ cs', w'.heap[g]? = some (.cells cs' 26 (0, 0)) ∧ cs'.size = cap * 2 ∧ cs'.toList.take ((n - 1) * 2) = cs.toList.take (i * 2) ++ (cs.toList.take (n * 2)).drop (j * 2) ∧ ∀ B a, B ≤ g → Below B a w → Below B a w' := by
  obtain ⟨news, hnews⟩ : ∃ news, news = (cs.toList.take (n * 2)).drop (j * 2) := ⟨_, rfl⟩
  have hlen : news.length = (n - j) * 2 := by rw [hnews, List.length_drop, List.length_take, Array.length_toList]; omega
  obtain ⟨i0, hi, hzz⟩ := Option.map_eq_some_iff.1 info26
  simp only [Prod.mk.injEq] at hzz
  obtain ⟨hz0, hz1, hz2⟩ := hzz
  obtain ⟨A, hA, hsrc⟩ : ∃ A : Addr, (if cap = j then some (⟨g, 0, none⟩ : Addr) else some ⟨g, j * 2, none⟩) = some A ∧ Aside0 (∀ t u, news[t]? = some u → w.drew.cell? (A.add t) = some u) := by
    by_cases h : cap = j
    · refine ⟨⟨g, 0, none⟩, by simp [h], ⟨fun t u hu => ?_⟩⟩
      have h0 : news.length = 0 := by rw [hlen]; omega
      rw [List.length_eq_zero_iff.1 h0] at hu
      simp at hu
    · refine ⟨⟨g, j * 2, none⟩, by simp [h], ⟨fun t u hu => ?_⟩⟩
      rw [hnews, List.getElem?_drop, List.getElem?_take] at hu
      rw [Addr.add_lit]
      show w.cell? ⟨g, j * 2 + t, none⟩ = some u
      rw [blk_cell hg, ← Array.getElem?_toList]
      split at hu
      · exact hu
      · cases hu
  have s1 : Aside0 (news.length = (n - j) * 2) := ⟨hlen⟩
  have s2 : Aside0 (∀ u ∈ news, u.oneCell' = true) := ⟨fun u hu => h1 u (by rw [hnews] at hu; exact List.mem_of_mem_drop hu)⟩
  have s3 : Aside0 (∀ t, t < news.length → (w.drew.cell? ⟨g, 0 + i * 2 + t, none⟩).isSome = true ∧ w.drew.frozen? ⟨g, 0 + i * 2 + t, none⟩ = false) := ⟨by
    intro t ht
    rw [hlen] at ht
    refine ⟨?_, ?_⟩
    · show (w.cell? ⟨g, 0 + i * 2 + t, none⟩).isSome = true
      rw [blk_cell hg, Array.getElem?_eq_getElem (by omega)]; rfl
    · show w.frozen? ⟨g, 0 + i * 2 + t, none⟩ = false
      exact blk_frozen hg _⟩
  obtain ⟨W1, hW1⟩ : ∃ W1, W1 = w.drew.setCells g (0 + i * 2) news := ⟨_, rfl⟩
  obtain ⟨cs1, hb1, ht1⟩ := impl_NeedlessChambers_1.setCells_blk news (0 + i * 2) w.drew cs (show w.drew.heap[g]? = _ from hg) (by rw [hlen]; omega)
  rw [← hW1] at hb1
  have hsz1 : cs1.size = cap * 2 := by
    have hx := congrArg List.length ht1
    simp only [List.length_append, List.length_take, List.length_drop, Array.length_toList, hlen] at hx
    omega
  have hcl : ∀ ty, (Builtin.clear_ #[38] ty #[.slice (some ⟨g, (i + (n - j)) * 2, none⟩) (n - (i + (n - j))) (cap - (i + (n - j)))]).run Try.prog W1 = .ok (.tuple #[]) (W1.setCells g ((i + (n - j)) * 2) [.int .i64 0, .slice none 0 0]) := fun ty => by
    rw [show n - (i + (n - j)) = 1 by omega]
    exact impl_NeedlessChambers_1.clears W1 ty g _ _ cs1 _ hb1 (by omega)
  have hW : Aside0 (W1 = w.drew.setCells g (0 + i * 2) news) := ⟨hW1⟩
  have X : Aside0 (W1.heap[g]? = some (.cells cs1 26 (0, 0))) := ⟨hb1⟩
  have mixed : Try.prog.follows .mixedOrders = true := rfl
  have hne : i ≠ j := by omega
  have hile : i ≤ j := by omega
  have hjn : j ≤ n := by omega
  have hic : i ≤ cap := by omega
  have hjc : j ≤ cap := by omega
  have HIJ : Aside0 (j = i + 1) := ⟨hij⟩
  have HT : Aside0 (cs1.toList = cs.toList.take (0 + i * 2) ++ news ++ cs.toList.drop (0 + i * 2 + news.length)) := ⟨ht1⟩
  have HN : Aside0 (news = (cs.toList.take (n * 2)).drop (j * 2)) := ⟨hnews⟩
  clear hb1 hij ht1 hlen hnews hW1
  have HG : Aside0 (w.heap[g]? = some (.cells cs 26 (0, 0))) := ⟨hg⟩
  clear hg
  go_enter Try.func88, Try.ntmps88
  go_wp2_with fail
  go_region_law_o (refine step_append_room rfl (.tmp 22) (.tmp 25) 38 rfl 26 i0 2 Try.underlying38 hi hz1 g 0 i cap (by simp [Act.eval, Act.put]) A (n - j) (cap - j) news (by simp [Act.eval, Act.put]) s1.out hsrc.out s2.out (by omega) s3.out ?_; rw [← hW.out])
  go_wp2
  go_ret
  have hij := HIJ.out
  have hlen := s1.out
  obtain ⟨cs2, hb2, ht2⟩ := impl_NeedlessChambers_1.setCells_blk [.int .i64 0, .slice none 0 0] ((i + (n - j)) * 2) W1 cs1 X.out (by simp only [List.length_cons, List.length_nil]; omega)
  refine ⟨by rw [show n - 1 = i + (n - j) by omega]; rfl, cs2, hb2, ?_, ?_, ?_⟩
  · have hx := congrArg List.length ht2
    simp only [List.length_append, List.length_take, List.length_drop, Array.length_toList, List.length_cons, List.length_nil] at hx
    omega
  · have hl1 : (cs1.toList.take ((i + (n - j)) * 2)).length = (i + (n - j)) * 2 := by rw [List.length_take, Array.length_toList]; omega
    have hl0 : (cs.toList.take (i * 2)).length = i * 2 := by rw [List.length_take, Array.length_toList]; omega
    rw [ht2, show (n - 1) * 2 = (i + (n - j)) * 2 by omega, List.append_assoc, List.take_append_of_le_length (by omega), List.take_take, Nat.min_self, HT.out, ← HN.out, Nat.zero_add, List.take_append_of_le_length (by rw [List.length_append, hl0, hlen]; omega), List.take_of_length_le (by rw [List.length_append, hl0, hlen]; omega)]
  · intro B a hB hb
    refine impl_NeedlessChambers_1.setCells_low hB _ _ _ ?_
    rw [hW.out]
    exact impl_NeedlessChambers_1.setCells_low hB _ _ _ (below_drew hb)
theorem impl_NeedlessChambers_1.reps {R : S_impl_Committee → List Value → Prop} {l : List S_impl_Committee} {cs : List Value} (h : Reps R 2 l cs) (i : Nat) (hi : i < l.length) : Reps R 2 (l.eraseIdx i) (cs.take (i * 2) ++ cs.drop ((i + 1) * 2)) := by
  rw [List.eraseIdx_eq_take_drop_succ]
  refine Kd.reps_append ⟨?_, fun j p hj => ?_⟩ ⟨?_, fun j p hj => ?_⟩
  · rw [List.length_take, List.length_take, h.1]; omega
  · rw [List.getElem?_take] at hj
    split at hj
    · have := h.2 j p hj
      rw [List.drop_take, List.take_take, Nat.min_eq_left (by omega)]
      exact this
    · cases hj
  · rw [List.length_drop, List.length_drop, h.1]; omega
  · rw [List.getElem?_drop] at hj
    have := h.2 _ p hj
    rw [List.drop_drop, show (i + 1) * 2 + j * 2 = (i + 1 + j) * 2 by omega]
    exact this
theorem impl_NeedlessChambers_1.cut (l : List S_impl_Committee) (g cap : Nat) (a0 : Int) (cs : Array Value) (w7 w : World) (hg7 : w7.heap.size ≤ g) (hg : w.heap[g]? = some (.cells cs 26 (0, 0))) (hnc : l.length ≤ cap) (hcm : cap ≤ maxLen) (hcs : cs.size = cap * 2) (hr : Reps (k_impl_Committee.K w7) 2 l (cs.toList.take (l.length * 2))) (hb : Below w7.heap.size w7 w) (h0 : 0 ≤ a0) (hin : a0 < (l.length : Int)) (hl : l.length < 1000000) :
    Calls Try.prog 88 #[.slice (some ⟨g, 0, none⟩) l.length cap, .int .i64 a0, .int .i64 (wrap64 (a0 + 1))] w fun e w' => e = .returned (.slice (some ⟨g, 0, none⟩) (l.eraseIdx a0.toNat).length cap) ∧ Kd.C k_impl_Committee w' (some ⟨g, 0, none⟩) (l.eraseIdx a0.toNat).length (l.eraseIdx a0.toNat) ∧ (l.eraseIdx a0.toNat).length ≤ cap ∧ Below w7.heap.size w7 w' := by
  obtain ⟨i, rfl⟩ : ∃ i : Nat, a0 = (i : Int) := ⟨a0.toNat, by omega⟩
  rw [Int.toNat_natCast]
  have hi : i < l.length := by omega
  have hw : wrap64 ((i : Int) + 1) = ((i + 1 : Nat) : Int) := by unfold wrap64; omega
  have hle : (l.eraseIdx i).length = l.length - 1 := List.length_eraseIdx_of_lt hi
  have hm63 : maxLen = 9223372036854775807 := by decide
  rw [hw]
  refine (impl_NeedlessChambers_1.delete g cap l.length i (i + 1) rfl cs w hg hnc (by omega) hcs hi (impl_NeedlessChambers_1.ones hr)).mono ?_
  rintro e w' ⟨rfl, cs', hb', hsz', ht', hlow⟩
  have hB := hlow w7.heap.size w7 hg7 hb
  refine ⟨by rw [hle], ⟨rfl, by omega, fun _ => ⟨_, rfl, fun j p hj => ?_⟩⟩, by omega, hB⟩
  have hq := impl_NeedlessChambers_1.reps hr i hi
  have hti : (cs.toList.take (l.length * 2)).take (i * 2) = cs.toList.take (i * 2) := by rw [List.take_take, Nat.min_eq_left (by omega)]
  rw [hti, ← ht', ← hle] at hq
  have hjl : j < (l.eraseIdx i).length := (List.getElem?_eq_some_iff.1 hj).1
  have h2 := hq.2 j p hj
  refine ⟨_, k_impl_Committee.K_len h2, k_impl_Committee.K_below hB h2, fun t u hu => ?_⟩
  rw [List.getElem?_take] at hu
  split at hu
  · rw [List.getElem?_drop, List.getElem?_take] at hu
    split at hu
    · rw [Addr.add_lit, blk_cell hb', ← Array.getElem?_toList, Nat.zero_add]
      exact hu
    · cases hu
  · cases hu
def impl_NeedlessChambers_1.f (k : Nat) (a0 : Int) (l1 : List (S_impl_Committee)) (a2_0 : Int) (l2_1 : List Bool) : Option (Bool) := if (l1.length : Int) > 1 then (if 0 ≤ a0 ∧ a0 < (l1.length : Int) ∧ l1.length < 1000000 then ((impl_chamberVotes.f k (l1.eraseIdx a0.toNat) false).bind fun bt499 => ((impl_votes_same.f k bt499.1 bt499.2 a2_0 l2_1).bind fun t503 => (some t503))) else none) else (some false)
theorem impl_NeedlessChambers_1.mono : ∀ a0 a1 a2 a3 k, LeO (impl_NeedlessChambers_1.f k a0 a1 a2 a3) (impl_NeedlessChambers_1.f (k + 1) a0 a1 a2 a3) := by
  intro a0 a1 a2 a3 k
  unfold impl_NeedlessChambers_1.f
  repeat' first
      | (with_reducible exact impl_chamberVotes.mono _ _ _)
      | (with_reducible exact impl_votes_same.mono _ _ _ _ _)
      | (with_reducible exact LeO.refl _)
      | (with_reducible exact LeO.none _)
      | (with_reducible refine LeO.ite ?_ ?_)
      | (with_reducible refine LeO.bind ?_ (fun _ => ?_))
      | exact impl_chamberVotes.mono _ _ _
      | exact impl_votes_same.mono _ _ _ _ _
      | exact LeO.none _
      | refine LeO.ite ?_ ?_
      | refine LeO.bind ?_ (fun _ => ?_)
def impl_NeedlessChambers_1.T1 : Bool × List (List Nat × List Nat) := (true, [([], []), ([0], [0]), ([1], [1]), ([2], [2]), ([3], [3]), ([4, 3, 3], [3, 4]), ([3], [3]), ([3], [3]), ([7, 3], [3, 7]), ([5, 6, 8, 5, 3], [3, 5, 6, 8]), ([9, 9, 3], [3, 9]), ([3], [3]), ([10, 11, 10, 3], [3, 10, 11]), ([3, 12], [3, 12]), ([13, 12, 0, 1, 2, 3, 4, 5, 6, 7, 8, 9, 10, 11, 12, 13], [13])])
def impl_NeedlessChambers_1.B1 : List Nat := [0, 1, 3, 7, 15, 31, 15, 15, 143, 511, 1023, 15, 4095, 8191, 16383]
theorem impl_NeedlessChambers_1.tab1 : rtab .any (opsOf Try.f87 1) = impl_NeedlessChambers_1.T1 := by kernel_rfl
theorem impl_NeedlessChambers_1.bits1 : waitsOk impl_NeedlessChambers_1.T1.2 impl_NeedlessChambers_1.B1 = true := by kernel_rfl
set_option maxHeartbeats 8000000 in
set_option maxRecDepth 100000 in
theorem impl_NeedlessChambers_1.calls (k : Nat) (a0 : Int) (gc1 : Nat) (A1 : Option Addr) (c1 : Nat) (l1 : List (S_impl_Committee)) (gc2 : Nat) (a2_0 : Int) (A2_1 : Option Addr) (c2_1 : Nat) (l2_1 : List Bool) (r : Bool) (w : World) (hr1 : Kd.C k_impl_Committee w A1 l1.length l1) (hc1 : l1.length ≤ c1) (hr2_1 : Kd.C Kd.bool w A2_1 l2_1.length l2_1) (hc2_1 : l2_1.length ≤ c2_1) (hb1 : w.heap[gc1]? = some (.cells #[.slice A1 l1.length c1] 38 (0, 0))) (hb2 : w.heap[gc2]? = some (.cells #[.int .i64 a2_0, .slice A2_1 l2_1.length c2_1] 94 (0, 0))) (hn1_2 : gc1 ≠ gc2) (h : impl_NeedlessChambers_1.f k a0 l1 a2_0 l2_1 = some r) :
    Calls Try.prog 87 #[.int .i64 a0, .pointer (some ⟨gc1, 0, none⟩), .pointer (some ⟨gc2, 0, none⟩)] w fun e w' => e = .returned (.bool r) ∧ Below w.heap.size w w' := by
  have hu94 := Try.underlying94
  have HR1 := Aside0.mk hr1
  have HC1 := Aside0.mk hc1
  clear hr1 hc1
  have HR2_1 := Aside0.mk hr2_1
  have HC2_1 := Aside0.mk hc2_1
  clear hr2_1 hc2_1
  have BK1 := Aside0.mk hb1
  clear hb1
  have BK2 := Aside0.mk hb2
  clear hb2
  have NB1_2 := Aside0.mk hn1_2
  have NB2_1 := Aside0.mk (Ne.symm hn1_2)
  clear hn1_2
  have HB := Aside0.mk (Below.refl w.heap.size w)
  have H : (if (l1.length : Int) > 1 then (if 0 ≤ a0 ∧ a0 < (l1.length : Int) ∧ l1.length < 1000000 then ((impl_chamberVotes.f k (l1.eraseIdx a0.toNat) false).bind fun bt499 => ((impl_votes_same.f k bt499.1 bt499.2 a2_0 l2_1).bind fun t503 => (some t503))) else none) else (some false)) = some r := h
  clear h
  by_cases c4 : (l1.length : Int) > 1
  · rw [if_pos c4] at H
    have c4b0 : decide (1 < (l1.length : Int)) = true := decide_eq_true c4
    have c4b1 : decide (1 < l1.length) = true := decide_eq_true (by omega)
    by_cases cI : 0 ≤ a0 ∧ a0 < (l1.length : Int) ∧ l1.length < 1000000
    case neg => rw [if_neg cI] at H; cases H
    rw [if_pos cI] at H
    have LI := Aside0.mk cI
    have LC := Aside0.mk c4
    clear c4 cI
    replace H := Option.bind_eq_some_iff.mp H
    obtain ⟨⟨t499, t500⟩, A50, H⟩ := H
    replace H : ((impl_votes_same.f k t499 t500 a2_0 l2_1).bind fun t503 => (some t503)) = some r := H
    have A5 := Aside0.mk A50
    clear A50
    replace H := Option.bind_eq_some_iff.mp H
    obtain ⟨t503, A60, H⟩ := H
    replace H : (some t503) = some r := H
    have A6 := Aside0.mk A60
    clear A60
    obtain rfl := Option.some.inj H
    go_enter Try.func87, Try.ntmps87
    try go_wp2
    have n0_ := Aside0.mk (blk_drew BK1.out)
    have n1_ := Aside0.mk (blk_drew BK2.out)
    have n2_ := Aside0.mk (below_drew1 HB.out)
    clear BK1
    clear BK2
    clear HB
    have BK1 := n0_
    have BK2 := n1_
    have HB := n2_
    clear n0_ n1_ n2_
    refine start_ (n := 15) (S := fun w' => w'.cell? ⟨gc1, 0, none⟩ = some (.slice A1 l1.length c1) ∧ w'.cell? ⟨gc2, 0, none⟩ = some (.int .i64 a2_0) ∧ w'.cell? ⟨gc2, 1, none⟩ = some (.slice A2_1 l2_1.length c2_1)) (ds := []) #[false, false, false, false, false, false, false, false, false, false, false, false, false, false, false] (by kernel_rfl) rfl rfl ⟨(blk_cell BK1.out 0).trans rfl, (blk_cell BK2.out 0).trans rfl, (blk_cell BK2.out 1).trans rfl⟩ (fun hHeld => ?_); refine with_tabW impl_NeedlessChambers_1.tab1 impl_NeedlessChambers_1.bits1 (fun HT_ HW_ => ?_)
    generalize w.drew = w7 at BK1 BK2 HB hHeld ⊢
    refine take_ (i := 0) (N := some 5) (v := ?_) (a' := ?_) #[true, false, false, false, false, false, false, false, false, false, false, false, false, false, false] rfl rfl (take_ofW HT_.out HW_.out (by kernel_rfl)) (fun _ _ _ h => h) (Or.inl ⟨by rfl, ?_⟩) hHeld ?_ ?_
    rotate_left
    · rintro w' ⟨s0, s1, s2⟩
      go_simp
      with_reducible rfl
    rotate_left
    · simp only [Act.put, List.setIfInBounds_toArray, List.set_cons_zero, List.set_cons_succ, i64_w, i32_w]
      rfl
    refine pure_ (i := 1) (N := some 6) (v := ?_) (a' := ?_) #[true, true, false, false, false, false, false, false, false, false, false, false, false, false, false] rfl rfl (any_of HT_.out (by kernel_rfl)) (fun _ _ _ h => h) (Or.inl ⟨by rfl, ?_⟩) ?_ ?_
    rotate_left
    · intro w'
      go_simp
      with_reducible rfl
    rotate_left
    · simp only [Act.put, List.setIfInBounds_toArray, List.set_cons_zero, List.set_cons_succ, i64_w, i32_w]
      rfl
    refine pure_ (i := 2) (N := some 7) (v := ?_) (a' := ?_) #[true, true, true, false, false, false, false, false, false, false, false, false, false, false, false] rfl rfl (any_of HT_.out (by kernel_rfl)) (fun _ _ _ h => h) (Or.inl ⟨by rfl, ?_⟩) ?_ ?_
    rotate_left
    · intro w'
      go_simp
      with_reducible rfl
    rotate_left
    · simp only [Act.put, List.setIfInBounds_toArray, List.set_cons_zero, List.set_cons_succ, i64_w, i32_w]
      rfl
    refine pure_ (i := 3) (N := some 8) (v := ?_) (a' := ?_) #[true, true, true, true, false, false, false, false, false, false, false, false, false, false, false] rfl rfl (any_of HT_.out (by kernel_rfl)) (fun _ _ _ h => h) (Or.inl ⟨by rfl, ?_⟩) ?_ ?_
    rotate_left
    · intro w'
      go_simp
      with_reducible rfl
    rotate_left
    · simp only [Act.put, List.setIfInBounds_toArray, List.set_cons_zero, List.set_cons_succ, i64_w, i32_w]
      rfl
    refine pure_ (i := 6) (N := some 11) (v := ?_) (a' := ?_) #[true, true, true, true, false, false, true, false, false, false, false, false, false, false, false] rfl rfl (any_of HT_.out (by kernel_rfl)) (fun _ _ _ h => h) (Or.inl ⟨by rfl, ?_⟩) ?_ ?_
    rotate_left
    · intro w'
      go_simp
      with_reducible rfl
    rotate_left
    · simp only [Act.put, List.setIfInBounds_toArray, List.set_cons_zero, List.set_cons_succ, i64_w, i32_w]
      rfl
    refine pure_ (i := 7) (N := some 12) (v := ?_) (a' := ?_) #[true, true, true, true, false, false, true, true, false, false, false, false, false, false, false] rfl rfl (any_of HT_.out (by kernel_rfl)) (fun _ _ _ h => h) (Or.inl ⟨by rfl, ?_⟩) ?_ ?_
    rotate_left
    · intro w'
      go_simp
      with_reducible rfl
    rotate_left
    · simp only [Act.put, List.setIfInBounds_toArray, List.set_cons_zero, List.set_cons_succ, i64_w, i32_w]
      rfl
    refine pure_ (i := 8) (N := some 13) (v := ?_) (a' := ?_) #[true, true, true, true, false, false, true, true, true, false, false, false, false, false, false] rfl rfl (any_of HT_.out (by kernel_rfl)) (fun _ _ _ h => h) (Or.inl ⟨by rfl, ?_⟩) ?_ ?_
    rotate_left
    · intro w'
      go_simp
      with_reducible rfl
    rotate_left
    · simp only [Act.put, List.setIfInBounds_toArray, List.set_cons_zero, List.set_cons_succ, i64_w, i32_w]
      rfl
    refine take_ (i := 4) (N := some 9) (v := ?_) (a' := ?_) #[true, true, true, true, true, false, true, true, true, false, false, false, false, false, false] rfl rfl (take_ofW HT_.out HW_.out (by kernel_rfl)) (fun _ _ _ h => h) (Or.inl ⟨by rfl, ?_⟩) hHeld ?_ ?_
    rotate_left
    · rintro w' ⟨s0, s1, s2⟩
      go_simp
      with_reducible rfl
    rotate_left
    · simp only [Act.put, List.setIfInBounds_toArray, List.set_cons_zero, List.set_cons_succ, i64_w, i32_w]
      rfl
    refine take_ (i := 11) (N := some 16) (v := ?_) (a' := ?_) #[true, true, true, true, true, false, true, true, true, false, false, true, false, false, false] rfl rfl (take_ofW HT_.out HW_.out (by kernel_rfl)) (fun _ _ _ h => h) (Or.inl ⟨by rfl, ?_⟩) hHeld ?_ ?_
    rotate_left
    · rintro w' ⟨s0, s1, s2⟩
      go_simp
      with_reducible rfl
    rotate_left
    · simp only [Act.put, List.setIfInBounds_toArray, List.set_cons_zero, List.set_cons_succ, i64_w, i32_w]
      rfl
    refine one_ (i := 5) (N := some 10) #[true, true, true, true, true, true, true, true, true, false, false, true, false, false, false] rfl rfl (one_of HT_.out (by kernel_rfl)) (by decide) (fun K hK => ?_)
    refine goes_ Try.func89 (by kernel_rfl) rfl #[.slice A1 l1.length c1] (by rfl) rfl rfl (by (try simp only [List.map_toArray, List.map_cons, List.map_nil]); first | done | rfl | (simp only [List.length_drop, List.length_take]; rfl)) ?_
    with_reducible refine (impl_NeedlessChambers_1.clone A1 c1 l1 _ ?side1 ?side2 ?side3).mono ?_
    (case side1 => repeat (first | exact (Kd.C_below HR1.out HB.out) | (with_reducible refine Kd.C_alloc ?_ _) | (with_reducible refine Kd.C_drewN ?_ _) | (with_reducible refine Kd.C_drew ?_)))
    (case side2 => have := LC.out; omega)
    (case side3 => exact LI.out.2.2)
    rintro e w12 ⟨gq, capq, csq, rfl, hgq, hbq, hncq, hcmq, hcsq, hrq, hb⟩
    refine ⟨_, rfl, ?_⟩
    have OB1 := BK1
    have OB2 := BK2
    have OHB := HB
    have n1_ := Aside0.mk (blk_below (g := gc1) (o := .cells #[.slice A1 l1.length c1] 38 (0, 0)) (by (with_reducible repeat (first | refine blk_drewN ?_ _ | refine blk_drew ?_ | refine blk_alloc ?_ _)); exact BK1.out) hb)
    have n2_ := Aside0.mk (blk_below (g := gc2) (o := .cells #[.int .i64 a2_0, .slice A2_1 l2_1.length c2_1] 94 (0, 0)) (by (with_reducible repeat (first | refine blk_drewN ?_ _ | refine blk_drew ?_ | refine blk_alloc ?_ _)); exact BK2.out) hb)
    have n3_ := Aside0.mk (below_step (by repeat (first | (with_reducible first | exact HB.out | apply below_alloc | apply pw_below_drewN | apply below_drew1 | refine below_set ?_ GE1.out | refine below_set ?_ GE2.out) | exact HB.out)) hb)
    clear BK1
    clear BK2
    clear HB
    have BK1 := n1_
    have BK2 := n2_
    have HB := n3_
    clear n1_ n2_ n3_
    have QG := Aside0.mk hgq
    have QB := Aside0.mk hbq
    have QN := Aside0.mk hncq
    have QM := Aside0.mk hcmq
    have QS := Aside0.mk hcsq
    have QR := Aside0.mk hrq
    have QW := Aside0.mk hb
    clear hgq hbq hncq hcmq hcsq hrq hb
    refine hK.out _ _ ⟨(blk_cell BK1.out 0).trans rfl, (blk_cell BK2.out 0).trans rfl, (blk_cell BK2.out 1).trans rfl⟩ (fun hHeld => ?_)
    clear hK K
    refine norm_ (a' := ?_) ?_ ?_
    rotate_left
    · show Act.put _ (some 10) _ = _
      simp only [Act.put, List.setIfInBounds_toArray, List.set_cons_zero, List.set_cons_succ, i64_w, i32_w]
      rfl
    refine one_ (i := 9) (N := some 14) #[true, true, true, true, true, true, true, true, true, true, false, true, false, false, false] rfl rfl (one_of HT_.out (by kernel_rfl)) (by decide) (fun K hK => ?_)
    refine goes_ Try.func88 (by kernel_rfl) rfl #[.slice (some ⟨gq, 0, none⟩) l1.length capq, .int .i64 a0, .int .i64 (wrap64 (a0 + 1))] (by rfl) rfl rfl (by (try simp only [List.map_toArray, List.map_cons, List.map_nil]); first | done | rfl | (simp only [List.length_drop, List.length_take]; rfl)) ?_
    with_reducible refine (impl_NeedlessChambers_1.cut l1 gq capq a0 csq _ _ QG.out QB.out QN.out QM.out QS.out QR.out QW.out LI.out.1 LI.out.2.1 LI.out.2.2).mono ?_
    rintro e w13 ⟨rfl, hrr, hcr, hb⟩
    refine ⟨_, rfl, ?_⟩
    have n0_ := Aside0.mk hrr
    have n4_ := Aside0.mk hcr
    have n1_ := Aside0.mk (blk_below (g := gc1) (o := .cells #[.slice A1 l1.length c1] 38 (0, 0)) (by (with_reducible repeat (first | refine blk_drewN ?_ _ | refine blk_drew ?_ | refine blk_alloc ?_ _)); exact OB1.out) hb)
    have n2_ := Aside0.mk (blk_below (g := gc2) (o := .cells #[.int .i64 a2_0, .slice A2_1 l2_1.length c2_1] 94 (0, 0)) (by (with_reducible repeat (first | refine blk_drewN ?_ _ | refine blk_drew ?_ | refine blk_alloc ?_ _)); exact OB2.out) hb)
    have n3_ := Aside0.mk (below_step (by repeat (first | (with_reducible first | exact OHB.out | apply below_alloc | apply pw_below_drewN | apply below_drew1 | refine below_set ?_ GE1.out | refine below_set ?_ GE2.out) | exact OHB.out)) hb)
    clear BK1
    clear BK2
    clear HB
    clear QG QB QN QM QS QR QW OB1 OB2 OHB
    have HRq := n0_
    have HCq := n4_
    have BK1 := n1_
    have BK2 := n2_
    have HB := n3_
    clear n0_ n1_ n2_ n3_ n4_ hrr hcr hb
    refine hK.out _ _ ⟨(blk_cell BK1.out 0).trans rfl, (blk_cell BK2.out 0).trans rfl, (blk_cell BK2.out 1).trans rfl⟩ (fun hHeld => ?_)
    clear hK K
    refine norm_ (a' := ?_) ?_ ?_
    rotate_left
    · show Act.put _ (some 14) _ = _
      simp only [Act.put, List.setIfInBounds_toArray, List.set_cons_zero, List.set_cons_succ, i64_w, i32_w]
      rfl
    refine one_ (i := 10) (N := some 15) #[true, true, true, true, true, true, true, true, true, true, true, true, false, false, false] rfl rfl (one_of HT_.out (by kernel_rfl)) (by decide) (fun K hK => ?_)
    refine goes_ Try.func85 (by kernel_rfl) rfl #[.slice (some ⟨gq, 0, none⟩) (l1.eraseIdx a0.toNat).length capq, .bool false] (by rfl) rfl rfl (by (try simp only [List.map_toArray, List.map_cons, List.map_nil]); first | done | rfl | (simp only [List.length_drop, List.length_take]; rfl)) ?_
    with_reducible refine (impl_chamberVotes.calls k _ _ (l1.eraseIdx a0.toNat) false t499 t500 _ ?side1 ?side2 A5.out).mono ?_
    (case side1 => repeat (first | exact HRq.out | (with_reducible refine Kd.C_alloc ?_ _) | (with_reducible refine Kd.C_drewN ?_ _) | (with_reducible refine Kd.C_drew ?_)))
    (case side2 => exact HCq.out)
    rintro e w8 ⟨v501, rfl, ho0, hb⟩
    refine ⟨_, rfl, ?_⟩
    have n0_ := Aside0.mk (Kd.R_lower ho0 (below_size (by repeat (first | (with_reducible first | exact HB.out | apply below_alloc | apply pw_below_drewN | apply below_drew1 | refine below_set ?_ GE1.out | refine below_set ?_ GE2.out) | exact HB.out))))
    have n1_ := Aside0.mk (blk_below (g := gc1) (o := .cells #[.slice A1 l1.length c1] 38 (0, 0)) (by (with_reducible repeat (first | refine blk_drewN ?_ _ | refine blk_drew ?_ | refine blk_alloc ?_ _)); exact BK1.out) hb)
    have n2_ := Aside0.mk (blk_below (g := gc2) (o := .cells #[.int .i64 a2_0, .slice A2_1 l2_1.length c2_1] 94 (0, 0)) (by (with_reducible repeat (first | refine blk_drewN ?_ _ | refine blk_drew ?_ | refine blk_alloc ?_ _)); exact BK2.out) hb)
    have n3_ := Aside0.mk (below_step (by repeat (first | (with_reducible first | exact HB.out | apply below_alloc | apply pw_below_drewN | apply below_drew1 | refine below_set ?_ GE1.out | refine below_set ?_ GE2.out) | exact HB.out)) hb)
    clear BK1
    clear BK2
    clear HB
    have HO502 := n0_
    have BK1 := n1_
    have BK2 := n2_
    have HB := n3_
    clear n0_ n1_ n2_ n3_
    (try clear hb)
    (try clear hb2)
    (try clear hk)
    (try clear hi)
    (try clear ho0)
    obtain ⟨Ao9, co9, eo9⟩ := Kd.R_slice HO502.out
    (first | subst eo9 | (injection eo9 with f1_ f2_ f3_; have f4_ := f1_.symm; have f5_ := f3_.symm; clear f1_ f2_ f3_; subst f4_; subst f5_))
    refine hK.out _ _ ⟨(blk_cell BK1.out 0).trans rfl, (blk_cell BK2.out 0).trans rfl, (blk_cell BK2.out 1).trans rfl⟩ (fun hHeld => ?_)
    clear hK K
    refine norm_ (a' := ?_) ?_ ?_
    rotate_left
    · show Act.put _ (some 15) _ = _
      simp only [Act.put, List.setIfInBounds_toArray, List.set_cons_zero, List.set_cons_succ, i64_w, i32_w]
      rfl
    refine one_ (i := 12) (N := some 17) #[true, true, true, true, true, true, true, true, true, true, true, true, true, false, false] rfl rfl (one_of HT_.out (by kernel_rfl)) (by decide) (fun K hK => ?_)
    refine goes_ Try.func90 (by kernel_rfl) rfl #[.agg #[.int .i64 t499, .slice Ao9 t500.length co9], .agg #[.int .i64 a2_0, .slice A2_1 l2_1.length c2_1]] (by rfl) rfl rfl (by (try simp only [List.map_toArray, List.map_cons, List.map_nil]); first | done | rfl | (simp only [List.length_drop, List.length_take]; rfl)) ?_
    with_reducible refine (impl_votes_same.calls k t499 _ _ t500 a2_0 _ _ l2_1 t503 _ ?side1 ?side2 ?side3 ?side4 A6.out).mono ?_
    (case side1 => repeat (first | exact (Kd.R_reads' HO502.out).2.2 | (with_reducible refine Kd.C_alloc ?_ _) | (with_reducible refine Kd.C_drewN ?_ _) | (with_reducible refine Kd.C_drew ?_)))
    (case side2 => exact (Kd.R_reads' HO502.out).2.1)
    (case side3 => repeat (first | exact (Kd.C_below HR2_1.out HB.out) | (with_reducible refine Kd.C_alloc ?_ _) | (with_reducible refine Kd.C_drewN ?_ _) | (with_reducible refine Kd.C_drew ?_)))
    (case side4 => exact HC2_1.out)
    rintro e w10 ⟨rfl, hb⟩
    refine ⟨_, rfl, ?_⟩
    have n0_ := Aside0.mk (Kd.R_below (by (with_reducible repeat (first | apply Kd.R_alloc | apply Kd.R_drewN | apply Kd.R_drew)); exact HO502.out) hb)
    have n1_ := Aside0.mk (blk_below (g := gc1) (o := .cells #[.slice A1 l1.length c1] 38 (0, 0)) (by (with_reducible repeat (first | refine blk_drewN ?_ _ | refine blk_drew ?_ | refine blk_alloc ?_ _)); exact BK1.out) hb)
    have n2_ := Aside0.mk (blk_below (g := gc2) (o := .cells #[.int .i64 a2_0, .slice A2_1 l2_1.length c2_1] 94 (0, 0)) (by (with_reducible repeat (first | refine blk_drewN ?_ _ | refine blk_drew ?_ | refine blk_alloc ?_ _)); exact BK2.out) hb)
    have n3_ := Aside0.mk (below_step (by repeat (first | (with_reducible first | exact HB.out | apply below_alloc | apply pw_below_drewN | apply below_drew1 | refine below_set ?_ GE1.out | refine below_set ?_ GE2.out) | exact HB.out)) hb)
    clear HO502
    clear BK1
    clear BK2
    clear HB
    have HO502 := n0_
    have BK1 := n1_
    have BK2 := n2_
    have HB := n3_
    clear n0_ n1_ n2_ n3_
    (try clear hb)
    (try clear hb2)
    (try clear hk)
    (try clear hi)
    refine hK.out _ _ ⟨(blk_cell BK1.out 0).trans rfl, (blk_cell BK2.out 0).trans rfl, (blk_cell BK2.out 1).trans rfl⟩ (fun hHeld => ?_)
    clear hK K
    refine norm_ (a' := ?_) ?_ ?_
    rotate_left
    · show Act.put _ (some 17) _ = _
      simp only [Act.put, List.setIfInBounds_toArray, List.set_cons_zero, List.set_cons_succ, i64_w, i32_w]
      rfl
    refine pure_ (i := 13) (N := some 18) (v := ?_) (a' := ?_) #[true, true, true, true, true, true, true, true, true, true, true, true, true, true, false] rfl rfl (any_of HT_.out (by kernel_rfl)) (fun _ _ _ h => h) (Or.inl ⟨by rfl, ?_⟩) ?_ ?_
    rotate_left
    · intro w'
      go_simp
      with_reducible rfl
    rotate_left
    · simp only [Act.put, List.setIfInBounds_toArray, List.set_cons_zero, List.set_cons_succ, i64_w, i32_w]
      rfl
    refine pure_ (i := 14) (N := some 4) (v := ?_) (a' := ?_) #[true, true, true, true, true, true, true, true, true, true, true, true, true, true, true] rfl rfl (any_of HT_.out (by kernel_rfl)) (fun _ _ _ h => h) (Or.inl ⟨by rfl, ?_⟩) ?_ ?_
    rotate_left
    · intro w'
      go_simp
      with_reducible rfl
    rotate_left
    · simp only [Act.put, List.setIfInBounds_toArray, List.set_cons_zero, List.set_cons_succ, i64_w, i32_w]
      rfl
    refine done_ (done_of HT_.out (by kernel_rfl)) ?_
    try go_wp2
    go_ret
    exact ⟨by first | rfl | (simp [errW_none, errW_some] <;> rfl) | (simp [*, errW_none, errW_some] <;> rfl), by repeat (first | (with_reducible first | exact HB.out | apply below_alloc | apply pw_below_drewN | apply below_drew1 | refine below_set ?_ GE1.out | refine below_set ?_ GE2.out) | exact HB.out)⟩
  · rw [if_neg c4] at H
    have c4b0 : decide (1 < (l1.length : Int)) = false := decide_eq_false c4
    have c4b1 : decide (1 < l1.length) = false := decide_eq_false (by omega)
    clear c4
    obtain rfl := Option.some.inj H
    go_enter Try.func87, Try.ntmps87
    try go_wp2
    have n0_ := Aside0.mk (blk_drew BK1.out)
    have n1_ := Aside0.mk (blk_drew BK2.out)
    have n2_ := Aside0.mk (below_drew1 HB.out)
    clear BK1
    clear BK2
    clear HB
    have BK1 := n0_
    have BK2 := n1_
    have HB := n2_
    clear n0_ n1_ n2_
    refine start_ (n := 15) (S := fun w' => w'.cell? ⟨gc1, 0, none⟩ = some (.slice A1 l1.length c1)) (ds := []) #[false, false, false, false, false, false, false, false, false, false, false, false, false, false, false] (by kernel_rfl) rfl rfl ((blk_cell BK1.out 0).trans rfl) (fun hHeld => ?_); refine with_tabW impl_NeedlessChambers_1.tab1 impl_NeedlessChambers_1.bits1 (fun HT_ HW_ => ?_)
    generalize w.drew = w11 at BK1 BK2 HB hHeld ⊢
    refine take_ (i := 0) (N := some 5) (v := ?_) (a' := ?_) #[true, false, false, false, false, false, false, false, false, false, false, false, false, false, false] rfl rfl (take_ofW HT_.out HW_.out (by kernel_rfl)) (fun _ _ _ h => h) (Or.inl ⟨by rfl, ?_⟩) hHeld ?_ ?_
    rotate_left
    · intro w' s0
      go_simp
      with_reducible rfl
    rotate_left
    · simp only [Act.put, List.setIfInBounds_toArray, List.set_cons_zero, List.set_cons_succ, i64_w, i32_w]
      rfl
    refine pure_ (i := 1) (N := some 6) (v := ?_) (a' := ?_) #[true, true, false, false, false, false, false, false, false, false, false, false, false, false, false] rfl rfl (any_of HT_.out (by kernel_rfl)) (fun _ _ _ h => h) (Or.inl ⟨by rfl, ?_⟩) ?_ ?_
    rotate_left
    · intro w'
      go_simp
      with_reducible rfl
    rotate_left
    · simp only [Act.put, List.setIfInBounds_toArray, List.set_cons_zero, List.set_cons_succ, i64_w, i32_w]
      rfl
    refine pure_ (i := 2) (N := some 7) (v := ?_) (a' := ?_) #[true, true, true, false, false, false, false, false, false, false, false, false, false, false, false] rfl rfl (any_of HT_.out (by kernel_rfl)) (fun _ _ _ h => h) (Or.inl ⟨by rfl, ?_⟩) ?_ ?_
    rotate_left
    · intro w'
      go_simp
      with_reducible rfl
    rotate_left
    · simp only [Act.put, List.setIfInBounds_toArray, List.set_cons_zero, List.set_cons_succ, i64_w, i32_w]
      rfl
    refine pure_ (i := 3) (N := some 8) (v := ?_) (a' := ?_) #[true, true, true, true, false, false, false, false, false, false, false, false, false, false, false] rfl rfl (any_of HT_.out (by kernel_rfl)) (fun _ _ _ h => h) (Or.inl ⟨by rfl, ?_⟩) ?_ ?_
    rotate_left
    · intro w'
      go_simp
      with_reducible rfl
    rotate_left
    · simp only [Act.put, List.setIfInBounds_toArray, List.set_cons_zero, List.set_cons_succ, i64_w, i32_w]
      rfl
    refine pure_ (i := 4) (N := some 9) (v := undef) (a' := ?_) #[true, true, true, true, true, false, false, false, false, false, false, false, false, false, false] rfl rfl (any_of HT_.out (by kernel_rfl)) (fun _ _ _ h => h) (Or.inr ⟨by rfl, rfl⟩) ?_ ?_
    rotate_left
    · simp only [Act.put, List.setIfInBounds_toArray, List.set_cons_zero, List.set_cons_succ, i64_w, i32_w]
      rfl
    refine pure_ (i := 5) (N := some 10) (v := undef) (a' := ?_) #[true, true, true, true, true, true, false, false, false, false, false, false, false, false, false] rfl rfl (any_of HT_.out (by kernel_rfl)) (fun _ _ _ h => h) (Or.inr ⟨by rfl, rfl⟩) ?_ ?_
    rotate_left
    · simp only [Act.put, List.setIfInBounds_toArray, List.set_cons_zero, List.set_cons_succ, i64_w, i32_w]
      rfl
    refine pure_ (i := 6) (N := some 11) (v := undef) (a' := ?_) #[true, true, true, true, true, true, true, false, false, false, false, false, false, false, false] rfl rfl (any_of HT_.out (by kernel_rfl)) (fun _ _ _ h => h) (Or.inr ⟨by rfl, rfl⟩) ?_ ?_
    rotate_left
    · simp only [Act.put, List.setIfInBounds_toArray, List.set_cons_zero, List.set_cons_succ, i64_w, i32_w]
      rfl
    refine pure_ (i := 7) (N := some 12) (v := undef) (a' := ?_) #[true, true, true, true, true, true, true, true, false, false, false, false, false, false, false] rfl rfl (any_of HT_.out (by kernel_rfl)) (fun _ _ _ h => h) (Or.inr ⟨by rfl, rfl⟩) ?_ ?_
    rotate_left
    · simp only [Act.put, List.setIfInBounds_toArray, List.set_cons_zero, List.set_cons_succ, i64_w, i32_w]
      rfl
    refine pure_ (i := 8) (N := some 13) (v := undef) (a' := ?_) #[true, true, true, true, true, true, true, true, true, false, false, false, false, false, false] rfl rfl (any_of HT_.out (by kernel_rfl)) (fun _ _ _ h => h) (Or.inr ⟨by rfl, rfl⟩) ?_ ?_
    rotate_left
    · simp only [Act.put, List.setIfInBounds_toArray, List.set_cons_zero, List.set_cons_succ, i64_w, i32_w]
      rfl
    refine pure_ (i := 9) (N := some 14) (v := undef) (a' := ?_) #[true, true, true, true, true, true, true, true, true, true, false, false, false, false, false] rfl rfl (any_of HT_.out (by kernel_rfl)) (fun _ _ _ h => h) (Or.inr ⟨by rfl, rfl⟩) ?_ ?_
    rotate_left
    · simp only [Act.put, List.setIfInBounds_toArray, List.set_cons_zero, List.set_cons_succ, i64_w, i32_w]
      rfl
    refine pure_ (i := 10) (N := some 15) (v := undef) (a' := ?_) #[true, true, true, true, true, true, true, true, true, true, true, false, false, false, false] rfl rfl (any_of HT_.out (by kernel_rfl)) (fun _ _ _ h => h) (Or.inr ⟨by rfl, rfl⟩) ?_ ?_
    rotate_left
    · simp only [Act.put, List.setIfInBounds_toArray, List.set_cons_zero, List.set_cons_succ, i64_w, i32_w]
      rfl
    refine pure_ (i := 11) (N := some 16) (v := undef) (a' := ?_) #[true, true, true, true, true, true, true, true, true, true, true, true, false, false, false] rfl rfl (any_of HT_.out (by kernel_rfl)) (fun _ _ _ h => h) (Or.inr ⟨by rfl, rfl⟩) ?_ ?_
    rotate_left
    · simp only [Act.put, List.setIfInBounds_toArray, List.set_cons_zero, List.set_cons_succ, i64_w, i32_w]
      rfl
    refine pure_ (i := 12) (N := some 17) (v := undef) (a' := ?_) #[true, true, true, true, true, true, true, true, true, true, true, true, true, false, false] rfl rfl (any_of HT_.out (by kernel_rfl)) (fun _ _ _ h => h) (Or.inr ⟨by rfl, rfl⟩) ?_ ?_
    rotate_left
    · simp only [Act.put, List.setIfInBounds_toArray, List.set_cons_zero, List.set_cons_succ, i64_w, i32_w]
      rfl
    refine pure_ (i := 13) (N := some 18) (v := ?_) (a' := ?_) #[true, true, true, true, true, true, true, true, true, true, true, true, true, true, false] rfl rfl (any_of HT_.out (by kernel_rfl)) (fun _ _ _ h => h) (Or.inl ⟨by rfl, ?_⟩) ?_ ?_
    rotate_left
    · intro w'
      go_simp
      with_reducible rfl
    rotate_left
    · simp only [Act.put, List.setIfInBounds_toArray, List.set_cons_zero, List.set_cons_succ, i64_w, i32_w]
      rfl
    refine pure_ (i := 14) (N := some 4) (v := ?_) (a' := ?_) #[true, true, true, true, true, true, true, true, true, true, true, true, true, true, true] rfl rfl (any_of HT_.out (by kernel_rfl)) (fun _ _ _ h => h) (Or.inl ⟨by rfl, ?_⟩) ?_ ?_
    rotate_left
    · intro w'
      go_simp
      with_reducible rfl
    rotate_left
    · simp only [Act.put, List.setIfInBounds_toArray, List.set_cons_zero, List.set_cons_succ, i64_w, i32_w]
      rfl
    refine done_ (done_of HT_.out (by kernel_rfl)) ?_
    try go_wp2
    go_ret
    exact ⟨by first | rfl | (simp [errW_none, errW_some] <;> rfl) | (simp [*, errW_none, errW_some] <;> rfl), by repeat (first | (with_reducible first | exact HB.out | apply below_alloc | apply pw_below_drewN | apply below_drew1 | refine below_set ?_ GE1.out | refine below_set ?_ GE2.out) | exact HB.out)⟩
theorem impl_NeedlessChambers_1.enters : ∀ (args : Array Value) (w : World), (callFunc 87 args).run Try.prog w = .ok (.enter 87 args) w := enters_of Try.func87 (by kernel_rfl) rfl


/-! ### impl_NeedlessChambers: function 32 -/
def impl_NeedlessChambers.f (k : Nat) (l0 : List (S_impl_Committee)) : Option (List Int × Bool) := (impl_AreChambers.f k l0).bind fun t505 => (if t505 = true then ((impl_chamberVotes.f k l0 false).bind fun bt506 => ((impl_members.f k (l0.length : Int) (fun y0_ => impl_NeedlessChambers_1.f k y0_ l0 bt506.1 bt506.2)).bind fun t511 => (some (t511, true)))) else (some (([] : List Int), false)))
theorem impl_NeedlessChambers.mono : ∀ a0 k, LeO (impl_NeedlessChambers.f k a0) (impl_NeedlessChambers.f (k + 1) a0) := by
  intro a0 k
  unfold impl_NeedlessChambers.f
  repeat' first
      | (with_reducible exact impl_AreChambers.mono _ _)
      | (with_reducible exact impl_NeedlessChambers_1.mono _ _ _ _ _)
      | (with_reducible exact impl_chamberVotes.mono _ _ _)
      | (with_reducible exact impl_members.mono _ _ _)
      | (with_reducible exact LeO.refl _)
      | (with_reducible exact LeO.none _)
      | (with_reducible refine LeO.trans (impl_members.mono _ _ _) (impl_members.mono_p (fun _ => ?_) _ _))
      | (with_reducible refine LeO.ite ?_ ?_)
      | (with_reducible refine LeO.bind ?_ (fun _ => ?_))
      | exact impl_AreChambers.mono _ _
      | exact impl_NeedlessChambers_1.mono _ _ _ _ _
      | exact impl_chamberVotes.mono _ _ _
      | exact impl_members.mono _ _ _
      | exact LeO.none _
      | refine LeO.ite ?_ ?_
      | refine LeO.bind ?_ (fun _ => ?_)
set_option maxHeartbeats 8000000 in
set_option maxRecDepth 100000 in
theorem impl_NeedlessChambers.calls (k : Nat) (A0 : Option Addr) (c0 : Nat) (l0 : List (S_impl_Committee)) (r1 : List Int) (r2 : Bool) (w : World) (hr0 : Kd.C k_impl_Committee w A0 l0.length l0) (hc0 : l0.length ≤ c0) (h : impl_NeedlessChambers.f k l0 = some (r1, r2)) :
    Calls Try.prog 32 #[.slice A0 l0.length c0] w fun e w' => ∃ v0_ : Value, e = .returned (.tuple #[v0_, .bool r2]) ∧ Kd.R (Kd.int .i64) 3 w' w.heap.size (fun _ => True) v0_ r1 ∧ Below w.heap.size w w' := by
  have hmf : ∀ (fn : Fn) (first cap : Array Value) (w : World), (Instr.makeFunc fn first cap).run Try.prog w = .ok (.func fn first cap) w := fun _ _ _ _ => rfl
  have hu94 := Try.underlying94
  have HR0 := Aside0.mk hr0
  have HC0 := Aside0.mk hc0
  clear hr0 hc0
  have HB := Aside0.mk (Below.refl w.heap.size w)
  have H : ((impl_AreChambers.f k l0).bind fun t505 => (if t505 = true then ((impl_chamberVotes.f k l0 false).bind fun bt506 => ((impl_members.f k (l0.length : Int) (fun y0_ => impl_NeedlessChambers_1.f k y0_ l0 bt506.1 bt506.2)).bind fun t511 => (some (t511, true)))) else (some (([] : List Int), false)))) = some (r1, r2) := h
  clear h
  replace H := Option.bind_eq_some_iff.mp H
  obtain ⟨t505, A20, H⟩ := H
  replace H : (if t505 = true then ((impl_chamberVotes.f k l0 false).bind fun bt506 => ((impl_members.f k (l0.length : Int) (fun y0_ => impl_NeedlessChambers_1.f k y0_ l0 bt506.1 bt506.2)).bind fun t511 => (some (t511, true)))) else (some (([] : List Int), false))) = some (r1, r2) := H
  have A2 := Aside0.mk A20
  clear A20
  by_cases c3 : t505 = true
  · subst c3
    have H1 : ((impl_chamberVotes.f k l0 false).bind fun bt506 => ((impl_members.f k (l0.length : Int) (fun y0_ => impl_NeedlessChambers_1.f k y0_ l0 bt506.1 bt506.2)).bind fun t511 => (some (t511, true)))) = some (r1, r2) := by rw [if_pos rfl] at H; exact H
    clear H
    have H := H1
    clear H1
    replace H := Option.bind_eq_some_iff.mp H
    obtain ⟨⟨t506, t507⟩, A40, H⟩ := H
    replace H : ((impl_members.f k (l0.length : Int) (fun y0_ => impl_NeedlessChambers_1.f k y0_ l0 t506 t507)).bind fun t511 => (some (t511, true))) = some (r1, r2) := H
    have A4 := Aside0.mk A40
    clear A40
    replace H := Option.bind_eq_some_iff.mp H
    obtain ⟨t511, A50, H⟩ := H
    replace H : (some (t511, true)) = some (r1, r2) := H
    have A5 := Aside0.mk A50
    clear A50
    simp only [Option.some.injEq, Prod.mk.injEq] at H
    obtain ⟨rfl, rfl⟩ := H
    go_enter Try.func32, Try.ntmps32
    go_wp2_with (first | ((with_reducible refine gate_dst (N := 1) rfl ?_); refine box_event ?hg (N := 1) ?hd (cs := #[.slice A0 l0.length c0]) (t := 38) ?hr ?_; (case hd => rfl); (case hg => rfl); (case hr => first | (go_simp; done) | (go_simp; rfl)); intro gb504 hg w6 hbox hb; have n0_ := Aside0.mk (below_step (by repeat (first | (with_reducible first | exact HB.out | apply below_alloc | apply pw_below_drewN | apply below_drew1) | exact HB.out)) hb); have n1_ := Aside0.mk (hbox); have n2_ := Aside0.mk ((by rw [hg]; exact (below_size (by repeat (first | (with_reducible first | exact HB.out | apply below_alloc | apply pw_below_drewN | apply below_drew1) | exact HB.out))) : w.heap.size ≤ gb504)); have n3_ := Aside0.mk ((by rw [hg]; exact (below_size (by repeat (first | (with_reducible first | exact HB.out | apply below_alloc | apply pw_below_drewN | apply below_drew1) | exact HB.out))) : w.heap.size ≤ gb504)); clear HB; have HB := n0_; have BK504 := n1_; have GW504 := n2_; have GE504 := n3_; clear n0_ n1_ n2_ n3_; clear hb hbox hg; have hcz7_0 : w6.cell? ⟨gb504, 0, none⟩ = some (.slice A0 l0.length c0) := (blk_cell BK504.out 0).trans rfl; have hfz7_0 := blk_frozen BK504.out 0) | ((with_reducible refine gate_callee (f := 84) rfl ?_); refine goesL_ (some 6) rfl rfl Try.func84 (by kernel_rfl) rfl #[.slice A0 l0.length c0] rfl (by (try simp only [List.map_toArray, List.map_cons, List.map_nil]); first | done | rfl | (simp only [List.length_drop, List.length_take]; rfl)) ?_; (with_reducible refine (impl_AreChambers.calls k _ _ l0 true _ ?side1 ?side2 A2.out).mono ?_); (case side1 => repeat (first | exact (Kd.C_below HR0.out HB.out) | (with_reducible refine Kd.C_alloc ?_ _) | (with_reducible refine Kd.C_drewN ?_ _) | (with_reducible refine Kd.C_drew ?_))); (case side2 => exact HC0.out); rintro e w8 ⟨rfl, hb⟩; refine ⟨_, rfl, ?_⟩; have n0_ := Aside0.mk (blk_below (g := gb504) (o := .cells #[.slice A0 l0.length c0] 38 (0, 0)) (by (with_reducible repeat (first | refine blk_drewN ?_ _ | refine blk_drew ?_ | refine blk_alloc ?_ _)); exact BK504.out) hb); have n1_ := Aside0.mk (below_step (by repeat (first | (with_reducible first | exact HB.out | apply below_alloc | apply pw_below_drewN | apply below_drew1 | refine below_set ?_ GE504.out) | exact HB.out)) hb); clear BK504; clear HB; have BK504 := n0_; have HB := n1_; clear n0_ n1_; (try clear hb); (try clear hb2); (try clear hk); (try clear hi); have hcz9_0 : w8.cell? ⟨gb504, 0, none⟩ = some (.slice A0 l0.length c0) := (blk_cell BK504.out 0).trans rfl; have hfz9_0 := blk_frozen BK504.out 0) | ((with_reducible refine gate_callee (f := 85) rfl ?_); refine goesL_ (some 9) rfl rfl Try.func85 (by kernel_rfl) rfl #[.slice A0 l0.length c0, .bool false] rfl (by (try simp only [List.map_toArray, List.map_cons, List.map_nil]); first | done | rfl | (simp only [List.length_drop, List.length_take]; rfl)) ?_; (with_reducible refine (impl_chamberVotes.calls k _ _ l0 false t506 t507 _ ?side1 ?side2 A4.out).mono ?_); (case side1 => repeat (first | exact (Kd.C_below HR0.out HB.out) | (with_reducible refine Kd.C_alloc ?_ _) | (with_reducible refine Kd.C_drewN ?_ _) | (with_reducible refine Kd.C_drew ?_))); (case side2 => exact HC0.out); rintro e w10 ⟨v508, rfl, ho0, hb⟩; refine ⟨_, rfl, ?_⟩; have n0_ := Aside0.mk (Kd.R_lower ho0 (below_size (by repeat (first | (with_reducible first | exact HB.out | apply below_alloc | apply pw_below_drewN | apply below_drew1 | refine below_set ?_ GE504.out) | exact HB.out)))); have n1_ := Aside0.mk (blk_below (g := gb504) (o := .cells #[.slice A0 l0.length c0] 38 (0, 0)) (by (with_reducible repeat (first | refine blk_drewN ?_ _ | refine blk_drew ?_ | refine blk_alloc ?_ _)); exact BK504.out) hb); have n2_ := Aside0.mk (below_step (by repeat (first | (with_reducible first | exact HB.out | apply below_alloc | apply pw_below_drewN | apply below_drew1 | refine below_set ?_ GE504.out) | exact HB.out)) hb); clear BK504; clear HB; have HO509 := n0_; have BK504 := n1_; have HB := n2_; clear n0_ n1_ n2_; (try clear hb); (try clear hb2); (try clear hk); (try clear hi); (try clear ho0)) | ((with_reducible refine gate_dst (N := 4) rfl ?_); refine box_event ?hg (N := 4) ?hd (cs := #[.int .i64 0, .slice none 0 0]) (t := 94) ?hr ?_; (case hd => rfl); (case hg => rfl); (case hr => first | (go_simp; done) | (go_simp; rfl)); intro gb510 hg w11 hbox hb; have n0_ := Aside0.mk (Kd.R_below (by (with_reducible repeat (first | apply Kd.R_alloc | apply Kd.R_drewN | apply Kd.R_drew)); exact HO509.out) hb); have n1_ := Aside0.mk (blk_below (g := gb504) (o := .cells #[.slice A0 l0.length c0] 38 (0, 0)) (by (with_reducible repeat (first | refine blk_drewN ?_ _ | refine blk_drew ?_ | refine blk_alloc ?_ _)); exact BK504.out) hb); have n2_ := Aside0.mk (below_step (by repeat (first | (with_reducible first | exact HB.out | apply below_alloc | apply pw_below_drewN | apply below_drew1 | refine below_set ?_ GE504.out) | exact HB.out)) hb); have n3_ := Aside0.mk (hbox); have n4_ := Aside0.mk ((by rw [hg]; exact (below_size (by repeat (first | (with_reducible first | exact HB.out | apply below_alloc | apply pw_below_drewN | apply below_drew1 | refine below_set ?_ GE504.out) | exact HB.out))) : w.heap.size ≤ gb510)); have n5_ := Aside0.mk ((by rw [hg]; exact (below_size (by repeat (first | (with_reducible first | exact HB.out | apply below_alloc | apply pw_below_drewN | apply below_drew1 | refine below_set ?_ GE504.out) | exact HB.out))) : w.heap.size ≤ gb510)); have n6_ := Aside0.mk ((by rw [hg]; exact Nat.ne_of_lt (blk_lt (g := gb504) (o := .cells #[.slice A0 l0.length c0] 38 (0, 0)) (by (with_reducible repeat (first | refine blk_drewN ?_ _ | refine blk_drew ?_ | refine blk_alloc ?_ _)); exact BK504.out)) : gb504 ≠ gb510)); have n7_ := Aside0.mk ((by rw [hg]; exact Nat.ne_of_gt (blk_lt (g := gb504) (o := .cells #[.slice A0 l0.length c0] 38 (0, 0)) (by (with_reducible repeat (first | refine blk_drewN ?_ _ | refine blk_drew ?_ | refine blk_alloc ?_ _)); exact BK504.out)) : gb510 ≠ gb504)); clear HO509; clear BK504; clear HB; have HO509 := n0_; have BK504 := n1_; have HB := n2_; have BK510 := n3_; have GW510 := n4_; have GE510 := n5_; have NB504_510 := n6_; have NB510_504 := n7_; clear n0_ n1_ n2_ n3_ n4_ n5_ n6_ n7_; clear hb hbox hg; have hnb12 := NB510_504.out; have hnc12 := NB504_510.out; have hcz13_0 : w11.cell? ⟨gb510, 0, none⟩ = some (.int .i64 0) := (blk_cell BK510.out 0).trans rfl; have hcz13_1 : w11.cell? ⟨gb510, 1, none⟩ = some (.slice none 0 0) := (blk_cell BK510.out 1).trans rfl; have hfz13_0 := blk_frozen BK510.out 0; have hfz13_1 := blk_frozen BK510.out 1; obtain ⟨Ao14, co14, eo14⟩ := Kd.R_slice HO509.out; subst eo14; have hcz15_0 : w11.cell? ⟨gb504, 0, none⟩ = some (.slice A0 l0.length c0) := (blk_cell BK504.out 0).trans rfl; have hfz15_0 := blk_frozen BK504.out 0) | ((with_reducible refine gate_callee (f := 86) rfl ?_); refine goesL_ (some 13) rfl rfl Try.func86 (by kernel_rfl) rfl #[.int .i64 (l0.length : Int), .func (.func 87) #[] #[.pointer (some ⟨gb504, 0, none⟩), .pointer (some ⟨gb510, 0, none⟩)]] rfl (by (try simp only [List.map_toArray, List.map_cons, List.map_nil]); first | done | rfl | (simp only [List.length_drop, List.length_take]; rfl)) ?_; (with_reducible refine (impl_members.calls k (l0.length : Int) (fun y0_ => impl_NeedlessChambers_1.f k y0_ l0 t506 t507) 87 #[.pointer (some ⟨gb504, 0, none⟩), .pointer (some ⟨gb510, 0, none⟩)] impl_NeedlessChambers_1.enters t511 _ ?side1 A5.out).mono ?_); (case side1 => exact (fun W_ a0_ r0_ hx_ hb_  => (impl_NeedlessChambers_1.calls k a0_ gb504 _ _ l0 gb510 t506 _ _ t507 r0_ W_  (Kd.C_below (by exact Kd.C_below HR0.out (by repeat (first | (with_reducible first | exact HB.out | apply below_alloc | apply pw_below_drewN | apply below_drew1 | refine below_set ?_ GE504.out | refine below_set ?_ GE510.out) | exact HB.out))) hb_) (by exact HC0.out) (Kd.C_below (by refine (Kd.R_reads' (e := 4) (base := w.heap.size) (ok := fun k_ => True) (n := t507.length) (c := co14) ?_).2.2; exact (by (with_reducible repeat (first | apply Kd.R_alloc | apply Kd.R_drewN | apply Kd.R_drew)); exact (Kd.R_mono (Kd.R_far (p := ⟨gb510, 1, none⟩) (Kd.R_far (p := ⟨gb510, 0, none⟩) (Kd.R_types HO509.out BK510.out (by decide)) (fun _ hk => hk.2) (.int .i64 t506)) (fun _ hk => hk.2) (.slice Ao14 t507.length co14)) (fun _ h_ => h_.1)))) hb_) (by exact (Kd.R_reads' HO509.out).2.1) (box_later (by (with_reducible repeat (first | refine blk_drewN ?_ _ | refine blk_drew ?_ | refine blk_alloc ?_ _)); refine blk_far ?_ NB504_510.out _; (with_reducible repeat (first | refine blk_drewN ?_ _ | refine blk_drew ?_ | refine blk_alloc ?_ _)); refine blk_far ?_ NB504_510.out _; (with_reducible repeat (first | refine blk_drewN ?_ _ | refine blk_drew ?_ | refine blk_alloc ?_ _)); exact BK504.out) hb_) (box_later (by (with_reducible repeat (first | refine blk_drewN ?_ _ | refine blk_drew ?_ | refine blk_alloc ?_ _)); refine blk_put (cs := #[.int .i64 t506, .slice none 0 0]) ?_ 1 _ rfl; (with_reducible repeat (first | refine blk_drewN ?_ _ | refine blk_drew ?_ | refine blk_alloc ?_ _)); refine blk_put (cs := #[.int .i64 0, .slice none 0 0]) ?_ 0 _ rfl; (with_reducible repeat (first | refine blk_drewN ?_ _ | refine blk_drew ?_ | refine blk_alloc ?_ _)); exact BK510.out) hb_) NB504_510.out hx_).mono (fun _ _ h_ => h_))); rintro e w16 ⟨v512, rfl, ho0, hb⟩; refine ⟨_, rfl, ?_⟩; have n0_ := Aside0.mk (Kd.R_below (by (with_reducible repeat (first | apply Kd.R_alloc | apply Kd.R_drewN | apply Kd.R_drew)); exact (Kd.R_mono (Kd.R_far (p := ⟨gb510, 1, none⟩) (Kd.R_far (p := ⟨gb510, 0, none⟩) (Kd.R_types HO509.out BK510.out (by decide)) (fun _ hk => hk.2) (.int .i64 t506)) (fun _ hk => hk.2) (.slice Ao14 t507.length co14)) (fun _ h_ => h_.1))) hb); have n1_ := Aside0.mk (Kd.R_lower ho0 (below_size (by repeat (first | (with_reducible first | exact HB.out | apply below_alloc | apply pw_below_drewN | apply below_drew1 | refine below_set ?_ GE504.out | refine below_set ?_ GE510.out) | exact HB.out)))); have n2_ := Aside0.mk (blk_below (g := gb504) (o := .cells #[.slice A0 l0.length c0] 38 (0, 0)) (by (with_reducible repeat (first | refine blk_drewN ?_ _ | refine blk_drew ?_ | refine blk_alloc ?_ _)); refine blk_far ?_ NB504_510.out _; (with_reducible repeat (first | refine blk_drewN ?_ _ | refine blk_drew ?_ | refine blk_alloc ?_ _)); refine blk_far ?_ NB504_510.out _; (with_reducible repeat (first | refine blk_drewN ?_ _ | refine blk_drew ?_ | refine blk_alloc ?_ _)); exact BK504.out) hb); have n3_ := Aside0.mk (blk_below (g := gb510) (o := .cells #[.int .i64 t506, .slice Ao14 t507.length co14] 94 (0, 0)) (by (with_reducible repeat (first | refine blk_drewN ?_ _ | refine blk_drew ?_ | refine blk_alloc ?_ _)); refine blk_put (cs := #[.int .i64 t506, .slice none 0 0]) ?_ 1 _ rfl; (with_reducible repeat (first | refine blk_drewN ?_ _ | refine blk_drew ?_ | refine blk_alloc ?_ _)); refine blk_put (cs := #[.int .i64 0, .slice none 0 0]) ?_ 0 _ rfl; (with_reducible repeat (first | refine blk_drewN ?_ _ | refine blk_drew ?_ | refine blk_alloc ?_ _)); exact BK510.out) hb); have n4_ := Aside0.mk (below_step (by repeat (first | (with_reducible first | exact HB.out | apply below_alloc | apply pw_below_drewN | apply below_drew1 | refine below_set ?_ GE504.out | refine below_set ?_ GE510.out) | exact HB.out)) hb); clear HO509; clear BK504; clear BK510; clear HB; have HO509 := n0_; have HO513 := n1_; have BK504 := n2_; have BK510 := n3_; have HB := n4_; clear n0_ n1_ n2_ n3_ n4_; (try clear hb); (try clear hb2); (try clear hk); (try clear hi); (try clear ho0)))
    go_ret2
    exact ⟨_, by first | rfl | (simp [errW_none, errW_some] <;> rfl) | (simp [*, errW_none, errW_some] <;> rfl), by (with_reducible repeat (first | apply Kd.R_alloc | apply Kd.R_drewN | apply Kd.R_drew)); exact HO513.out, by repeat (first | (with_reducible first | exact HB.out | apply below_alloc | apply pw_below_drewN | apply below_drew1 | refine below_set ?_ GE504.out | refine below_set ?_ GE510.out) | exact HB.out)⟩
  · replace c3 := Bool.eq_false_iff.mpr c3
    subst c3
    have H1 : (some (([] : List Int), false)) = some (r1, r2) := by rw [if_neg (show ¬ (false = true) by decide)] at H; exact H
    clear H
    have H := H1
    clear H1
    simp only [Option.some.injEq, Prod.mk.injEq] at H
    obtain ⟨rfl, rfl⟩ := H
    go_enter Try.func32, Try.ntmps32
    go_wp2_with (first | ((with_reducible refine gate_dst (N := 1) rfl ?_); refine box_event ?hg (N := 1) ?hd (cs := #[.slice A0 l0.length c0]) (t := 38) ?hr ?_; (case hd => rfl); (case hg => rfl); (case hr => first | (go_simp; done) | (go_simp; rfl)); intro gb504 hg w17 hbox hb; have n0_ := Aside0.mk (below_step (by repeat (first | (with_reducible first | exact HB.out | apply below_alloc | apply pw_below_drewN | apply below_drew1) | exact HB.out)) hb); have n1_ := Aside0.mk (hbox); have n2_ := Aside0.mk ((by rw [hg]; exact (below_size (by repeat (first | (with_reducible first | exact HB.out | apply below_alloc | apply pw_below_drewN | apply below_drew1) | exact HB.out))) : w.heap.size ≤ gb504)); have n3_ := Aside0.mk ((by rw [hg]; exact (below_size (by repeat (first | (with_reducible first | exact HB.out | apply below_alloc | apply pw_below_drewN | apply below_drew1) | exact HB.out))) : w.heap.size ≤ gb504)); clear HB; have HB := n0_; have BK504 := n1_; have GW504 := n2_; have GE504 := n3_; clear n0_ n1_ n2_ n3_; clear hb hbox hg; have hcz18_0 : w17.cell? ⟨gb504, 0, none⟩ = some (.slice A0 l0.length c0) := (blk_cell BK504.out 0).trans rfl; have hfz18_0 := blk_frozen BK504.out 0) | ((with_reducible refine gate_callee (f := 84) rfl ?_); refine goesL_ (some 6) rfl rfl Try.func84 (by kernel_rfl) rfl #[.slice A0 l0.length c0] rfl (by (try simp only [List.map_toArray, List.map_cons, List.map_nil]); first | done | rfl | (simp only [List.length_drop, List.length_take]; rfl)) ?_; (with_reducible refine (impl_AreChambers.calls k _ _ l0 false _ ?side1 ?side2 A2.out).mono ?_); (case side1 => repeat (first | exact (Kd.C_below HR0.out HB.out) | (with_reducible refine Kd.C_alloc ?_ _) | (with_reducible refine Kd.C_drewN ?_ _) | (with_reducible refine Kd.C_drew ?_))); (case side2 => exact HC0.out); rintro e w19 ⟨rfl, hb⟩; refine ⟨_, rfl, ?_⟩; have n0_ := Aside0.mk (blk_below (g := gb504) (o := .cells #[.slice A0 l0.length c0] 38 (0, 0)) (by (with_reducible repeat (first | refine blk_drewN ?_ _ | refine blk_drew ?_ | refine blk_alloc ?_ _)); exact BK504.out) hb); have n1_ := Aside0.mk (below_step (by repeat (first | (with_reducible first | exact HB.out | apply below_alloc | apply pw_below_drewN | apply below_drew1 | refine below_set ?_ GE504.out) | exact HB.out)) hb); clear BK504; clear HB; have BK504 := n0_; have HB := n1_; clear n0_ n1_; (try clear hb); (try clear hb2); (try clear hk); (try clear hi)))
    go_ret2
    exact ⟨_, by first | rfl | (simp [errW_none, errW_some] <;> rfl) | (simp [*, errW_none, errW_some] <;> rfl), by first | exact Kd.R_nil _ _ _ _ _ | exact Kd.N_nil _ _ _ _ _ | exact Kd.V_nil _ _ _ _ _ | exact Kd.Q_nil _ _ _ _ _ | exact Kd.S_nil _ _ _ _ _, by repeat (first | (with_reducible first | exact HB.out | apply below_alloc | apply pw_below_drewN | apply below_drew1 | refine below_set ?_ GE504.out) | exact HB.out)⟩


/-! ### laws_FnExactNeedlessChambers: function 5 -/
def laws_FnExactNeedlessChambers.f (k : Nat) (l0 : List (S_laws_Committee)) : Option (Bool) := (laws_szCommitteeS.f k l0 1048576).bind fun t514 => (if t514 < 0 then (some true) else ((laws_toCommitteeS.f k l0).bind fun t515 => ((spec_NeedlessChambers.f k t515).bind fun bt518 => ((laws_toCommitteeS.f k l0).bind fun t522 => ((impl_NeedlessChambers.f k t522).bind fun bt525 => ((laws_eqIntS.f k bt525.1 bt518.1).bind fun t529 => (if t529 = true then (if (bt525.2 != bt518.2) = true then (some false) else ((laws_toCommitteeS.f k l0).bind fun t530 => ((laws_eqCommitteeS.f k t522 t530).bind fun t533 => (if t533 = true then ((laws_markCommitteeS.f k t522 1).bind fun bt534 => (if bt534.1 < 0 then (some false) else ((laws_eqIntS.f k bt525.1 bt518.1).bind fun t536 => (if t536 = true then ((laws_markIntS.f k bt525.1 1).bind fun bt537 => ((laws_heldIntS.f k bt537.2 1).bind fun t539 => (if t539 < 0 then (some false) else (if t539 = bt537.1 then ((laws_toCommitteeS.f k l0).bind fun t540 => ((impl_NeedlessChambers.f k t540).bind fun bt543 => ((laws_eqIntS.f k bt543.1 bt518.1).bind fun t547 => (if t547 = true then (if (bt543.2 != bt518.2) = true then (some false) else ((laws_heldIntS.f k bt537.2 1).bind fun t548 => (if t548 < 0 then (some false) else (if t548 = bt537.1 then (some true) else (some false))))) else (some false))))) else (some false))))) else (some false))))) else (some false))))) else (some false))))))))
theorem laws_FnExactNeedlessChambers.mono : ∀ a0 k, LeO (laws_FnExactNeedlessChambers.f k a0) (laws_FnExactNeedlessChambers.f (k + 1) a0) := by
  intro a0 k
  unfold laws_FnExactNeedlessChambers.f
  repeat' first
      | (with_reducible exact impl_NeedlessChambers.mono _ _)
      | (with_reducible exact laws_eqCommitteeS.mono _ _ _)
      | (with_reducible exact laws_eqIntS.mono _ _ _)
      | (with_reducible exact laws_heldIntS.mono _ _ _)
      | (with_reducible exact laws_markCommitteeS.mono _ _ _)
      | (with_reducible exact laws_markIntS.mono _ _ _)
      | (with_reducible exact laws_szCommitteeS.mono _ _ _)
      | (with_reducible exact laws_toCommitteeS.mono _ _)
      | (with_reducible exact spec_NeedlessChambers.mono _ _)
      | (with_reducible exact LeO.refl _)
      | (with_reducible exact LeO.none _)
      | (with_reducible refine LeO.ite ?_ ?_)
      | (with_reducible refine LeO.bind ?_ (fun _ => ?_))
      | exact impl_NeedlessChambers.mono _ _
      | exact laws_eqCommitteeS.mono _ _ _
      | exact laws_eqIntS.mono _ _ _
      | exact laws_heldIntS.mono _ _ _
      | exact laws_markCommitteeS.mono _ _ _
      | exact laws_markIntS.mono _ _ _
      | exact laws_szCommitteeS.mono _ _ _
      | exact laws_toCommitteeS.mono _ _
      | exact spec_NeedlessChambers.mono _ _
      | exact LeO.none _
      | refine LeO.ite ?_ ?_
      | refine LeO.bind ?_ (fun _ => ?_)
set_option maxHeartbeats 8000000 in
set_option maxRecDepth 100000 in
theorem laws_FnExactNeedlessChambers.calls (k : Nat) (A0 : Option Addr) (c0 : Nat) (l0 : List (S_laws_Committee)) (r : Bool) (w : World) (hr0 : Kd.C k_laws_Committee w A0 l0.length l0) (hc0 : l0.length ≤ c0) (hr_ : Aside0 (r = true)) (h : laws_FnExactNeedlessChambers.f k l0 = some r) :
    Calls Try.prog 5 #[.slice A0 l0.length c0] w fun e w' => e = .returned (.bool r) ∧ Below w.heap.size w w' := by
  have HR0 := Aside0.mk hr0
  have HC0 := Aside0.mk hc0
  clear hr0 hc0
  have HB := Aside0.mk (Below.refl w.heap.size w)
  have H : ((laws_szCommitteeS.f k l0 1048576).bind fun t514 => (if t514 < 0 then (some true) else ((laws_toCommitteeS.f k l0).bind fun t515 => ((spec_NeedlessChambers.f k t515).bind fun bt518 => ((laws_toCommitteeS.f k l0).bind fun t522 => ((impl_NeedlessChambers.f k t522).bind fun bt525 => ((laws_eqIntS.f k bt525.1 bt518.1).bind fun t529 => (if t529 = true then (if (bt525.2 != bt518.2) = true then (some false) else ((laws_toCommitteeS.f k l0).bind fun t530 => ((laws_eqCommitteeS.f k t522 t530).bind fun t533 => (if t533 = true then ((laws_markCommitteeS.f k t522 1).bind fun bt534 => (if bt534.1 < 0 then (some false) else ((laws_eqIntS.f k bt525.1 bt518.1).bind fun t536 => (if t536 = true then ((laws_markIntS.f k bt525.1 1).bind fun bt537 => ((laws_heldIntS.f k bt537.2 1).bind fun t539 => (if t539 < 0 then (some false) else (if t539 = bt537.1 then ((laws_toCommitteeS.f k l0).bind fun t540 => ((impl_NeedlessChambers.f k t540).bind fun bt543 => ((laws_eqIntS.f k bt543.1 bt518.1).bind fun t547 => (if t547 = true then (if (bt543.2 != bt518.2) = true then (some false) else ((laws_heldIntS.f k bt537.2 1).bind fun t548 => (if t548 < 0 then (some false) else (if t548 = bt537.1 then (some true) else (some false))))) else (some false))))) else (some false))))) else (some false))))) else (some false))))) else (some false))))))))) = some r := h
  clear h
  replace H := Option.bind_eq_some_iff.mp H
  obtain ⟨t514, A20, H⟩ := H
  replace H : (if t514 < 0 then (some true) else ((laws_toCommitteeS.f k l0).bind fun t515 => ((spec_NeedlessChambers.f k t515).bind fun bt518 => ((laws_toCommitteeS.f k l0).bind fun t522 => ((impl_NeedlessChambers.f k t522).bind fun bt525 => ((laws_eqIntS.f k bt525.1 bt518.1).bind fun t529 => (if t529 = true then (if (bt525.2 != bt518.2) = true then (some false) else ((laws_toCommitteeS.f k l0).bind fun t530 => ((laws_eqCommitteeS.f k t522 t530).bind fun t533 => (if t533 = true then ((laws_markCommitteeS.f k t522 1).bind fun bt534 => (if bt534.1 < 0 then (some false) else ((laws_eqIntS.f k bt525.1 bt518.1).bind fun t536 => (if t536 = true then ((laws_markIntS.f k bt525.1 1).bind fun bt537 => ((laws_heldIntS.f k bt537.2 1).bind fun t539 => (if t539 < 0 then (some false) else (if t539 = bt537.1 then ((laws_toCommitteeS.f k l0).bind fun t540 => ((impl_NeedlessChambers.f k t540).bind fun bt543 => ((laws_eqIntS.f k bt543.1 bt518.1).bind fun t547 => (if t547 = true then (if (bt543.2 != bt518.2) = true then (some false) else ((laws_heldIntS.f k bt537.2 1).bind fun t548 => (if t548 < 0 then (some false) else (if t548 = bt537.1 then (some true) else (some false))))) else (some false))))) else (some false))))) else (some false))))) else (some false))))) else (some false)))))))) = some r := H
  have A2 := Aside0.mk A20
  clear A20
  by_cases c3 : t514 < 0
  · rw [if_pos c3] at H
    have c3b0 : decide (t514 < 0) = true := decide_eq_true c3
    clear c3
    obtain rfl := Option.some.inj H
    go_enter Try.func5, Try.ntmps5
    go_wp2_with (first | ((with_reducible refine gate_callee (f := 22) rfl ?_); refine goesL_ (some 16) rfl rfl Try.func22 (by kernel_rfl) rfl #[.slice A0 l0.length c0, .int .i64 1048576] rfl (by (try simp only [List.map_toArray, List.map_cons, List.map_nil]); first | done | rfl | (simp only [List.length_drop, List.length_take]; rfl)) ?_; (with_reducible refine (laws_szCommitteeS.calls k _ _ l0 1048576 t514 _ ?side1 ?side2 A2.out).mono ?_); (case side1 => repeat (first | exact HR0.out | (with_reducible refine Kd.C_alloc ?_ _) | (with_reducible refine Kd.C_drewN ?_ _) | (with_reducible refine Kd.C_drew ?_))); (case side2 => exact HC0.out); rintro e w4 ⟨rfl, hb⟩; refine ⟨_, rfl, ?_⟩; have n0_ := Aside0.mk (below_step (by repeat (first | (with_reducible first | exact HB.out | apply below_alloc | apply pw_below_drewN | apply below_drew1) | exact HB.out)) hb); clear HB; have HB := n0_; clear n0_; (try clear hb); (try clear hb2); (try clear hk); (try clear hi)))
    go_ret
    exact ⟨by first | rfl | (simp [errW_none, errW_some] <;> rfl) | (simp [*, errW_none, errW_some] <;> rfl), by repeat (first | (with_reducible first | exact HB.out | apply below_alloc | apply pw_below_drewN | apply below_drew1) | exact HB.out)⟩
  · rw [if_neg c3] at H
    have c3b0 : decide (t514 < 0) = false := decide_eq_false c3
    clear c3
    replace H := Option.bind_eq_some_iff.mp H
    obtain ⟨t515, A50, H⟩ := H
    replace H : ((spec_NeedlessChambers.f k t515).bind fun bt518 => ((laws_toCommitteeS.f k l0).bind fun t522 => ((impl_NeedlessChambers.f k t522).bind fun bt525 => ((laws_eqIntS.f k bt525.1 bt518.1).bind fun t529 => (if t529 = true then (if (bt525.2 != bt518.2) = true then (some false) else ((laws_toCommitteeS.f k l0).bind fun t530 => ((laws_eqCommitteeS.f k t522 t530).bind fun t533 => (if t533 = true then ((laws_markCommitteeS.f k t522 1).bind fun bt534 => (if bt534.1 < 0 then (some false) else ((laws_eqIntS.f k bt525.1 bt518.1).bind fun t536 => (if t536 = true then ((laws_markIntS.f k bt525.1 1).bind fun bt537 => ((laws_heldIntS.f k bt537.2 1).bind fun t539 => (if t539 < 0 then (some false) else (if t539 = bt537.1 then ((laws_toCommitteeS.f k l0).bind fun t540 => ((impl_NeedlessChambers.f k t540).bind fun bt543 => ((laws_eqIntS.f k bt543.1 bt518.1).bind fun t547 => (if t547 = true then (if (bt543.2 != bt518.2) = true then (some false) else ((laws_heldIntS.f k bt537.2 1).bind fun t548 => (if t548 < 0 then (some false) else (if t548 = bt537.1 then (some true) else (some false))))) else (some false))))) else (some false))))) else (some false))))) else (some false))))) else (some false)))))) = some r := H
    have A5 := Aside0.mk A50
    clear A50
    replace H := Option.bind_eq_some_iff.mp H
    obtain ⟨⟨t518, t521⟩, A60, H⟩ := H
    replace H : ((laws_toCommitteeS.f k l0).bind fun t522 => ((impl_NeedlessChambers.f k t522).bind fun bt525 => ((laws_eqIntS.f k bt525.1 t518).bind fun t529 => (if t529 = true then (if (bt525.2 != t521) = true then (some false) else ((laws_toCommitteeS.f k l0).bind fun t530 => ((laws_eqCommitteeS.f k t522 t530).bind fun t533 => (if t533 = true then ((laws_markCommitteeS.f k t522 1).bind fun bt534 => (if bt534.1 < 0 then (some false) else ((laws_eqIntS.f k bt525.1 t518).bind fun t536 => (if t536 = true then ((laws_markIntS.f k bt525.1 1).bind fun bt537 => ((laws_heldIntS.f k bt537.2 1).bind fun t539 => (if t539 < 0 then (some false) else (if t539 = bt537.1 then ((laws_toCommitteeS.f k l0).bind fun t540 => ((impl_NeedlessChambers.f k t540).bind fun bt543 => ((laws_eqIntS.f k bt543.1 t518).bind fun t547 => (if t547 = true then (if (bt543.2 != t521) = true then (some false) else ((laws_heldIntS.f k bt537.2 1).bind fun t548 => (if t548 < 0 then (some false) else (if t548 = bt537.1 then (some true) else (some false))))) else (some false))))) else (some false))))) else (some false))))) else (some false))))) else (some false))))) = some r := H
    have A6 := Aside0.mk A60
    clear A60
    replace H := Option.bind_eq_some_iff.mp H
    obtain ⟨t522, A70, H⟩ := H
    replace H : ((impl_NeedlessChambers.f k t522).bind fun bt525 => ((laws_eqIntS.f k bt525.1 t518).bind fun t529 => (if t529 = true then (if (bt525.2 != t521) = true then (some false) else ((laws_toCommitteeS.f k l0).bind fun t530 => ((laws_eqCommitteeS.f k t522 t530).bind fun t533 => (if t533 = true then ((laws_markCommitteeS.f k t522 1).bind fun bt534 => (if bt534.1 < 0 then (some false) else ((laws_eqIntS.f k bt525.1 t518).bind fun t536 => (if t536 = true then ((laws_markIntS.f k bt525.1 1).bind fun bt537 => ((laws_heldIntS.f k bt537.2 1).bind fun t539 => (if t539 < 0 then (some false) else (if t539 = bt537.1 then ((laws_toCommitteeS.f k l0).bind fun t540 => ((impl_NeedlessChambers.f k t540).bind fun bt543 => ((laws_eqIntS.f k bt543.1 t518).bind fun t547 => (if t547 = true then (if (bt543.2 != t521) = true then (some false) else ((laws_heldIntS.f k bt537.2 1).bind fun t548 => (if t548 < 0 then (some false) else (if t548 = bt537.1 then (some true) else (some false))))) else (some false))))) else (some false))))) else (some false))))) else (some false))))) else (some false)))) = some r := H
    have A7 := Aside0.mk A70
    clear A70
    replace H := Option.bind_eq_some_iff.mp H
    obtain ⟨⟨t525, t526⟩, A80, H⟩ := H
    replace H : ((laws_eqIntS.f k t525 t518).bind fun t529 => (if t529 = true then (if (t526 != t521) = true then (some false) else ((laws_toCommitteeS.f k l0).bind fun t530 => ((laws_eqCommitteeS.f k t522 t530).bind fun t533 => (if t533 = true then ((laws_markCommitteeS.f k t522 1).bind fun bt534 => (if bt534.1 < 0 then (some false) else ((laws_eqIntS.f k t525 t518).bind fun t536 => (if t536 = true then ((laws_markIntS.f k t525 1).bind fun bt537 => ((laws_heldIntS.f k bt537.2 1).bind fun t539 => (if t539 < 0 then (some false) else (if t539 = bt537.1 then ((laws_toCommitteeS.f k l0).bind fun t540 => ((impl_NeedlessChambers.f k t540).bind fun bt543 => ((laws_eqIntS.f k bt543.1 t518).bind fun t547 => (if t547 = true then (if (bt543.2 != t521) = true then (some false) else ((laws_heldIntS.f k bt537.2 1).bind fun t548 => (if t548 < 0 then (some false) else (if t548 = bt537.1 then (some true) else (some false))))) else (some false))))) else (some false))))) else (some false))))) else (some false))))) else (some false))) = some r := H
    have A8 := Aside0.mk A80
    clear A80
    replace H := Option.bind_eq_some_iff.mp H
    obtain ⟨t529, A90, H⟩ := H
    replace H : (if t529 = true then (if (t526 != t521) = true then (some false) else ((laws_toCommitteeS.f k l0).bind fun t530 => ((laws_eqCommitteeS.f k t522 t530).bind fun t533 => (if t533 = true then ((laws_markCommitteeS.f k t522 1).bind fun bt534 => (if bt534.1 < 0 then (some false) else ((laws_eqIntS.f k t525 t518).bind fun t536 => (if t536 = true then ((laws_markIntS.f k t525 1).bind fun bt537 => ((laws_heldIntS.f k bt537.2 1).bind fun t539 => (if t539 < 0 then (some false) else (if t539 = bt537.1 then ((laws_toCommitteeS.f k l0).bind fun t540 => ((impl_NeedlessChambers.f k t540).bind fun bt543 => ((laws_eqIntS.f k bt543.1 t518).bind fun t547 => (if t547 = true then (if (bt543.2 != t521) = true then (some false) else ((laws_heldIntS.f k bt537.2 1).bind fun t548 => (if t548 < 0 then (some false) else (if t548 = bt537.1 then (some true) else (some false))))) else (some false))))) else (some false))))) else (some false))))) else (some false))))) else (some false)) = some r := H
    have A9 := Aside0.mk A90
    clear A90
    by_cases c10 : t529 = true
    · subst c10
      have H1 : (if (t526 != t521) = true then (some false) else ((laws_toCommitteeS.f k l0).bind fun t530 => ((laws_eqCommitteeS.f k t522 t530).bind fun t533 => (if t533 = true then ((laws_markCommitteeS.f k t522 1).bind fun bt534 => (if bt534.1 < 0 then (some false) else ((laws_eqIntS.f k t525 t518).bind fun t536 => (if t536 = true then ((laws_markIntS.f k t525 1).bind fun bt537 => ((laws_heldIntS.f k bt537.2 1).bind fun t539 => (if t539 < 0 then (some false) else (if t539 = bt537.1 then ((laws_toCommitteeS.f k l0).bind fun t540 => ((impl_NeedlessChambers.f k t540).bind fun bt543 => ((laws_eqIntS.f k bt543.1 t518).bind fun t547 => (if t547 = true then (if (bt543.2 != t521) = true then (some false) else ((laws_heldIntS.f k bt537.2 1).bind fun t548 => (if t548 < 0 then (some false) else (if t548 = bt537.1 then (some true) else (some false))))) else (some false))))) else (some false))))) else (some false))))) else (some false))))) = some r := by rw [if_pos rfl] at H; exact H
      clear H
      have H := H1
      clear H1
      by_cases c11 : (t526 != t521) = true
      · rw [if_pos c11] at H
        have c11b0 : (t526 != t521) = true := c11
        (try (have c11b1 : decide (t526 = t521) = false := by simpa using c11))
        (try (have c11b2 : (t526 == t521) = false := by simpa using c11))
        (try (have c11b3 : ¬ (t526 = t521) := by simpa using c11))
        clear c11
        exact absurd (H.trans (congrArg some hr_.out)) (by simp)
      · rw [if_neg c11] at H
        have c11b0 : (t526 != t521) = false := by simpa using c11
        (try (have c11b1 : decide (t526 = t521) = true := by simpa using c11))
        (try (have c11b2 : (t526 == t521) = true := by simpa using c11))
        clear c11
        replace H := Option.bind_eq_some_iff.mp H
        obtain ⟨t530, A120, H⟩ := H
        replace H : ((laws_eqCommitteeS.f k t522 t530).bind fun t533 => (if t533 = true then ((laws_markCommitteeS.f k t522 1).bind fun bt534 => (if bt534.1 < 0 then (some false) else ((laws_eqIntS.f k t525 t518).bind fun t536 => (if t536 = true then ((laws_markIntS.f k t525 1).bind fun bt537 => ((laws_heldIntS.f k bt537.2 1).bind fun t539 => (if t539 < 0 then (some false) else (if t539 = bt537.1 then ((laws_toCommitteeS.f k l0).bind fun t540 => ((impl_NeedlessChambers.f k t540).bind fun bt543 => ((laws_eqIntS.f k bt543.1 t518).bind fun t547 => (if t547 = true then (if (bt543.2 != t521) = true then (some false) else ((laws_heldIntS.f k bt537.2 1).bind fun t548 => (if t548 < 0 then (some false) else (if t548 = bt537.1 then (some true) else (some false))))) else (some false))))) else (some false))))) else (some false))))) else (some false))) = some r := H
        have A12 := Aside0.mk A120
        clear A120
        replace H := Option.bind_eq_some_iff.mp H
        obtain ⟨t533, A130, H⟩ := H
        replace H : (if t533 = true then ((laws_markCommitteeS.f k t522 1).bind fun bt534 => (if bt534.1 < 0 then (some false) else ((laws_eqIntS.f k t525 t518).bind fun t536 => (if t536 = true then ((laws_markIntS.f k t525 1).bind fun bt537 => ((laws_heldIntS.f k bt537.2 1).bind fun t539 => (if t539 < 0 then (some false) else (if t539 = bt537.1 then ((laws_toCommitteeS.f k l0).bind fun t540 => ((impl_NeedlessChambers.f k t540).bind fun bt543 => ((laws_eqIntS.f k bt543.1 t518).bind fun t547 => (if t547 = true then (if (bt543.2 != t521) = true then (some false) else ((laws_heldIntS.f k bt537.2 1).bind fun t548 => (if t548 < 0 then (some false) else (if t548 = bt537.1 then (some true) else (some false))))) else (some false))))) else (some false))))) else (some false))))) else (some false)) = some r := H
        have A13 := Aside0.mk A130
        clear A130
        by_cases c14 : t533 = true
        · subst c14
          have H1 : ((laws_markCommitteeS.f k t522 1).bind fun bt534 => (if bt534.1 < 0 then (some false) else ((laws_eqIntS.f k t525 t518).bind fun t536 => (if t536 = true then ((laws_markIntS.f k t525 1).bind fun bt537 => ((laws_heldIntS.f k bt537.2 1).bind fun t539 => (if t539 < 0 then (some false) else (if t539 = bt537.1 then ((laws_toCommitteeS.f k l0).bind fun t540 => ((impl_NeedlessChambers.f k t540).bind fun bt543 => ((laws_eqIntS.f k bt543.1 t518).bind fun t547 => (if t547 = true then (if (bt543.2 != t521) = true then (some false) else ((laws_heldIntS.f k bt537.2 1).bind fun t548 => (if t548 < 0 then (some false) else (if t548 = bt537.1 then (some true) else (some false))))) else (some false))))) else (some false))))) else (some false))))) = some r := by rw [if_pos rfl] at H; exact H
          clear H
          have H := H1
          clear H1
          replace H := Option.bind_eq_some_iff.mp H
          obtain ⟨⟨t534, t535⟩, A150, H⟩ := H
          replace H : (if t534 < 0 then (some false) else ((laws_eqIntS.f k t525 t518).bind fun t536 => (if t536 = true then ((laws_markIntS.f k t525 1).bind fun bt537 => ((laws_heldIntS.f k bt537.2 1).bind fun t539 => (if t539 < 0 then (some false) else (if t539 = bt537.1 then ((laws_toCommitteeS.f k l0).bind fun t540 => ((impl_NeedlessChambers.f k t540).bind fun bt543 => ((laws_eqIntS.f k bt543.1 t518).bind fun t547 => (if t547 = true then (if (bt543.2 != t521) = true then (some false) else ((laws_heldIntS.f k bt537.2 1).bind fun t548 => (if t548 < 0 then (some false) else (if t548 = bt537.1 then (some true) else (some false))))) else (some false))))) else (some false))))) else (some false)))) = some r := H
          have A15 := Aside0.mk A150
          clear A150
          by_cases c16 : t534 < 0
          · rw [if_pos c16] at H
            have c16b0 : decide (t534 < 0) = true := decide_eq_true c16
            clear c16
            exact absurd (H.trans (congrArg some hr_.out)) (by simp)
          · rw [if_neg c16] at H
            have c16b0 : decide (t534 < 0) = false := decide_eq_false c16
            clear c16
            replace H := Option.bind_eq_some_iff.mp H
            obtain ⟨t536, A170, H⟩ := H
            replace H : (if t536 = true then ((laws_markIntS.f k t525 1).bind fun bt537 => ((laws_heldIntS.f k bt537.2 1).bind fun t539 => (if t539 < 0 then (some false) else (if t539 = bt537.1 then ((laws_toCommitteeS.f k l0).bind fun t540 => ((impl_NeedlessChambers.f k t540).bind fun bt543 => ((laws_eqIntS.f k bt543.1 t518).bind fun t547 => (if t547 = true then (if (bt543.2 != t521) = true then (some false) else ((laws_heldIntS.f k bt537.2 1).bind fun t548 => (if t548 < 0 then (some false) else (if t548 = bt537.1 then (some true) else (some false))))) else (some false))))) else (some false))))) else (some false)) = some r := H
            have A17 := Aside0.mk A170
            clear A170
            by_cases c18 : t536 = true
            · subst c18
              have H1 : ((laws_markIntS.f k t525 1).bind fun bt537 => ((laws_heldIntS.f k bt537.2 1).bind fun t539 => (if t539 < 0 then (some false) else (if t539 = bt537.1 then ((laws_toCommitteeS.f k l0).bind fun t540 => ((impl_NeedlessChambers.f k t540).bind fun bt543 => ((laws_eqIntS.f k bt543.1 t518).bind fun t547 => (if t547 = true then (if (bt543.2 != t521) = true then (some false) else ((laws_heldIntS.f k bt537.2 1).bind fun t548 => (if t548 < 0 then (some false) else (if t548 = bt537.1 then (some true) else (some false))))) else (some false))))) else (some false))))) = some r := by rw [if_pos rfl] at H; exact H
              clear H
              have H := H1
              clear H1
              replace H := Option.bind_eq_some_iff.mp H
              obtain ⟨⟨t537, t538⟩, A190, H⟩ := H
              replace H : ((laws_heldIntS.f k t538 1).bind fun t539 => (if t539 < 0 then (some false) else (if t539 = t537 then ((laws_toCommitteeS.f k l0).bind fun t540 => ((impl_NeedlessChambers.f k t540).bind fun bt543 => ((laws_eqIntS.f k bt543.1 t518).bind fun t547 => (if t547 = true then (if (bt543.2 != t521) = true then (some false) else ((laws_heldIntS.f k t538 1).bind fun t548 => (if t548 < 0 then (some false) else (if t548 = t537 then (some true) else (some false))))) else (some false))))) else (some false)))) = some r := H
              have A19 := Aside0.mk A190
              clear A190
              replace H := Option.bind_eq_some_iff.mp H
              obtain ⟨t539, A200, H⟩ := H
              replace H : (if t539 < 0 then (some false) else (if t539 = t537 then ((laws_toCommitteeS.f k l0).bind fun t540 => ((impl_NeedlessChambers.f k t540).bind fun bt543 => ((laws_eqIntS.f k bt543.1 t518).bind fun t547 => (if t547 = true then (if (bt543.2 != t521) = true then (some false) else ((laws_heldIntS.f k t538 1).bind fun t548 => (if t548 < 0 then (some false) else (if t548 = t537 then (some true) else (some false))))) else (some false))))) else (some false))) = some r := H
              have A20 := Aside0.mk A200
              clear A200
              by_cases c21 : t539 < 0
              · rw [if_pos c21] at H
                have c21b0 : decide (t539 < 0) = true := decide_eq_true c21
                clear c21
                exact absurd (H.trans (congrArg some hr_.out)) (by simp)
              · rw [if_neg c21] at H
                have c21b0 : decide (t539 < 0) = false := decide_eq_false c21
                clear c21
                by_cases c22 : t539 = t537
                · rw [if_pos c22] at H
                  have c22b0 : (t539 == t537) = true := beq_iff_eq.mpr c22
                  have c22b1 : (t539 != t537) = false := bne_eq_false_iff_eq.mpr c22
                  clear c22
                  replace H := Option.bind_eq_some_iff.mp H
                  obtain ⟨t540, A230, H⟩ := H
                  replace H : ((impl_NeedlessChambers.f k t540).bind fun bt543 => ((laws_eqIntS.f k bt543.1 t518).bind fun t547 => (if t547 = true then (if (bt543.2 != t521) = true then (some false) else ((laws_heldIntS.f k t538 1).bind fun t548 => (if t548 < 0 then (some false) else (if t548 = t537 then (some true) else (some false))))) else (some false)))) = some r := H
                  have A23 := Aside0.mk A230
                  clear A230
                  replace H := Option.bind_eq_some_iff.mp H
                  obtain ⟨⟨t543, t544⟩, A240, H⟩ := H
                  replace H : ((laws_eqIntS.f k t543 t518).bind fun t547 => (if t547 = true then (if (t544 != t521) = true then (some false) else ((laws_heldIntS.f k t538 1).bind fun t548 => (if t548 < 0 then (some false) else (if t548 = t537 then (some true) else (some false))))) else (some false))) = some r := H
                  have A24 := Aside0.mk A240
                  clear A240
                  replace H := Option.bind_eq_some_iff.mp H
                  obtain ⟨t547, A250, H⟩ := H
                  replace H : (if t547 = true then (if (t544 != t521) = true then (some false) else ((laws_heldIntS.f k t538 1).bind fun t548 => (if t548 < 0 then (some false) else (if t548 = t537 then (some true) else (some false))))) else (some false)) = some r := H
                  have A25 := Aside0.mk A250
                  clear A250
                  by_cases c26 : t547 = true
                  · subst c26
                    have H1 : (if (t544 != t521) = true then (some false) else ((laws_heldIntS.f k t538 1).bind fun t548 => (if t548 < 0 then (some false) else (if t548 = t537 then (some true) else (some false))))) = some r := by rw [if_pos rfl] at H; exact H
                    clear H
                    have H := H1
                    clear H1
                    by_cases c27 : (t544 != t521) = true
                    · rw [if_pos c27] at H
                      have c27b0 : (t544 != t521) = true := c27
                      (try (have c27b1 : decide (t544 = t521) = false := by simpa using c27))
                      (try (have c27b2 : (t544 == t521) = false := by simpa using c27))
                      (try (have c27b3 : ¬ (t544 = t521) := by simpa using c27))
                      clear c27
                      exact absurd (H.trans (congrArg some hr_.out)) (by simp)
                    · rw [if_neg c27] at H
                      have c27b0 : (t544 != t521) = false := by simpa using c27
                      (try (have c27b1 : decide (t544 = t521) = true := by simpa using c27))
                      (try (have c27b2 : (t544 == t521) = true := by simpa using c27))
                      clear c27
                      replace H := Option.bind_eq_some_iff.mp H
                      obtain ⟨t548, A280, H⟩ := H
                      replace H : (if t548 < 0 then (some false) else (if t548 = t537 then (some true) else (some false))) = some r := H
                      have A28 := Aside0.mk A280
                      clear A280
                      by_cases c29 : t548 < 0
                      · rw [if_pos c29] at H
                        have c29b0 : decide (t548 < 0) = true := decide_eq_true c29
                        clear c29
                        exact absurd (H.trans (congrArg some hr_.out)) (by simp)
                      · rw [if_neg c29] at H
                        have c29b0 : decide (t548 < 0) = false := decide_eq_false c29
                        clear c29
                        by_cases c30 : t548 = t537
                        · rw [if_pos c30] at H
                          have c30b0 : (t548 == t537) = true := beq_iff_eq.mpr c30
                          have c30b1 : (t548 != t537) = false := bne_eq_false_iff_eq.mpr c30
                          clear c30
                          obtain rfl := Option.some.inj H
                          go_enter Try.func5, Try.ntmps5
                          go_wp2_with (first | ((with_reducible refine gate_callee (f := 22) rfl ?_); refine goesL_ (some 16) rfl rfl Try.func22 (by kernel_rfl) rfl #[.slice A0 l0.length c0, .int .i64 1048576] rfl (by (try simp only [List.map_toArray, List.map_cons, List.map_nil]); first | done | rfl | (simp only [List.length_drop, List.length_take]; rfl)) ?_; (with_reducible refine (laws_szCommitteeS.calls k _ _ l0 1048576 t514 _ ?side1 ?side2 A2.out).mono ?_); (case side1 => repeat (first | exact HR0.out | (with_reducible refine Kd.C_alloc ?_ _) | (with_reducible refine Kd.C_drewN ?_ _) | (with_reducible refine Kd.C_drew ?_))); (case side2 => exact HC0.out); rintro e w31 ⟨rfl, hb⟩; refine ⟨_, rfl, ?_⟩; have n0_ := Aside0.mk (below_step (by repeat (first | (with_reducible first | exact HB.out | apply below_alloc | apply pw_below_drewN | apply below_drew1) | exact HB.out)) hb); clear HB; have HB := n0_; clear n0_; (try clear hb); (try clear hb2); (try clear hk); (try clear hi)) | ((with_reducible refine gate_callee (f := 24) rfl ?_); refine goesL_ (some 21) rfl rfl Try.func24 (by kernel_rfl) rfl #[.slice A0 l0.length c0] rfl (by (try simp only [List.map_toArray, List.map_cons, List.map_nil]); first | done | rfl | (simp only [List.length_drop, List.length_take]; rfl)) ?_; (with_reducible refine (laws_toCommitteeS.calls k _ _ l0 t515 _ ?side1 ?side2 A5.out).mono ?_); (case side1 => repeat (first | exact (Kd.C_below HR0.out HB.out) | (with_reducible refine Kd.C_alloc ?_ _) | (with_reducible refine Kd.C_drewN ?_ _) | (with_reducible refine Kd.C_drew ?_))); (case side2 => exact HC0.out); rintro e w32 ⟨v516, rfl, ho0, hb⟩; refine ⟨_, rfl, ?_⟩; obtain ⟨NL33, eNL33, ho0⟩ := S_split ho0; have n0_ := Aside0.mk (Kd.S_lower ho0 (below_size (by repeat (first | (with_reducible first | exact HB.out | apply below_alloc | apply pw_below_drewN | apply below_drew1) | exact HB.out)))); have n1_ := Aside0.mk (below_step (by repeat (first | (with_reducible first | exact HB.out | apply below_alloc | apply pw_below_drewN | apply below_drew1) | exact HB.out)) hb); clear HB; have HO517 := n0_; have HB := n1_; clear n0_ n1_; (try clear hb); (try clear hb2); (try clear hk); (try clear hi); (try clear ho0); (try clear eNL33); obtain ⟨Ao34, co34, eo34⟩ := Kd.S_slice HO517.out; subst eo34) | ((with_reducible refine gate_callee (f := 31) rfl ?_); refine goesL_ (some 22) rfl rfl Try.func31 (by kernel_rfl) rfl #[.slice Ao34 t515.length co34] rfl (by (try simp only [List.map_toArray, List.map_cons, List.map_nil]); first | done | rfl | (simp only [List.length_drop, List.length_take]; rfl)) ?_; (with_reducible refine (spec_NeedlessChambers.calls k (fun k_ => NL33 ≤ k_) _ _ t515 t518 t521 _ ?side1 A6.out).mono ?_); (case side1 => exact Kd.S_V (HO517.out)); rintro e w35 ⟨v519, rfl, ho0, hb⟩; refine ⟨_, rfl, ?_⟩; have n0_ := Aside0.mk (Kd.S_elder' (by (with_reducible repeat (first | apply Kd.S_alloc | apply Kd.S_drewN | apply Kd.S_drew)); exact HO517.out) (Kd.R_base ho0) hb); have n1_ := Aside0.mk (Kd.R_lower (Kd.R_mono (ok' := fun k_ => True) ho0 (fun _ hk_ => trivial)) (below_size (by repeat (first | (with_reducible first | exact HB.out | apply below_alloc | apply pw_below_drewN | apply below_drew1) | exact HB.out)))); have n2_ := Aside0.mk (below_step (by repeat (first | (with_reducible first | exact HB.out | apply below_alloc | apply pw_below_drewN | apply below_drew1) | exact HB.out)) hb); clear HO517; clear HB; have HO517 := n0_; have HO520 := n1_; have HB := n2_; clear n0_ n1_ n2_; (try clear hb); (try clear hb2); (try clear hk); (try clear hi); (try clear ho0)) | ((with_reducible refine gate_callee (f := 24) rfl ?_); refine goesL_ (some 26) rfl rfl Try.func24 (by kernel_rfl) rfl #[.slice A0 l0.length c0] rfl (by (try simp only [List.map_toArray, List.map_cons, List.map_nil]); first | done | rfl | (simp only [List.length_drop, List.length_take]; rfl)) ?_; (with_reducible refine (laws_toCommitteeS.calls k _ _ l0 t522 _ ?side1 ?side2 A7.out).mono ?_); (case side1 => repeat (first | exact (Kd.C_below HR0.out HB.out) | (with_reducible refine Kd.C_alloc ?_ _) | (with_reducible refine Kd.C_drewN ?_ _) | (with_reducible refine Kd.C_drew ?_))); (case side2 => exact HC0.out); rintro e w36 ⟨v523, rfl, ho0, hb⟩; refine ⟨_, rfl, ?_⟩; obtain ⟨NL37, eNL37, ho0⟩ := S_split ho0; have n0_ := Aside0.mk (Kd.S_told (S_elderN (by (with_reducible repeat (first | apply Kd.S_alloc | apply Kd.S_drewN | apply Kd.S_drew)); exact HO517.out) hb eNL37) (fun k_ e_ => Nat.le_trans (Nat.le_of_eq eNL37) (Kd.S_base ho0 k_ e_))); have n1_ := Aside0.mk (Kd.R_below (by (with_reducible repeat (first | apply Kd.R_alloc | apply Kd.R_drewN | apply Kd.R_drew)); exact HO520.out) hb); have n2_ := Aside0.mk (Kd.S_lower (Kd.S_new' (Kd.S_new' ho0 (Kd.S_lt (by (with_reducible repeat (first | apply Kd.S_alloc | apply Kd.S_drewN | apply Kd.S_drew)); exact HO517.out))) (Kd.R_lt (by (with_reducible repeat (first | apply Kd.R_alloc | apply Kd.R_drewN | apply Kd.R_drew)); exact HO520.out))) (below_size (by repeat (first | (with_reducible first | exact HB.out | apply below_alloc | apply pw_below_drewN | apply below_drew1) | exact HB.out)))); have n3_ := Aside0.mk (below_step (by repeat (first | (with_reducible first | exact HB.out | apply below_alloc | apply pw_below_drewN | apply below_drew1) | exact HB.out)) hb); clear HO517; clear HO520; clear HB; have HO517 := n0_; have HO520 := n1_; have HO524 := n2_; have HB := n3_; clear n0_ n1_ n2_ n3_; (try clear hb); (try clear hb2); (try clear hk); (try clear hi); (try clear ho0); (try clear eNL37); obtain ⟨Ao38, co38, eo38⟩ := Kd.S_slice HO524.out; subst eo38) | ((with_reducible refine gate_callee (f := 32) rfl ?_); refine goesL_ (some 29) rfl rfl Try.func32 (by kernel_rfl) rfl #[.slice Ao38 t522.length co38] rfl (by (try simp only [List.map_toArray, List.map_cons, List.map_nil]); first | done | rfl | (simp only [List.length_drop, List.length_take]; rfl)) ?_; (with_reducible refine (impl_NeedlessChambers.calls k _ _ t522 t525 t526 _ ?side1 ?side2 A8.out).mono ?_); (case side1 => repeat (first | exact (Kd.S_reads' HO524.out).2.2 | (with_reducible refine Kd.C_alloc ?_ _) | (with_reducible refine Kd.C_drewN ?_ _) | (with_reducible refine Kd.C_drew ?_))); (case side2 => exact (Kd.S_reads' HO524.out).2.1); rintro e w39 ⟨v527, rfl, ho0, hb⟩; refine ⟨_, rfl, ?_⟩; have n0_ := Aside0.mk (Kd.S_elder' (by (with_reducible repeat (first | apply Kd.S_alloc | apply Kd.S_drewN | apply Kd.S_drew)); exact HO517.out) (Kd.R_base ho0) hb); have n1_ := Aside0.mk (Kd.R_elder' (by (with_reducible repeat (first | apply Kd.R_alloc | apply Kd.R_drewN | apply Kd.R_drew)); exact HO520.out) (Kd.R_base ho0) hb); have n2_ := Aside0.mk (Kd.S_elder' (by (with_reducible repeat (first | apply Kd.S_alloc | apply Kd.S_drewN | apply Kd.S_drew)); exact HO524.out) (Kd.R_base ho0) hb); have n3_ := Aside0.mk (Kd.R_lower (Kd.R_new' ho0 (Kd.R_lt (by (with_reducible repeat (first | apply Kd.R_alloc | apply Kd.R_drewN | apply Kd.R_drew)); exact HO520.out))) (below_size (by repeat (first | (with_reducible first | exact HB.out | apply below_alloc | apply pw_below_drewN | apply below_drew1) | exact HB.out)))); have n4_ := Aside0.mk (below_step (by repeat (first | (with_reducible first | exact HB.out | apply below_alloc | apply pw_below_drewN | apply below_drew1) | exact HB.out)) hb); clear HO517; clear HO520; clear HO524; clear HB; have HO517 := n0_; have HO520 := n1_; have HO524 := n2_; have HO528 := n3_; have HB := n4_; clear n0_ n1_ n2_ n3_ n4_; (try clear hb); (try clear hb2); (try clear hk); (try clear hi); (try clear ho0); obtain ⟨Ao40, co40, eo40⟩ := Kd.R_slice HO528.out; subst eo40; obtain ⟨Ao41, co41, eo41⟩ := Kd.R_slice HO520.out; subst eo41) | ((with_reducible refine gate_callee (f := 33) rfl ?_); refine goesL_ (some 34) rfl rfl Try.func33 (by kernel_rfl) rfl #[.slice Ao40 t525.length co40, .slice Ao41 t518.length co41] rfl (by (try simp only [List.map_toArray, List.map_cons, List.map_nil]); first | done | rfl | (simp only [List.length_drop, List.length_take]; rfl)) ?_; (with_reducible refine (laws_eqIntS.calls k _ _ t525 _ _ t518 true _ ?side1 ?side2 ?side3 ?side4 A9.out).mono ?_); (case side1 => repeat (first | exact (Kd.R_reads' HO528.out).2.2 | (with_reducible refine Kd.C_alloc ?_ _) | (with_reducible refine Kd.C_drewN ?_ _) | (with_reducible refine Kd.C_drew ?_))); (case side2 => exact (Kd.R_reads' HO528.out).2.1); (case side3 => repeat (first | exact (Kd.R_reads' HO520.out).2.2 | (with_reducible refine Kd.C_alloc ?_ _) | (with_reducible refine Kd.C_drewN ?_ _) | (with_reducible refine Kd.C_drew ?_))); (case side4 => exact (Kd.R_reads' HO520.out).2.1); rintro e w' ⟨rfl, ⟨nd, rfl⟩⟩; refine ⟨_, rfl, ?_⟩) | ((with_reducible refine gate_callee (f := 24) rfl ?_); refine goesL_ (some 43) rfl rfl Try.func24 (by kernel_rfl) rfl #[.slice A0 l0.length c0] rfl (by (try simp only [List.map_toArray, List.map_cons, List.map_nil]); first | done | rfl | (simp only [List.length_drop, List.length_take]; rfl)) ?_; (with_reducible refine (laws_toCommitteeS.calls k _ _ l0 t530 _ ?side1 ?side2 A12.out).mono ?_); (case side1 => repeat (first | exact (Kd.C_below HR0.out (by repeat (first | (with_reducible first | exact HB.out | apply below_alloc | apply pw_below_drewN | apply below_drew1) | exact HB.out))) | (with_reducible refine Kd.C_alloc ?_ _) | (with_reducible refine Kd.C_drewN ?_ _) | (with_reducible refine Kd.C_drew ?_))); (case side2 => exact HC0.out); rintro e w42 ⟨v531, rfl, ho0, hb⟩; refine ⟨_, rfl, ?_⟩; obtain ⟨NL43, eNL43, ho0⟩ := S_split ho0; have n0_ := Aside0.mk (Kd.S_told (S_elderN (by (with_reducible repeat (first | apply Kd.S_alloc | apply Kd.S_drewN | apply Kd.S_drew)); exact HO517.out) hb eNL43) (fun k_ e_ => Nat.le_trans (Nat.le_of_eq eNL43) (Kd.S_base ho0 k_ e_))); have n1_ := Aside0.mk (Kd.R_below (by (with_reducible repeat (first | apply Kd.R_alloc | apply Kd.R_drewN | apply Kd.R_drew)); exact HO520.out) hb); have n2_ := Aside0.mk (Kd.S_told (S_elderN (by (with_reducible repeat (first | apply Kd.S_alloc | apply Kd.S_drewN | apply Kd.S_drew)); exact HO524.out) hb eNL43) (fun k_ e_ => Nat.le_trans (Nat.le_of_eq eNL43) (Kd.S_base ho0 k_ e_))); have n3_ := Aside0.mk (Kd.R_below (by (with_reducible repeat (first | apply Kd.R_alloc | apply Kd.R_drewN | apply Kd.R_drew)); exact HO528.out) hb); have n4_ := Aside0.mk (Kd.S_lower (Kd.S_new' (Kd.S_new' (Kd.S_new' (Kd.S_new' ho0 (Kd.S_lt (by (with_reducible repeat (first | apply Kd.S_alloc | apply Kd.S_drewN | apply Kd.S_drew)); exact HO517.out))) (Kd.R_lt (by (with_reducible repeat (first | apply Kd.R_alloc | apply Kd.R_drewN | apply Kd.R_drew)); exact HO520.out))) (Kd.S_lt (by (with_reducible repeat (first | apply Kd.S_alloc | apply Kd.S_drewN | apply Kd.S_drew)); exact HO524.out))) (Kd.R_lt (by (with_reducible repeat (first | apply Kd.R_alloc | apply Kd.R_drewN | apply Kd.R_drew)); exact HO528.out))) (below_size (by repeat (first | (with_reducible first | exact HB.out | apply below_alloc | apply pw_below_drewN | apply below_drew1) | exact HB.out)))); have n5_ := Aside0.mk (below_step (by repeat (first | (with_reducible first | exact HB.out | apply below_alloc | apply pw_below_drewN | apply below_drew1) | exact HB.out)) hb); clear HO517; clear HO520; clear HO524; clear HO528; clear HB; have HO517 := n0_; have HO520 := n1_; have HO524 := n2_; have HO528 := n3_; have HO532 := n4_; have HB := n5_; clear n0_ n1_ n2_ n3_ n4_ n5_; (try clear hb); (try clear hb2); (try clear hk); (try clear hi); (try clear ho0); (try clear eNL43); obtain ⟨Ao44, co44, eo44⟩ := Kd.S_slice HO532.out; subst eo44) | ((with_reducible refine gate_callee (f := 27) rfl ?_); refine goesL_ (some 44) rfl rfl Try.func27 (by kernel_rfl) rfl #[.slice Ao38 t522.length co38, .slice Ao44 t530.length co44] rfl (by (try simp only [List.map_toArray, List.map_cons, List.map_nil]); first | done | rfl | (simp only [List.length_drop, List.length_take]; rfl)) ?_; (with_reducible refine (laws_eqCommitteeS.calls k _ _ t522 _ _ t530 true _ ?side1 ?side2 ?side3 ?side4 A13.out).mono ?_); (case side1 => repeat (first | exact (Kd.S_reads' HO524.out).2.2 | (with_reducible refine Kd.C_alloc ?_ _) | (with_reducible refine Kd.C_drewN ?_ _) | (with_reducible refine Kd.C_drew ?_))); (case side2 => exact (Kd.S_reads' HO524.out).2.1); (case side3 => repeat (first | exact (Kd.S_reads' HO532.out).2.2 | (with_reducible refine Kd.C_alloc ?_ _) | (with_reducible refine Kd.C_drewN ?_ _) | (with_reducible refine Kd.C_drew ?_))); (case side4 => exact (Kd.S_reads' HO532.out).2.1); rintro e w45 ⟨rfl, hb⟩; refine ⟨_, rfl, ?_⟩; have n0_ := Aside0.mk (Kd.S_below (by (with_reducible repeat (first | apply Kd.S_alloc | apply Kd.S_drewN | apply Kd.S_drew)); exact HO517.out) hb); have n1_ := Aside0.mk (Kd.R_below (by (with_reducible repeat (first | apply Kd.R_alloc | apply Kd.R_drewN | apply Kd.R_drew)); exact HO520.out) hb); have n2_ := Aside0.mk (Kd.S_below (by (with_reducible repeat (first | apply Kd.S_alloc | apply Kd.S_drewN | apply Kd.S_drew)); exact HO524.out) hb); have n3_ := Aside0.mk (Kd.R_below (by (with_reducible repeat (first | apply Kd.R_alloc | apply Kd.R_drewN | apply Kd.R_drew)); exact HO528.out) hb); have n4_ := Aside0.mk (Kd.S_below (by (with_reducible repeat (first | apply Kd.S_alloc | apply Kd.S_drewN | apply Kd.S_drew)); exact HO532.out) hb); have n5_ := Aside0.mk (below_step (by repeat (first | (with_reducible first | exact HB.out | apply below_alloc | apply pw_below_drewN | apply below_drew1) | exact HB.out)) hb); clear HO517; clear HO520; clear HO524; clear HO528; clear HO532; clear HB; have HO517 := n0_; have HO520 := n1_; have HO524 := n2_; have HO528 := n3_; have HO532 := n4_; have HB := n5_; clear n0_ n1_ n2_ n3_ n4_ n5_; (try clear hb); (try clear hb2); (try clear hk); (try clear hi)) | ((with_reducible refine gate_callee (f := 28) rfl ?_); refine goesL_ (some 48) rfl rfl Try.func28 (by kernel_rfl) rfl #[.slice Ao38 t522.length co38, .int .i64 1] rfl (by (try simp only [List.map_toArray, List.map_cons, List.map_nil]); first | done | rfl | (simp only [List.length_drop, List.length_take]; rfl)) ?_; (with_reducible refine (laws_markCommitteeS.calls k (fun k_ => (((((NL37 ≤ k_ ∧ some k_ ≠ (.slice Ao34 t515.length co34 : Value).ownBlock) ∧ some k_ ≠ (.slice Ao41 t518.length co41 : Value).ownBlock) ∧ some k_ ≠ (.slice Ao40 t525.length co40 : Value).ownBlock) ∧ some k_ ≠ (.slice Ao44 t530.length co44 : Value).ownBlock) ∧ k_ < NL43)) (.slice Ao38 t522.length co38) t522 1 t534 t535 w _ ?side1 ?side2 A15.out).mono ?_); (case side1 => repeat (first | (with_reducible first | exact HB.out | apply below_alloc | apply pw_below_drewN | apply below_drew1) | exact HB.out)); (case side2 => exact HO524.out); rintro e w46 ⟨rfl, hy0, hb, hkp⟩; refine ⟨_, rfl, ?_⟩; have n0_ := Aside0.mk (Kd.S_mono (ok' := fun k_ => some k_ ≠ (.slice Ao41 t518.length co41 : Value).ownBlock ∧ some k_ ≠ (.slice Ao38 t522.length co38 : Value).ownBlock ∧ some k_ ≠ (.slice Ao40 t525.length co40 : Value).ownBlock ∧ some k_ ≠ (.slice Ao44 t530.length co44 : Value).ownBlock ∧ NL33 ≤ k_ ∧ k_ < NL37 ∧ k_ < NL43) (Kd.S_keptB ((Kd.S_mono HO517.out (fun k_ hk => (⟨hk, fun hp_ => Nat.not_le.2 (hk.1.1.1.2) (hp_.1.1.1.1.1)⟩ : _ ∧ ¬ ((((((NL37 ≤ k_ ∧ some k_ ≠ (.slice Ao34 t515.length co34 : Value).ownBlock) ∧ some k_ ≠ (.slice Ao41 t518.length co41 : Value).ownBlock) ∧ some k_ ≠ (.slice Ao40 t525.length co40 : Value).ownBlock) ∧ some k_ ≠ (.slice Ao44 t530.length co44 : Value).ownBlock) ∧ k_ < NL43)))))) hkp (fun k_ hk_ hs_ => (hk_.2) hs_)) (fun k_ hk_ => ⟨hk_.1.1.1.1.1.1.1.2, hk_.1.1.1.1.1.1.2, hk_.1.1.1.1.2, hk_.1.1.1.2, hk_.1.1.1.1.1.1.1.1, hk_.1.1.1.1.1.2, hk_.1.1.2⟩)); have n1_ := Aside0.mk (Kd.R_mono (ok' := fun k_ => some k_ ≠ (.slice Ao40 t525.length co40 : Value).ownBlock) (Kd.R_keptB ((Kd.R_mono (Kd.R_tight2 rfl HO520.out) (fun k_ hk => (⟨hk.2, fun hp_ => (hp_.1.1.1.2) hk.1⟩ : _ ∧ ¬ ((((((NL37 ≤ k_ ∧ some k_ ≠ (.slice Ao34 t515.length co34 : Value).ownBlock) ∧ some k_ ≠ (.slice Ao41 t518.length co41 : Value).ownBlock) ∧ some k_ ≠ (.slice Ao40 t525.length co40 : Value).ownBlock) ∧ some k_ ≠ (.slice Ao44 t530.length co44 : Value).ownBlock) ∧ k_ < NL43)))))) hkp (fun k_ hk_ hs_ => (hk_.2) hs_)) (fun k_ hk_ => hk_.1.1.2)); have n2_ := Aside0.mk (Kd.S_mono (ok' := fun k_ => some k_ ≠ (.slice Ao34 t515.length co34 : Value).ownBlock ∧ some k_ ≠ (.slice Ao41 t518.length co41 : Value).ownBlock ∧ some k_ ≠ (.slice Ao40 t525.length co40 : Value).ownBlock ∧ some k_ ≠ (.slice Ao44 t530.length co44 : Value).ownBlock ∧ NL37 ≤ k_ ∧ k_ < NL43) hy0 (fun k_ hk_ => ⟨hk_.1.1.1.1.2, hk_.1.1.1.2, hk_.1.1.2, hk_.1.2, hk_.1.1.1.1.1, hk_.2⟩)); have n3_ := Aside0.mk (Kd.R_mono (ok' := fun k_ => some k_ ≠ (.slice Ao41 t518.length co41 : Value).ownBlock) (Kd.R_keptB ((Kd.R_mono (Kd.R_tight2 rfl HO528.out) (fun k_ hk => (⟨hk.2, fun hp_ => (hp_.1.1.2) hk.1⟩ : _ ∧ ¬ ((((((NL37 ≤ k_ ∧ some k_ ≠ (.slice Ao34 t515.length co34 : Value).ownBlock) ∧ some k_ ≠ (.slice Ao41 t518.length co41 : Value).ownBlock) ∧ some k_ ≠ (.slice Ao40 t525.length co40 : Value).ownBlock) ∧ some k_ ≠ (.slice Ao44 t530.length co44 : Value).ownBlock) ∧ k_ < NL43)))))) hkp (fun k_ hk_ hs_ => (hk_.2) hs_)) (fun k_ hk_ => hk_.1.1.2)); have n4_ := Aside0.mk (Kd.S_mono (ok' := fun k_ => some k_ ≠ (.slice Ao34 t515.length co34 : Value).ownBlock ∧ some k_ ≠ (.slice Ao41 t518.length co41 : Value).ownBlock ∧ some k_ ≠ (.slice Ao38 t522.length co38 : Value).ownBlock ∧ some k_ ≠ (.slice Ao40 t525.length co40 : Value).ownBlock ∧ NL43 ≤ k_) (Kd.S_keptB ((Kd.S_mono HO532.out (fun k_ hk => (⟨hk, fun hp_ => Nat.not_le.2 (hp_.2) (hk.1.1.1.1)⟩ : _ ∧ ¬ ((((((NL37 ≤ k_ ∧ some k_ ≠ (.slice Ao34 t515.length co34 : Value).ownBlock) ∧ some k_ ≠ (.slice Ao41 t518.length co41 : Value).ownBlock) ∧ some k_ ≠ (.slice Ao40 t525.length co40 : Value).ownBlock) ∧ some k_ ≠ (.slice Ao44 t530.length co44 : Value).ownBlock) ∧ k_ < NL43)))))) hkp (fun k_ hk_ hs_ => (hk_.2) hs_)) (fun k_ hk_ => ⟨hk_.1.1.1.1.1.2, hk_.1.1.1.1.2, hk_.1.1.1.2, hk_.1.1.2, hk_.1.1.1.1.1.1⟩)); have n5_ := Aside0.mk (hb); clear HO517; clear HO520; clear HO524; clear HO528; clear HO532; clear HB; have HO517 := n0_; have HO520 := n1_; have HO524 := n2_; have HO528 := n3_; have HO532 := n4_; have HB := n5_; clear n0_ n1_ n2_ n3_ n4_ n5_; (try clear hb); (try clear hkp); (try clear hy0)) | (go_at_call 33; (with_reducible refine (laws_eqIntS.calls k _ _ t525 _ _ t518 true _ ?side1 ?side2 ?side3 ?side4 A17.out).mono ?_); (case side1 => repeat (first | exact (Kd.R_reads' HO528.out).2.2 | (with_reducible refine Kd.C_alloc ?_ _) | (with_reducible refine Kd.C_drewN ?_ _) | (with_reducible refine Kd.C_drew ?_))); (case side2 => exact (Kd.R_reads' HO528.out).2.1); (case side3 => repeat (first | exact (Kd.R_reads' HO520.out).2.2 | (with_reducible refine Kd.C_alloc ?_ _) | (with_reducible refine Kd.C_drewN ?_ _) | (with_reducible refine Kd.C_drew ?_))); (case side4 => exact (Kd.R_reads' HO520.out).2.1); rintro e w' ⟨rfl, ⟨nd, rfl⟩⟩) | ((with_reducible refine gate_callee (f := 34) rfl ?_); refine goesL_ (some 64) rfl rfl Try.func34 (by kernel_rfl) rfl #[.slice Ao40 t525.length co40, .int .i64 1] rfl (by (try simp only [List.map_toArray, List.map_cons, List.map_nil]); first | done | rfl | (simp only [List.length_drop, List.length_take]; rfl)) ?_; (with_reducible refine (laws_markIntS.calls k (fun k_ => some k_ = (.slice Ao40 t525.length co40 : Value).ownBlock) (.slice Ao40 t525.length co40) t525 1 t537 t538 w _ ?side1 ?side2 A19.out).mono ?_); (case side1 => repeat (first | (with_reducible first | exact HB.out | apply below_alloc | apply pw_below_drewN | apply below_drew1) | exact HB.out)); (case side2 => exact Kd.R_tight rfl HO528.out); rintro e w47 ⟨rfl, hy0, hb, hkp⟩; refine ⟨_, rfl, ?_⟩; have n0_ := Aside0.mk (Kd.S_mono (ok' := fun k_ => some k_ ≠ (.slice Ao41 t518.length co41 : Value).ownBlock ∧ some k_ ≠ (.slice Ao38 t522.length co38 : Value).ownBlock ∧ some k_ ≠ (.slice Ao40 t525.length co40 : Value).ownBlock ∧ some k_ ≠ (.slice Ao44 t530.length co44 : Value).ownBlock ∧ NL33 ≤ k_ ∧ k_ < NL37 ∧ k_ < NL43) (Kd.S_keptB (HO517.out) hkp (fun k_ hk_ hs_ => (hk_.2.2.1) hs_)) (fun k_ hk_ => ⟨hk_.1.1, hk_.1.2.1, hk_.1.2.2.1, hk_.1.2.2.2.1, hk_.1.2.2.2.2.1, hk_.1.2.2.2.2.2.1, hk_.1.2.2.2.2.2.2⟩)); have n1_ := Aside0.mk (Kd.R_mono (ok' := fun k_ => some k_ ≠ (.slice Ao40 t525.length co40 : Value).ownBlock) (Kd.R_keptB (HO520.out) hkp (fun k_ hk_ hs_ => (hk_) hs_)) (fun k_ hk_ => hk_.1)); have n2_ := Aside0.mk (Kd.S_mono (ok' := fun k_ => some k_ ≠ (.slice Ao34 t515.length co34 : Value).ownBlock ∧ some k_ ≠ (.slice Ao41 t518.length co41 : Value).ownBlock ∧ some k_ ≠ (.slice Ao40 t525.length co40 : Value).ownBlock ∧ some k_ ≠ (.slice Ao44 t530.length co44 : Value).ownBlock ∧ NL37 ≤ k_ ∧ k_ < NL43) (Kd.S_keptB (HO524.out) hkp (fun k_ hk_ hs_ => (hk_.2.2.1) hs_)) (fun k_ hk_ => ⟨hk_.1.1, hk_.1.2.1, hk_.1.2.2.1, hk_.1.2.2.2.1, hk_.1.2.2.2.2.1, hk_.1.2.2.2.2.2⟩)); have n3_ := Aside0.mk (Kd.R_reok rfl hy0 (fun k_ e_ => HO528.out.1 k_ e_)); have n4_ := Aside0.mk (Kd.S_mono (ok' := fun k_ => some k_ ≠ (.slice Ao34 t515.length co34 : Value).ownBlock ∧ some k_ ≠ (.slice Ao41 t518.length co41 : Value).ownBlock ∧ some k_ ≠ (.slice Ao38 t522.length co38 : Value).ownBlock ∧ some k_ ≠ (.slice Ao40 t525.length co40 : Value).ownBlock ∧ NL43 ≤ k_) (Kd.S_keptB (HO532.out) hkp (fun k_ hk_ hs_ => (hk_.2.2.2.1) hs_)) (fun k_ hk_ => ⟨hk_.1.1, hk_.1.2.1, hk_.1.2.2.1, hk_.1.2.2.2.1, hk_.1.2.2.2.2⟩)); have n5_ := Aside0.mk (hb); clear HO517; clear HO520; clear HO524; clear HO528; clear HO532; clear HB; have HO517 := n0_; have HO520 := n1_; have HO524 := n2_; have HO528 := n3_; have HO532 := n4_; have HB := n5_; clear n0_ n1_ n2_ n3_ n4_ n5_; (try clear hb); (try clear hkp); (try clear hy0)) | ((with_reducible refine gate_callee (f := 35) rfl ?_); refine goesL_ (some 67) rfl rfl Try.func35 (by kernel_rfl) rfl #[.slice Ao40 t538.length co40, .int .i64 1] rfl (by (try simp only [List.map_toArray, List.map_cons, List.map_nil]); first | done | (rw [show t538.length = t525.length from (Kd.R_reads' HO528.out).1.symm] <;> rfl) | rfl | (simp only [List.length_drop, List.length_take]; rfl)) ?_; (with_reducible refine (laws_heldIntS.calls k _ _ t538 1 t539 _ ?side1 ?side2 A20.out).mono ?_); (case side1 => repeat (first | exact (Kd.R_reads' HO528.out).2.2 | (with_reducible refine Kd.C_alloc ?_ _) | (with_reducible refine Kd.C_drewN ?_ _) | (with_reducible refine Kd.C_drew ?_))); (case side2 => rw [show t538.length = t525.length from (Kd.R_reads' HO528.out).1.symm]; exact (Kd.R_reads' HO528.out).2.1); rintro e w' ⟨rfl, ⟨nd, rfl⟩⟩; refine ⟨_, rfl, ?_⟩) | ((with_reducible refine gate_callee (f := 24) rfl ?_); refine goesL_ (some 75) rfl rfl Try.func24 (by kernel_rfl) rfl #[.slice A0 l0.length c0] rfl (by (try simp only [List.map_toArray, List.map_cons, List.map_nil]); first | done | rfl | (simp only [List.length_drop, List.length_take]; rfl)) ?_; (with_reducible refine (laws_toCommitteeS.calls k _ _ l0 t540 _ ?side1 ?side2 A23.out).mono ?_); (case side1 => repeat (first | exact (Kd.C_below HR0.out (by repeat (first | (with_reducible first | exact HB.out | apply below_alloc | apply pw_below_drewN | apply below_drew1) | exact HB.out))) | (with_reducible refine Kd.C_alloc ?_ _) | (with_reducible refine Kd.C_drewN ?_ _) | (with_reducible refine Kd.C_drew ?_))); (case side2 => exact HC0.out); rintro e w48 ⟨v541, rfl, ho0, hb⟩; refine ⟨_, rfl, ?_⟩; obtain ⟨NL49, eNL49, ho0⟩ := S_split ho0; have n0_ := Aside0.mk (Kd.S_told (S_elderN (by (with_reducible repeat (first | apply Kd.S_alloc | apply Kd.S_drewN | apply Kd.S_drew)); exact HO517.out) hb eNL49) (fun k_ e_ => Nat.le_trans (Nat.le_of_eq eNL49) (Kd.S_base ho0 k_ e_))); have n1_ := Aside0.mk (Kd.R_below (by (with_reducible repeat (first | apply Kd.R_alloc | apply Kd.R_drewN | apply Kd.R_drew)); exact HO520.out) hb); have n2_ := Aside0.mk (Kd.S_told (S_elderN (by (with_reducible repeat (first | apply Kd.S_alloc | apply Kd.S_drewN | apply Kd.S_drew)); exact HO524.out) hb eNL49) (fun k_ e_ => Nat.le_trans (Nat.le_of_eq eNL49) (Kd.S_base ho0 k_ e_))); have n3_ := Aside0.mk (Kd.R_below (by (with_reducible repeat (first | apply Kd.R_alloc | apply Kd.R_drewN | apply Kd.R_drew)); exact HO528.out) hb); have n4_ := Aside0.mk (Kd.S_told (S_elderN (by (with_reducible repeat (first | apply Kd.S_alloc | apply Kd.S_drewN | apply Kd.S_drew)); exact HO532.out) hb eNL49) (fun k_ e_ => Nat.le_trans (Nat.le_of_eq eNL49) (Kd.S_base ho0 k_ e_))); have n5_ := Aside0.mk (Kd.S_lower (Kd.S_new' (Kd.S_new' (Kd.S_new' (Kd.S_new' (Kd.S_new' ho0 (Kd.S_lt (by (with_reducible repeat (first | apply Kd.S_alloc | apply Kd.S_drewN | apply Kd.S_drew)); exact HO517.out))) (Kd.R_lt (by (with_reducible repeat (first | apply Kd.R_alloc | apply Kd.R_drewN | apply Kd.R_drew)); exact HO520.out))) (Kd.S_lt (by (with_reducible repeat (first | apply Kd.S_alloc | apply Kd.S_drewN | apply Kd.S_drew)); exact HO524.out))) (Kd.R_lt (by (with_reducible repeat (first | apply Kd.R_alloc | apply Kd.R_drewN | apply Kd.R_drew)); exact HO528.out))) (Kd.S_lt (by (with_reducible repeat (first | apply Kd.S_alloc | apply Kd.S_drewN | apply Kd.S_drew)); exact HO532.out))) (below_size (by repeat (first | (with_reducible first | exact HB.out | apply below_alloc | apply pw_below_drewN | apply below_drew1) | exact HB.out)))); have n6_ := Aside0.mk (below_step (by repeat (first | (with_reducible first | exact HB.out | apply below_alloc | apply pw_below_drewN | apply below_drew1) | exact HB.out)) hb); clear HO517; clear HO520; clear HO524; clear HO528; clear HO532; clear HB; have HO517 := n0_; have HO520 := n1_; have HO524 := n2_; have HO528 := n3_; have HO532 := n4_; have HO542 := n5_; have HB := n6_; clear n0_ n1_ n2_ n3_ n4_ n5_ n6_; (try clear hb); (try clear hb2); (try clear hk); (try clear hi); (try clear ho0); (try clear eNL49); obtain ⟨Ao50, co50, eo50⟩ := Kd.S_slice HO542.out; subst eo50) | ((with_reducible refine gate_callee (f := 32) rfl ?_); refine goesL_ (some 76) rfl rfl Try.func32 (by kernel_rfl) rfl #[.slice Ao50 t540.length co50] rfl (by (try simp only [List.map_toArray, List.map_cons, List.map_nil]); first | done | rfl | (simp only [List.length_drop, List.length_take]; rfl)) ?_; (with_reducible refine (impl_NeedlessChambers.calls k _ _ t540 t543 t544 _ ?side1 ?side2 A24.out).mono ?_); (case side1 => repeat (first | exact (Kd.S_reads' HO542.out).2.2 | (with_reducible refine Kd.C_alloc ?_ _) | (with_reducible refine Kd.C_drewN ?_ _) | (with_reducible refine Kd.C_drew ?_))); (case side2 => exact (Kd.S_reads' HO542.out).2.1); rintro e w51 ⟨v545, rfl, ho0, hb⟩; refine ⟨_, rfl, ?_⟩; have n0_ := Aside0.mk (Kd.S_elder' (by (with_reducible repeat (first | apply Kd.S_alloc | apply Kd.S_drewN | apply Kd.S_drew)); exact HO517.out) (Kd.R_base ho0) hb); have n1_ := Aside0.mk (Kd.R_elder' (by (with_reducible repeat (first | apply Kd.R_alloc | apply Kd.R_drewN | apply Kd.R_drew)); exact HO520.out) (Kd.R_base ho0) hb); have n2_ := Aside0.mk (Kd.S_elder' (by (with_reducible repeat (first | apply Kd.S_alloc | apply Kd.S_drewN | apply Kd.S_drew)); exact HO524.out) (Kd.R_base ho0) hb); have n3_ := Aside0.mk (Kd.R_elder' (by (with_reducible repeat (first | apply Kd.R_alloc | apply Kd.R_drewN | apply Kd.R_drew)); exact HO528.out) (Kd.R_base ho0) hb); have n4_ := Aside0.mk (Kd.S_elder' (by (with_reducible repeat (first | apply Kd.S_alloc | apply Kd.S_drewN | apply Kd.S_drew)); exact HO532.out) (Kd.R_base ho0) hb); have n5_ := Aside0.mk (Kd.S_elder' (by (with_reducible repeat (first | apply Kd.S_alloc | apply Kd.S_drewN | apply Kd.S_drew)); exact HO542.out) (Kd.R_base ho0) hb); have n6_ := Aside0.mk (Kd.R_lower (Kd.R_new' (Kd.R_new' ho0 (Kd.R_lt (by (with_reducible repeat (first | apply Kd.R_alloc | apply Kd.R_drewN | apply Kd.R_drew)); exact HO520.out))) (Kd.R_lt (by (with_reducible repeat (first | apply Kd.R_alloc | apply Kd.R_drewN | apply Kd.R_drew)); exact HO528.out))) (below_size (by repeat (first | (with_reducible first | exact HB.out | apply below_alloc | apply pw_below_drewN | apply below_drew1) | exact HB.out)))); have n7_ := Aside0.mk (below_step (by repeat (first | (with_reducible first | exact HB.out | apply below_alloc | apply pw_below_drewN | apply below_drew1) | exact HB.out)) hb); clear HO517; clear HO520; clear HO524; clear HO528; clear HO532; clear HO542; clear HB; have HO517 := n0_; have HO520 := n1_; have HO524 := n2_; have HO528 := n3_; have HO532 := n4_; have HO542 := n5_; have HO546 := n6_; have HB := n7_; clear n0_ n1_ n2_ n3_ n4_ n5_ n6_ n7_; (try clear hb); (try clear hb2); (try clear hk); (try clear hi); (try clear ho0); obtain ⟨Ao52, co52, eo52⟩ := Kd.R_slice HO546.out; subst eo52) | ((with_reducible refine gate_callee (f := 33) rfl ?_); refine goesL_ (some 81) rfl rfl Try.func33 (by kernel_rfl) rfl #[.slice Ao52 t543.length co52, .slice Ao41 t518.length co41] rfl (by (try simp only [List.map_toArray, List.map_cons, List.map_nil]); first | done | rfl | (simp only [List.length_drop, List.length_take]; rfl)) ?_; (with_reducible refine (laws_eqIntS.calls k _ _ t543 _ _ t518 true _ ?side1 ?side2 ?side3 ?side4 A25.out).mono ?_); (case side1 => repeat (first | exact (Kd.R_reads' HO546.out).2.2 | (with_reducible refine Kd.C_alloc ?_ _) | (with_reducible refine Kd.C_drewN ?_ _) | (with_reducible refine Kd.C_drew ?_))); (case side2 => exact (Kd.R_reads' HO546.out).2.1); (case side3 => repeat (first | exact (Kd.R_reads' HO520.out).2.2 | (with_reducible refine Kd.C_alloc ?_ _) | (with_reducible refine Kd.C_drewN ?_ _) | (with_reducible refine Kd.C_drew ?_))); (case side4 => exact (Kd.R_reads' HO520.out).2.1); rintro e w' ⟨rfl, ⟨nd, rfl⟩⟩; refine ⟨_, rfl, ?_⟩) | ((with_reducible refine gate_callee (f := 35) rfl ?_); refine goesL_ (some 90) rfl rfl Try.func35 (by kernel_rfl) rfl #[.slice Ao40 t538.length co40, .int .i64 1] rfl (by (try simp only [List.map_toArray, List.map_cons, List.map_nil]); first | done | (rw [show t538.length = t525.length from (Kd.R_reads' HO528.out).1.symm] <;> rfl) | rfl | (simp only [List.length_drop, List.length_take]; rfl)) ?_; (with_reducible refine (laws_heldIntS.calls k _ _ t538 1 t548 _ ?side1 ?side2 A28.out).mono ?_); (case side1 => repeat (first | exact (Kd.R_reads' HO528.out).2.2 | (with_reducible refine Kd.C_alloc ?_ _) | (with_reducible refine Kd.C_drewN ?_ _) | (with_reducible refine Kd.C_drew ?_))); (case side2 => rw [show t538.length = t525.length from (Kd.R_reads' HO528.out).1.symm]; exact (Kd.R_reads' HO528.out).2.1); rintro e w' ⟨rfl, ⟨nd, rfl⟩⟩; refine ⟨_, rfl, ?_⟩))
                          go_ret
                          exact ⟨by first | rfl | (simp [errW_none, errW_some] <;> rfl) | (simp [*, errW_none, errW_some] <;> rfl), by repeat (first | (with_reducible first | exact HB.out | apply below_alloc | apply pw_below_drewN | apply below_drew1) | exact HB.out)⟩
                        · rw [if_neg c30] at H
                          have c30b0 : (t548 == t537) = false := beq_eq_false_iff_ne.mpr c30
                          have c30b1 : (t548 != t537) = true := bne_iff_ne.mpr c30
                          exact absurd (H.trans (congrArg some hr_.out)) (by simp)
                  · replace c26 := Bool.eq_false_iff.mpr c26
                    subst c26
                    have H1 : (some false) = some r := by rw [if_neg (show ¬ (false = true) by decide)] at H; exact H
                    clear H
                    have H := H1
                    clear H1
                    exact absurd (H.trans (congrArg some hr_.out)) (by simp)
                · rw [if_neg c22] at H
                  have c22b0 : (t539 == t537) = false := beq_eq_false_iff_ne.mpr c22
                  have c22b1 : (t539 != t537) = true := bne_iff_ne.mpr c22
                  exact absurd (H.trans (congrArg some hr_.out)) (by simp)
            · replace c18 := Bool.eq_false_iff.mpr c18
              subst c18
              have H1 : (some false) = some r := by rw [if_neg (show ¬ (false = true) by decide)] at H; exact H
              clear H
              have H := H1
              clear H1
              exact absurd (H.trans (congrArg some hr_.out)) (by simp)
        · replace c14 := Bool.eq_false_iff.mpr c14
          subst c14
          have H1 : (some false) = some r := by rw [if_neg (show ¬ (false = true) by decide)] at H; exact H
          clear H
          have H := H1
          clear H1
          exact absurd (H.trans (congrArg some hr_.out)) (by simp)
    · replace c10 := Bool.eq_false_iff.mpr c10
      subst c10
      have H1 : (some false) = some r := by rw [if_neg (show ¬ (false = true) by decide)] at H; exact H
      clear H
      have H := H1
      clear H1
      exact absurd (H.trans (congrArg some hr_.out)) (by simp)


/-! ### spec_chMembers: function 108 -/
def spec_chMembers.l0 : Nat → Int → List (S_impl_Committee) → Int → Int → Option (Int)
  | 0, _, _, _, _ => none
  | k + 1, x3, x6, x7, x8 => if x8 < x7 then (if 0 ≤ x8 then (if x8 < (x6.length : Int) then ((spec_voGood.f k ((rd_impl_Committee x6 x8).f0) ((rd_impl_Committee x6 x8).f1)).bind fun t271 => (if t271 = true then (spec_chMembers.l0 k (wrap64 (x3 + (((rd_impl_Committee x6 x8).f1).length : Int))) x6 x7 (wrap64 (x8 + 1))) else (some (-1)))) else (none)) else (none)) else (some x3)
def spec_chMembers.f (k : Nat) (l0 : List (S_impl_Committee)) : Option (Int) := spec_chMembers.l0 k 0 l0 (l0.length : Int) 0
theorem spec_chMembers.mono_l : ∀ k, (∀ y0 y1 y2 y3, LeO (spec_chMembers.l0 k y0 y1 y2 y3) (spec_chMembers.l0 (k + 1) y0 y1 y2 y3))
  | 0 => fun _ _ _ _ r h => by simp [spec_chMembers.l0] at h
  | k + 1 => by
    have ih0 := spec_chMembers.mono_l k
    · intro y0 y1 y2 y3
      unfold spec_chMembers.l0
      repeat' first
      | (with_reducible exact ih0 _ _ _ _)
      | (with_reducible exact spec_voGood.mono _ _ _)
      | (with_reducible exact LeO.refl _)
      | (with_reducible exact LeO.none _)
      | (with_reducible refine LeO.ite ?_ ?_)
      | (with_reducible refine LeO.bind ?_ (fun _ => ?_))
      | exact ih0 _ _ _ _
      | exact spec_voGood.mono _ _ _
      | exact LeO.none _
      | refine LeO.ite ?_ ?_
      | refine LeO.bind ?_ (fun _ => ?_)
theorem spec_chMembers.mono : ∀ a0 k, LeO (spec_chMembers.f k a0) (spec_chMembers.f (k + 1) a0) := by
  intro a0 k
  have ih0 := spec_chMembers.mono_l k
  unfold spec_chMembers.f
  repeat' first
      | (with_reducible exact ih0 _ _ _ _)
      | (with_reducible exact spec_voGood.mono _ _ _)
      | (with_reducible exact LeO.refl _)
      | (with_reducible exact LeO.none _)
      | (with_reducible refine LeO.ite ?_ ?_)
      | (with_reducible refine LeO.bind ?_ (fun _ => ?_))
      | exact ih0 _ _ _ _
      | exact spec_voGood.mono _ _ _
      | exact LeO.none _
      | refine LeO.ite ?_ ?_
      | refine LeO.bind ?_ (fun _ => ?_)
set_option maxHeartbeats 8000000 in
set_option maxRecDepth 100000 in
theorem spec_chMembers.calls (k : Nat) (A0 : Option Addr) (c0 : Nat) (l0 : List (S_impl_Committee)) (r : Int) (w : World) (hr0 : Kd.C k_impl_Committee w A0 l0.length l0) (hc0 : l0.length ≤ c0) (h : spec_chMembers.f k l0 = some r) :
    Calls Try.prog 108 #[.slice A0 l0.length c0] w fun e w' => e = .returned (.int .i64 r) ∧ Below w.heap.size w w' := by
  have hu26 := Try.underlying26
  have HR0 := Aside0.mk hr0
  have HC0 := Aside0.mk hc0
  clear hr0 hc0
  have HB := Aside0.mk (Below.refl w.heap.size w)
  have H : (spec_chMembers.l0 k 0 l0 (l0.length : Int) 0) = some r := h
  clear h
  have H' := Aside0.mk H
  clear H
  go_enter Try.func108, Try.ntmps108
  go_wp2
  go_loopg [3, 8] k (fun kq v3 v8 w' => ∃ (x3_1 : Int) (x8_1 : Int), v3 = .int .i64 x3_1 ∧ v8 = .int .i64 x8_1 ∧ Aside0 (spec_chMembers.l0 kq x3_1 l0 (l0.length : Int) x8_1 = some r) ∧ Aside0 (kq ≤ k) ∧ Aside0 (Below w.heap.size w w'))
  case atStart => exact ⟨(0), (0), (by first | rfl | (simp; done) | (simp [*]; done)), (by first | rfl | (simp; done) | (simp [*]; done)), H', ⟨Nat.le_refl _⟩, ⟨by repeat (first | (with_reducible first | exact HB.out | apply below_alloc | apply pw_below_drewN | apply below_drew1) | exact HB.out)⟩⟩
  case round =>
    clear H'
    try clear c1
    obtain ⟨x3_1, x8_1, rfl, rfl, HA, HK1, HB⟩ := hrel
    cases gk with
    | zero => exact absurd HA.out (by simp [spec_chMembers.l0])
    | succ k1 =>
      have H := HA.out
      clear HA
      simp only [spec_chMembers.l0] at H
      by_cases c2 : x8_1 < (l0.length : Int)
      · rw [if_pos c2] at H
        have c2b0 : decide (x8_1 < (l0.length : Int)) = true := decide_eq_true c2
        clear c2
        by_cases c3 : 0 ≤ x8_1
        · rw [if_pos c3] at H
          have c3b0 : decide (0 ≤ x8_1) = true := decide_eq_true c3
          clear c3
          by_cases c4 : x8_1 < (l0.length : Int)
          · rw [if_pos c4] at H
            have c4b0 : decide (x8_1 < (l0.length : Int)) = true := decide_eq_true c4
            clear c4
            replace H := Option.bind_eq_some_iff.mp H
            obtain ⟨t271, A50, H⟩ := H
            replace H : (if t271 = true then (spec_chMembers.l0 k1 (wrap64 (x3_1 + (((rd_impl_Committee l0 x8_1).f1).length : Int))) l0 (l0.length : Int) (wrap64 (x8_1 + 1))) else (some (-1))) = some r := H
            have A5 := Aside0.mk A50
            clear A50
            by_cases c6 : t271 = true
            · subst c6
              have H1 : (spec_chMembers.l0 k1 (wrap64 (x3_1 + (((rd_impl_Committee l0 x8_1).f1).length : Int))) l0 (l0.length : Int) (wrap64 (x8_1 + 1))) = some r := by rw [if_pos rfl] at H; exact H
              clear H
              have H := H1
              clear H1
              have H' := Aside0.mk H
              clear H
              have p269 : 0 ≤ (x8_1 : Int) := of_decide_eq_true (by first | (with_reducible assumption) | assumption)
              have q269 : x8_1 < (l0.length : Int) := of_decide_eq_true (by first | (with_reducible assumption) | assumption)
              obtain ⟨ad269, A269_1, c269_1, e269, hx269_0, hx269_1, hl269_1, hi269_1⟩ := at_impl_Committee HR0.out x8_1 p269 q269
              cases e269
              replace hx269_0 := (HB.out.cell (World.block_lt_of_cell? w _ hx269_0)).trans hx269_0
              replace hx269_1 := (HB.out.cell (World.block_lt_of_cell? w _ hx269_1)).trans hx269_1
              have HR269_1 := Aside0.mk hi269_1
              have HC269_1 := Aside0.mk hl269_1
              clear hi269_1 hl269_1
              replace p269 := eq_true p269
              replace q269 := eq_true q269
              go_wp2_with (first | ((with_reducible refine gate_dst (N := 5) rfl ?_); refine box_event ?hg (N := 5) ?hd (cs := #[.int .i64 0, .slice none 0 0]) (t := 26) ?hr ?_; (case hd => rfl); (case hg => rfl); (case hr => first | (go_simp; done) | (go_simp; rfl)); intro gb270 hg w7 hbox hb; have n0_ := Aside0.mk (below_step (by repeat (first | (with_reducible first | exact HB.out | apply below_alloc | apply pw_below_drewN | apply below_drew1) | exact HB.out)) hb); have n1_ := Aside0.mk (hbox); have n2_ := Aside0.mk ((by rw [hg]; exact (below_size (by repeat (first | (with_reducible first | exact HB.out | apply below_alloc | apply pw_below_drewN | apply below_drew1) | exact HB.out))) : w.heap.size ≤ gb270)); have n3_ := Aside0.mk ((by rw [hg]; exact (below_size (by repeat (first | (with_reducible first | exact HB.out | apply below_alloc | apply pw_below_drewN | apply below_drew1) | exact HB.out))) : w.heap.size ≤ gb270)); clear HB; have HB := n0_; have BK270 := n1_; have GW270 := n2_; have GE270 := n3_; clear n0_ n1_ n2_ n3_; clear hb hbox hg; have hcz8_0 : w7.cell? ⟨gb270, 0, none⟩ = some (.int .i64 0) := (blk_cell BK270.out 0).trans rfl; have hcz8_1 : w7.cell? ⟨gb270, 1, none⟩ = some (.slice none 0 0) := (blk_cell BK270.out 1).trans rfl; have hfz8_0 := blk_frozen BK270.out 0; have hfz8_1 := blk_frozen BK270.out 1) | ((with_reducible refine gate_callee (f := 154) rfl ?_); refine goesL_ (some 13) rfl rfl Try.func154 (by kernel_rfl) rfl #[.agg #[.int .i64 ((rd_impl_Committee l0 x8_1).f0), .slice A269_1 ((rd_impl_Committee l0 x8_1).f1).length c269_1]] rfl (by (try simp only [List.map_toArray, List.map_cons, List.map_nil]); first | done | rfl | (simp only [List.length_drop, List.length_take]; rfl)) ?_; (with_reducible refine (spec_voGood.calls k1 ((rd_impl_Committee l0 x8_1).f0) _ _ ((rd_impl_Committee l0 x8_1).f1) true _ ?side1 ?side2 A5.out).mono ?_); (case side1 => exact Kd.C_below HR269_1.out (by repeat (first | (with_reducible first | exact HB.out | apply below_alloc | apply pw_below_drewN | apply below_drew1 | refine below_set ?_ GE270.out) | exact HB.out))); (case side2 => exact HC269_1.out); rintro e w9 ⟨rfl, hb⟩; refine ⟨_, rfl, ?_⟩; have n0_ := Aside0.mk (blk_below (g := gb270) (o := .cells #[.int .i64 ((rd_impl_Committee l0 x8_1).f0), .slice A269_1 ((rd_impl_Committee l0 x8_1).f1).length c269_1] 26 (0, 0)) (by (with_reducible repeat (first | refine blk_drewN ?_ _ | refine blk_drew ?_ | refine blk_alloc ?_ _)); refine blk_put (cs := #[.int .i64 ((rd_impl_Committee l0 x8_1).f0), .slice none 0 0]) ?_ 1 _ rfl; (with_reducible repeat (first | refine blk_drewN ?_ _ | refine blk_drew ?_ | refine blk_alloc ?_ _)); refine blk_put (cs := #[.int .i64 0, .slice none 0 0]) ?_ 0 _ rfl; (with_reducible repeat (first | refine blk_drewN ?_ _ | refine blk_drew ?_ | refine blk_alloc ?_ _)); exact BK270.out) hb); have n1_ := Aside0.mk (below_step (by repeat (first | (with_reducible first | exact HB.out | apply below_alloc | apply pw_below_drewN | apply below_drew1 | refine below_set ?_ GE270.out) | exact HB.out)) hb); clear BK270; clear HB; have BK270 := n0_; have HB := n1_; clear n0_ n1_; (try clear hb); (try clear hb2); (try clear hk); (try clear hi); have hcz10_0 : w9.cell? ⟨gb270, 0, none⟩ = some (.int .i64 ((rd_impl_Committee l0 x8_1).f0)) := (blk_cell BK270.out 0).trans rfl; have hcz10_1 : w9.cell? ⟨gb270, 1, none⟩ = some (.slice A269_1 ((rd_impl_Committee l0 x8_1).f1).length c269_1) := (blk_cell BK270.out 1).trans rfl; have hfz10_0 := blk_frozen BK270.out 0; have hfz10_1 := blk_frozen BK270.out 1))
              go_roundg k1
              case measure => have := HK1.out; omega
              case rel => exact ⟨(wrap64 (x3_1 + (((rd_impl_Committee l0 x8_1).f1).length : Int))), (wrap64 (x8_1 + 1)), (by first | rfl | (simp; done) | (simp [*]; done)), (by first | rfl | (simp; done) | (simp [*]; done)), H', ⟨by have := HK1.out; omega⟩, ⟨by repeat (first | (with_reducible first | exact HB.out | apply below_alloc | apply pw_below_drewN | apply below_drew1 | refine below_set ?_ GE270.out) | exact HB.out)⟩⟩
            · replace c6 := Bool.eq_false_iff.mpr c6
              subst c6
              have H1 : (some (-1)) = some r := by rw [if_neg (show ¬ (false = true) by decide)] at H; exact H
              clear H
              have H := H1
              clear H1
              obtain rfl := Option.some.inj H
              have p269 : 0 ≤ (x8_1 : Int) := of_decide_eq_true (by first | (with_reducible assumption) | assumption)
              have q269 : x8_1 < (l0.length : Int) := of_decide_eq_true (by first | (with_reducible assumption) | assumption)
              obtain ⟨ad269, A269_1, c269_1, e269, hx269_0, hx269_1, hl269_1, hi269_1⟩ := at_impl_Committee HR0.out x8_1 p269 q269
              cases e269
              replace hx269_0 := (HB.out.cell (World.block_lt_of_cell? w _ hx269_0)).trans hx269_0
              replace hx269_1 := (HB.out.cell (World.block_lt_of_cell? w _ hx269_1)).trans hx269_1
              have HR269_1 := Aside0.mk hi269_1
              have HC269_1 := Aside0.mk hl269_1
              clear hi269_1 hl269_1
              replace p269 := eq_true p269
              replace q269 := eq_true q269
              go_wp2_with (first | ((with_reducible refine gate_dst (N := 5) rfl ?_); refine box_event ?hg (N := 5) ?hd (cs := #[.int .i64 0, .slice none 0 0]) (t := 26) ?hr ?_; (case hd => rfl); (case hg => rfl); (case hr => first | (go_simp; done) | (go_simp; rfl)); intro gb270 hg w11 hbox hb; have n0_ := Aside0.mk (below_step (by repeat (first | (with_reducible first | exact HB.out | apply below_alloc | apply pw_below_drewN | apply below_drew1) | exact HB.out)) hb); have n1_ := Aside0.mk (hbox); have n2_ := Aside0.mk ((by rw [hg]; exact (below_size (by repeat (first | (with_reducible first | exact HB.out | apply below_alloc | apply pw_below_drewN | apply below_drew1) | exact HB.out))) : w.heap.size ≤ gb270)); have n3_ := Aside0.mk ((by rw [hg]; exact (below_size (by repeat (first | (with_reducible first | exact HB.out | apply below_alloc | apply pw_below_drewN | apply below_drew1) | exact HB.out))) : w.heap.size ≤ gb270)); clear HB; have HB := n0_; have BK270 := n1_; have GW270 := n2_; have GE270 := n3_; clear n0_ n1_ n2_ n3_; clear hb hbox hg; have hcz12_0 : w11.cell? ⟨gb270, 0, none⟩ = some (.int .i64 0) := (blk_cell BK270.out 0).trans rfl; have hcz12_1 : w11.cell? ⟨gb270, 1, none⟩ = some (.slice none 0 0) := (blk_cell BK270.out 1).trans rfl; have hfz12_0 := blk_frozen BK270.out 0; have hfz12_1 := blk_frozen BK270.out 1) | ((with_reducible refine gate_callee (f := 154) rfl ?_); refine goesL_ (some 13) rfl rfl Try.func154 (by kernel_rfl) rfl #[.agg #[.int .i64 ((rd_impl_Committee l0 x8_1).f0), .slice A269_1 ((rd_impl_Committee l0 x8_1).f1).length c269_1]] rfl (by (try simp only [List.map_toArray, List.map_cons, List.map_nil]); first | done | rfl | (simp only [List.length_drop, List.length_take]; rfl)) ?_; (with_reducible refine (spec_voGood.calls k1 ((rd_impl_Committee l0 x8_1).f0) _ _ ((rd_impl_Committee l0 x8_1).f1) false _ ?side1 ?side2 A5.out).mono ?_); (case side1 => exact Kd.C_below HR269_1.out (by repeat (first | (with_reducible first | exact HB.out | apply below_alloc | apply pw_below_drewN | apply below_drew1 | refine below_set ?_ GE270.out) | exact HB.out))); (case side2 => exact HC269_1.out); rintro e w13 ⟨rfl, hb⟩; refine ⟨_, rfl, ?_⟩; have n0_ := Aside0.mk (blk_below (g := gb270) (o := .cells #[.int .i64 ((rd_impl_Committee l0 x8_1).f0), .slice A269_1 ((rd_impl_Committee l0 x8_1).f1).length c269_1] 26 (0, 0)) (by (with_reducible repeat (first | refine blk_drewN ?_ _ | refine blk_drew ?_ | refine blk_alloc ?_ _)); refine blk_put (cs := #[.int .i64 ((rd_impl_Committee l0 x8_1).f0), .slice none 0 0]) ?_ 1 _ rfl; (with_reducible repeat (first | refine blk_drewN ?_ _ | refine blk_drew ?_ | refine blk_alloc ?_ _)); refine blk_put (cs := #[.int .i64 0, .slice none 0 0]) ?_ 0 _ rfl; (with_reducible repeat (first | refine blk_drewN ?_ _ | refine blk_drew ?_ | refine blk_alloc ?_ _)); exact BK270.out) hb); have n1_ := Aside0.mk (below_step (by repeat (first | (with_reducible first | exact HB.out | apply below_alloc | apply pw_below_drewN | apply below_drew1 | refine below_set ?_ GE270.out) | exact HB.out)) hb); clear BK270; clear HB; have BK270 := n0_; have HB := n1_; clear n0_ n1_; (try clear hb); (try clear hb2); (try clear hk); (try clear hi)))
              go_ret
              exact ⟨by first | rfl | (simp [errW_none, errW_some] <;> rfl) | (simp [*, errW_none, errW_some] <;> rfl), by repeat (first | (with_reducible first | exact HB.out | apply below_alloc | apply pw_below_drewN | apply below_drew1 | refine below_set ?_ GE270.out) | exact HB.out)⟩
          · rw [if_neg c4] at H
            exact absurd H (by simp)
        · rw [if_neg c3] at H
          exact absurd H (by simp)
      · rw [if_neg c2] at H
        have c2b0 : decide (x8_1 < (l0.length : Int)) = false := decide_eq_false c2
        clear c2
        obtain rfl := Option.some.inj H
        go_wp2
        go_ret
        exact ⟨by first | rfl | (simp [errW_none, errW_some] <;> rfl) | (simp [*, errW_none, errW_some] <;> rfl), by repeat (first | (with_reducible first | exact HB.out | apply below_alloc | apply pw_below_drewN | apply below_drew1) | exact HB.out)⟩

end Go.Proofs.Ythkbaolpiigioaa.P
