/- Part 2 of the texts below the law FnExactQuarrelSwings. Printed by this session's driver over the kit's printer, but for the hand contracts and the plain laws. -/
import Derived.Test.YtghooagembinaaaCQuarrelSwings0
import Derived.Test.YtghooagembinaaaCQuarrelSwings1
namespace Go.Proofs.Ytghooagembinaaa.P
open Go.RowKit Go.Proofs.YtghooagembinaaaW.PrintWords Go.Proofs.YtghooagembinaaaW.PrintLast Go.Proofs.YtghooagembinaaaW.PrintMore
attribute [local go_sem] max2_int min2_int max_two min_two max_three min_three max_four min_four   -- for this text's walks alone
set_option linter.unusedVariables false
set_option linter.unusedSimpArgs false

/-! ### impl_votes_swings: function 73 -/
mutual
def impl_votes_swings.l0 : Nat → List Int → Int → Int → Int → List Bool → Option (List Int)
  | 0, _, _, _, _, _ => none
  | k + 1, x3, x10, x11, x638000, x638001 => if x11 < x10 then (impl_votes_swings.l1 k x3 x11 x10 x11 (x638001.length : Int) 0 x638000 x638001) else (some x3)
def impl_votes_swings.l1 : Nat → List Int → Int → Int → Int → Int → Int → Int → List Bool → Option (List Int)
  | 0, _, _, _, _, _, _, _, _ => none
  | k + 1, x3, x4, x10, x11, x16, x17, x638000, x638001 => if x17 < x16 then ((impl_votes_isSwing.f x638000 x638001 x17 x4).bind fun t641 => (if t641 = true then (if 0 ≤ x4 then (if x4 < (x3.length : Int) then (impl_votes_swings.l1 k (x3.set (x4 : Int).toNat (wrap64 ((rd x3 x4) + 1))) x4 x10 x11 x16 (wrap64 (x17 + 1)) x638000 x638001) else (none)) else (none)) else (impl_votes_swings.l1 k x3 x4 x10 x11 x16 (wrap64 (x17 + 1)) x638000 x638001))) else (impl_votes_swings.l0 k x3 x10 (wrap64 (x11 + 1)) x638000 x638001)
end
def impl_votes_swings.f (k : Nat) (a0_0 : Int) (l0_1 : List Bool) : Option (List Int) := if 0 ≤ a0_0 then (if (a0_0 : Int).toNat ≤ 35184372088832 then ((some (List.replicate (a0_0 : Int).toNat 0 : List Int)).bind fun y638 => (impl_votes_swings.l0 k y638 (y638.length : Int) 0 a0_0 l0_1)) else (none)) else (none)
theorem impl_votes_swings.mono_l : ∀ k, (∀ y0 y1 y2 y3 y4, LeO (impl_votes_swings.l0 k y0 y1 y2 y3 y4) (impl_votes_swings.l0 (k + 1) y0 y1 y2 y3 y4)) ∧ (∀ y0 y1 y2 y3 y4 y5 y6 y7, LeO (impl_votes_swings.l1 k y0 y1 y2 y3 y4 y5 y6 y7) (impl_votes_swings.l1 (k + 1) y0 y1 y2 y3 y4 y5 y6 y7))
  | 0 => ⟨fun _ _ _ _ _ r h => by simp [impl_votes_swings.l0] at h, fun _ _ _ _ _ _ _ _ r h => by simp [impl_votes_swings.l1] at h⟩
  | k + 1 => by
    obtain ⟨ih0, ih1⟩ := impl_votes_swings.mono_l k
    refine ⟨?_, ?_⟩
    · intro y0 y1 y2 y3 y4
      unfold impl_votes_swings.l0
      repeat' first
      | (with_reducible exact ih0 _ _ _ _ _)
      | (with_reducible exact ih1 _ _ _ _ _ _ _ _)
      | (with_reducible exact LeO.refl _)
      | (with_reducible exact LeO.none _)
      | (with_reducible refine LeO.ite ?_ ?_)
      | (with_reducible refine LeO.bind ?_ (fun _ => ?_))
      | exact ih0 _ _ _ _ _
      | exact ih1 _ _ _ _ _ _ _ _
      | exact LeO.none _
      | refine LeO.ite ?_ ?_
      | refine LeO.bind ?_ (fun _ => ?_)
    · intro y0 y1 y2 y3 y4 y5 y6 y7
      unfold impl_votes_swings.l1
      repeat' first
      | (with_reducible exact ih0 _ _ _ _ _)
      | (with_reducible exact ih1 _ _ _ _ _ _ _ _)
      | (with_reducible exact LeO.refl _)
      | (with_reducible exact LeO.none _)
      | (with_reducible refine LeO.ite ?_ ?_)
      | (with_reducible refine LeO.bind ?_ (fun _ => ?_))
      | exact ih0 _ _ _ _ _
      | exact ih1 _ _ _ _ _ _ _ _
      | exact LeO.none _
      | refine LeO.ite ?_ ?_
      | refine LeO.bind ?_ (fun _ => ?_)
theorem impl_votes_swings.mono : ∀ a0 a1 k, LeO (impl_votes_swings.f k a0 a1) (impl_votes_swings.f (k + 1) a0 a1) := by
  intro a0 a1 k
  obtain ⟨ih0, ih1⟩ := impl_votes_swings.mono_l k
  unfold impl_votes_swings.f
  repeat' first
      | (with_reducible exact ih0 _ _ _ _ _)
      | (with_reducible exact ih1 _ _ _ _ _ _ _ _)
      | (with_reducible exact LeO.refl _)
      | (with_reducible exact LeO.none _)
      | (with_reducible refine LeO.ite ?_ ?_)
      | (with_reducible refine LeO.bind ?_ (fun _ => ?_))
      | exact ih0 _ _ _ _ _
      | exact ih1 _ _ _ _ _ _ _ _
      | exact LeO.none _
      | refine LeO.ite ?_ ?_
      | refine LeO.bind ?_ (fun _ => ?_)
set_option maxHeartbeats 8000000 in
set_option maxRecDepth 100000 in
theorem impl_votes_swings.calls (k : Nat) (a0_0 : Int) (A0_1 : Option Addr) (c0_1 : Nat) (l0_1 : List Bool) (r : List Int) (w : World) (hr0_1 : Kd.C Kd.bool w A0_1 l0_1.length l0_1) (hc0_1 : l0_1.length ≤ c0_1) (h : impl_votes_swings.f k a0_0 l0_1 = some r) :
    Calls Try.prog 73 #[.agg #[.int .i64 a0_0, .slice A0_1 l0_1.length c0_1]] w fun e w' => ∃ v0_ : Value, e = .returned (v0_) ∧ Kd.R (Kd.int .i64) 3 w' w.heap.size (fun _ => True) v0_ r ∧ Below w.heap.size w w' := by
  have hu71 := Try.underlying71
  have HR0_1 := Aside0.mk hr0_1
  have HC0_1 := Aside0.mk hc0_1
  clear hr0_1 hc0_1
  have HB := Aside0.mk (Below.refl w.heap.size w)
  have H : (if 0 ≤ a0_0 then (if (a0_0 : Int).toNat ≤ 35184372088832 then ((some (List.replicate (a0_0 : Int).toNat 0 : List Int)).bind fun y638 => (impl_votes_swings.l0 k y638 (y638.length : Int) 0 a0_0 l0_1)) else (none)) else (none)) = some r := h
  clear h
  by_cases c2 : 0 ≤ a0_0
  · rw [if_pos c2] at H
    have c2b0 := eq_true c2
    have c2b1 : decide (0 ≤ a0_0) = true := decide_eq_true c2
    clear c2
    by_cases c3 : (a0_0 : Int).toNat ≤ 35184372088832
    · rw [if_pos c3] at H
      have c3b0 := eq_true c3
      have c3b1 : decide ((a0_0 : Int).toNat ≤ 35184372088832) = true := decide_eq_true c3
      clear c3
      obtain ⟨y638, hy638⟩ : ∃ y_ : List Int, y_ = (List.replicate (a0_0 : Int).toNat 0) := ⟨_, rfl⟩
      replace H : (impl_votes_swings.l0 k y638 (y638.length : Int) 0 a0_0 l0_1) = some r := by first | (rw [hy638]; with_reducible exact H) | (have H2_ := (Option.bind_some _ _).symm.trans H; rw [hy638]; with_reducible exact H2_) | (have H2_ := (Option.bind_some _ _).symm.trans H; with_reducible exact H2_) | with_reducible exact H | (rw [hy638]; exact H) | exact H
      have Ny638 := Aside0.mk hy638
      clear hy638
      have H' := Aside0.mk H
      clear H
      go_enter Try.func73, Try.ntmps73
      go_wp2_with (first | ((with_reducible refine gate_dst (N := 1) rfl ?_); refine box_event ?hg (N := 1) ?hd (cs := #[.int .i64 a0_0, .slice A0_1 l0_1.length c0_1]) (t := 71) ?hr ?_; (case hd => rfl); (case hg => rfl); (case hr => first | (go_simp; done) | (go_simp; rfl)); intro gb637 hg w4 hbox hb; have n0_ := Aside0.mk (below_step (by repeat (first | (with_reducible first | exact HB.out | apply below_alloc | apply pw_below_drewN | apply below_drew1) | exact HB.out)) hb); have n1_ := Aside0.mk (hbox); have n2_ := Aside0.mk ((by rw [hg]; exact (below_size (by repeat (first | (with_reducible first | exact HB.out | apply below_alloc | apply pw_below_drewN | apply below_drew1) | exact HB.out))) : w.heap.size ≤ gb637)); have n3_ := Aside0.mk ((by rw [hg]; exact (below_size (by repeat (first | (with_reducible first | exact HB.out | apply below_alloc | apply pw_below_drewN | apply below_drew1) | exact HB.out))) : w.heap.size ≤ gb637)); clear HB; have HB := n0_; have BK637 := n1_; have GW637 := n2_; have GE637 := n3_; clear n0_ n1_ n2_ n3_; clear hb hbox hg; have hcz5_0 : w4.cell? ⟨gb637, 0, none⟩ = some (.int .i64 a0_0) := (blk_cell BK637.out 0).trans rfl; have hcz5_1 : w4.cell? ⟨gb637, 1, none⟩ = some (.slice A0_1 l0_1.length c0_1) := (blk_cell BK637.out 1).trans rfl; have hfz5_0 := blk_frozen BK637.out 0; have hfz5_1 := blk_frozen BK637.out 1) | ((with_reducible refine gate_dst (N := 8) rfl ?_); refine Kd.R_make (Kd.int .i64) _ 3 rfl (N := 8) rfl 29 _ _ rfl a0_0 rfl rfl Try.underlying29 (.int .i64 0) 8 info3 rfl (by decide) (by omega) 0 (ok := fun _ => True) (okp := fun _ => True) rfl (fun _ hk => hk) trivial (of_decide_eq_true (by first | (with_reducible assumption) | assumption)) (Nat.le_trans (Nat.mul_le_mul_right _ (of_decide_eq_true (by first | (with_reducible assumption) | assumption) : a0_0.toNat ≤ 35184372088832)) (by omega)) (Below.refl _ _) (Nat.le_refl _) ?_; intro v639 w6 ho7 hb hg_ hnew_; clear hg_ hnew_; (first | rw [← Ny638.out] at ho7 | (simp only [Int.reduceToNat] at ho7; rw [← Ny638.out] at ho7)); have n0_ := Aside0.mk (Kd.R_lower ho7 (below_size (by repeat (first | (with_reducible first | exact HB.out | apply below_alloc | apply pw_below_drewN | apply below_drew1 | refine below_set ?_ GE637.out) | exact HB.out)))); have n1_ := Aside0.mk (blk_below (g := gb637) (o := .cells #[.int .i64 a0_0, .slice A0_1 l0_1.length c0_1] 71 (0, 0)) (by (with_reducible repeat (first | refine blk_drewN ?_ _ | refine blk_drew ?_ | refine blk_alloc ?_ _)); exact BK637.out) hb); have n2_ := Aside0.mk (below_step (by repeat (first | (with_reducible first | exact HB.out | apply below_alloc | apply pw_below_drewN | apply below_drew1 | refine below_set ?_ GE637.out) | exact HB.out)) hb); clear BK637; clear HB; have HO640 := n0_; have BK637 := n1_; have HB := n2_; clear n0_ n1_ n2_; clear hb ho7; obtain ⟨Ao8, co8, eo8⟩ := Kd.R_slice HO640.out; subst eo8))
      go_loopg [11] k (fun kq v11 w' => ∃ (x3_1 : List Int) (x11_1 : Int), v11 = .int .i64 x11_1 ∧ Aside0 (impl_votes_swings.l0 kq x3_1 (y638.length : Int) x11_1 a0_0 l0_1 = some r) ∧ Aside0 (kq ≤ k) ∧ Aside0 (Kd.R (Kd.int .i64) 3 w' w.heap.size (fun _ => True) (.slice Ao8 y638.length co8) x3_1) ∧ Aside0 (w'.heap[gb637]? = some (.cells #[.int .i64 a0_0, (.slice A0_1 l0_1.length c0_1)] 71 (0, 0))) ∧ Aside0 (Below w.heap.size w w'))
      case atStart => exact ⟨(y638), (0), (by first | rfl | (simp; done) | (simp [*]; done)), H', ⟨Nat.le_refl _⟩, ⟨by (with_reducible repeat (first | apply Kd.R_alloc | apply Kd.R_drewN | apply Kd.R_drew)); exact HO640.out⟩, ⟨by (with_reducible repeat (first | refine blk_drewN ?_ _ | refine blk_drew ?_ | refine blk_alloc ?_ _)); exact BK637.out⟩, ⟨by repeat (first | (with_reducible first | exact HB.out | apply below_alloc | apply pw_below_drewN | apply below_drew1 | refine below_set ?_ GE637.out) | exact HB.out)⟩⟩
      case round =>
        clear H'
        try clear c2
        try clear c2b0
        try clear c2b1
        try clear p2
        try clear c3
        try clear c3b0
        try clear c3b1
        try clear c7
        try clear hcz5_0
        try clear hcz5_1
        try clear hfz5_0
        try clear hfz5_1
        obtain ⟨x3_1, x11_1, rfl, HA, HK1, HO_3, BK637, HB⟩ := hrel
        have hl3_1 := (Kd.R_reads' HO_3.out).1
        rw [hl3_1] at HO_3
        (try simp only [hl3_1])
        (try simp only [hl3_1] at BK637)
        cases gk with
        | zero => exact absurd HA.out (by simp [impl_votes_swings.l0])
        | succ k1 =>
          have H := HA.out
          clear HA
          simp only [impl_votes_swings.l0] at H
          by_cases c9 : x11_1 < (y638.length : Int)
          · rw [if_pos c9] at H
            have c9b0 : decide (x11_1 < (y638.length : Int)) = true := decide_eq_true c9
            (try simp only [hl3_1] at c9b0)
            clear c9
            have H' := Aside0.mk H
            clear H
            have hcz10_0 : wr.cell? ⟨gb637, 0, none⟩ = some (.int .i64 a0_0) := (blk_cell BK637.out 0).trans rfl
            have hcz10_1 : wr.cell? ⟨gb637, 1, none⟩ = some (.slice A0_1 l0_1.length c0_1) := (blk_cell BK637.out 1).trans rfl
            have hfz10_0 := blk_frozen BK637.out 0
            have hfz10_1 := blk_frozen BK637.out 1
            go_wp2
            go_loopg [17] k1 (fun kq v17 w' => ∃ (x3_2 : List Int) (x17_2 : Int), v17 = .int .i64 x17_2 ∧ Aside0 (impl_votes_swings.l1 kq x3_2 x11_1 (y638.length : Int) x11_1 (l0_1.length : Int) x17_2 a0_0 l0_1 = some r) ∧ Aside0 (kq ≤ k1) ∧ Aside0 (Kd.R (Kd.int .i64) 3 w' w.heap.size (fun _ => True) (.slice Ao8 x3_1.length co8) x3_2) ∧ Aside0 (w'.heap[gb637]? = some (.cells #[.int .i64 a0_0, (.slice A0_1 l0_1.length c0_1)] 71 (0, 0))) ∧ Aside0 (Below w.heap.size w w'))
            case atStart => exact ⟨(x3_1), (0), (by first | rfl | (simp; done) | (simp [*]; done)), H', ⟨Nat.le_refl _⟩, ⟨by (try simp only [hl3_1]); (with_reducible repeat (first | apply Kd.R_alloc | apply Kd.R_drewN | apply Kd.R_drew)); exact HO_3.out⟩, ⟨by (try simp only [hl3_1]); (with_reducible repeat (first | refine blk_drewN ?_ _ | refine blk_drew ?_ | refine blk_alloc ?_ _)); exact BK637.out⟩, ⟨by repeat (first | (with_reducible first | exact HB.out | apply below_alloc | apply pw_below_drewN | apply below_drew1 | refine below_set ?_ GE637.out) | exact HB.out)⟩⟩
            case round =>
              clear H'
              try clear c2
              try clear c2b0
              try clear c2b1
              try clear p2
              try clear c3
              try clear c3b0
              try clear c3b1
              try clear c7
              try clear c9
              try clear c9b0
              try clear hcz10_0
              try clear hcz10_1
              try clear hcz5_0
              try clear hcz5_1
              try clear hfz10_0
              try clear hfz10_1
              try clear hfz5_0
              try clear hfz5_1
              try clear p2
              obtain ⟨x3_2, x17_2, rfl, HA, HK2, HO_3, BK637, HB⟩ := hrel
              have hl3_2 := (Kd.R_reads' HO_3.out).1
              rw [hl3_2] at HO_3
              (try simp only [hl3_2])
              (try simp only [hl3_2] at BK637)
              cases gk with
              | zero => exact absurd HA.out (by simp [impl_votes_swings.l1])
              | succ k2 =>
                have H := HA.out
                clear HA
                simp only [impl_votes_swings.l1] at H
                by_cases c11 : x17_2 < (l0_1.length : Int)
                · rw [if_pos c11] at H
                  have c11b0 : decide (x17_2 < (l0_1.length : Int)) = true := decide_eq_true c11
                  (try simp only [hl3_1, hl3_2] at c11b0)
                  clear c11
                  replace H := Option.bind_eq_some_iff.mp H
                  obtain ⟨t641, A120, H⟩ := H
                  replace H : (if t641 = true then (if 0 ≤ x11_1 then (if x11_1 < (x3_2.length : Int) then (impl_votes_swings.l1 k2 (x3_2.set (x11_1 : Int).toNat (wrap64 ((rd x3_2 x11_1) + 1))) x11_1 (y638.length : Int) x11_1 (l0_1.length : Int) (wrap64 (x17_2 + 1)) a0_0 l0_1) else (none)) else (none)) else (impl_votes_swings.l1 k2 x3_2 x11_1 (y638.length : Int) x11_1 (l0_1.length : Int) (wrap64 (x17_2 + 1)) a0_0 l0_1)) = some r := H
                  have A12 := Aside0.mk A120
                  clear A120
                  by_cases c13 : t641 = true
                  · subst c13
                    have H1 : (if 0 ≤ x11_1 then (if x11_1 < (x3_2.length : Int) then (impl_votes_swings.l1 k2 (x3_2.set (x11_1 : Int).toNat (wrap64 ((rd x3_2 x11_1) + 1))) x11_1 (y638.length : Int) x11_1 (l0_1.length : Int) (wrap64 (x17_2 + 1)) a0_0 l0_1) else (none)) else (none)) = some r := by rw [if_pos rfl] at H; exact H
                    clear H
                    have H := H1
                    clear H1
                    by_cases c14 : 0 ≤ x11_1
                    · rw [if_pos c14] at H
                      have c14b0 : decide (0 ≤ x11_1) = true := decide_eq_true c14
                      clear c14
                      by_cases c15 : x11_1 < (x3_2.length : Int)
                      · rw [if_pos c15] at H
                        have c15b0 : decide (x11_1 < (x3_2.length : Int)) = true := decide_eq_true c15
                        (try simp only [hl3_1, hl3_2] at c15b0)
                        clear c15
                        obtain ⟨y643, hy643⟩ : ∃ y_ : List Int, y_ = (x3_2.set (x11_1 : Int).toNat (wrap64 ((rd x3_2 x11_1) + 1))) := ⟨_, rfl⟩
                        replace H : (impl_votes_swings.l1 k2 y643 x11_1 (y638.length : Int) x11_1 (l0_1.length : Int) (wrap64 (x17_2 + 1)) a0_0 l0_1) = some r := by first | (rw [hy643]; with_reducible exact H) | (have H2_ := (Option.bind_some _ _).symm.trans H; rw [hy643]; with_reducible exact H2_) | (have H2_ := (Option.bind_some _ _).symm.trans H; with_reducible exact H2_) | with_reducible exact H | (rw [hy643]; exact H) | exact H
                        have Ny643 := Aside0.mk hy643
                        clear hy643
                        have H' := Aside0.mk H
                        clear H
                        have hcz17_0 : wr.cell? ⟨gb637, 0, none⟩ = some (.int .i64 a0_0) := (blk_cell BK637.out 0).trans rfl
                        have hcz17_1 : wr.cell? ⟨gb637, 1, none⟩ = some (.slice A0_1 l0_1.length c0_1) := (blk_cell BK637.out 1).trans rfl
                        have hfz17_0 := blk_frozen BK637.out 0
                        have hfz17_1 := blk_frozen BK637.out 1
                        go_wp2_with (first | ((with_reducible refine gate_callee (f := 97) rfl ?_); refine goesL_ (some 23) rfl rfl Try.func97 (by kernel_rfl) rfl #[.agg #[.int .i64 a0_0, .slice A0_1 l0_1.length c0_1], .int .i64 x17_2, .int .i64 x11_1] rfl (by (try simp only [List.map_toArray, List.map_cons, List.map_nil]); first | done | rfl | (simp only [List.length_drop, List.length_take]; rfl)) ?_; (with_reducible refine (impl_votes_isSwing.calls a0_0 _ _ l0_1 x17_2 x11_1 true _ ?side1 ?side2 A12.out).mono ?_); (case side1 => repeat (first | exact (Kd.C_below HR0_1.out HB.out) | (with_reducible refine Kd.C_alloc ?_ _) | (with_reducible refine Kd.C_drewN ?_ _) | (with_reducible refine Kd.C_drew ?_))); (case side2 => exact HC0_1.out); rintro e w18 ⟨rfl, hb⟩; refine ⟨_, rfl, ?_⟩; have n0_ := Aside0.mk (Kd.R_below (by (with_reducible repeat (first | apply Kd.R_alloc | apply Kd.R_drewN | apply Kd.R_drew)); exact HO_3.out) hb); have n1_ := Aside0.mk (blk_below (g := gb637) (o := .cells #[.int .i64 a0_0, .slice A0_1 l0_1.length c0_1] 71 (0, 0)) (by (with_reducible repeat (first | refine blk_drewN ?_ _ | refine blk_drew ?_ | refine blk_alloc ?_ _)); exact BK637.out) hb); have n2_ := Aside0.mk (below_step (by repeat (first | (with_reducible first | exact HB.out | apply below_alloc | apply pw_below_drewN | apply below_drew1 | refine below_set ?_ GE637.out) | exact HB.out)) hb); clear HO_3; clear BK637; clear HB; have HO_3 := n0_; have BK637 := n1_; have HB := n2_; clear n0_ n1_ n2_; (try clear hb); (try clear hb2); (try clear hk); (try clear hi); have p642 : 0 ≤ (x11_1 : Int) := of_decide_eq_true (by first | (with_reducible assumption) | assumption); have q642 : x11_1 < (x3_2.length : Int) := of_decide_eq_true (by first | (with_reducible assumption) | assumption); obtain ⟨ad642, e642, hx642_0⟩ := Kd.at_int (Kd.R_reads' HO_3.out).2.2 x11_1 p642 q642; cases e642; replace p642 := eq_true p642; replace q642 := eq_true q642; have p16 : 0 ≤ (x11_1 : Int) := of_decide_eq_true (by first | (with_reducible assumption) | assumption); have q16 : (x11_1 : Int) < ((x3_2.length : Int) : Int) := of_decide_eq_true (by first | (with_reducible assumption) | assumption); obtain ⟨go16, co16, eo16, gb16, gl16, cl16, HG16⟩ := Kd.R_form HO_3.out (by omega); (first | cases eo16 | (injection eo16 with ea_ en_ ec_; (first | subst ea_ | (injection ea_ with ea_; subst ea_)); subst ec_; clear en_)); have GB16 := Aside0.mk gb16; have GG16 := Aside0.mk HG16; clear gb16 gl16 HG16; (first | simp only [add_plain] at hx642_0 | skip); obtain ⟨hx16_0, hf16_0⟩ := Kd.R_celln 0 HO_3.out (x11_1 : Int) p16 q16; replace p16 := eq_true p16; replace q16 := eq_true q16; obtain ⟨hy19_, hz19_⟩ := Kd.R_celln 0 HO_3.out (x11_1 : Int) (of_decide_eq_true (by first | (with_reducible assumption) | assumption)) (of_decide_eq_true (by first | (with_reducible assumption) | assumption)); have HP19 := Kd.R_putg HO_3.out (x11_1 : Int) (wrap64 ((rd x3_2 x11_1) + 1))) | ((with_reducible refine gate_store (t := 3) (p := 29) rfl ?_); refine store_event (t := 3) (p := 29) (v := ?vo_w20) (w1 := (w18.setCell ⟨go16, (x11_1 : Int).toNat, none⟩ (.int .i64 (wrap64 ((rd x3_2 x11_1) + 1))))) ?hg ?ho ?hn ?hr ?_; (case ho => rfl); (case hg => rfl); (case hn => rfl); (case hr => first | (go_simp; done) | (go_simp; rfl)); intro w20 hw; have hg : w18.grownBy w20 (some go16) := (by rw [hw]; exact HP19.2); have hp_ : Kd.R (Kd.int .i64) 3 w20 w.heap.size (fun _ => True) (.slice (some ⟨go16, 0, none⟩) x3_2.length co8) y643 := (by rw [hw, Ny643.out]; exact HP19.1); clear HP19; have n0_ := Aside0.mk (hp_); have n1_ := Aside0.mk (blk_grown (g := gb637) (o := .cells #[.int .i64 a0_0, .slice A0_1 l0_1.length c0_1] 71 (0, 0)) (by (with_reducible repeat (first | refine blk_drewN ?_ _ | refine blk_drew ?_ | refine blk_alloc ?_ _)); exact BK637.out) hg (Kd.R_ne HO_3.out BK637.out (by decide))); have n2_ := Aside0.mk ((by rw [hw]; exact below_set (HB.out) GB16.out : Below w.heap.size w w20)); clear HO_3; clear BK637; clear HB; have HO_3 := n0_; have BK637 := n1_; have HB := n2_; clear n0_ n1_ n2_; clear hg hw hp_))
                        (try simp only [← hl3_2])
                        go_roundg k2
                        case measure => have := HK1.out; have := HK2.out; omega
                        case rel => exact ⟨(y643), (wrap64 (x17_2 + 1)), (by first | rfl | (simp; done) | (simp [*]; done)), H', ⟨by have := HK1.out; have := HK2.out; omega⟩, ⟨by (try simp only [hl3_1]); (try simp only [hl3_2]); (with_reducible repeat (first | apply Kd.R_alloc | apply Kd.R_drewN | apply Kd.R_drew)); exact HO_3.out⟩, ⟨by (try simp only [hl3_1]); (try simp only [hl3_2]); (with_reducible repeat (first | refine blk_drewN ?_ _ | refine blk_drew ?_ | refine blk_alloc ?_ _)); exact BK637.out⟩, ⟨by repeat (first | (with_reducible first | exact HB.out | apply below_alloc | apply pw_below_drewN | apply below_drew1 | refine below_set ?_ GE637.out) | exact HB.out)⟩⟩
                      · rw [if_neg c15] at H
                        exact absurd H (by simp)
                    · rw [if_neg c14] at H
                      exact absurd H (by simp)
                  · replace c13 := Bool.eq_false_iff.mpr c13
                    subst c13
                    have H1 : (impl_votes_swings.l1 k2 x3_2 x11_1 (y638.length : Int) x11_1 (l0_1.length : Int) (wrap64 (x17_2 + 1)) a0_0 l0_1) = some r := by rw [if_neg (show ¬ (false = true) by decide)] at H; exact H
                    clear H
                    have H := H1
                    clear H1
                    have H' := Aside0.mk H
                    clear H
                    have hcz21_0 : wr.cell? ⟨gb637, 0, none⟩ = some (.int .i64 a0_0) := (blk_cell BK637.out 0).trans rfl
                    have hcz21_1 : wr.cell? ⟨gb637, 1, none⟩ = some (.slice A0_1 l0_1.length c0_1) := (blk_cell BK637.out 1).trans rfl
                    have hfz21_0 := blk_frozen BK637.out 0
                    have hfz21_1 := blk_frozen BK637.out 1
                    go_wp2_with (first | ((with_reducible refine gate_callee (f := 97) rfl ?_); refine goesL_ (some 23) rfl rfl Try.func97 (by kernel_rfl) rfl #[.agg #[.int .i64 a0_0, .slice A0_1 l0_1.length c0_1], .int .i64 x17_2, .int .i64 x11_1] rfl (by (try simp only [List.map_toArray, List.map_cons, List.map_nil]); first | done | rfl | (simp only [List.length_drop, List.length_take]; rfl)) ?_; (with_reducible refine (impl_votes_isSwing.calls a0_0 _ _ l0_1 x17_2 x11_1 false _ ?side1 ?side2 A12.out).mono ?_); (case side1 => repeat (first | exact (Kd.C_below HR0_1.out HB.out) | (with_reducible refine Kd.C_alloc ?_ _) | (with_reducible refine Kd.C_drewN ?_ _) | (with_reducible refine Kd.C_drew ?_))); (case side2 => exact HC0_1.out); rintro e w22 ⟨rfl, hb⟩; refine ⟨_, rfl, ?_⟩; have n0_ := Aside0.mk (Kd.R_below (by (with_reducible repeat (first | apply Kd.R_alloc | apply Kd.R_drewN | apply Kd.R_drew)); exact HO_3.out) hb); have n1_ := Aside0.mk (blk_below (g := gb637) (o := .cells #[.int .i64 a0_0, .slice A0_1 l0_1.length c0_1] 71 (0, 0)) (by (with_reducible repeat (first | refine blk_drewN ?_ _ | refine blk_drew ?_ | refine blk_alloc ?_ _)); exact BK637.out) hb); have n2_ := Aside0.mk (below_step (by repeat (first | (with_reducible first | exact HB.out | apply below_alloc | apply pw_below_drewN | apply below_drew1 | refine below_set ?_ GE637.out) | exact HB.out)) hb); clear HO_3; clear BK637; clear HB; have HO_3 := n0_; have BK637 := n1_; have HB := n2_; clear n0_ n1_ n2_; (try clear hb); (try clear hb2); (try clear hk); (try clear hi)))
                    (try simp only [← hl3_2])
                    go_roundg k2
                    case measure => have := HK1.out; have := HK2.out; omega
                    case rel => exact ⟨(x3_2), (wrap64 (x17_2 + 1)), (by first | rfl | (simp; done) | (simp [*]; done)), H', ⟨by have := HK1.out; have := HK2.out; omega⟩, ⟨by (try simp only [hl3_1]); (try simp only [hl3_2]); (with_reducible repeat (first | apply Kd.R_alloc | apply Kd.R_drewN | apply Kd.R_drew)); exact HO_3.out⟩, ⟨by (try simp only [hl3_1]); (try simp only [hl3_2]); (with_reducible repeat (first | refine blk_drewN ?_ _ | refine blk_drew ?_ | refine blk_alloc ?_ _)); exact BK637.out⟩, ⟨by repeat (first | (with_reducible first | exact HB.out | apply below_alloc | apply pw_below_drewN | apply below_drew1 | refine below_set ?_ GE637.out) | exact HB.out)⟩⟩
                · rw [if_neg c11] at H
                  have c11b0 : decide (x17_2 < (l0_1.length : Int)) = false := decide_eq_false c11
                  (try simp only [hl3_1, hl3_2] at c11b0)
                  clear c11
                  have H' := Aside0.mk H
                  clear H
                  go_wp2
                  (try simp only [← hl3_1, ← hl3_2])
                  go_roundg k2
                  case measure => have := HK1.out; have := HK2.out; omega
                  case rel => exact ⟨(x3_2), (wrap64 (x11_1 + 1)), (by first | rfl | (simp; done) | (simp [*]; done)), H', ⟨by have := HK1.out; have := HK2.out; omega⟩, ⟨by (try simp only [hl3_1]); (try simp only [hl3_2]); (with_reducible repeat (first | apply Kd.R_alloc | apply Kd.R_drewN | apply Kd.R_drew)); exact HO_3.out⟩, ⟨by (try simp only [hl3_1]); (try simp only [hl3_2]); (with_reducible repeat (first | refine blk_drewN ?_ _ | refine blk_drew ?_ | refine blk_alloc ?_ _)); exact BK637.out⟩, ⟨by repeat (first | (with_reducible first | exact HB.out | apply below_alloc | apply pw_below_drewN | apply below_drew1 | refine below_set ?_ GE637.out) | exact HB.out)⟩⟩
          · rw [if_neg c9] at H
            have c9b0 : decide (x11_1 < (y638.length : Int)) = false := decide_eq_false c9
            (try simp only [hl3_1] at c9b0)
            clear c9
            obtain rfl := Option.some.inj H
            go_wp2
            go_ret
            exact ⟨_, by first | rfl | (simp [errW_none, errW_some] <;> rfl) | (simp [*, errW_none, errW_some] <;> rfl), by (with_reducible repeat (first | apply Kd.R_alloc | apply Kd.R_drewN | apply Kd.R_drew)); exact HO_3.out, by repeat (first | (with_reducible first | exact HB.out | apply below_alloc | apply pw_below_drewN | apply below_drew1 | refine below_set ?_ GE637.out) | exact HB.out)⟩
    · rw [if_neg c3] at H
      exact absurd H (by simp)
  · rw [if_neg c2] at H
    exact absurd H (by simp)

end Go.Proofs.Ytghooagembinaaa.P

namespace Go.Proofs.Ytghooagembinaaa.P
open Go.RowKit Go.Proofs.YtghooagembinaaaW.PrintWords Go.Proofs.YtghooagembinaaaW.PrintLast Go.Proofs.YtghooagembinaaaW.PrintMore
attribute [local go_sem] max2_int min2_int max_two min_two max_three min_three max_four min_four   -- for this text's walks alone
set_option linter.unusedVariables false
set_option linter.unusedSimpArgs false

/-! ### impl_QuarrelSwings: function 37 -/
def impl_QuarrelSwings.f (k : Nat) (a0_0 : Int) (l0_1 : List Int) (a1 : Int) (a2 : Int) : Option (List Int × Bool) := (impl_quarrel.f k a0_0 l0_1 a1 a2).bind fun bt645 => (if bt645.2.2 = true then ((impl_votes_swings.f k bt645.1 bt645.2.1).bind fun t651 => (some (t651, true))) else (some (([] : List Int), false)))
theorem impl_QuarrelSwings.mono : ∀ a0 a1 a2 a3 k, LeO (impl_QuarrelSwings.f k a0 a1 a2 a3) (impl_QuarrelSwings.f (k + 1) a0 a1 a2 a3) := by
  intro a0 a1 a2 a3 k
  unfold impl_QuarrelSwings.f
  repeat' first
      | (with_reducible exact impl_quarrel.mono _ _ _ _ _)
      | (with_reducible exact impl_votes_swings.mono _ _ _)
      | (with_reducible exact LeO.refl _)
      | (with_reducible exact LeO.none _)
      | (with_reducible refine LeO.ite ?_ ?_)
      | (with_reducible refine LeO.bind ?_ (fun _ => ?_))
      | exact impl_quarrel.mono _ _ _ _ _
      | exact impl_votes_swings.mono _ _ _
      | exact LeO.none _
      | refine LeO.ite ?_ ?_
      | refine LeO.bind ?_ (fun _ => ?_)
set_option maxHeartbeats 8000000 in
set_option maxRecDepth 100000 in
theorem impl_QuarrelSwings.calls (k : Nat) (a0_0 : Int) (A0_1 : Option Addr) (c0_1 : Nat) (l0_1 : List Int) (a1 : Int) (a2 : Int) (r1 : List Int) (r2 : Bool) (w : World) (hr0_1 : Kd.C (Kd.int .i64) w A0_1 l0_1.length l0_1) (hc0_1 : l0_1.length ≤ c0_1) (h : impl_QuarrelSwings.f k a0_0 l0_1 a1 a2 = some (r1, r2)) :
    Calls Try.prog 37 #[.agg #[.int .i64 a0_0, .slice A0_1 l0_1.length c0_1], .int .i64 a1, .int .i64 a2] w fun e w' => ∃ v0_ : Value, e = .returned (.tuple #[v0_, .bool r2]) ∧ Kd.R (Kd.int .i64) 3 w' w.heap.size (fun _ => True) v0_ r1 ∧ Below w.heap.size w w' := by
  have hu34 := Try.underlying34
  have hu71 := Try.underlying71
  have HR0_1 := Aside0.mk hr0_1
  have HC0_1 := Aside0.mk hc0_1
  clear hr0_1 hc0_1
  have HB := Aside0.mk (Below.refl w.heap.size w)
  have H : ((impl_quarrel.f k a0_0 l0_1 a1 a2).bind fun bt645 => (if bt645.2.2 = true then ((impl_votes_swings.f k bt645.1 bt645.2.1).bind fun t651 => (some (t651, true))) else (some (([] : List Int), false)))) = some (r1, r2) := h
  clear h
  replace H := Option.bind_eq_some_iff.mp H
  obtain ⟨⟨t645, t646, t649⟩, A40, H⟩ := H
  replace H : (if t649 = true then ((impl_votes_swings.f k t645 t646).bind fun t651 => (some (t651, true))) else (some (([] : List Int), false))) = some (r1, r2) := H
  have A4 := Aside0.mk A40
  clear A40
  by_cases c5 : t649 = true
  · subst c5
    have H1 : ((impl_votes_swings.f k t645 t646).bind fun t651 => (some (t651, true))) = some (r1, r2) := by rw [if_pos rfl] at H; exact H
    clear H
    have H := H1
    clear H1
    replace H := Option.bind_eq_some_iff.mp H
    obtain ⟨t651, A60, H⟩ := H
    replace H : (some (t651, true)) = some (r1, r2) := H
    have A6 := Aside0.mk A60
    clear A60
    simp only [Option.some.injEq, Prod.mk.injEq] at H
    obtain ⟨rfl, rfl⟩ := H
    go_enter Try.func37, Try.ntmps37
    go_wp2_with (first | ((with_reducible refine gate_dst (N := 3) rfl ?_); refine box_event ?hg (N := 3) ?hd (cs := #[.int .i64 a0_0, .slice A0_1 l0_1.length c0_1]) (t := 34) ?hr ?_; (case hd => rfl); (case hg => rfl); (case hr => first | (go_simp; done) | (go_simp; rfl)); intro gb644 hg w7 hbox hb; have n0_ := Aside0.mk (below_step (by repeat (first | (with_reducible first | exact HB.out | apply below_alloc | apply pw_below_drewN | apply below_drew1) | exact HB.out)) hb); have n1_ := Aside0.mk (hbox); have n2_ := Aside0.mk ((by rw [hg]; exact (below_size (by repeat (first | (with_reducible first | exact HB.out | apply below_alloc | apply pw_below_drewN | apply below_drew1) | exact HB.out))) : w.heap.size ≤ gb644)); have n3_ := Aside0.mk ((by rw [hg]; exact (below_size (by repeat (first | (with_reducible first | exact HB.out | apply below_alloc | apply pw_below_drewN | apply below_drew1) | exact HB.out))) : w.heap.size ≤ gb644)); clear HB; have HB := n0_; have BK644 := n1_; have GW644 := n2_; have GE644 := n3_; clear n0_ n1_ n2_ n3_; clear hb hbox hg; have hcz8_0 : w7.cell? ⟨gb644, 0, none⟩ = some (.int .i64 a0_0) := (blk_cell BK644.out 0).trans rfl; have hcz8_1 : w7.cell? ⟨gb644, 1, none⟩ = some (.slice A0_1 l0_1.length c0_1) := (blk_cell BK644.out 1).trans rfl; have hfz8_0 := blk_frozen BK644.out 0; have hfz8_1 := blk_frozen BK644.out 1) | ((with_reducible refine gate_callee (f := 70) rfl ?_); refine goesL_ (some 14) rfl rfl Try.func70 (by kernel_rfl) rfl #[.agg #[.int .i64 a0_0, .slice A0_1 l0_1.length c0_1], .int .i64 a1, .int .i64 a2] rfl (by (try simp only [List.map_toArray, List.map_cons, List.map_nil]); first | done | rfl | (simp only [List.length_drop, List.length_take]; rfl)) ?_; (with_reducible refine (impl_quarrel.calls k a0_0 _ _ l0_1 a1 a2 t645 t646 true _ ?side1 ?side2 A4.out).mono ?_); (case side1 => repeat (first | exact (Kd.C_below HR0_1.out HB.out) | (with_reducible refine Kd.C_alloc ?_ _) | (with_reducible refine Kd.C_drewN ?_ _) | (with_reducible refine Kd.C_drew ?_))); (case side2 => exact HC0_1.out); rintro e w9 ⟨v647, rfl, ho0, hb⟩; refine ⟨_, rfl, ?_⟩; have n0_ := Aside0.mk (Kd.R_lower ho0 (below_size (by repeat (first | (with_reducible first | exact HB.out | apply below_alloc | apply pw_below_drewN | apply below_drew1 | refine below_set ?_ GE644.out) | exact HB.out)))); have n1_ := Aside0.mk (blk_below (g := gb644) (o := .cells #[.int .i64 a0_0, .slice A0_1 l0_1.length c0_1] 34 (0, 0)) (by (with_reducible repeat (first | refine blk_drewN ?_ _ | refine blk_drew ?_ | refine blk_alloc ?_ _)); exact BK644.out) hb); have n2_ := Aside0.mk (below_step (by repeat (first | (with_reducible first | exact HB.out | apply below_alloc | apply pw_below_drewN | apply below_drew1 | refine below_set ?_ GE644.out) | exact HB.out)) hb); clear BK644; clear HB; have HO648 := n0_; have BK644 := n1_; have HB := n2_; clear n0_ n1_ n2_; (try clear hb); (try clear hb2); (try clear hk); (try clear hi); (try clear ho0)) | ((with_reducible refine gate_dst (N := 8) rfl ?_); refine box_event ?hg (N := 8) ?hd (cs := #[.int .i64 0, .slice none 0 0]) (t := 71) ?hr ?_; (case hd => rfl); (case hg => rfl); (case hr => first | (go_simp; done) | (go_simp; rfl)); intro gb650 hg w10 hbox hb; have n0_ := Aside0.mk (Kd.R_below (by (with_reducible repeat (first | apply Kd.R_alloc | apply Kd.R_drewN | apply Kd.R_drew)); exact HO648.out) hb); have n1_ := Aside0.mk (blk_below (g := gb644) (o := .cells #[.int .i64 a0_0, .slice A0_1 l0_1.length c0_1] 34 (0, 0)) (by (with_reducible repeat (first | refine blk_drewN ?_ _ | refine blk_drew ?_ | refine blk_alloc ?_ _)); exact BK644.out) hb); have n2_ := Aside0.mk (below_step (by repeat (first | (with_reducible first | exact HB.out | apply below_alloc | apply pw_below_drewN | apply below_drew1 | refine below_set ?_ GE644.out) | exact HB.out)) hb); have n3_ := Aside0.mk (hbox); have n4_ := Aside0.mk ((by rw [hg]; exact (below_size (by repeat (first | (with_reducible first | exact HB.out | apply below_alloc | apply pw_below_drewN | apply below_drew1 | refine below_set ?_ GE644.out) | exact HB.out))) : w.heap.size ≤ gb650)); have n5_ := Aside0.mk ((by rw [hg]; exact (below_size (by repeat (first | (with_reducible first | exact HB.out | apply below_alloc | apply pw_below_drewN | apply below_drew1 | refine below_set ?_ GE644.out) | exact HB.out))) : w.heap.size ≤ gb650)); have n6_ := Aside0.mk ((by rw [hg]; exact Nat.ne_of_lt (blk_lt (g := gb644) (o := .cells #[.int .i64 a0_0, .slice A0_1 l0_1.length c0_1] 34 (0, 0)) (by (with_reducible repeat (first | refine blk_drewN ?_ _ | refine blk_drew ?_ | refine blk_alloc ?_ _)); exact BK644.out)) : gb644 ≠ gb650)); have n7_ := Aside0.mk ((by rw [hg]; exact Nat.ne_of_gt (blk_lt (g := gb644) (o := .cells #[.int .i64 a0_0, .slice A0_1 l0_1.length c0_1] 34 (0, 0)) (by (with_reducible repeat (first | refine blk_drewN ?_ _ | refine blk_drew ?_ | refine blk_alloc ?_ _)); exact BK644.out)) : gb650 ≠ gb644)); clear HO648; clear BK644; clear HB; have HO648 := n0_; have BK644 := n1_; have HB := n2_; have BK650 := n3_; have GW650 := n4_; have GE650 := n5_; have NB644_650 := n6_; have NB650_644 := n7_; clear n0_ n1_ n2_ n3_ n4_ n5_ n6_ n7_; clear hb hbox hg; have hnb11 := NB650_644.out; have hnc11 := NB644_650.out; have hcz12_0 : w10.cell? ⟨gb650, 0, none⟩ = some (.int .i64 0) := (blk_cell BK650.out 0).trans rfl; have hcz12_1 : w10.cell? ⟨gb650, 1, none⟩ = some (.slice none 0 0) := (blk_cell BK650.out 1).trans rfl; have hfz12_0 := blk_frozen BK650.out 0; have hfz12_1 := blk_frozen BK650.out 1; obtain ⟨Ao13, co13, eo13⟩ := Kd.R_slice HO648.out; subst eo13) | ((with_reducible refine gate_callee (f := 73) rfl ?_); refine goesL_ (some 20) rfl rfl Try.func73 (by kernel_rfl) rfl #[.agg #[.int .i64 t645, .slice Ao13 t646.length co13]] rfl (by (try simp only [List.map_toArray, List.map_cons, List.map_nil]); first | done | rfl | (simp only [List.length_drop, List.length_take]; rfl)) ?_; (with_reducible refine (impl_votes_swings.calls k t645 _ _ t646 t651 _ ?side1 ?side2 A6.out).mono ?_); (case side1 => refine (Kd.R_reads' (e := 4) (base := w.heap.size) (ok := fun k_ => True) (n := t646.length) (c := co13) ?_).2.2; exact (by (with_reducible repeat (first | apply Kd.R_alloc | apply Kd.R_drewN | apply Kd.R_drew)); exact (Kd.R_mono (Kd.R_far (p := ⟨gb650, 1, none⟩) (Kd.R_far (p := ⟨gb650, 0, none⟩) (Kd.R_types HO648.out BK650.out (by decide)) (fun _ hk => hk.2) (.int .i64 t645)) (fun _ hk => hk.2) (.slice Ao13 t646.length co13)) (fun _ h_ => h_.1)))); (case side2 => exact (Kd.R_reads' HO648.out).2.1); rintro e w14 ⟨v652, rfl, ho0, hb⟩; refine ⟨_, rfl, ?_⟩; have n0_ := Aside0.mk (Kd.R_below (by (with_reducible repeat (first | apply Kd.R_alloc | apply Kd.R_drewN | apply Kd.R_drew)); exact (Kd.R_mono (Kd.R_far (p := ⟨gb650, 1, none⟩) (Kd.R_far (p := ⟨gb650, 0, none⟩) (Kd.R_types HO648.out BK650.out (by decide)) (fun _ hk => hk.2) (.int .i64 t645)) (fun _ hk => hk.2) (.slice Ao13 t646.length co13)) (fun _ h_ => h_.1))) hb); have n1_ := Aside0.mk (Kd.R_lower ho0 (below_size (by repeat (first | (with_reducible first | exact HB.out | apply below_alloc | apply pw_below_drewN | apply below_drew1 | refine below_set ?_ GE644.out | refine below_set ?_ GE650.out) | exact HB.out)))); have n2_ := Aside0.mk (blk_below (g := gb644) (o := .cells #[.int .i64 a0_0, .slice A0_1 l0_1.length c0_1] 34 (0, 0)) (by (with_reducible repeat (first | refine blk_drewN ?_ _ | refine blk_drew ?_ | refine blk_alloc ?_ _)); refine blk_far ?_ NB644_650.out _; (with_reducible repeat (first | refine blk_drewN ?_ _ | refine blk_drew ?_ | refine blk_alloc ?_ _)); refine blk_far ?_ NB644_650.out _; (with_reducible repeat (first | refine blk_drewN ?_ _ | refine blk_drew ?_ | refine blk_alloc ?_ _)); exact BK644.out) hb); have n3_ := Aside0.mk (blk_below (g := gb650) (o := .cells #[.int .i64 t645, .slice Ao13 t646.length co13] 71 (0, 0)) (by (with_reducible repeat (first | refine blk_drewN ?_ _ | refine blk_drew ?_ | refine blk_alloc ?_ _)); refine blk_put (cs := #[.int .i64 t645, .slice none 0 0]) ?_ 1 _ rfl; (with_reducible repeat (first | refine blk_drewN ?_ _ | refine blk_drew ?_ | refine blk_alloc ?_ _)); refine blk_put (cs := #[.int .i64 0, .slice none 0 0]) ?_ 0 _ rfl; (with_reducible repeat (first | refine blk_drewN ?_ _ | refine blk_drew ?_ | refine blk_alloc ?_ _)); exact BK650.out) hb); have n4_ := Aside0.mk (below_step (by repeat (first | (with_reducible first | exact HB.out | apply below_alloc | apply pw_below_drewN | apply below_drew1 | refine below_set ?_ GE644.out | refine below_set ?_ GE650.out) | exact HB.out)) hb); clear HO648; clear BK644; clear BK650; clear HB; have HO648 := n0_; have HO653 := n1_; have BK644 := n2_; have BK650 := n3_; have HB := n4_; clear n0_ n1_ n2_ n3_ n4_; (try clear hb); (try clear hb2); (try clear hk); (try clear hi); (try clear ho0)))
    go_ret2
    exact ⟨_, by first | rfl | (simp [errW_none, errW_some] <;> rfl) | (simp [*, errW_none, errW_some] <;> rfl), by (with_reducible repeat (first | apply Kd.R_alloc | apply Kd.R_drewN | apply Kd.R_drew)); exact HO653.out, by repeat (first | (with_reducible first | exact HB.out | apply below_alloc | apply pw_below_drewN | apply below_drew1 | refine below_set ?_ GE644.out | refine below_set ?_ GE650.out) | exact HB.out)⟩
  · replace c5 := Bool.eq_false_iff.mpr c5
    subst c5
    have H1 : (some (([] : List Int), false)) = some (r1, r2) := by rw [if_neg (show ¬ (false = true) by decide)] at H; exact H
    clear H
    have H := H1
    clear H1
    simp only [Option.some.injEq, Prod.mk.injEq] at H
    obtain ⟨rfl, rfl⟩ := H
    go_enter Try.func37, Try.ntmps37
    go_wp2_with (first | ((with_reducible refine gate_dst (N := 3) rfl ?_); refine box_event ?hg (N := 3) ?hd (cs := #[.int .i64 a0_0, .slice A0_1 l0_1.length c0_1]) (t := 34) ?hr ?_; (case hd => rfl); (case hg => rfl); (case hr => first | (go_simp; done) | (go_simp; rfl)); intro gb644 hg w15 hbox hb; have n0_ := Aside0.mk (below_step (by repeat (first | (with_reducible first | exact HB.out | apply below_alloc | apply pw_below_drewN | apply below_drew1) | exact HB.out)) hb); have n1_ := Aside0.mk (hbox); have n2_ := Aside0.mk ((by rw [hg]; exact (below_size (by repeat (first | (with_reducible first | exact HB.out | apply below_alloc | apply pw_below_drewN | apply below_drew1) | exact HB.out))) : w.heap.size ≤ gb644)); have n3_ := Aside0.mk ((by rw [hg]; exact (below_size (by repeat (first | (with_reducible first | exact HB.out | apply below_alloc | apply pw_below_drewN | apply below_drew1) | exact HB.out))) : w.heap.size ≤ gb644)); clear HB; have HB := n0_; have BK644 := n1_; have GW644 := n2_; have GE644 := n3_; clear n0_ n1_ n2_ n3_; clear hb hbox hg; have hcz16_0 : w15.cell? ⟨gb644, 0, none⟩ = some (.int .i64 a0_0) := (blk_cell BK644.out 0).trans rfl; have hcz16_1 : w15.cell? ⟨gb644, 1, none⟩ = some (.slice A0_1 l0_1.length c0_1) := (blk_cell BK644.out 1).trans rfl; have hfz16_0 := blk_frozen BK644.out 0; have hfz16_1 := blk_frozen BK644.out 1) | ((with_reducible refine gate_callee (f := 70) rfl ?_); refine goesL_ (some 14) rfl rfl Try.func70 (by kernel_rfl) rfl #[.agg #[.int .i64 a0_0, .slice A0_1 l0_1.length c0_1], .int .i64 a1, .int .i64 a2] rfl (by (try simp only [List.map_toArray, List.map_cons, List.map_nil]); first | done | rfl | (simp only [List.length_drop, List.length_take]; rfl)) ?_; (with_reducible refine (impl_quarrel.calls k a0_0 _ _ l0_1 a1 a2 t645 t646 false _ ?side1 ?side2 A4.out).mono ?_); (case side1 => repeat (first | exact (Kd.C_below HR0_1.out HB.out) | (with_reducible refine Kd.C_alloc ?_ _) | (with_reducible refine Kd.C_drewN ?_ _) | (with_reducible refine Kd.C_drew ?_))); (case side2 => exact HC0_1.out); rintro e w17 ⟨v647, rfl, ho0, hb⟩; refine ⟨_, rfl, ?_⟩; have n0_ := Aside0.mk (Kd.R_lower ho0 (below_size (by repeat (first | (with_reducible first | exact HB.out | apply below_alloc | apply pw_below_drewN | apply below_drew1 | refine below_set ?_ GE644.out) | exact HB.out)))); have n1_ := Aside0.mk (blk_below (g := gb644) (o := .cells #[.int .i64 a0_0, .slice A0_1 l0_1.length c0_1] 34 (0, 0)) (by (with_reducible repeat (first | refine blk_drewN ?_ _ | refine blk_drew ?_ | refine blk_alloc ?_ _)); exact BK644.out) hb); have n2_ := Aside0.mk (below_step (by repeat (first | (with_reducible first | exact HB.out | apply below_alloc | apply pw_below_drewN | apply below_drew1 | refine below_set ?_ GE644.out) | exact HB.out)) hb); clear BK644; clear HB; have HO648 := n0_; have BK644 := n1_; have HB := n2_; clear n0_ n1_ n2_; (try clear hb); (try clear hb2); (try clear hk); (try clear hi); (try clear ho0)) | ((with_reducible refine gate_dst (N := 8) rfl ?_); refine box_event ?hg (N := 8) ?hd (cs := #[.int .i64 0, .slice none 0 0]) (t := 71) ?hr ?_; (case hd => rfl); (case hg => rfl); (case hr => first | (go_simp; done) | (go_simp; rfl)); intro gb650 hg w18 hbox hb; have n0_ := Aside0.mk (Kd.R_below (by (with_reducible repeat (first | apply Kd.R_alloc | apply Kd.R_drewN | apply Kd.R_drew)); exact HO648.out) hb); have n1_ := Aside0.mk (blk_below (g := gb644) (o := .cells #[.int .i64 a0_0, .slice A0_1 l0_1.length c0_1] 34 (0, 0)) (by (with_reducible repeat (first | refine blk_drewN ?_ _ | refine blk_drew ?_ | refine blk_alloc ?_ _)); exact BK644.out) hb); have n2_ := Aside0.mk (below_step (by repeat (first | (with_reducible first | exact HB.out | apply below_alloc | apply pw_below_drewN | apply below_drew1 | refine below_set ?_ GE644.out) | exact HB.out)) hb); have n3_ := Aside0.mk (hbox); have n4_ := Aside0.mk ((by rw [hg]; exact (below_size (by repeat (first | (with_reducible first | exact HB.out | apply below_alloc | apply pw_below_drewN | apply below_drew1 | refine below_set ?_ GE644.out) | exact HB.out))) : w.heap.size ≤ gb650)); have n5_ := Aside0.mk ((by rw [hg]; exact (below_size (by repeat (first | (with_reducible first | exact HB.out | apply below_alloc | apply pw_below_drewN | apply below_drew1 | refine below_set ?_ GE644.out) | exact HB.out))) : w.heap.size ≤ gb650)); have n6_ := Aside0.mk ((by rw [hg]; exact Nat.ne_of_lt (blk_lt (g := gb644) (o := .cells #[.int .i64 a0_0, .slice A0_1 l0_1.length c0_1] 34 (0, 0)) (by (with_reducible repeat (first | refine blk_drewN ?_ _ | refine blk_drew ?_ | refine blk_alloc ?_ _)); exact BK644.out)) : gb644 ≠ gb650)); have n7_ := Aside0.mk ((by rw [hg]; exact Nat.ne_of_gt (blk_lt (g := gb644) (o := .cells #[.int .i64 a0_0, .slice A0_1 l0_1.length c0_1] 34 (0, 0)) (by (with_reducible repeat (first | refine blk_drewN ?_ _ | refine blk_drew ?_ | refine blk_alloc ?_ _)); exact BK644.out)) : gb650 ≠ gb644)); clear HO648; clear BK644; clear HB; have HO648 := n0_; have BK644 := n1_; have HB := n2_; have BK650 := n3_; have GW650 := n4_; have GE650 := n5_; have NB644_650 := n6_; have NB650_644 := n7_; clear n0_ n1_ n2_ n3_ n4_ n5_ n6_ n7_; clear hb hbox hg; have hnb19 := NB650_644.out; have hnc19 := NB644_650.out; have hcz20_0 : w18.cell? ⟨gb650, 0, none⟩ = some (.int .i64 0) := (blk_cell BK650.out 0).trans rfl; have hcz20_1 : w18.cell? ⟨gb650, 1, none⟩ = some (.slice none 0 0) := (blk_cell BK650.out 1).trans rfl; have hfz20_0 := blk_frozen BK650.out 0; have hfz20_1 := blk_frozen BK650.out 1; obtain ⟨Ao21, co21, eo21⟩ := Kd.R_slice HO648.out; subst eo21))
    go_ret2
    exact ⟨_, by first | rfl | (simp [errW_none, errW_some] <;> rfl) | (simp [*, errW_none, errW_some] <;> rfl), by first | exact Kd.R_nil _ _ _ _ _ | exact Kd.N_nil _ _ _ _ _ | exact Kd.V_nil _ _ _ _ _ | exact Kd.Q_nil _ _ _ _ _ | exact Kd.S_nil _ _ _ _ _, by repeat (first | (with_reducible first | exact HB.out | apply below_alloc | apply pw_below_drewN | apply below_drew1 | refine below_set ?_ GE644.out | refine below_set ?_ GE650.out) | exact HB.out)⟩

end Go.Proofs.Ytghooagembinaaa.P

namespace Go.Proofs.Ytghooagembinaaa.P
open Go.RowKit Go.Proofs.YtghooagembinaaaW.PrintWords Go.Proofs.YtghooagembinaaaW.PrintLast Go.Proofs.YtghooagembinaaaW.PrintMore
attribute [local go_sem] max2_int min2_int max_two min_two max_three min_three max_four min_four   -- for this text's walks alone
set_option linter.unusedVariables false
set_option linter.unusedSimpArgs false

/-! ### laws_FnExactQuarrelSwings: function 10 -/
def laws_FnExactQuarrelSwings.f (k : Nat) (a0_0 : Int) (l0_1 : List Int) (a1 : Int) (a2 : Int) : Option (Bool) := (laws_szCommittee.f a0_0 l0_1 1048576).bind fun t655 => (if t655 < 0 then (some true) else ((laws_toCommittee.f k a0_0 l0_1).bind fun bt656 => ((spec_QuarrelSwings.f k bt656.1 bt656.2 a1 a2).bind fun bt660 => ((laws_toCommittee.f k a0_0 l0_1).bind fun bt664 => ((impl_QuarrelSwings.f k bt664.1 bt664.2 a1 a2).bind fun bt669 => ((laws_eqIntS.f k bt669.1 bt660.1).bind fun t673 => (if t673 = true then (if (bt669.2 != bt660.2) = true then (some false) else ((laws_toCommittee.f k a0_0 l0_1).bind fun bt674 => ((laws_eqCommittee.f k bt664.1 bt664.2 bt674.1 bt674.2).bind fun t678 => (if t678 = true then ((laws_markCommittee.f k bt664.1 bt664.2 1).bind fun bt679 => (if bt679.1 < 0 then (some false) else ((laws_eqIntS.f k bt669.1 bt660.1).bind fun t681 => (if t681 = true then ((laws_markIntS.f k bt669.1 1).bind fun bt682 => ((laws_heldIntS.f k bt682.2 1).bind fun t684 => (if t684 < 0 then (some false) else (if t684 = bt682.1 then ((laws_toCommittee.f k a0_0 l0_1).bind fun bt685 => ((impl_QuarrelSwings.f k bt685.1 bt685.2 a1 a2).bind fun bt689 => ((laws_eqIntS.f k bt689.1 bt660.1).bind fun t693 => (if t693 = true then (if (bt689.2 != bt660.2) = true then (some false) else ((laws_heldIntS.f k bt682.2 1).bind fun t694 => (if t694 < 0 then (some false) else (if t694 = bt682.1 then (some true) else (some false))))) else (some false))))) else (some false))))) else (some false))))) else (some false))))) else (some false))))))))
theorem laws_FnExactQuarrelSwings.mono : ∀ a0 a1 a2 a3 k, LeO (laws_FnExactQuarrelSwings.f k a0 a1 a2 a3) (laws_FnExactQuarrelSwings.f (k + 1) a0 a1 a2 a3) := by
  intro a0 a1 a2 a3 k
  unfold laws_FnExactQuarrelSwings.f
  repeat' first
      | (with_reducible exact impl_QuarrelSwings.mono _ _ _ _ _)
      | (with_reducible exact laws_eqCommittee.mono _ _ _ _ _)
      | (with_reducible exact laws_eqIntS.mono _ _ _)
      | (with_reducible exact laws_heldIntS.mono _ _ _)
      | (with_reducible exact laws_markCommittee.mono _ _ _ _)
      | (with_reducible exact laws_markIntS.mono _ _ _)
      | (with_reducible exact laws_toCommittee.mono _ _ _)
      | (with_reducible exact spec_QuarrelSwings.mono _ _ _ _ _)
      | (with_reducible exact LeO.refl _)
      | (with_reducible exact LeO.none _)
      | (with_reducible refine LeO.ite ?_ ?_)
      | (with_reducible refine LeO.bind ?_ (fun _ => ?_))
      | exact impl_QuarrelSwings.mono _ _ _ _ _
      | exact laws_eqCommittee.mono _ _ _ _ _
      | exact laws_eqIntS.mono _ _ _
      | exact laws_heldIntS.mono _ _ _
      | exact laws_markCommittee.mono _ _ _ _
      | exact laws_markIntS.mono _ _ _
      | exact laws_toCommittee.mono _ _ _
      | exact spec_QuarrelSwings.mono _ _ _ _ _
      | exact LeO.none _
      | refine LeO.ite ?_ ?_
      | refine LeO.bind ?_ (fun _ => ?_)
set_option maxHeartbeats 8000000 in
set_option maxRecDepth 100000 in
theorem laws_FnExactQuarrelSwings.calls (k : Nat) (a0_0 : Int) (A0_1 : Option Addr) (c0_1 : Nat) (l0_1 : List Int) (a1 : Int) (a2 : Int) (r : Bool) (w : World) (hr0_1 : Kd.C (Kd.int .i64) w A0_1 l0_1.length l0_1) (hc0_1 : l0_1.length ≤ c0_1) (hr_ : Aside0 (r = true)) (h : laws_FnExactQuarrelSwings.f k a0_0 l0_1 a1 a2 = some r) :
    Calls Try.prog 10 #[.agg #[.int .i64 a0_0, .slice A0_1 l0_1.length c0_1], .int .i64 a1, .int .i64 a2] w fun e w' => e = .returned (.bool r) ∧ Below w.heap.size w w' := by
  have hu31 := Try.underlying31
  have hu34 := Try.underlying34
  have HR0_1 := Aside0.mk hr0_1
  have HC0_1 := Aside0.mk hc0_1
  clear hr0_1 hc0_1
  have HB := Aside0.mk (Below.refl w.heap.size w)
  have H : ((laws_szCommittee.f a0_0 l0_1 1048576).bind fun t655 => (if t655 < 0 then (some true) else ((laws_toCommittee.f k a0_0 l0_1).bind fun bt656 => ((spec_QuarrelSwings.f k bt656.1 bt656.2 a1 a2).bind fun bt660 => ((laws_toCommittee.f k a0_0 l0_1).bind fun bt664 => ((impl_QuarrelSwings.f k bt664.1 bt664.2 a1 a2).bind fun bt669 => ((laws_eqIntS.f k bt669.1 bt660.1).bind fun t673 => (if t673 = true then (if (bt669.2 != bt660.2) = true then (some false) else ((laws_toCommittee.f k a0_0 l0_1).bind fun bt674 => ((laws_eqCommittee.f k bt664.1 bt664.2 bt674.1 bt674.2).bind fun t678 => (if t678 = true then ((laws_markCommittee.f k bt664.1 bt664.2 1).bind fun bt679 => (if bt679.1 < 0 then (some false) else ((laws_eqIntS.f k bt669.1 bt660.1).bind fun t681 => (if t681 = true then ((laws_markIntS.f k bt669.1 1).bind fun bt682 => ((laws_heldIntS.f k bt682.2 1).bind fun t684 => (if t684 < 0 then (some false) else (if t684 = bt682.1 then ((laws_toCommittee.f k a0_0 l0_1).bind fun bt685 => ((impl_QuarrelSwings.f k bt685.1 bt685.2 a1 a2).bind fun bt689 => ((laws_eqIntS.f k bt689.1 bt660.1).bind fun t693 => (if t693 = true then (if (bt689.2 != bt660.2) = true then (some false) else ((laws_heldIntS.f k bt682.2 1).bind fun t694 => (if t694 < 0 then (some false) else (if t694 = bt682.1 then (some true) else (some false))))) else (some false))))) else (some false))))) else (some false))))) else (some false))))) else (some false))))))))) = some r := h
  clear h
  replace H := Option.bind_eq_some_iff.mp H
  obtain ⟨t655, A40, H⟩ := H
  replace H : (if t655 < 0 then (some true) else ((laws_toCommittee.f k a0_0 l0_1).bind fun bt656 => ((spec_QuarrelSwings.f k bt656.1 bt656.2 a1 a2).bind fun bt660 => ((laws_toCommittee.f k a0_0 l0_1).bind fun bt664 => ((impl_QuarrelSwings.f k bt664.1 bt664.2 a1 a2).bind fun bt669 => ((laws_eqIntS.f k bt669.1 bt660.1).bind fun t673 => (if t673 = true then (if (bt669.2 != bt660.2) = true then (some false) else ((laws_toCommittee.f k a0_0 l0_1).bind fun bt674 => ((laws_eqCommittee.f k bt664.1 bt664.2 bt674.1 bt674.2).bind fun t678 => (if t678 = true then ((laws_markCommittee.f k bt664.1 bt664.2 1).bind fun bt679 => (if bt679.1 < 0 then (some false) else ((laws_eqIntS.f k bt669.1 bt660.1).bind fun t681 => (if t681 = true then ((laws_markIntS.f k bt669.1 1).bind fun bt682 => ((laws_heldIntS.f k bt682.2 1).bind fun t684 => (if t684 < 0 then (some false) else (if t684 = bt682.1 then ((laws_toCommittee.f k a0_0 l0_1).bind fun bt685 => ((impl_QuarrelSwings.f k bt685.1 bt685.2 a1 a2).bind fun bt689 => ((laws_eqIntS.f k bt689.1 bt660.1).bind fun t693 => (if t693 = true then (if (bt689.2 != bt660.2) = true then (some false) else ((laws_heldIntS.f k bt682.2 1).bind fun t694 => (if t694 < 0 then (some false) else (if t694 = bt682.1 then (some true) else (some false))))) else (some false))))) else (some false))))) else (some false))))) else (some false))))) else (some false)))))))) = some r := H
  have A4 := Aside0.mk A40
  clear A40
  by_cases c5 : t655 < 0
  · rw [if_pos c5] at H
    have c5b0 : decide (t655 < 0) = true := decide_eq_true c5
    clear c5
    obtain rfl := Option.some.inj H
    go_enter Try.func10, Try.ntmps10
    go_wp2_with (first | ((with_reducible refine gate_dst (N := 3) rfl ?_); refine box_event ?hg (N := 3) ?hd (cs := #[.int .i64 a0_0, .slice A0_1 l0_1.length c0_1]) (t := 31) ?hr ?_; (case hd => rfl); (case hg => rfl); (case hr => first | (go_simp; done) | (go_simp; rfl)); intro gb654 hg w6 hbox hb; have n0_ := Aside0.mk (below_step (by repeat (first | (with_reducible first | exact HB.out | apply below_alloc | apply pw_below_drewN | apply below_drew1) | exact HB.out)) hb); have n1_ := Aside0.mk (hbox); have n2_ := Aside0.mk ((by rw [hg]; exact (below_size (by repeat (first | (with_reducible first | exact HB.out | apply below_alloc | apply pw_below_drewN | apply below_drew1) | exact HB.out))) : w.heap.size ≤ gb654)); have n3_ := Aside0.mk ((by rw [hg]; exact (below_size (by repeat (first | (with_reducible first | exact HB.out | apply below_alloc | apply pw_below_drewN | apply below_drew1) | exact HB.out))) : w.heap.size ≤ gb654)); clear HB; have HB := n0_; have BK654 := n1_; have GW654 := n2_; have GE654 := n3_; clear n0_ n1_ n2_ n3_; clear hb hbox hg; have hcz7_0 : w6.cell? ⟨gb654, 0, none⟩ = some (.int .i64 a0_0) := (blk_cell BK654.out 0).trans rfl; have hcz7_1 : w6.cell? ⟨gb654, 1, none⟩ = some (.slice A0_1 l0_1.length c0_1) := (blk_cell BK654.out 1).trans rfl; have hfz7_0 := blk_frozen BK654.out 0; have hfz7_1 := blk_frozen BK654.out 1) | ((with_reducible refine gate_callee (f := 19) rfl ?_); refine goesL_ (some 20) rfl rfl Try.func19 (by kernel_rfl) rfl #[.agg #[.int .i64 a0_0, .slice A0_1 l0_1.length c0_1], .int .i64 1048576] rfl (by (try simp only [List.map_toArray, List.map_cons, List.map_nil]); first | done | rfl | (simp only [List.length_drop, List.length_take]; rfl)) ?_; (with_reducible refine (laws_szCommittee.calls a0_0 _ _ l0_1 1048576 t655 _ ?side1 ?side2 A4.out).mono ?_); (case side1 => repeat (first | exact (Kd.C_below HR0_1.out HB.out) | (with_reducible refine Kd.C_alloc ?_ _) | (with_reducible refine Kd.C_drewN ?_ _) | (with_reducible refine Kd.C_drew ?_))); (case side2 => exact HC0_1.out); rintro e w8 ⟨rfl, hb⟩; refine ⟨_, rfl, ?_⟩; have n0_ := Aside0.mk (blk_below (g := gb654) (o := .cells #[.int .i64 a0_0, .slice A0_1 l0_1.length c0_1] 31 (0, 0)) (by (with_reducible repeat (first | refine blk_drewN ?_ _ | refine blk_drew ?_ | refine blk_alloc ?_ _)); exact BK654.out) hb); have n1_ := Aside0.mk (below_step (by repeat (first | (with_reducible first | exact HB.out | apply below_alloc | apply pw_below_drewN | apply below_drew1 | refine below_set ?_ GE654.out) | exact HB.out)) hb); clear BK654; clear HB; have BK654 := n0_; have HB := n1_; clear n0_ n1_; (try clear hb); (try clear hb2); (try clear hk); (try clear hi)))
    go_ret
    exact ⟨by first | rfl | (simp [errW_none, errW_some] <;> rfl) | (simp [*, errW_none, errW_some] <;> rfl), by repeat (first | (with_reducible first | exact HB.out | apply below_alloc | apply pw_below_drewN | apply below_drew1 | refine below_set ?_ GE654.out) | exact HB.out)⟩
  · rw [if_neg c5] at H
    have c5b0 : decide (t655 < 0) = false := decide_eq_false c5
    clear c5
    replace H := Option.bind_eq_some_iff.mp H
    obtain ⟨⟨t656, t657⟩, A90, H⟩ := H
    replace H : ((spec_QuarrelSwings.f k t656 t657 a1 a2).bind fun bt660 => ((laws_toCommittee.f k a0_0 l0_1).bind fun bt664 => ((impl_QuarrelSwings.f k bt664.1 bt664.2 a1 a2).bind fun bt669 => ((laws_eqIntS.f k bt669.1 bt660.1).bind fun t673 => (if t673 = true then (if (bt669.2 != bt660.2) = true then (some false) else ((laws_toCommittee.f k a0_0 l0_1).bind fun bt674 => ((laws_eqCommittee.f k bt664.1 bt664.2 bt674.1 bt674.2).bind fun t678 => (if t678 = true then ((laws_markCommittee.f k bt664.1 bt664.2 1).bind fun bt679 => (if bt679.1 < 0 then (some false) else ((laws_eqIntS.f k bt669.1 bt660.1).bind fun t681 => (if t681 = true then ((laws_markIntS.f k bt669.1 1).bind fun bt682 => ((laws_heldIntS.f k bt682.2 1).bind fun t684 => (if t684 < 0 then (some false) else (if t684 = bt682.1 then ((laws_toCommittee.f k a0_0 l0_1).bind fun bt685 => ((impl_QuarrelSwings.f k bt685.1 bt685.2 a1 a2).bind fun bt689 => ((laws_eqIntS.f k bt689.1 bt660.1).bind fun t693 => (if t693 = true then (if (bt689.2 != bt660.2) = true then (some false) else ((laws_heldIntS.f k bt682.2 1).bind fun t694 => (if t694 < 0 then (some false) else (if t694 = bt682.1 then (some true) else (some false))))) else (some false))))) else (some false))))) else (some false))))) else (some false))))) else (some false)))))) = some r := H
    have A9 := Aside0.mk A90
    clear A90
    replace H := Option.bind_eq_some_iff.mp H
    obtain ⟨⟨t660, t663⟩, A100, H⟩ := H
    replace H : ((laws_toCommittee.f k a0_0 l0_1).bind fun bt664 => ((impl_QuarrelSwings.f k bt664.1 bt664.2 a1 a2).bind fun bt669 => ((laws_eqIntS.f k bt669.1 t660).bind fun t673 => (if t673 = true then (if (bt669.2 != t663) = true then (some false) else ((laws_toCommittee.f k a0_0 l0_1).bind fun bt674 => ((laws_eqCommittee.f k bt664.1 bt664.2 bt674.1 bt674.2).bind fun t678 => (if t678 = true then ((laws_markCommittee.f k bt664.1 bt664.2 1).bind fun bt679 => (if bt679.1 < 0 then (some false) else ((laws_eqIntS.f k bt669.1 t660).bind fun t681 => (if t681 = true then ((laws_markIntS.f k bt669.1 1).bind fun bt682 => ((laws_heldIntS.f k bt682.2 1).bind fun t684 => (if t684 < 0 then (some false) else (if t684 = bt682.1 then ((laws_toCommittee.f k a0_0 l0_1).bind fun bt685 => ((impl_QuarrelSwings.f k bt685.1 bt685.2 a1 a2).bind fun bt689 => ((laws_eqIntS.f k bt689.1 t660).bind fun t693 => (if t693 = true then (if (bt689.2 != t663) = true then (some false) else ((laws_heldIntS.f k bt682.2 1).bind fun t694 => (if t694 < 0 then (some false) else (if t694 = bt682.1 then (some true) else (some false))))) else (some false))))) else (some false))))) else (some false))))) else (some false))))) else (some false))))) = some r := H
    have A10 := Aside0.mk A100
    clear A100
    replace H := Option.bind_eq_some_iff.mp H
    obtain ⟨⟨t664, t665⟩, A110, H⟩ := H
    replace H : ((impl_QuarrelSwings.f k t664 t665 a1 a2).bind fun bt669 => ((laws_eqIntS.f k bt669.1 t660).bind fun t673 => (if t673 = true then (if (bt669.2 != t663) = true then (some false) else ((laws_toCommittee.f k a0_0 l0_1).bind fun bt674 => ((laws_eqCommittee.f k t664 t665 bt674.1 bt674.2).bind fun t678 => (if t678 = true then ((laws_markCommittee.f k t664 t665 1).bind fun bt679 => (if bt679.1 < 0 then (some false) else ((laws_eqIntS.f k bt669.1 t660).bind fun t681 => (if t681 = true then ((laws_markIntS.f k bt669.1 1).bind fun bt682 => ((laws_heldIntS.f k bt682.2 1).bind fun t684 => (if t684 < 0 then (some false) else (if t684 = bt682.1 then ((laws_toCommittee.f k a0_0 l0_1).bind fun bt685 => ((impl_QuarrelSwings.f k bt685.1 bt685.2 a1 a2).bind fun bt689 => ((laws_eqIntS.f k bt689.1 t660).bind fun t693 => (if t693 = true then (if (bt689.2 != t663) = true then (some false) else ((laws_heldIntS.f k bt682.2 1).bind fun t694 => (if t694 < 0 then (some false) else (if t694 = bt682.1 then (some true) else (some false))))) else (some false))))) else (some false))))) else (some false))))) else (some false))))) else (some false)))) = some r := H
    have A11 := Aside0.mk A110
    clear A110
    replace H := Option.bind_eq_some_iff.mp H
    obtain ⟨⟨t669, t672⟩, A120, H⟩ := H
    replace H : ((laws_eqIntS.f k t669 t660).bind fun t673 => (if t673 = true then (if (t672 != t663) = true then (some false) else ((laws_toCommittee.f k a0_0 l0_1).bind fun bt674 => ((laws_eqCommittee.f k t664 t665 bt674.1 bt674.2).bind fun t678 => (if t678 = true then ((laws_markCommittee.f k t664 t665 1).bind fun bt679 => (if bt679.1 < 0 then (some false) else ((laws_eqIntS.f k t669 t660).bind fun t681 => (if t681 = true then ((laws_markIntS.f k t669 1).bind fun bt682 => ((laws_heldIntS.f k bt682.2 1).bind fun t684 => (if t684 < 0 then (some false) else (if t684 = bt682.1 then ((laws_toCommittee.f k a0_0 l0_1).bind fun bt685 => ((impl_QuarrelSwings.f k bt685.1 bt685.2 a1 a2).bind fun bt689 => ((laws_eqIntS.f k bt689.1 t660).bind fun t693 => (if t693 = true then (if (bt689.2 != t663) = true then (some false) else ((laws_heldIntS.f k bt682.2 1).bind fun t694 => (if t694 < 0 then (some false) else (if t694 = bt682.1 then (some true) else (some false))))) else (some false))))) else (some false))))) else (some false))))) else (some false))))) else (some false))) = some r := H
    have A12 := Aside0.mk A120
    clear A120
    replace H := Option.bind_eq_some_iff.mp H
    obtain ⟨t673, A130, H⟩ := H
    replace H : (if t673 = true then (if (t672 != t663) = true then (some false) else ((laws_toCommittee.f k a0_0 l0_1).bind fun bt674 => ((laws_eqCommittee.f k t664 t665 bt674.1 bt674.2).bind fun t678 => (if t678 = true then ((laws_markCommittee.f k t664 t665 1).bind fun bt679 => (if bt679.1 < 0 then (some false) else ((laws_eqIntS.f k t669 t660).bind fun t681 => (if t681 = true then ((laws_markIntS.f k t669 1).bind fun bt682 => ((laws_heldIntS.f k bt682.2 1).bind fun t684 => (if t684 < 0 then (some false) else (if t684 = bt682.1 then ((laws_toCommittee.f k a0_0 l0_1).bind fun bt685 => ((impl_QuarrelSwings.f k bt685.1 bt685.2 a1 a2).bind fun bt689 => ((laws_eqIntS.f k bt689.1 t660).bind fun t693 => (if t693 = true then (if (bt689.2 != t663) = true then (some false) else ((laws_heldIntS.f k bt682.2 1).bind fun t694 => (if t694 < 0 then (some false) else (if t694 = bt682.1 then (some true) else (some false))))) else (some false))))) else (some false))))) else (some false))))) else (some false))))) else (some false)) = some r := H
    have A13 := Aside0.mk A130
    clear A130
    by_cases c14 : t673 = true
    · subst c14
      have H1 : (if (t672 != t663) = true then (some false) else ((laws_toCommittee.f k a0_0 l0_1).bind fun bt674 => ((laws_eqCommittee.f k t664 t665 bt674.1 bt674.2).bind fun t678 => (if t678 = true then ((laws_markCommittee.f k t664 t665 1).bind fun bt679 => (if bt679.1 < 0 then (some false) else ((laws_eqIntS.f k t669 t660).bind fun t681 => (if t681 = true then ((laws_markIntS.f k t669 1).bind fun bt682 => ((laws_heldIntS.f k bt682.2 1).bind fun t684 => (if t684 < 0 then (some false) else (if t684 = bt682.1 then ((laws_toCommittee.f k a0_0 l0_1).bind fun bt685 => ((impl_QuarrelSwings.f k bt685.1 bt685.2 a1 a2).bind fun bt689 => ((laws_eqIntS.f k bt689.1 t660).bind fun t693 => (if t693 = true then (if (bt689.2 != t663) = true then (some false) else ((laws_heldIntS.f k bt682.2 1).bind fun t694 => (if t694 < 0 then (some false) else (if t694 = bt682.1 then (some true) else (some false))))) else (some false))))) else (some false))))) else (some false))))) else (some false))))) = some r := by rw [if_pos rfl] at H; exact H
      clear H
      have H := H1
      clear H1
      by_cases c15 : (t672 != t663) = true
      · rw [if_pos c15] at H
        have c15b0 : (t672 != t663) = true := c15
        (try (have c15b1 : decide (t672 = t663) = false := by simpa using c15))
        (try (have c15b2 : (t672 == t663) = false := by simpa using c15))
        (try (have c15b3 : ¬ (t672 = t663) := by simpa using c15))
        clear c15
        exact absurd (H.trans (congrArg some hr_.out)) (by simp)
      · rw [if_neg c15] at H
        have c15b0 : (t672 != t663) = false := by simpa using c15
        (try (have c15b1 : decide (t672 = t663) = true := by simpa using c15))
        (try (have c15b2 : (t672 == t663) = true := by simpa using c15))
        clear c15
        replace H := Option.bind_eq_some_iff.mp H
        obtain ⟨⟨t674, t675⟩, A160, H⟩ := H
        replace H : ((laws_eqCommittee.f k t664 t665 t674 t675).bind fun t678 => (if t678 = true then ((laws_markCommittee.f k t664 t665 1).bind fun bt679 => (if bt679.1 < 0 then (some false) else ((laws_eqIntS.f k t669 t660).bind fun t681 => (if t681 = true then ((laws_markIntS.f k t669 1).bind fun bt682 => ((laws_heldIntS.f k bt682.2 1).bind fun t684 => (if t684 < 0 then (some false) else (if t684 = bt682.1 then ((laws_toCommittee.f k a0_0 l0_1).bind fun bt685 => ((impl_QuarrelSwings.f k bt685.1 bt685.2 a1 a2).bind fun bt689 => ((laws_eqIntS.f k bt689.1 t660).bind fun t693 => (if t693 = true then (if (bt689.2 != t663) = true then (some false) else ((laws_heldIntS.f k bt682.2 1).bind fun t694 => (if t694 < 0 then (some false) else (if t694 = bt682.1 then (some true) else (some false))))) else (some false))))) else (some false))))) else (some false))))) else (some false))) = some r := H
        have A16 := Aside0.mk A160
        clear A160
        replace H := Option.bind_eq_some_iff.mp H
        obtain ⟨t678, A170, H⟩ := H
        replace H : (if t678 = true then ((laws_markCommittee.f k t664 t665 1).bind fun bt679 => (if bt679.1 < 0 then (some false) else ((laws_eqIntS.f k t669 t660).bind fun t681 => (if t681 = true then ((laws_markIntS.f k t669 1).bind fun bt682 => ((laws_heldIntS.f k bt682.2 1).bind fun t684 => (if t684 < 0 then (some false) else (if t684 = bt682.1 then ((laws_toCommittee.f k a0_0 l0_1).bind fun bt685 => ((impl_QuarrelSwings.f k bt685.1 bt685.2 a1 a2).bind fun bt689 => ((laws_eqIntS.f k bt689.1 t660).bind fun t693 => (if t693 = true then (if (bt689.2 != t663) = true then (some false) else ((laws_heldIntS.f k bt682.2 1).bind fun t694 => (if t694 < 0 then (some false) else (if t694 = bt682.1 then (some true) else (some false))))) else (some false))))) else (some false))))) else (some false))))) else (some false)) = some r := H
        have A17 := Aside0.mk A170
        clear A170
        by_cases c18 : t678 = true
        · subst c18
          have H1 : ((laws_markCommittee.f k t664 t665 1).bind fun bt679 => (if bt679.1 < 0 then (some false) else ((laws_eqIntS.f k t669 t660).bind fun t681 => (if t681 = true then ((laws_markIntS.f k t669 1).bind fun bt682 => ((laws_heldIntS.f k bt682.2 1).bind fun t684 => (if t684 < 0 then (some false) else (if t684 = bt682.1 then ((laws_toCommittee.f k a0_0 l0_1).bind fun bt685 => ((impl_QuarrelSwings.f k bt685.1 bt685.2 a1 a2).bind fun bt689 => ((laws_eqIntS.f k bt689.1 t660).bind fun t693 => (if t693 = true then (if (bt689.2 != t663) = true then (some false) else ((laws_heldIntS.f k bt682.2 1).bind fun t694 => (if t694 < 0 then (some false) else (if t694 = bt682.1 then (some true) else (some false))))) else (some false))))) else (some false))))) else (some false))))) = some r := by rw [if_pos rfl] at H; exact H
          clear H
          have H := H1
          clear H1
          replace H := Option.bind_eq_some_iff.mp H
          obtain ⟨⟨t679, t680⟩, A190, H⟩ := H
          replace H : (if t679 < 0 then (some false) else ((laws_eqIntS.f k t669 t660).bind fun t681 => (if t681 = true then ((laws_markIntS.f k t669 1).bind fun bt682 => ((laws_heldIntS.f k bt682.2 1).bind fun t684 => (if t684 < 0 then (some false) else (if t684 = bt682.1 then ((laws_toCommittee.f k a0_0 l0_1).bind fun bt685 => ((impl_QuarrelSwings.f k bt685.1 bt685.2 a1 a2).bind fun bt689 => ((laws_eqIntS.f k bt689.1 t660).bind fun t693 => (if t693 = true then (if (bt689.2 != t663) = true then (some false) else ((laws_heldIntS.f k bt682.2 1).bind fun t694 => (if t694 < 0 then (some false) else (if t694 = bt682.1 then (some true) else (some false))))) else (some false))))) else (some false))))) else (some false)))) = some r := H
          have A19 := Aside0.mk A190
          clear A190
          by_cases c20 : t679 < 0
          · rw [if_pos c20] at H
            have c20b0 : decide (t679 < 0) = true := decide_eq_true c20
            clear c20
            exact absurd (H.trans (congrArg some hr_.out)) (by simp)
          · rw [if_neg c20] at H
            have c20b0 : decide (t679 < 0) = false := decide_eq_false c20
            clear c20
            replace H := Option.bind_eq_some_iff.mp H
            obtain ⟨t681, A210, H⟩ := H
            replace H : (if t681 = true then ((laws_markIntS.f k t669 1).bind fun bt682 => ((laws_heldIntS.f k bt682.2 1).bind fun t684 => (if t684 < 0 then (some false) else (if t684 = bt682.1 then ((laws_toCommittee.f k a0_0 l0_1).bind fun bt685 => ((impl_QuarrelSwings.f k bt685.1 bt685.2 a1 a2).bind fun bt689 => ((laws_eqIntS.f k bt689.1 t660).bind fun t693 => (if t693 = true then (if (bt689.2 != t663) = true then (some false) else ((laws_heldIntS.f k bt682.2 1).bind fun t694 => (if t694 < 0 then (some false) else (if t694 = bt682.1 then (some true) else (some false))))) else (some false))))) else (some false))))) else (some false)) = some r := H
            have A21 := Aside0.mk A210
            clear A210
            by_cases c22 : t681 = true
            · subst c22
              have H1 : ((laws_markIntS.f k t669 1).bind fun bt682 => ((laws_heldIntS.f k bt682.2 1).bind fun t684 => (if t684 < 0 then (some false) else (if t684 = bt682.1 then ((laws_toCommittee.f k a0_0 l0_1).bind fun bt685 => ((impl_QuarrelSwings.f k bt685.1 bt685.2 a1 a2).bind fun bt689 => ((laws_eqIntS.f k bt689.1 t660).bind fun t693 => (if t693 = true then (if (bt689.2 != t663) = true then (some false) else ((laws_heldIntS.f k bt682.2 1).bind fun t694 => (if t694 < 0 then (some false) else (if t694 = bt682.1 then (some true) else (some false))))) else (some false))))) else (some false))))) = some r := by rw [if_pos rfl] at H; exact H
              clear H
              have H := H1
              clear H1
              replace H := Option.bind_eq_some_iff.mp H
              obtain ⟨⟨t682, t683⟩, A230, H⟩ := H
              replace H : ((laws_heldIntS.f k t683 1).bind fun t684 => (if t684 < 0 then (some false) else (if t684 = t682 then ((laws_toCommittee.f k a0_0 l0_1).bind fun bt685 => ((impl_QuarrelSwings.f k bt685.1 bt685.2 a1 a2).bind fun bt689 => ((laws_eqIntS.f k bt689.1 t660).bind fun t693 => (if t693 = true then (if (bt689.2 != t663) = true then (some false) else ((laws_heldIntS.f k t683 1).bind fun t694 => (if t694 < 0 then (some false) else (if t694 = t682 then (some true) else (some false))))) else (some false))))) else (some false)))) = some r := H
              have A23 := Aside0.mk A230
              clear A230
              replace H := Option.bind_eq_some_iff.mp H
              obtain ⟨t684, A240, H⟩ := H
              replace H : (if t684 < 0 then (some false) else (if t684 = t682 then ((laws_toCommittee.f k a0_0 l0_1).bind fun bt685 => ((impl_QuarrelSwings.f k bt685.1 bt685.2 a1 a2).bind fun bt689 => ((laws_eqIntS.f k bt689.1 t660).bind fun t693 => (if t693 = true then (if (bt689.2 != t663) = true then (some false) else ((laws_heldIntS.f k t683 1).bind fun t694 => (if t694 < 0 then (some false) else (if t694 = t682 then (some true) else (some false))))) else (some false))))) else (some false))) = some r := H
              have A24 := Aside0.mk A240
              clear A240
              by_cases c25 : t684 < 0
              · rw [if_pos c25] at H
                have c25b0 : decide (t684 < 0) = true := decide_eq_true c25
                clear c25
                exact absurd (H.trans (congrArg some hr_.out)) (by simp)
              · rw [if_neg c25] at H
                have c25b0 : decide (t684 < 0) = false := decide_eq_false c25
                clear c25
                by_cases c26 : t684 = t682
                · rw [if_pos c26] at H
                  have c26b0 : (t684 == t682) = true := beq_iff_eq.mpr c26
                  have c26b1 : (t684 != t682) = false := bne_eq_false_iff_eq.mpr c26
                  clear c26
                  replace H := Option.bind_eq_some_iff.mp H
                  obtain ⟨⟨t685, t686⟩, A270, H⟩ := H
                  replace H : ((impl_QuarrelSwings.f k t685 t686 a1 a2).bind fun bt689 => ((laws_eqIntS.f k bt689.1 t660).bind fun t693 => (if t693 = true then (if (bt689.2 != t663) = true then (some false) else ((laws_heldIntS.f k t683 1).bind fun t694 => (if t694 < 0 then (some false) else (if t694 = t682 then (some true) else (some false))))) else (some false)))) = some r := H
                  have A27 := Aside0.mk A270
                  clear A270
                  replace H := Option.bind_eq_some_iff.mp H
                  obtain ⟨⟨t689, t692⟩, A280, H⟩ := H
                  replace H : ((laws_eqIntS.f k t689 t660).bind fun t693 => (if t693 = true then (if (t692 != t663) = true then (some false) else ((laws_heldIntS.f k t683 1).bind fun t694 => (if t694 < 0 then (some false) else (if t694 = t682 then (some true) else (some false))))) else (some false))) = some r := H
                  have A28 := Aside0.mk A280
                  clear A280
                  replace H := Option.bind_eq_some_iff.mp H
                  obtain ⟨t693, A290, H⟩ := H
                  replace H : (if t693 = true then (if (t692 != t663) = true then (some false) else ((laws_heldIntS.f k t683 1).bind fun t694 => (if t694 < 0 then (some false) else (if t694 = t682 then (some true) else (some false))))) else (some false)) = some r := H
                  have A29 := Aside0.mk A290
                  clear A290
                  by_cases c30 : t693 = true
                  · subst c30
                    have H1 : (if (t692 != t663) = true then (some false) else ((laws_heldIntS.f k t683 1).bind fun t694 => (if t694 < 0 then (some false) else (if t694 = t682 then (some true) else (some false))))) = some r := by rw [if_pos rfl] at H; exact H
                    clear H
                    have H := H1
                    clear H1
                    by_cases c31 : (t692 != t663) = true
                    · rw [if_pos c31] at H
                      have c31b0 : (t692 != t663) = true := c31
                      (try (have c31b1 : decide (t692 = t663) = false := by simpa using c31))
                      (try (have c31b2 : (t692 == t663) = false := by simpa using c31))
                      (try (have c31b3 : ¬ (t692 = t663) := by simpa using c31))
                      clear c31
                      exact absurd (H.trans (congrArg some hr_.out)) (by simp)
                    · rw [if_neg c31] at H
                      have c31b0 : (t692 != t663) = false := by simpa using c31
                      (try (have c31b1 : decide (t692 = t663) = true := by simpa using c31))
                      (try (have c31b2 : (t692 == t663) = true := by simpa using c31))
                      clear c31
                      replace H := Option.bind_eq_some_iff.mp H
                      obtain ⟨t694, A320, H⟩ := H
                      replace H : (if t694 < 0 then (some false) else (if t694 = t682 then (some true) else (some false))) = some r := H
                      have A32 := Aside0.mk A320
                      clear A320
                      by_cases c33 : t694 < 0
                      · rw [if_pos c33] at H
                        have c33b0 : decide (t694 < 0) = true := decide_eq_true c33
                        clear c33
                        exact absurd (H.trans (congrArg some hr_.out)) (by simp)
                      · rw [if_neg c33] at H
                        have c33b0 : decide (t694 < 0) = false := decide_eq_false c33
                        clear c33
                        by_cases c34 : t694 = t682
                        · rw [if_pos c34] at H
                          have c34b0 : (t694 == t682) = true := beq_iff_eq.mpr c34
                          have c34b1 : (t694 != t682) = false := bne_eq_false_iff_eq.mpr c34
                          clear c34
                          obtain rfl := Option.some.inj H
                          go_enter Try.func10, Try.ntmps10
                          try go_wp2_with (first | ((with_reducible refine gate_dst (N := 3) rfl ?_); refine box_event ?hg (N := 3) ?hd (cs := #[.int .i64 a0_0, .slice A0_1 l0_1.length c0_1]) (t := 31) ?hr ?_; (case hd => rfl); (case hg => rfl); (case hr => first | (go_simp; done) | (go_simp; rfl)); intro gb654 hg w35 hbox hb; have n0_ := Aside0.mk (below_step (by repeat (first | (with_reducible first | exact HB.out | apply below_alloc | apply pw_below_drewN | apply below_drew1) | exact HB.out)) hb); have n1_ := Aside0.mk (hbox); have n2_ := Aside0.mk ((by rw [hg]; exact (below_size (by repeat (first | (with_reducible first | exact HB.out | apply below_alloc | apply pw_below_drewN | apply below_drew1) | exact HB.out))) : w.heap.size ≤ gb654)); have n3_ := Aside0.mk ((by rw [hg]; exact (below_size (by repeat (first | (with_reducible first | exact HB.out | apply below_alloc | apply pw_below_drewN | apply below_drew1) | exact HB.out))) : w.heap.size ≤ gb654)); clear HB; have HB := n0_; have BK654 := n1_; have GW654 := n2_; have GE654 := n3_; clear n0_ n1_ n2_ n3_; clear hb hbox hg; have hcz36_0 : w35.cell? ⟨gb654, 0, none⟩ = some (.int .i64 a0_0) := (blk_cell BK654.out 0).trans rfl; have hcz36_1 : w35.cell? ⟨gb654, 1, none⟩ = some (.slice A0_1 l0_1.length c0_1) := (blk_cell BK654.out 1).trans rfl; have hfz36_0 := blk_frozen BK654.out 0; have hfz36_1 := blk_frozen BK654.out 1) | ((with_reducible refine gate_callee (f := 19) rfl ?_); refine goesL_ (some 20) rfl rfl Try.func19 (by kernel_rfl) rfl #[.agg #[.int .i64 a0_0, .slice A0_1 l0_1.length c0_1], .int .i64 1048576] rfl (by (try simp only [List.map_toArray, List.map_cons, List.map_nil]); first | done | rfl | (simp only [List.length_drop, List.length_take]; rfl)) ?_; (with_reducible refine (laws_szCommittee.calls a0_0 _ _ l0_1 1048576 t655 _ ?side1 ?side2 A4.out).mono ?_); (case side1 => repeat (first | exact (Kd.C_below HR0_1.out HB.out) | (with_reducible refine Kd.C_alloc ?_ _) | (with_reducible refine Kd.C_drewN ?_ _) | (with_reducible refine Kd.C_drew ?_))); (case side2 => exact HC0_1.out); rintro e w37 ⟨rfl, hb⟩; refine ⟨_, rfl, ?_⟩; have n0_ := Aside0.mk (blk_below (g := gb654) (o := .cells #[.int .i64 a0_0, .slice A0_1 l0_1.length c0_1] 31 (0, 0)) (by (with_reducible repeat (first | refine blk_drewN ?_ _ | refine blk_drew ?_ | refine blk_alloc ?_ _)); exact BK654.out) hb); have n1_ := Aside0.mk (below_step (by repeat (first | (with_reducible first | exact HB.out | apply below_alloc | apply pw_below_drewN | apply below_drew1 | refine below_set ?_ GE654.out) | exact HB.out)) hb); clear BK654; clear HB; have BK654 := n0_; have HB := n1_; clear n0_ n1_; (try clear hb); (try clear hb2); (try clear hk); (try clear hi); have hcz38_0 : w37.cell? ⟨gb654, 0, none⟩ = some (.int .i64 a0_0) := (blk_cell BK654.out 0).trans rfl; have hcz38_1 : w37.cell? ⟨gb654, 1, none⟩ = some (.slice A0_1 l0_1.length c0_1) := (blk_cell BK654.out 1).trans rfl; have hfz38_0 := blk_frozen BK654.out 0; have hfz38_1 := blk_frozen BK654.out 1) | ((with_reducible refine gate_callee (f := 21) rfl ?_); refine goesL_ (some 25) rfl rfl Try.func21 (by kernel_rfl) rfl #[.agg #[.int .i64 a0_0, .slice A0_1 l0_1.length c0_1]] rfl (by (try simp only [List.map_toArray, List.map_cons, List.map_nil]); first | done | rfl | (simp only [List.length_drop, List.length_take]; rfl)) ?_; (with_reducible refine (laws_toCommittee.calls k a0_0 _ _ l0_1 t656 t657 _ ?side1 ?side2 A9.out).mono ?_); (case side1 => repeat (first | exact (Kd.C_below HR0_1.out HB.out) | (with_reducible refine Kd.C_alloc ?_ _) | (with_reducible refine Kd.C_drewN ?_ _) | (with_reducible refine Kd.C_drew ?_))); (case side2 => exact HC0_1.out); rintro e w39 ⟨v658, rfl, ho0, hb⟩; refine ⟨_, rfl, ?_⟩; have n0_ := Aside0.mk (Kd.R_lower ho0 (below_size (by repeat (first | (with_reducible first | exact HB.out | apply below_alloc | apply pw_below_drewN | apply below_drew1 | refine below_set ?_ GE654.out) | exact HB.out)))); have n1_ := Aside0.mk (blk_below (g := gb654) (o := .cells #[.int .i64 a0_0, .slice A0_1 l0_1.length c0_1] 31 (0, 0)) (by (with_reducible repeat (first | refine blk_drewN ?_ _ | refine blk_drew ?_ | refine blk_alloc ?_ _)); exact BK654.out) hb); have n2_ := Aside0.mk (below_step (by repeat (first | (with_reducible first | exact HB.out | apply below_alloc | apply pw_below_drewN | apply below_drew1 | refine below_set ?_ GE654.out) | exact HB.out)) hb); clear BK654; clear HB; have HO659 := n0_; have BK654 := n1_; have HB := n2_; clear n0_ n1_ n2_; (try clear hb); (try clear hb2); (try clear hk); (try clear hi); (try clear ho0); obtain ⟨Ao40, co40, eo40⟩ := Kd.R_slice HO659.out; subst eo40) | ((with_reducible refine gate_callee (f := 36) rfl ?_); refine goesL_ (some 28) rfl rfl Try.func36 (by kernel_rfl) rfl #[.agg #[.int .i64 t656, .slice Ao40 t657.length co40], .int .i64 a1, .int .i64 a2] rfl (by (try simp only [List.map_toArray, List.map_cons, List.map_nil]); first | done | rfl | (simp only [List.length_drop, List.length_take]; rfl)) ?_; (with_reducible refine (spec_QuarrelSwings.calls k t656 _ _ t657 a1 a2 t660 t663 _ ?side1 ?side2 A10.out).mono ?_); (case side1 => repeat (first | exact (Kd.R_reads' HO659.out).2.2 | (with_reducible refine Kd.C_alloc ?_ _) | (with_reducible refine Kd.C_drewN ?_ _) | (with_reducible refine Kd.C_drew ?_))); (case side2 => exact (Kd.R_reads' HO659.out).2.1); rintro e w41 ⟨v661, rfl, ho0, hb⟩; refine ⟨_, rfl, ?_⟩; have n0_ := Aside0.mk (Kd.R_elder' (by (with_reducible repeat (first | apply Kd.R_alloc | apply Kd.R_drewN | apply Kd.R_drew)); exact HO659.out) (Kd.R_base ho0) hb); have n1_ := Aside0.mk (Kd.R_lower (Kd.R_new' ho0 (Kd.R_lt (by (with_reducible repeat (first | apply Kd.R_alloc | apply Kd.R_drewN | apply Kd.R_drew)); exact HO659.out))) (below_size (by repeat (first | (with_reducible first | exact HB.out | apply below_alloc | apply pw_below_drewN | apply below_drew1 | refine below_set ?_ GE654.out) | exact HB.out)))); have n2_ := Aside0.mk (blk_below (g := gb654) (o := .cells #[.int .i64 a0_0, .slice A0_1 l0_1.length c0_1] 31 (0, 0)) (by (with_reducible repeat (first | refine blk_drewN ?_ _ | refine blk_drew ?_ | refine blk_alloc ?_ _)); exact BK654.out) hb); have n3_ := Aside0.mk (below_step (by repeat (first | (with_reducible first | exact HB.out | apply below_alloc | apply pw_below_drewN | apply below_drew1 | refine below_set ?_ GE654.out) | exact HB.out)) hb); clear HO659; clear BK654; clear HB; have HO659 := n0_; have HO662 := n1_; have BK654 := n2_; have HB := n3_; clear n0_ n1_ n2_ n3_; (try clear hb); (try clear hb2); (try clear hk); (try clear hi); (try clear ho0); have hcz42_0 : w41.cell? ⟨gb654, 0, none⟩ = some (.int .i64 a0_0) := (blk_cell BK654.out 0).trans rfl; have hcz42_1 : w41.cell? ⟨gb654, 1, none⟩ = some (.slice A0_1 l0_1.length c0_1) := (blk_cell BK654.out 1).trans rfl; have hfz42_0 := blk_frozen BK654.out 0; have hfz42_1 := blk_frozen BK654.out 1) | ((with_reducible refine gate_callee (f := 21) rfl ?_); refine goesL_ (some 32) rfl rfl Try.func21 (by kernel_rfl) rfl #[.agg #[.int .i64 a0_0, .slice A0_1 l0_1.length c0_1]] rfl (by (try simp only [List.map_toArray, List.map_cons, List.map_nil]); first | done | rfl | (simp only [List.length_drop, List.length_take]; rfl)) ?_; (with_reducible refine (laws_toCommittee.calls k a0_0 _ _ l0_1 t664 t665 _ ?side1 ?side2 A11.out).mono ?_); (case side1 => repeat (first | exact (Kd.C_below HR0_1.out HB.out) | (with_reducible refine Kd.C_alloc ?_ _) | (with_reducible refine Kd.C_drewN ?_ _) | (with_reducible refine Kd.C_drew ?_))); (case side2 => exact HC0_1.out); rintro e w43 ⟨v666, rfl, ho0, hb⟩; refine ⟨_, rfl, ?_⟩; have n0_ := Aside0.mk (Kd.R_elder' (by (with_reducible repeat (first | apply Kd.R_alloc | apply Kd.R_drewN | apply Kd.R_drew)); exact HO659.out) (Kd.R_base ho0) hb); have n1_ := Aside0.mk (Kd.R_elder' (by (with_reducible repeat (first | apply Kd.R_alloc | apply Kd.R_drewN | apply Kd.R_drew)); exact HO662.out) (Kd.R_base ho0) hb); have n2_ := Aside0.mk (Kd.R_lower (Kd.R_new' (Kd.R_new' ho0 (Kd.R_lt (by (with_reducible repeat (first | apply Kd.R_alloc | apply Kd.R_drewN | apply Kd.R_drew)); exact HO659.out))) (Kd.R_lt (by (with_reducible repeat (first | apply Kd.R_alloc | apply Kd.R_drewN | apply Kd.R_drew)); exact HO662.out))) (below_size (by repeat (first | (with_reducible first | exact HB.out | apply below_alloc | apply pw_below_drewN | apply below_drew1 | refine below_set ?_ GE654.out) | exact HB.out)))); have n3_ := Aside0.mk (blk_below (g := gb654) (o := .cells #[.int .i64 a0_0, .slice A0_1 l0_1.length c0_1] 31 (0, 0)) (by (with_reducible repeat (first | refine blk_drewN ?_ _ | refine blk_drew ?_ | refine blk_alloc ?_ _)); exact BK654.out) hb); have n4_ := Aside0.mk (below_step (by repeat (first | (with_reducible first | exact HB.out | apply below_alloc | apply pw_below_drewN | apply below_drew1 | refine below_set ?_ GE654.out) | exact HB.out)) hb); clear HO659; clear HO662; clear BK654; clear HB; have HO659 := n0_; have HO662 := n1_; have HO667 := n2_; have BK654 := n3_; have HB := n4_; clear n0_ n1_ n2_ n3_ n4_; (try clear hb); (try clear hb2); (try clear hk); (try clear hi); (try clear ho0)) | ((with_reducible refine gate_dst (N := 10) rfl ?_); refine box_event ?hg (N := 10) ?hd (cs := #[.int .i64 0, .slice none 0 0]) (t := 34) ?hr ?_; (case hd => rfl); (case hg => rfl); (case hr => first | (go_simp; done) | (go_simp; rfl)); intro gb668 hg w44 hbox hb; have n0_ := Aside0.mk (Kd.R_below (by (with_reducible repeat (first | apply Kd.R_alloc | apply Kd.R_drewN | apply Kd.R_drew)); exact HO659.out) hb); have n1_ := Aside0.mk (Kd.R_below (by (with_reducible repeat (first | apply Kd.R_alloc | apply Kd.R_drewN | apply Kd.R_drew)); exact HO662.out) hb); have n2_ := Aside0.mk (Kd.R_below (by (with_reducible repeat (first | apply Kd.R_alloc | apply Kd.R_drewN | apply Kd.R_drew)); exact HO667.out) hb); have n3_ := Aside0.mk (blk_below (g := gb654) (o := .cells #[.int .i64 a0_0, .slice A0_1 l0_1.length c0_1] 31 (0, 0)) (by (with_reducible repeat (first | refine blk_drewN ?_ _ | refine blk_drew ?_ | refine blk_alloc ?_ _)); exact BK654.out) hb); have n4_ := Aside0.mk (below_step (by repeat (first | (with_reducible first | exact HB.out | apply below_alloc | apply pw_below_drewN | apply below_drew1 | refine below_set ?_ GE654.out) | exact HB.out)) hb); have n5_ := Aside0.mk (hbox); have n6_ := Aside0.mk ((by rw [hg]; exact (below_size (by repeat (first | (with_reducible first | exact HB.out | apply below_alloc | apply pw_below_drewN | apply below_drew1 | refine below_set ?_ GE654.out) | exact HB.out))) : w.heap.size ≤ gb668)); have n7_ := Aside0.mk ((by rw [hg]; exact (below_size (by repeat (first | (with_reducible first | exact HB.out | apply below_alloc | apply pw_below_drewN | apply below_drew1 | refine below_set ?_ GE654.out) | exact HB.out))) : w.heap.size ≤ gb668)); have n8_ := Aside0.mk ((by rw [hg]; exact Nat.ne_of_lt (blk_lt (g := gb654) (o := .cells #[.int .i64 a0_0, .slice A0_1 l0_1.length c0_1] 31 (0, 0)) (by (with_reducible repeat (first | refine blk_drewN ?_ _ | refine blk_drew ?_ | refine blk_alloc ?_ _)); exact BK654.out)) : gb654 ≠ gb668)); have n9_ := Aside0.mk ((by rw [hg]; exact Nat.ne_of_gt (blk_lt (g := gb654) (o := .cells #[.int .i64 a0_0, .slice A0_1 l0_1.length c0_1] 31 (0, 0)) (by (with_reducible repeat (first | refine blk_drewN ?_ _ | refine blk_drew ?_ | refine blk_alloc ?_ _)); exact BK654.out)) : gb668 ≠ gb654)); clear HO659; clear HO662; clear HO667; clear BK654; clear HB; have HO659 := n0_; have HO662 := n1_; have HO667 := n2_; have BK654 := n3_; have HB := n4_; have BK668 := n5_; have GW668 := n6_; have GE668 := n7_; have NB654_668 := n8_; have NB668_654 := n9_; clear n0_ n1_ n2_ n3_ n4_ n5_ n6_ n7_ n8_ n9_; clear hb hbox hg; have hnb45 := NB668_654.out; have hnc45 := NB654_668.out; have hcz46_0 : w44.cell? ⟨gb668, 0, none⟩ = some (.int .i64 0) := (blk_cell BK668.out 0).trans rfl; have hcz46_1 : w44.cell? ⟨gb668, 1, none⟩ = some (.slice none 0 0) := (blk_cell BK668.out 1).trans rfl; have hfz46_0 := blk_frozen BK668.out 0; have hfz46_1 := blk_frozen BK668.out 1; obtain ⟨Ao47, co47, eo47⟩ := Kd.R_slice HO667.out; subst eo47) | ((with_reducible refine gate_callee (f := 37) rfl ?_); refine goesL_ (some 37) rfl rfl Try.func37 (by kernel_rfl) rfl #[.agg #[.int .i64 t664, .slice Ao47 t665.length co47], .int .i64 a1, .int .i64 a2] rfl (by (try simp only [List.map_toArray, List.map_cons, List.map_nil]); first | done | rfl | (simp only [List.length_drop, List.length_take]; rfl)) ?_; (with_reducible refine (impl_QuarrelSwings.calls k t664 _ _ t665 a1 a2 t669 t672 _ ?side1 ?side2 A12.out).mono ?_); (case side1 => refine (Kd.R_reads' (e := 3) (base := w.heap.size) (ok := fun k_ => ((True ∧ some k_ ≠ (.slice Ao40 t657.length co40 : Value).ownBlock) ∧ some k_ ≠ (v661 : Value).ownBlock)) (n := t665.length) (c := co47) ?_).2.2; exact (by (with_reducible repeat (first | apply Kd.R_alloc | apply Kd.R_drewN | apply Kd.R_drew)); exact (Kd.R_mono (Kd.R_far (p := ⟨gb668, 1, none⟩) (Kd.R_far (p := ⟨gb668, 0, none⟩) (Kd.R_types HO667.out BK668.out (by decide)) (fun _ hk => hk.2) (.int .i64 t664)) (fun _ hk => hk.2) (.slice Ao47 t665.length co47)) (fun _ h_ => h_.1)))); (case side2 => exact (Kd.R_reads' HO667.out).2.1); rintro e w48 ⟨v670, rfl, ho0, hb⟩; refine ⟨_, rfl, ?_⟩; have n0_ := Aside0.mk (Kd.R_elder' (by (with_reducible repeat (first | apply Kd.R_alloc | apply Kd.R_drewN | apply Kd.R_drew)); exact (Kd.R_mono (Kd.R_far (p := ⟨gb668, 1, none⟩) (Kd.R_far (p := ⟨gb668, 0, none⟩) (Kd.R_types HO659.out BK668.out (by decide)) (fun _ hk => hk.2) (.int .i64 t664)) (fun _ hk => hk.2) (.slice Ao47 t665.length co47)) (fun _ h_ => h_.1))) (Kd.R_base ho0) hb); have n1_ := Aside0.mk (Kd.R_elder' (by (with_reducible repeat (first | apply Kd.R_alloc | apply Kd.R_drewN | apply Kd.R_drew)); exact (Kd.R_mono (Kd.R_far (p := ⟨gb668, 1, none⟩) (Kd.R_far (p := ⟨gb668, 0, none⟩) (Kd.R_types HO662.out BK668.out (by decide)) (fun _ hk => hk.2) (.int .i64 t664)) (fun _ hk => hk.2) (.slice Ao47 t665.length co47)) (fun _ h_ => h_.1))) (Kd.R_base ho0) hb); have n2_ := Aside0.mk (Kd.R_elder' (by (with_reducible repeat (first | apply Kd.R_alloc | apply Kd.R_drewN | apply Kd.R_drew)); exact (Kd.R_mono (Kd.R_far (p := ⟨gb668, 1, none⟩) (Kd.R_far (p := ⟨gb668, 0, none⟩) (Kd.R_types HO667.out BK668.out (by decide)) (fun _ hk => hk.2) (.int .i64 t664)) (fun _ hk => hk.2) (.slice Ao47 t665.length co47)) (fun _ h_ => h_.1))) (Kd.R_base ho0) hb); have n3_ := Aside0.mk (Kd.R_lower (Kd.R_new' (Kd.R_new' (Kd.R_new' ho0 (Kd.R_lt (by (with_reducible repeat (first | apply Kd.R_alloc | apply Kd.R_drewN | apply Kd.R_drew)); exact (Kd.R_mono (Kd.R_far (p := ⟨gb668, 1, none⟩) (Kd.R_far (p := ⟨gb668, 0, none⟩) (Kd.R_types HO659.out BK668.out (by decide)) (fun _ hk => hk.2) (.int .i64 t664)) (fun _ hk => hk.2) (.slice Ao47 t665.length co47)) (fun _ h_ => h_.1))))) (Kd.R_lt (by (with_reducible repeat (first | apply Kd.R_alloc | apply Kd.R_drewN | apply Kd.R_drew)); exact (Kd.R_mono (Kd.R_far (p := ⟨gb668, 1, none⟩) (Kd.R_far (p := ⟨gb668, 0, none⟩) (Kd.R_types HO662.out BK668.out (by decide)) (fun _ hk => hk.2) (.int .i64 t664)) (fun _ hk => hk.2) (.slice Ao47 t665.length co47)) (fun _ h_ => h_.1))))) (Kd.R_lt (by (with_reducible repeat (first | apply Kd.R_alloc | apply Kd.R_drewN | apply Kd.R_drew)); exact (Kd.R_mono (Kd.R_far (p := ⟨gb668, 1, none⟩) (Kd.R_far (p := ⟨gb668, 0, none⟩) (Kd.R_types HO667.out BK668.out (by decide)) (fun _ hk => hk.2) (.int .i64 t664)) (fun _ hk => hk.2) (.slice Ao47 t665.length co47)) (fun _ h_ => h_.1))))) (below_size (by repeat (first | (with_reducible first | exact HB.out | apply below_alloc | apply pw_below_drewN | apply below_drew1 | refine below_set ?_ GE654.out | refine below_set ?_ GE668.out) | exact HB.out)))); have n4_ := Aside0.mk (blk_below (g := gb654) (o := .cells #[.int .i64 a0_0, .slice A0_1 l0_1.length c0_1] 31 (0, 0)) (by (with_reducible repeat (first | refine blk_drewN ?_ _ | refine blk_drew ?_ | refine blk_alloc ?_ _)); refine blk_far ?_ NB654_668.out _; (with_reducible repeat (first | refine blk_drewN ?_ _ | refine blk_drew ?_ | refine blk_alloc ?_ _)); refine blk_far ?_ NB654_668.out _; (with_reducible repeat (first | refine blk_drewN ?_ _ | refine blk_drew ?_ | refine blk_alloc ?_ _)); exact BK654.out) hb); have n5_ := Aside0.mk (blk_below (g := gb668) (o := .cells #[.int .i64 t664, .slice Ao47 t665.length co47] 34 (0, 0)) (by (with_reducible repeat (first | refine blk_drewN ?_ _ | refine blk_drew ?_ | refine blk_alloc ?_ _)); refine blk_put (cs := #[.int .i64 t664, .slice none 0 0]) ?_ 1 _ rfl; (with_reducible repeat (first | refine blk_drewN ?_ _ | refine blk_drew ?_ | refine blk_alloc ?_ _)); refine blk_put (cs := #[.int .i64 0, .slice none 0 0]) ?_ 0 _ rfl; (with_reducible repeat (first | refine blk_drewN ?_ _ | refine blk_drew ?_ | refine blk_alloc ?_ _)); exact BK668.out) hb); have n6_ := Aside0.mk (below_step (by repeat (first | (with_reducible first | exact HB.out | apply below_alloc | apply pw_below_drewN | apply below_drew1 | refine below_set ?_ GE654.out | refine below_set ?_ GE668.out) | exact HB.out)) hb); clear HO659; clear HO662; clear HO667; clear BK654; clear BK668; clear HB; have HO659 := n0_; have HO662 := n1_; have HO667 := n2_; have HO671 := n3_; have BK654 := n4_; have BK668 := n5_; have HB := n6_; clear n0_ n1_ n2_ n3_ n4_ n5_ n6_; (try clear hb); (try clear hb2); (try clear hk); (try clear hi); (try clear ho0); obtain ⟨Ao49, co49, eo49⟩ := Kd.R_slice HO671.out; subst eo49; obtain ⟨Ao50, co50, eo50⟩ := Kd.R_slice HO662.out; subst eo50) | ((with_reducible refine gate_callee (f := 38) rfl ?_); refine goesL_ (some 42) rfl rfl Try.func38 (by kernel_rfl) rfl #[.slice Ao49 t669.length co49, .slice Ao50 t660.length co50] rfl (by (try simp only [List.map_toArray, List.map_cons, List.map_nil]); first | done | rfl | (simp only [List.length_drop, List.length_take]; rfl)) ?_; (with_reducible refine (laws_eqIntS.calls k _ _ t669 _ _ t660 true _ ?side1 ?side2 ?side3 ?side4 A13.out).mono ?_); (case side1 => repeat (first | exact (Kd.R_reads' HO671.out).2.2 | (with_reducible refine Kd.C_alloc ?_ _) | (with_reducible refine Kd.C_drewN ?_ _) | (with_reducible refine Kd.C_drew ?_))); (case side2 => exact (Kd.R_reads' HO671.out).2.1); (case side3 => repeat (first | exact (Kd.R_reads' HO662.out).2.2 | (with_reducible refine Kd.C_alloc ?_ _) | (with_reducible refine Kd.C_drewN ?_ _) | (with_reducible refine Kd.C_drew ?_))); (case side4 => exact (Kd.R_reads' HO662.out).2.1); rintro e w' ⟨rfl, ⟨nd, rfl⟩⟩; refine ⟨_, rfl, ?_⟩))
                          have n_ := Aside0.mk (Kd.R_mono (ok' := (fun k_ => some k_ ≠ (.slice Ao50 t660.length co50 : Value).ownBlock ∧ some k_ ≠ (.slice Ao47 t665.length co47 : Value).ownBlock ∧ some k_ ≠ (.slice Ao49 t669.length co49 : Value).ownBlock)) HO659.out (fun k_ hk => ⟨hk.1.1.2, ⟨hk.1.2, hk.2⟩⟩))
                          clear HO659
                          have HO659 := n_
                          clear n_
                          have n_ := Aside0.mk (Kd.R_mono (ok' := (fun k_ => some k_ ≠ (.slice Ao40 t657.length co40 : Value).ownBlock ∧ some k_ ≠ (.slice Ao47 t665.length co47 : Value).ownBlock ∧ some k_ ≠ (.slice Ao49 t669.length co49 : Value).ownBlock)) HO662.out (fun k_ hk => ⟨hk.1.1.2, ⟨hk.1.2, hk.2⟩⟩))
                          clear HO662
                          have HO662 := n_
                          clear n_
                          have n_ := Aside0.mk (Kd.R_mono (ok' := (fun k_ => some k_ ≠ (.slice Ao40 t657.length co40 : Value).ownBlock ∧ some k_ ≠ (.slice Ao50 t660.length co50 : Value).ownBlock ∧ some k_ ≠ (.slice Ao49 t669.length co49 : Value).ownBlock)) HO667.out (fun k_ hk => ⟨hk.1.1.2, ⟨hk.1.2, hk.2⟩⟩))
                          clear HO667
                          have HO667 := n_
                          clear n_
                          have n_ := Aside0.mk (Kd.R_mono (ok' := (fun k_ => some k_ ≠ (.slice Ao40 t657.length co40 : Value).ownBlock ∧ some k_ ≠ (.slice Ao50 t660.length co50 : Value).ownBlock ∧ some k_ ≠ (.slice Ao47 t665.length co47 : Value).ownBlock)) HO671.out (fun k_ hk => ⟨hk.1.1.2, ⟨hk.1.2, hk.2⟩⟩))
                          clear HO671
                          have HO671 := n_
                          clear n_
                          (try (rw [drewN_self w48]; generalize hq_ : World.drewN w48 _ = w48; have n0_ : Aside0 (Kd.R (Kd.int .i64) 3 w48 w.heap.size (fun k_ => some k_ ≠ (.slice Ao50 t660.length co50 : Value).ownBlock ∧ some k_ ≠ (.slice Ao47 t665.length co47 : Value).ownBlock ∧ some k_ ≠ (.slice Ao49 t669.length co49 : Value).ownBlock) (.slice Ao40 t657.length co40) t657) := ⟨by rw [← hq_]; exact (by (with_reducible repeat (first | apply Kd.R_alloc | apply Kd.R_drewN | apply Kd.R_drew)); exact HO659.out)⟩; have n1_ : Aside0 (Kd.R (Kd.int .i64) 3 w48 w.heap.size (fun k_ => some k_ ≠ (.slice Ao40 t657.length co40 : Value).ownBlock ∧ some k_ ≠ (.slice Ao47 t665.length co47 : Value).ownBlock ∧ some k_ ≠ (.slice Ao49 t669.length co49 : Value).ownBlock) (.slice Ao50 t660.length co50) t660) := ⟨by rw [← hq_]; exact (by (with_reducible repeat (first | apply Kd.R_alloc | apply Kd.R_drewN | apply Kd.R_drew)); exact HO662.out)⟩; have n2_ : Aside0 (Kd.R (Kd.int .i64) 3 w48 w.heap.size (fun k_ => some k_ ≠ (.slice Ao40 t657.length co40 : Value).ownBlock ∧ some k_ ≠ (.slice Ao50 t660.length co50 : Value).ownBlock ∧ some k_ ≠ (.slice Ao49 t669.length co49 : Value).ownBlock) (.slice Ao47 t665.length co47) t665) := ⟨by rw [← hq_]; exact (by (with_reducible repeat (first | apply Kd.R_alloc | apply Kd.R_drewN | apply Kd.R_drew)); exact HO667.out)⟩; have n3_ : Aside0 (Kd.R (Kd.int .i64) 3 w48 w.heap.size (fun k_ => some k_ ≠ (.slice Ao40 t657.length co40 : Value).ownBlock ∧ some k_ ≠ (.slice Ao50 t660.length co50 : Value).ownBlock ∧ some k_ ≠ (.slice Ao47 t665.length co47 : Value).ownBlock) (.slice Ao49 t669.length co49) t669) := ⟨by rw [← hq_]; exact (by (with_reducible repeat (first | apply Kd.R_alloc | apply Kd.R_drewN | apply Kd.R_drew)); exact HO671.out)⟩; have n4_ : Aside0 (w48.heap[gb654]? = some (.cells #[.int .i64 a0_0, .slice A0_1 l0_1.length c0_1] 31 (0, 0))) := ⟨by rw [← hq_]; exact (by (with_reducible repeat (first | refine blk_drewN ?_ _ | refine blk_drew ?_ | refine blk_alloc ?_ _)); exact BK654.out)⟩; have n5_ : Aside0 (w48.heap[gb668]? = some (.cells #[.int .i64 t664, .slice Ao47 t665.length co47] 34 (0, 0))) := ⟨by rw [← hq_]; exact (by (with_reducible repeat (first | refine blk_drewN ?_ _ | refine blk_drew ?_ | refine blk_alloc ?_ _)); exact BK668.out)⟩; have n6_ : Aside0 (Below w.heap.size w w48) := ⟨by rw [← hq_]; exact (by repeat (first | (with_reducible first | exact HB.out | apply below_alloc | apply pw_below_drewN | apply below_drew1 | refine below_set ?_ GE654.out | refine below_set ?_ GE668.out) | exact HB.out))⟩; clear HO659 HO662 HO667 HO671 BK654 BK668 HB hq_; have HO659 := n0_; have HO662 := n1_; have HO667 := n2_; have HO671 := n3_; have BK654 := n4_; have BK668 := n5_; have HB := n6_; clear n0_ n1_ n2_ n3_ n4_ n5_ n6_))
                          have n0_ := Aside0.mk (Kd.R_drew HO659.out)
                          have n1_ := Aside0.mk (Kd.R_drew HO662.out)
                          have n2_ := Aside0.mk (Kd.R_drew HO667.out)
                          have n3_ := Aside0.mk (Kd.R_drew HO671.out)
                          have n4_ := Aside0.mk (blk_drew BK654.out)
                          have n5_ := Aside0.mk (blk_drew BK668.out)
                          have n6_ := Aside0.mk (below_drew1 HB.out)
                          clear HO659
                          clear HO662
                          clear HO667
                          clear HO671
                          clear BK654
                          clear BK668
                          clear HB
                          have HO659 := n0_
                          have HO662 := n1_
                          have HO667 := n2_
                          have HO671 := n3_
                          have BK654 := n4_
                          have BK668 := n5_
                          have HB := n6_
                          clear n0_ n1_ n2_ n3_ n4_ n5_ n6_
                          refine start_ (n := 5) (S := fun w' => w'.cell? ⟨gb668, 0, none⟩ = some (.int .i64 t664) ∧ w'.cell? ⟨gb668, 1, none⟩ = some (.slice Ao47 t665.length co47) ∧ w'.cell? ⟨gb654, 0, none⟩ = some (.int .i64 a0_0) ∧ w'.cell? ⟨gb654, 1, none⟩ = some (.slice A0_1 l0_1.length c0_1)) (ds := []) #[false, false, false, false, false] (by kernel_rfl) rfl rfl ⟨(blk_cell BK668.out 0).trans rfl, (blk_cell BK668.out 1).trans rfl, (blk_cell BK654.out 0).trans rfl, (blk_cell BK654.out 1).trans rfl⟩ (fun hHeld => ?_)
                          generalize w48.drew = w51 at HO659 HO662 HO667 HO671 BK654 BK668 HB hHeld ⊢
                          refine take_ (i := 0) (N := some 49) (v := ?_) (a' := ?_) #[true, false, false, false, false] rfl rfl (by kernel_rfl) (fun _ _ _ h => h) (Or.inl ⟨by rfl, ?_⟩) hHeld ?_ ?_
                          rotate_left
                          · rintro w' ⟨s0, s1, s2, s3⟩
                            go_simp
                            with_reducible rfl
                          rotate_left
                          · simp only [Act.put, List.setIfInBounds_toArray, List.set_cons_zero, List.set_cons_succ, i64_w, i32_w]
                            rfl
                          refine take_ (i := 1) (N := some 50) (v := ?_) (a' := ?_) #[true, true, false, false, false] rfl rfl (by kernel_rfl) (fun _ _ _ h => h) (Or.inl ⟨by rfl, ?_⟩) hHeld ?_ ?_
                          rotate_left
                          · rintro w' ⟨s0, s1, s2, s3⟩
                            go_simp
                            with_reducible rfl
                          rotate_left
                          · simp only [Act.put, List.setIfInBounds_toArray, List.set_cons_zero, List.set_cons_succ, i64_w, i32_w]
                            rfl
                          refine one_ (i := 2) (N := some 51) #[true, true, true, false, false] rfl rfl (by kernel_rfl) (by decide) (fun K hK => ?_)
                          refine goes_ Try.func21 (by kernel_rfl) rfl #[.agg #[.int .i64 a0_0, .slice A0_1 l0_1.length c0_1]] (by rfl) rfl rfl (by (try simp only [List.map_toArray, List.map_cons, List.map_nil]); first | done | rfl | (simp only [List.length_drop, List.length_take]; rfl)) ?_
                          with_reducible refine (laws_toCommittee.calls k a0_0 _ _ l0_1 t674 t675 _ ?side1 ?side2 A16.out).mono ?_
                          (case side1 => repeat (first | exact (Kd.C_below HR0_1.out HB.out) | (with_reducible refine Kd.C_alloc ?_ _) | (with_reducible refine Kd.C_drewN ?_ _) | (with_reducible refine Kd.C_drew ?_)))
                          (case side2 => exact HC0_1.out)
                          rintro e w52 ⟨v676, rfl, ho0, hb⟩
                          refine ⟨_, rfl, ?_⟩
                          have n0_ := Aside0.mk (Kd.R_elder' (by (with_reducible repeat (first | apply Kd.R_alloc | apply Kd.R_drewN | apply Kd.R_drew)); exact HO659.out) (Kd.R_base ho0) hb)
                          have n1_ := Aside0.mk (Kd.R_elder' (by (with_reducible repeat (first | apply Kd.R_alloc | apply Kd.R_drewN | apply Kd.R_drew)); exact HO662.out) (Kd.R_base ho0) hb)
                          have n2_ := Aside0.mk (Kd.R_elder' (by (with_reducible repeat (first | apply Kd.R_alloc | apply Kd.R_drewN | apply Kd.R_drew)); exact HO667.out) (Kd.R_base ho0) hb)
                          have n3_ := Aside0.mk (Kd.R_elder' (by (with_reducible repeat (first | apply Kd.R_alloc | apply Kd.R_drewN | apply Kd.R_drew)); exact HO671.out) (Kd.R_base ho0) hb)
                          have n4_ := Aside0.mk (Kd.R_lower (Kd.R_new' (Kd.R_new' (Kd.R_new' (Kd.R_new' ho0 (Kd.R_lt (by (with_reducible repeat (first | apply Kd.R_alloc | apply Kd.R_drewN | apply Kd.R_drew)); exact HO659.out))) (Kd.R_lt (by (with_reducible repeat (first | apply Kd.R_alloc | apply Kd.R_drewN | apply Kd.R_drew)); exact HO662.out))) (Kd.R_lt (by (with_reducible repeat (first | apply Kd.R_alloc | apply Kd.R_drewN | apply Kd.R_drew)); exact HO667.out))) (Kd.R_lt (by (with_reducible repeat (first | apply Kd.R_alloc | apply Kd.R_drewN | apply Kd.R_drew)); exact HO671.out))) (below_size (by repeat (first | (with_reducible first | exact HB.out | apply below_alloc | apply pw_below_drewN | apply below_drew1 | refine below_set ?_ GE654.out | refine below_set ?_ GE668.out) | exact HB.out))))
                          have n5_ := Aside0.mk (blk_below (g := gb654) (o := .cells #[.int .i64 a0_0, .slice A0_1 l0_1.length c0_1] 31 (0, 0)) (by (with_reducible repeat (first | refine blk_drewN ?_ _ | refine blk_drew ?_ | refine blk_alloc ?_ _)); exact BK654.out) hb)
                          have n6_ := Aside0.mk (blk_below (g := gb668) (o := .cells #[.int .i64 t664, .slice Ao47 t665.length co47] 34 (0, 0)) (by (with_reducible repeat (first | refine blk_drewN ?_ _ | refine blk_drew ?_ | refine blk_alloc ?_ _)); exact BK668.out) hb)
                          have n7_ := Aside0.mk (below_step (by repeat (first | (with_reducible first | exact HB.out | apply below_alloc | apply pw_below_drewN | apply below_drew1 | refine below_set ?_ GE654.out | refine below_set ?_ GE668.out) | exact HB.out)) hb)
                          clear HO659
                          clear HO662
                          clear HO667
                          clear HO671
                          clear BK654
                          clear BK668
                          clear HB
                          have HO659 := n0_
                          have HO662 := n1_
                          have HO667 := n2_
                          have HO671 := n3_
                          have HO677 := n4_
                          have BK654 := n5_
                          have BK668 := n6_
                          have HB := n7_
                          clear n0_ n1_ n2_ n3_ n4_ n5_ n6_ n7_
                          (try clear hb)
                          (try clear hb2)
                          (try clear hk)
                          (try clear hi)
                          (try clear ho0)
                          obtain ⟨Ao53, co53, eo53⟩ := Kd.R_slice HO677.out
                          (first | subst eo53 | (injection eo53 with f1_ f2_ f3_; have f4_ := f1_.symm; have f5_ := f3_.symm; clear f1_ f2_ f3_; subst f4_; subst f5_))
                          refine hK.out _ _ ⟨(blk_cell BK668.out 0).trans rfl, (blk_cell BK668.out 1).trans rfl, (blk_cell BK654.out 0).trans rfl, (blk_cell BK654.out 1).trans rfl⟩ (fun hHeld => ?_)
                          clear hK K
                          refine norm_ (a' := ?_) ?_ ?_
                          rotate_left
                          · show Act.put _ (some 51) _ = _
                            simp only [Act.put, List.setIfInBounds_toArray, List.set_cons_zero, List.set_cons_succ, i64_w, i32_w]
                            rfl
                          refine one_ (i := 3) (N := some 52) #[true, true, true, true, false] rfl rfl (by kernel_rfl) (by decide) (fun K hK => ?_)
                          refine goes_ Try.func23 (by kernel_rfl) rfl #[.agg #[.int .i64 t664, .slice Ao47 t665.length co47], .agg #[.int .i64 t674, .slice Ao53 t675.length co53]] (by rfl) rfl rfl (by (try simp only [List.map_toArray, List.map_cons, List.map_nil]); first | done | rfl | (simp only [List.length_drop, List.length_take]; rfl)) ?_
                          with_reducible refine (laws_eqCommittee.calls k t664 _ _ t665 t674 _ _ t675 true _ ?side1 ?side2 ?side3 ?side4 A17.out).mono ?_
                          (case side1 => repeat (first | exact (Kd.R_reads' HO667.out).2.2 | (with_reducible refine Kd.C_alloc ?_ _) | (with_reducible refine Kd.C_drewN ?_ _) | (with_reducible refine Kd.C_drew ?_)))
                          (case side2 => exact (Kd.R_reads' HO667.out).2.1)
                          (case side3 => repeat (first | exact (Kd.R_reads' HO677.out).2.2 | (with_reducible refine Kd.C_alloc ?_ _) | (with_reducible refine Kd.C_drewN ?_ _) | (with_reducible refine Kd.C_drew ?_)))
                          (case side4 => exact (Kd.R_reads' HO677.out).2.1)
                          rintro e w54 ⟨rfl, hb⟩
                          refine ⟨_, rfl, ?_⟩
                          have n0_ := Aside0.mk (Kd.R_below (by (with_reducible repeat (first | apply Kd.R_alloc | apply Kd.R_drewN | apply Kd.R_drew)); exact HO659.out) hb)
                          have n1_ := Aside0.mk (Kd.R_below (by (with_reducible repeat (first | apply Kd.R_alloc | apply Kd.R_drewN | apply Kd.R_drew)); exact HO662.out) hb)
                          have n2_ := Aside0.mk (Kd.R_below (by (with_reducible repeat (first | apply Kd.R_alloc | apply Kd.R_drewN | apply Kd.R_drew)); exact HO667.out) hb)
                          have n3_ := Aside0.mk (Kd.R_below (by (with_reducible repeat (first | apply Kd.R_alloc | apply Kd.R_drewN | apply Kd.R_drew)); exact HO671.out) hb)
                          have n4_ := Aside0.mk (Kd.R_below (by (with_reducible repeat (first | apply Kd.R_alloc | apply Kd.R_drewN | apply Kd.R_drew)); exact HO677.out) hb)
                          have n5_ := Aside0.mk (blk_below (g := gb654) (o := .cells #[.int .i64 a0_0, .slice A0_1 l0_1.length c0_1] 31 (0, 0)) (by (with_reducible repeat (first | refine blk_drewN ?_ _ | refine blk_drew ?_ | refine blk_alloc ?_ _)); exact BK654.out) hb)
                          have n6_ := Aside0.mk (blk_below (g := gb668) (o := .cells #[.int .i64 t664, .slice Ao47 t665.length co47] 34 (0, 0)) (by (with_reducible repeat (first | refine blk_drewN ?_ _ | refine blk_drew ?_ | refine blk_alloc ?_ _)); exact BK668.out) hb)
                          have n7_ := Aside0.mk (below_step (by repeat (first | (with_reducible first | exact HB.out | apply below_alloc | apply pw_below_drewN | apply below_drew1 | refine below_set ?_ GE654.out | refine below_set ?_ GE668.out) | exact HB.out)) hb)
                          clear HO659
                          clear HO662
                          clear HO667
                          clear HO671
                          clear HO677
                          clear BK654
                          clear BK668
                          clear HB
                          have HO659 := n0_
                          have HO662 := n1_
                          have HO667 := n2_
                          have HO671 := n3_
                          have HO677 := n4_
                          have BK654 := n5_
                          have BK668 := n6_
                          have HB := n7_
                          clear n0_ n1_ n2_ n3_ n4_ n5_ n6_ n7_
                          (try clear hb)
                          (try clear hb2)
                          (try clear hk)
                          (try clear hi)
                          refine hK.out _ _ ⟨(blk_cell BK668.out 0).trans rfl, (blk_cell BK668.out 1).trans rfl, (blk_cell BK654.out 0).trans rfl, (blk_cell BK654.out 1).trans rfl⟩ (fun hHeld => ?_)
                          clear hK K
                          refine norm_ (a' := ?_) ?_ ?_
                          rotate_left
                          · show Act.put _ (some 52) _ = _
                            simp only [Act.put, List.setIfInBounds_toArray, List.set_cons_zero, List.set_cons_succ, i64_w, i32_w]
                            rfl
                          refine pure_ (i := 4) (N := some 53) (v := ?_) (a' := ?_) #[true, true, true, true, true] rfl rfl (by kernel_rfl) (fun _ _ _ h => h) (Or.inl ⟨by rfl, ?_⟩) ?_ ?_
                          rotate_left
                          · intro w'
                            go_simp
                            with_reducible rfl
                          rotate_left
                          · simp only [Act.put, List.setIfInBounds_toArray, List.set_cons_zero, List.set_cons_succ, i64_w, i32_w]
                            rfl
                          refine done_ (by kernel_rfl) ?_
                          have hcz55_0 : w54.cell? ⟨gb668, 0, none⟩ = some (.int .i64 t664) := (blk_cell BK668.out 0).trans rfl
                          have hcz55_1 : w54.cell? ⟨gb668, 1, none⟩ = some (.slice Ao47 t665.length co47) := (blk_cell BK668.out 1).trans rfl
                          have hfz55_0 := blk_frozen BK668.out 0
                          have hfz55_1 := blk_frozen BK668.out 1
                          try go_wp2_with (first | ((with_reducible refine gate_callee (f := 26) rfl ?_); refine goesL_ (some 56) rfl rfl Try.func26 (by kernel_rfl) rfl #[.agg #[.int .i64 t664, .slice Ao47 t665.length co47], .int .i64 1] rfl (by (try simp only [List.map_toArray, List.map_cons, List.map_nil]); first | done | rfl | (simp only [List.length_drop, List.length_take]; rfl)) ?_; (with_reducible refine (laws_markCommittee.calls k t664 (fun k_ => some k_ = (.slice Ao47 t665.length co47 : Value).ownBlock) (.slice Ao47 t665.length co47) t665 1 t679 t680 w _ ?side1 ?side2 A19.out).mono ?_); (case side1 => repeat (first | (with_reducible first | exact HB.out | apply below_alloc | apply pw_below_drewN | apply below_drew1 | refine below_set ?_ GE654.out | refine below_set ?_ GE668.out) | exact HB.out)); (case side2 => exact Kd.R_tight rfl HO667.out); rintro e w56 ⟨rfl, hy0, hb, hkp⟩; refine ⟨_, rfl, ?_⟩; have n0_ := Aside0.mk (blk_kept (by (with_reducible repeat (first | refine blk_drewN ?_ _ | refine blk_drew ?_ | refine blk_alloc ?_ _)); exact BK654.out) hkp (fun hs_ => (fun e_ => (Kd.R_ne HO667.out BK654.out (by decide)) e_) hs_)); have n1_ := Aside0.mk (Kd.R_mono (ok' := fun k_ => some k_ ≠ (.slice Ao50 t660.length co50 : Value).ownBlock ∧ some k_ ≠ (.slice Ao47 t665.length co47 : Value).ownBlock ∧ some k_ ≠ (.slice Ao49 t669.length co49 : Value).ownBlock ∧ some k_ ≠ (.slice Ao53 t675.length co53 : Value).ownBlock) (Kd.R_keptB (HO659.out) hkp (fun k_ hk_ hs_ => (hk_.1.2.1) hs_)) (fun k_ hk_ => ⟨hk_.1.1.1, hk_.1.1.2.1, hk_.1.1.2.2, hk_.1.2⟩)); have n2_ := Aside0.mk (Kd.R_mono (ok' := fun k_ => some k_ ≠ (.slice Ao40 t657.length co40 : Value).ownBlock ∧ some k_ ≠ (.slice Ao47 t665.length co47 : Value).ownBlock ∧ some k_ ≠ (.slice Ao49 t669.length co49 : Value).ownBlock ∧ some k_ ≠ (.slice Ao53 t675.length co53 : Value).ownBlock) (Kd.R_keptB (HO662.out) hkp (fun k_ hk_ hs_ => (hk_.1.2.1) hs_)) (fun k_ hk_ => ⟨hk_.1.1.1, hk_.1.1.2.1, hk_.1.1.2.2, hk_.1.2⟩)); have n3_ := Aside0.mk (Kd.R_reok rfl hy0 (fun k_ e_ => HO667.out.1 k_ e_)); have n4_ := Aside0.mk (blk_kept (by (with_reducible repeat (first | refine blk_drewN ?_ _ | refine blk_drew ?_ | refine blk_alloc ?_ _)); exact BK668.out) hkp (fun hs_ => (fun e_ => (Kd.R_ne HO667.out BK668.out (by decide)) e_) hs_)); have n5_ := Aside0.mk (Kd.R_mono (ok' := fun k_ => some k_ ≠ (.slice Ao40 t657.length co40 : Value).ownBlock ∧ some k_ ≠ (.slice Ao50 t660.length co50 : Value).ownBlock ∧ some k_ ≠ (.slice Ao47 t665.length co47 : Value).ownBlock ∧ some k_ ≠ (.slice Ao53 t675.length co53 : Value).ownBlock) (Kd.R_keptB (HO671.out) hkp (fun k_ hk_ hs_ => (hk_.1.2.2) hs_)) (fun k_ hk_ => ⟨hk_.1.1.1, hk_.1.1.2.1, hk_.1.1.2.2, hk_.1.2⟩)); have n6_ := Aside0.mk (Kd.R_mono (ok' := fun k_ => some k_ ≠ (.slice Ao40 t657.length co40 : Value).ownBlock ∧ some k_ ≠ (.slice Ao50 t660.length co50 : Value).ownBlock ∧ some k_ ≠ (.slice Ao47 t665.length co47 : Value).ownBlock ∧ some k_ ≠ (.slice Ao49 t669.length co49 : Value).ownBlock) (Kd.R_keptB (HO677.out) hkp (fun k_ hk_ hs_ => (hk_.1.2) hs_)) (fun k_ hk_ => ⟨hk_.1.1.1.1.2, hk_.1.1.1.2, hk_.1.1.2, hk_.1.2⟩)); have n7_ := Aside0.mk (hb); clear BK654; clear HO659; clear HO662; clear HO667; clear BK668; clear HO671; clear HO677; clear HB; have BK654 := n0_; have HO659 := n1_; have HO662 := n2_; have HO667 := n3_; have BK668 := n4_; have HO671 := n5_; have HO677 := n6_; have HB := n7_; clear n0_ n1_ n2_ n3_ n4_ n5_ n6_ n7_; (try clear hb); (try clear hkp); (try clear hy0)) | (go_at_call 38; (with_reducible refine (laws_eqIntS.calls k _ _ t669 _ _ t660 true _ ?side1 ?side2 ?side3 ?side4 A21.out).mono ?_); (case side1 => repeat (first | exact (Kd.R_reads' HO671.out).2.2 | (with_reducible refine Kd.C_alloc ?_ _) | (with_reducible refine Kd.C_drewN ?_ _) | (with_reducible refine Kd.C_drew ?_))); (case side2 => exact (Kd.R_reads' HO671.out).2.1); (case side3 => repeat (first | exact (Kd.R_reads' HO662.out).2.2 | (with_reducible refine Kd.C_alloc ?_ _) | (with_reducible refine Kd.C_drewN ?_ _) | (with_reducible refine Kd.C_drew ?_))); (case side4 => exact (Kd.R_reads' HO662.out).2.1); rintro e w' ⟨rfl, ⟨nd, rfl⟩⟩) | ((with_reducible refine gate_callee (f := 39) rfl ?_); refine goesL_ (some 72) rfl rfl Try.func39 (by kernel_rfl) rfl #[.slice Ao49 t669.length co49, .int .i64 1] rfl (by (try simp only [List.map_toArray, List.map_cons, List.map_nil]); first | done | rfl | (simp only [List.length_drop, List.length_take]; rfl)) ?_; (with_reducible refine (laws_markIntS.calls k (fun k_ => some k_ = (.slice Ao49 t669.length co49 : Value).ownBlock) (.slice Ao49 t669.length co49) t669 1 t682 t683 w _ ?side1 ?side2 A23.out).mono ?_); (case side1 => repeat (first | (with_reducible first | exact HB.out | apply below_alloc | apply pw_below_drewN | apply below_drew1 | refine below_set ?_ GE654.out | refine below_set ?_ GE668.out) | exact HB.out)); (case side2 => exact Kd.R_tight rfl HO671.out); rintro e w57 ⟨rfl, hy0, hb, hkp⟩; refine ⟨_, rfl, ?_⟩; have n0_ := Aside0.mk (blk_kept (by (with_reducible repeat (first | refine blk_drewN ?_ _ | refine blk_drew ?_ | refine blk_alloc ?_ _)); exact BK654.out) hkp (fun hs_ => (fun e_ => (Kd.R_ne HO671.out BK654.out (by decide)) e_) hs_)); have n1_ := Aside0.mk (Kd.R_mono (ok' := fun k_ => some k_ ≠ (.slice Ao50 t660.length co50 : Value).ownBlock ∧ some k_ ≠ (.slice Ao47 t665.length co47 : Value).ownBlock ∧ some k_ ≠ (.slice Ao49 t669.length co49 : Value).ownBlock ∧ some k_ ≠ (.slice Ao53 t675.length co53 : Value).ownBlock) (Kd.R_keptB (HO659.out) hkp (fun k_ hk_ hs_ => (hk_.2.2.1) hs_)) (fun k_ hk_ => ⟨hk_.1.1, hk_.1.2.1, hk_.1.2.2.1, hk_.1.2.2.2⟩)); have n2_ := Aside0.mk (Kd.R_mono (ok' := fun k_ => some k_ ≠ (.slice Ao40 t657.length co40 : Value).ownBlock ∧ some k_ ≠ (.slice Ao47 t665.length co47 : Value).ownBlock ∧ some k_ ≠ (.slice Ao49 t669.length co49 : Value).ownBlock ∧ some k_ ≠ (.slice Ao53 t675.length co53 : Value).ownBlock) (Kd.R_keptB (HO662.out) hkp (fun k_ hk_ hs_ => (hk_.2.2.1) hs_)) (fun k_ hk_ => ⟨hk_.1.1, hk_.1.2.1, hk_.1.2.2.1, hk_.1.2.2.2⟩)); have n3_ := Aside0.mk (Kd.R_mono (ok' := fun k_ => some k_ ≠ (.slice Ao40 t657.length co40 : Value).ownBlock ∧ some k_ ≠ (.slice Ao50 t660.length co50 : Value).ownBlock ∧ some k_ ≠ (.slice Ao49 t669.length co49 : Value).ownBlock ∧ some k_ ≠ (.slice Ao53 t675.length co53 : Value).ownBlock) (Kd.R_keptB (HO667.out) hkp (fun k_ hk_ hs_ => (hk_.1.2.2) hs_)) (fun k_ hk_ => ⟨hk_.1.1.1, hk_.1.1.2.1, hk_.1.1.2.2, hk_.1.2⟩)); have n4_ := Aside0.mk (blk_kept (by (with_reducible repeat (first | refine blk_drewN ?_ _ | refine blk_drew ?_ | refine blk_alloc ?_ _)); exact BK668.out) hkp (fun hs_ => (fun e_ => (Kd.R_ne HO671.out BK668.out (by decide)) e_) hs_)); have n5_ := Aside0.mk (Kd.R_reok rfl hy0 (fun k_ e_ => HO671.out.1 k_ e_)); have n6_ := Aside0.mk (Kd.R_mono (ok' := fun k_ => some k_ ≠ (.slice Ao40 t657.length co40 : Value).ownBlock ∧ some k_ ≠ (.slice Ao50 t660.length co50 : Value).ownBlock ∧ some k_ ≠ (.slice Ao47 t665.length co47 : Value).ownBlock ∧ some k_ ≠ (.slice Ao49 t669.length co49 : Value).ownBlock) (Kd.R_keptB (HO677.out) hkp (fun k_ hk_ hs_ => (hk_.2.2.2) hs_)) (fun k_ hk_ => ⟨hk_.1.1, hk_.1.2.1, hk_.1.2.2.1, hk_.1.2.2.2⟩)); have n7_ := Aside0.mk (hb); clear BK654; clear HO659; clear HO662; clear HO667; clear BK668; clear HO671; clear HO677; clear HB; have BK654 := n0_; have HO659 := n1_; have HO662 := n2_; have HO667 := n3_; have BK668 := n4_; have HO671 := n5_; have HO677 := n6_; have HB := n7_; clear n0_ n1_ n2_ n3_ n4_ n5_ n6_ n7_; (try clear hb); (try clear hkp); (try clear hy0)) | ((with_reducible refine gate_callee (f := 40) rfl ?_); refine goesL_ (some 75) rfl rfl Try.func40 (by kernel_rfl) rfl #[.slice Ao49 t683.length co49, .int .i64 1] rfl (by (try simp only [List.map_toArray, List.map_cons, List.map_nil]); first | done | (rw [show t683.length = t669.length from (Kd.R_reads' HO671.out).1.symm] <;> rfl) | rfl | (simp only [List.length_drop, List.length_take]; rfl)) ?_; (with_reducible refine (laws_heldIntS.calls k _ _ t683 1 t684 _ ?side1 ?side2 A24.out).mono ?_); (case side1 => repeat (first | exact (Kd.R_reads' HO671.out).2.2 | (with_reducible refine Kd.C_alloc ?_ _) | (with_reducible refine Kd.C_drewN ?_ _) | (with_reducible refine Kd.C_drew ?_))); (case side2 => rw [show t683.length = t669.length from (Kd.R_reads' HO671.out).1.symm]; exact (Kd.R_reads' HO671.out).2.1); rintro e w' ⟨rfl, ⟨nd, rfl⟩⟩; refine ⟨_, rfl, ?_⟩; have hcz58_0 : w57.cell? ⟨gb654, 0, none⟩ = some (.int .i64 a0_0) := (blk_cell BK654.out 0).trans rfl; have hcz58_1 : w57.cell? ⟨gb654, 1, none⟩ = some (.slice A0_1 l0_1.length c0_1) := (blk_cell BK654.out 1).trans rfl; have hfz58_0 := blk_frozen BK654.out 0; have hfz58_1 := blk_frozen BK654.out 1) | ((with_reducible refine gate_callee (f := 21) rfl ?_); refine goesL_ (some 83) rfl rfl Try.func21 (by kernel_rfl) rfl #[.agg #[.int .i64 a0_0, .slice A0_1 l0_1.length c0_1]] rfl (by (try simp only [List.map_toArray, List.map_cons, List.map_nil]); first | done | rfl | (simp only [List.length_drop, List.length_take]; rfl)) ?_; (with_reducible refine (laws_toCommittee.calls k a0_0 _ _ l0_1 t685 t686 _ ?side1 ?side2 A27.out).mono ?_); (case side1 => repeat (first | exact (Kd.C_below HR0_1.out (by repeat (first | (with_reducible first | exact HB.out | apply below_alloc | apply pw_below_drewN | apply below_drew1 | refine below_set ?_ GE654.out | refine below_set ?_ GE668.out) | exact HB.out))) | (with_reducible refine Kd.C_alloc ?_ _) | (with_reducible refine Kd.C_drewN ?_ _) | (with_reducible refine Kd.C_drew ?_))); (case side2 => exact HC0_1.out); rintro e w59 ⟨v687, rfl, ho0, hb⟩; refine ⟨_, rfl, ?_⟩; have n0_ := Aside0.mk (Kd.R_elder' (by (with_reducible repeat (first | apply Kd.R_alloc | apply Kd.R_drewN | apply Kd.R_drew)); exact HO659.out) (Kd.R_base ho0) hb); have n1_ := Aside0.mk (Kd.R_elder' (by (with_reducible repeat (first | apply Kd.R_alloc | apply Kd.R_drewN | apply Kd.R_drew)); exact HO662.out) (Kd.R_base ho0) hb); have n2_ := Aside0.mk (Kd.R_elder' (by (with_reducible repeat (first | apply Kd.R_alloc | apply Kd.R_drewN | apply Kd.R_drew)); exact HO667.out) (Kd.R_base ho0) hb); have n3_ := Aside0.mk (Kd.R_elder' (by (with_reducible repeat (first | apply Kd.R_alloc | apply Kd.R_drewN | apply Kd.R_drew)); exact HO671.out) (Kd.R_base ho0) hb); have n4_ := Aside0.mk (Kd.R_elder' (by (with_reducible repeat (first | apply Kd.R_alloc | apply Kd.R_drewN | apply Kd.R_drew)); exact HO677.out) (Kd.R_base ho0) hb); have n5_ := Aside0.mk (Kd.R_lower (Kd.R_new' (Kd.R_new' (Kd.R_new' (Kd.R_new' (Kd.R_new' ho0 (Kd.R_lt (by (with_reducible repeat (first | apply Kd.R_alloc | apply Kd.R_drewN | apply Kd.R_drew)); exact HO659.out))) (Kd.R_lt (by (with_reducible repeat (first | apply Kd.R_alloc | apply Kd.R_drewN | apply Kd.R_drew)); exact HO662.out))) (Kd.R_lt (by (with_reducible repeat (first | apply Kd.R_alloc | apply Kd.R_drewN | apply Kd.R_drew)); exact HO667.out))) (Kd.R_lt (by (with_reducible repeat (first | apply Kd.R_alloc | apply Kd.R_drewN | apply Kd.R_drew)); exact HO671.out))) (Kd.R_lt (by (with_reducible repeat (first | apply Kd.R_alloc | apply Kd.R_drewN | apply Kd.R_drew)); exact HO677.out))) (below_size (by repeat (first | (with_reducible first | exact HB.out | apply below_alloc | apply pw_below_drewN | apply below_drew1 | refine below_set ?_ GE654.out | refine below_set ?_ GE668.out) | exact HB.out)))); have n6_ := Aside0.mk (blk_below (g := gb654) (o := .cells #[.int .i64 a0_0, .slice A0_1 l0_1.length c0_1] 31 (0, 0)) (by (with_reducible repeat (first | refine blk_drewN ?_ _ | refine blk_drew ?_ | refine blk_alloc ?_ _)); exact BK654.out) hb); have n7_ := Aside0.mk (blk_below (g := gb668) (o := .cells #[.int .i64 t664, .slice Ao47 t665.length co47] 34 (0, 0)) (by (with_reducible repeat (first | refine blk_drewN ?_ _ | refine blk_drew ?_ | refine blk_alloc ?_ _)); exact BK668.out) hb); have n8_ := Aside0.mk (below_step (by repeat (first | (with_reducible first | exact HB.out | apply below_alloc | apply pw_below_drewN | apply below_drew1 | refine below_set ?_ GE654.out | refine below_set ?_ GE668.out) | exact HB.out)) hb); clear HO659; clear HO662; clear HO667; clear HO671; clear HO677; clear BK654; clear BK668; clear HB; have HO659 := n0_; have HO662 := n1_; have HO667 := n2_; have HO671 := n3_; have HO677 := n4_; have HO688 := n5_; have BK654 := n6_; have BK668 := n7_; have HB := n8_; clear n0_ n1_ n2_ n3_ n4_ n5_ n6_ n7_ n8_; (try clear hb); (try clear hb2); (try clear hk); (try clear hi); (try clear ho0); obtain ⟨Ao60, co60, eo60⟩ := Kd.R_slice HO688.out; subst eo60) | ((with_reducible refine gate_callee (f := 37) rfl ?_); refine goesL_ (some 86) rfl rfl Try.func37 (by kernel_rfl) rfl #[.agg #[.int .i64 t685, .slice Ao60 t686.length co60], .int .i64 a1, .int .i64 a2] rfl (by (try simp only [List.map_toArray, List.map_cons, List.map_nil]); first | done | rfl | (simp only [List.length_drop, List.length_take]; rfl)) ?_; (with_reducible refine (impl_QuarrelSwings.calls k t685 _ _ t686 a1 a2 t689 t692 _ ?side1 ?side2 A28.out).mono ?_); (case side1 => repeat (first | exact (Kd.R_reads' HO688.out).2.2 | (with_reducible refine Kd.C_alloc ?_ _) | (with_reducible refine Kd.C_drewN ?_ _) | (with_reducible refine Kd.C_drew ?_))); (case side2 => exact (Kd.R_reads' HO688.out).2.1); rintro e w61 ⟨v690, rfl, ho0, hb⟩; refine ⟨_, rfl, ?_⟩; have n0_ := Aside0.mk (Kd.R_elder' (by (with_reducible repeat (first | apply Kd.R_alloc | apply Kd.R_drewN | apply Kd.R_drew)); exact HO659.out) (Kd.R_base ho0) hb); have n1_ := Aside0.mk (Kd.R_elder' (by (with_reducible repeat (first | apply Kd.R_alloc | apply Kd.R_drewN | apply Kd.R_drew)); exact HO662.out) (Kd.R_base ho0) hb); have n2_ := Aside0.mk (Kd.R_elder' (by (with_reducible repeat (first | apply Kd.R_alloc | apply Kd.R_drewN | apply Kd.R_drew)); exact HO667.out) (Kd.R_base ho0) hb); have n3_ := Aside0.mk (Kd.R_elder' (by (with_reducible repeat (first | apply Kd.R_alloc | apply Kd.R_drewN | apply Kd.R_drew)); exact HO671.out) (Kd.R_base ho0) hb); have n4_ := Aside0.mk (Kd.R_elder' (by (with_reducible repeat (first | apply Kd.R_alloc | apply Kd.R_drewN | apply Kd.R_drew)); exact HO677.out) (Kd.R_base ho0) hb); have n5_ := Aside0.mk (Kd.R_elder' (by (with_reducible repeat (first | apply Kd.R_alloc | apply Kd.R_drewN | apply Kd.R_drew)); exact HO688.out) (Kd.R_base ho0) hb); have n6_ := Aside0.mk (Kd.R_lower (Kd.R_new' (Kd.R_new' (Kd.R_new' (Kd.R_new' (Kd.R_new' (Kd.R_new' ho0 (Kd.R_lt (by (with_reducible repeat (first | apply Kd.R_alloc | apply Kd.R_drewN | apply Kd.R_drew)); exact HO659.out))) (Kd.R_lt (by (with_reducible repeat (first | apply Kd.R_alloc | apply Kd.R_drewN | apply Kd.R_drew)); exact HO662.out))) (Kd.R_lt (by (with_reducible repeat (first | apply Kd.R_alloc | apply Kd.R_drewN | apply Kd.R_drew)); exact HO667.out))) (Kd.R_lt (by (with_reducible repeat (first | apply Kd.R_alloc | apply Kd.R_drewN | apply Kd.R_drew)); exact HO671.out))) (Kd.R_lt (by (with_reducible repeat (first | apply Kd.R_alloc | apply Kd.R_drewN | apply Kd.R_drew)); exact HO677.out))) (Kd.R_lt (by (with_reducible repeat (first | apply Kd.R_alloc | apply Kd.R_drewN | apply Kd.R_drew)); exact HO688.out))) (below_size (by repeat (first | (with_reducible first | exact HB.out | apply below_alloc | apply pw_below_drewN | apply below_drew1 | refine below_set ?_ GE654.out | refine below_set ?_ GE668.out) | exact HB.out)))); have n7_ := Aside0.mk (blk_below (g := gb654) (o := .cells #[.int .i64 a0_0, .slice A0_1 l0_1.length c0_1] 31 (0, 0)) (by (with_reducible repeat (first | refine blk_drewN ?_ _ | refine blk_drew ?_ | refine blk_alloc ?_ _)); exact BK654.out) hb); have n8_ := Aside0.mk (blk_below (g := gb668) (o := .cells #[.int .i64 t664, .slice Ao47 t665.length co47] 34 (0, 0)) (by (with_reducible repeat (first | refine blk_drewN ?_ _ | refine blk_drew ?_ | refine blk_alloc ?_ _)); exact BK668.out) hb); have n9_ := Aside0.mk (below_step (by repeat (first | (with_reducible first | exact HB.out | apply below_alloc | apply pw_below_drewN | apply below_drew1 | refine below_set ?_ GE654.out | refine below_set ?_ GE668.out) | exact HB.out)) hb); clear HO659; clear HO662; clear HO667; clear HO671; clear HO677; clear HO688; clear BK654; clear BK668; clear HB; have HO659 := n0_; have HO662 := n1_; have HO667 := n2_; have HO671 := n3_; have HO677 := n4_; have HO688 := n5_; have HO691 := n6_; have BK654 := n7_; have BK668 := n8_; have HB := n9_; clear n0_ n1_ n2_ n3_ n4_ n5_ n6_ n7_ n8_ n9_; (try clear hb); (try clear hb2); (try clear hk); (try clear hi); (try clear ho0); obtain ⟨Ao62, co62, eo62⟩ := Kd.R_slice HO691.out; subst eo62) | ((with_reducible refine gate_callee (f := 38) rfl ?_); refine goesL_ (some 91) rfl rfl Try.func38 (by kernel_rfl) rfl #[.slice Ao62 t689.length co62, .slice Ao50 t660.length co50] rfl (by (try simp only [List.map_toArray, List.map_cons, List.map_nil]); first | done | rfl | (simp only [List.length_drop, List.length_take]; rfl)) ?_; (with_reducible refine (laws_eqIntS.calls k _ _ t689 _ _ t660 true _ ?side1 ?side2 ?side3 ?side4 A29.out).mono ?_); (case side1 => repeat (first | exact (Kd.R_reads' HO691.out).2.2 | (with_reducible refine Kd.C_alloc ?_ _) | (with_reducible refine Kd.C_drewN ?_ _) | (with_reducible refine Kd.C_drew ?_))); (case side2 => exact (Kd.R_reads' HO691.out).2.1); (case side3 => repeat (first | exact (Kd.R_reads' HO662.out).2.2 | (with_reducible refine Kd.C_alloc ?_ _) | (with_reducible refine Kd.C_drewN ?_ _) | (with_reducible refine Kd.C_drew ?_))); (case side4 => exact (Kd.R_reads' HO662.out).2.1); rintro e w' ⟨rfl, ⟨nd, rfl⟩⟩; refine ⟨_, rfl, ?_⟩) | ((with_reducible refine gate_callee (f := 40) rfl ?_); refine goesL_ (some 100) rfl rfl Try.func40 (by kernel_rfl) rfl #[.slice Ao49 t683.length co49, .int .i64 1] rfl (by (try simp only [List.map_toArray, List.map_cons, List.map_nil]); first | done | (rw [show t683.length = t669.length from (Kd.R_reads' HO671.out).1.symm] <;> rfl) | rfl | (simp only [List.length_drop, List.length_take]; rfl)) ?_; (with_reducible refine (laws_heldIntS.calls k _ _ t683 1 t694 _ ?side1 ?side2 A32.out).mono ?_); (case side1 => repeat (first | exact (Kd.R_reads' HO671.out).2.2 | (with_reducible refine Kd.C_alloc ?_ _) | (with_reducible refine Kd.C_drewN ?_ _) | (with_reducible refine Kd.C_drew ?_))); (case side2 => rw [show t683.length = t669.length from (Kd.R_reads' HO671.out).1.symm]; exact (Kd.R_reads' HO671.out).2.1); rintro e w' ⟨rfl, ⟨nd, rfl⟩⟩; refine ⟨_, rfl, ?_⟩))
                          go_ret
                          exact ⟨by first | rfl | (simp [errW_none, errW_some] <;> rfl) | (simp [*, errW_none, errW_some] <;> rfl), by repeat (first | (with_reducible first | exact HB.out | apply below_alloc | apply pw_below_drewN | apply below_drew1 | refine below_set ?_ GE654.out | refine below_set ?_ GE668.out) | exact HB.out)⟩
                        · rw [if_neg c34] at H
                          have c34b0 : (t694 == t682) = false := beq_eq_false_iff_ne.mpr c34
                          have c34b1 : (t694 != t682) = true := bne_iff_ne.mpr c34
                          exact absurd (H.trans (congrArg some hr_.out)) (by simp)
                  · replace c30 := Bool.eq_false_iff.mpr c30
                    subst c30
                    have H1 : (some false) = some r := by rw [if_neg (show ¬ (false = true) by decide)] at H; exact H
                    clear H
                    have H := H1
                    clear H1
                    exact absurd (H.trans (congrArg some hr_.out)) (by simp)
                · rw [if_neg c26] at H
                  have c26b0 : (t684 == t682) = false := beq_eq_false_iff_ne.mpr c26
                  have c26b1 : (t684 != t682) = true := bne_iff_ne.mpr c26
                  exact absurd (H.trans (congrArg some hr_.out)) (by simp)
            · replace c22 := Bool.eq_false_iff.mpr c22
              subst c22
              have H1 : (some false) = some r := by rw [if_neg (show ¬ (false = true) by decide)] at H; exact H
              clear H
              have H := H1
              clear H1
              exact absurd (H.trans (congrArg some hr_.out)) (by simp)
        · replace c18 := Bool.eq_false_iff.mpr c18
          subst c18
          have H1 : (some false) = some r := by rw [if_neg (show ¬ (false = true) by decide)] at H; exact H
          clear H
          have H := H1
          clear H1
          exact absurd (H.trans (congrArg some hr_.out)) (by simp)
    · replace c14 := Bool.eq_false_iff.mpr c14
      subst c14
      have H1 : (some false) = some r := by rw [if_neg (show ¬ (false = true) by decide)] at H; exact H
      clear H
      have H := H1
      clear H1
      exact absurd (H.trans (congrArg some hr_.out)) (by simp)

end Go.Proofs.Ytghooagembinaaa.P

namespace Go.Proofs.Ytghooagembinaaa.P
open Go.RowKit Go.Proofs.YtghooagembinaaaW.PrintWords Go.Proofs.YtghooagembinaaaW.PrintLast Go.Proofs.YtghooagembinaaaW.PrintMore
attribute [local go_sem] max2_int min2_int max_two min_two max_three min_three max_four min_four   -- for this text's walks alone
set_option linter.unusedVariables false
set_option linter.unusedSimpArgs false

/-! ### laws_heldCommittee: function 27 -/
def laws_heldCommittee.f (k : Nat) (a0_0 : Int) (l0_1 : List Int) (a1 : Int) : Option (Int) := (laws_heldIntS.f k l0_1 a1).bind fun t258 => (if t258 < 0 then (some (-1)) else (some t258))
theorem laws_heldCommittee.mono : ∀ a0 a1 a2 k, LeO (laws_heldCommittee.f k a0 a1 a2) (laws_heldCommittee.f (k + 1) a0 a1 a2) := by
  intro a0 a1 a2 k
  unfold laws_heldCommittee.f
  repeat' first
      | (with_reducible exact laws_heldIntS.mono _ _ _)
      | (with_reducible exact LeO.refl _)
      | (with_reducible exact LeO.none _)
      | (with_reducible refine LeO.ite ?_ ?_)
      | (with_reducible refine LeO.bind ?_ (fun _ => ?_))
      | exact laws_heldIntS.mono _ _ _
      | exact LeO.none _
      | refine LeO.ite ?_ ?_
      | refine LeO.bind ?_ (fun _ => ?_)
set_option maxHeartbeats 8000000 in
set_option maxRecDepth 100000 in
theorem laws_heldCommittee.calls (k : Nat) (a0_0 : Int) (A0_1 : Option Addr) (c0_1 : Nat) (l0_1 : List Int) (a1 : Int) (r : Int) (w : World) (hr0_1 : Kd.C (Kd.int .i64) w A0_1 l0_1.length l0_1) (hc0_1 : l0_1.length ≤ c0_1) (h : laws_heldCommittee.f k a0_0 l0_1 a1 = some r) :
    Calls Try.prog 27 #[.agg #[.int .i64 a0_0, .slice A0_1 l0_1.length c0_1], .int .i64 a1] w fun e w' => e = .returned (.int .i64 r) ∧ Below w.heap.size w w' := by
  have hu34 := Try.underlying34
  have HR0_1 := Aside0.mk hr0_1
  have HC0_1 := Aside0.mk hc0_1
  clear hr0_1 hc0_1
  have HB := Aside0.mk (Below.refl w.heap.size w)
  have H : ((laws_heldIntS.f k l0_1 a1).bind fun t258 => (if t258 < 0 then (some (-1)) else (some t258))) = some r := h
  clear h
  replace H := Option.bind_eq_some_iff.mp H
  obtain ⟨t258, A30, H⟩ := H
  replace H : (if t258 < 0 then (some (-1)) else (some t258)) = some r := H
  have A3 := Aside0.mk A30
  clear A30
  by_cases c4 : t258 < 0
  · rw [if_pos c4] at H
    have c4b0 : decide (t258 < 0) = true := decide_eq_true c4
    clear c4
    obtain rfl := Option.some.inj H
    go_enter Try.func27, Try.ntmps27
    go_wp2_with (first | ((with_reducible refine gate_dst (N := 2) rfl ?_); refine box_event ?hg (N := 2) ?hd (cs := #[.int .i64 a0_0, .slice A0_1 l0_1.length c0_1]) (t := 34) ?hr ?_; (case hd => rfl); (case hg => rfl); (case hr => first | (go_simp; done) | (go_simp; rfl)); intro gb257 hg w5 hbox hb; have n0_ := Aside0.mk (below_step (by repeat (first | (with_reducible first | exact HB.out | apply below_alloc | apply pw_below_drewN | apply below_drew1) | exact HB.out)) hb); have n1_ := Aside0.mk (hbox); have n2_ := Aside0.mk ((by rw [hg]; exact (below_size (by repeat (first | (with_reducible first | exact HB.out | apply below_alloc | apply pw_below_drewN | apply below_drew1) | exact HB.out))) : w.heap.size ≤ gb257)); have n3_ := Aside0.mk ((by rw [hg]; exact (below_size (by repeat (first | (with_reducible first | exact HB.out | apply below_alloc | apply pw_below_drewN | apply below_drew1) | exact HB.out))) : w.heap.size ≤ gb257)); clear HB; have HB := n0_; have BK257 := n1_; have GW257 := n2_; have GE257 := n3_; clear n0_ n1_ n2_ n3_; clear hb hbox hg; have hcz6_0 : w5.cell? ⟨gb257, 0, none⟩ = some (.int .i64 a0_0) := (blk_cell BK257.out 0).trans rfl; have hcz6_1 : w5.cell? ⟨gb257, 1, none⟩ = some (.slice A0_1 l0_1.length c0_1) := (blk_cell BK257.out 1).trans rfl; have hfz6_0 := blk_frozen BK257.out 0; have hfz6_1 := blk_frozen BK257.out 1) | ((with_reducible refine gate_callee (f := 40) rfl ?_); refine goesL_ (some 8) rfl rfl Try.func40 (by kernel_rfl) rfl #[.slice A0_1 l0_1.length c0_1, .int .i64 a1] rfl (by (try simp only [List.map_toArray, List.map_cons, List.map_nil]); first | done | rfl | (simp only [List.length_drop, List.length_take]; rfl)) ?_; (with_reducible refine (laws_heldIntS.calls k _ _ l0_1 a1 t258 _ ?side1 ?side2 A3.out).mono ?_); (case side1 => repeat (first | exact (Kd.C_below HR0_1.out HB.out) | (with_reducible refine Kd.C_alloc ?_ _) | (with_reducible refine Kd.C_drewN ?_ _) | (with_reducible refine Kd.C_drew ?_))); (case side2 => exact HC0_1.out); rintro e w' ⟨rfl, ⟨nd, rfl⟩⟩; refine ⟨_, rfl, ?_⟩))
    go_ret
    exact ⟨by first | rfl | (simp [errW_none, errW_some] <;> rfl) | (simp [*, errW_none, errW_some] <;> rfl), by repeat (first | (with_reducible first | exact HB.out | apply below_alloc | apply pw_below_drewN | apply below_drew1 | refine below_set ?_ GE257.out) | exact HB.out)⟩
  · rw [if_neg c4] at H
    have c4b0 : decide (t258 < 0) = false := decide_eq_false c4
    clear c4
    obtain rfl := Option.some.inj H
    go_enter Try.func27, Try.ntmps27
    go_wp2_with (first | ((with_reducible refine gate_dst (N := 2) rfl ?_); refine box_event ?hg (N := 2) ?hd (cs := #[.int .i64 a0_0, .slice A0_1 l0_1.length c0_1]) (t := 34) ?hr ?_; (case hd => rfl); (case hg => rfl); (case hr => first | (go_simp; done) | (go_simp; rfl)); intro gb257 hg w7 hbox hb; have n0_ := Aside0.mk (below_step (by repeat (first | (with_reducible first | exact HB.out | apply below_alloc | apply pw_below_drewN | apply below_drew1) | exact HB.out)) hb); have n1_ := Aside0.mk (hbox); have n2_ := Aside0.mk ((by rw [hg]; exact (below_size (by repeat (first | (with_reducible first | exact HB.out | apply below_alloc | apply pw_below_drewN | apply below_drew1) | exact HB.out))) : w.heap.size ≤ gb257)); have n3_ := Aside0.mk ((by rw [hg]; exact (below_size (by repeat (first | (with_reducible first | exact HB.out | apply below_alloc | apply pw_below_drewN | apply below_drew1) | exact HB.out))) : w.heap.size ≤ gb257)); clear HB; have HB := n0_; have BK257 := n1_; have GW257 := n2_; have GE257 := n3_; clear n0_ n1_ n2_ n3_; clear hb hbox hg; have hcz8_0 : w7.cell? ⟨gb257, 0, none⟩ = some (.int .i64 a0_0) := (blk_cell BK257.out 0).trans rfl; have hcz8_1 : w7.cell? ⟨gb257, 1, none⟩ = some (.slice A0_1 l0_1.length c0_1) := (blk_cell BK257.out 1).trans rfl; have hfz8_0 := blk_frozen BK257.out 0; have hfz8_1 := blk_frozen BK257.out 1) | ((with_reducible refine gate_callee (f := 40) rfl ?_); refine goesL_ (some 8) rfl rfl Try.func40 (by kernel_rfl) rfl #[.slice A0_1 l0_1.length c0_1, .int .i64 a1] rfl (by (try simp only [List.map_toArray, List.map_cons, List.map_nil]); first | done | rfl | (simp only [List.length_drop, List.length_take]; rfl)) ?_; (with_reducible refine (laws_heldIntS.calls k _ _ l0_1 a1 t258 _ ?side1 ?side2 A3.out).mono ?_); (case side1 => repeat (first | exact (Kd.C_below HR0_1.out HB.out) | (with_reducible refine Kd.C_alloc ?_ _) | (with_reducible refine Kd.C_drewN ?_ _) | (with_reducible refine Kd.C_drew ?_))); (case side2 => exact HC0_1.out); rintro e w' ⟨rfl, ⟨nd, rfl⟩⟩; refine ⟨_, rfl, ?_⟩))
    go_ret
    exact ⟨by first | rfl | (simp [errW_none, errW_some] <;> rfl) | (simp [*, errW_none, errW_some] <;> rfl), by repeat (first | (with_reducible first | exact HB.out | apply below_alloc | apply pw_below_drewN | apply below_drew1 | refine below_set ?_ GE257.out) | exact HB.out)⟩

end Go.Proofs.Ytghooagembinaaa.P
