/- Part 2 of the texts below the law FnExactCountCouncilWins. Printed by this session's driver over the kit's printer, but for the hand contracts and the plain laws. -/
import Derived.Test.YtghooagembinaaaCCountCouncilWins0
import Derived.Test.YtghooagembinaaaCCountCouncilWins1
namespace Go.Proofs.Ytghooagembinaaa.P
open Go.RowKit Go.Proofs.YtghooagembinaaaW.PrintWords Go.Proofs.YtghooagembinaaaW.PrintLast Go.Proofs.YtghooagembinaaaW.PrintMore
attribute [local go_sem] max2_int min2_int max_two min_two max_three min_three max_four min_four   -- for this text's walks alone
set_option linter.unusedVariables false
set_option linter.unusedSimpArgs false

/-! ### impl_Committee_weight: function 81 -/
def impl_Committee_weight.l0 : Nat → Int → Int → List Int → Int → Int → Option (Int)
  | 0, _, _, _, _, _ => none
  | k + 1, x1, x5, x9, x10, x11 => if x11 < x10 then (if 0 ≤ x11 then (if x11 < (x9.length : Int) then ((impl_has.f x1 x11).bind fun t558 => (if t558 = true then (impl_Committee_weight.l0 k x1 (wrap64 (x5 + (rd x9 x11))) x9 x10 (wrap64 (x11 + 1))) else (impl_Committee_weight.l0 k x1 x5 x9 x10 (wrap64 (x11 + 1))))) else (none)) else (none)) else (some x5)
def impl_Committee_weight.f (k : Nat) (a0_0 : Int) (l0_1 : List Int) (a1 : Int) : Option (Int) := impl_Committee_weight.l0 k a1 0 l0_1 (l0_1.length : Int) 0
theorem impl_Committee_weight.mono_l : ∀ k, (∀ y0 y1 y2 y3 y4, LeO (impl_Committee_weight.l0 k y0 y1 y2 y3 y4) (impl_Committee_weight.l0 (k + 1) y0 y1 y2 y3 y4))
  | 0 => fun _ _ _ _ _ r h => by simp [impl_Committee_weight.l0] at h
  | k + 1 => by
    have ih0 := impl_Committee_weight.mono_l k
    · intro y0 y1 y2 y3 y4
      unfold impl_Committee_weight.l0
      repeat' first
      | (with_reducible exact ih0 _ _ _ _ _)
      | (with_reducible exact LeO.refl _)
      | (with_reducible exact LeO.none _)
      | (with_reducible refine LeO.ite ?_ ?_)
      | (with_reducible refine LeO.bind ?_ (fun _ => ?_))
      | exact ih0 _ _ _ _ _
      | exact LeO.none _
      | refine LeO.ite ?_ ?_
      | refine LeO.bind ?_ (fun _ => ?_)
theorem impl_Committee_weight.mono : ∀ a0 a1 a2 k, LeO (impl_Committee_weight.f k a0 a1 a2) (impl_Committee_weight.f (k + 1) a0 a1 a2) := by
  intro a0 a1 a2 k
  have ih0 := impl_Committee_weight.mono_l k
  unfold impl_Committee_weight.f
  repeat' first
      | (with_reducible exact ih0 _ _ _ _ _)
      | (with_reducible exact LeO.refl _)
      | (with_reducible exact LeO.none _)
      | (with_reducible refine LeO.ite ?_ ?_)
      | (with_reducible refine LeO.bind ?_ (fun _ => ?_))
      | exact ih0 _ _ _ _ _
      | exact LeO.none _
      | refine LeO.ite ?_ ?_
      | refine LeO.bind ?_ (fun _ => ?_)
set_option maxHeartbeats 8000000 in
set_option maxRecDepth 100000 in
theorem impl_Committee_weight.calls (k : Nat) (a0_0 : Int) (A0_1 : Option Addr) (c0_1 : Nat) (l0_1 : List Int) (a1 : Int) (r : Int) (w : World) (hr0_1 : Kd.C (Kd.int .i64) w A0_1 l0_1.length l0_1) (hc0_1 : l0_1.length ≤ c0_1) (h : impl_Committee_weight.f k a0_0 l0_1 a1 = some r) :
    Calls Try.prog 81 #[.agg #[.int .i64 a0_0, .slice A0_1 l0_1.length c0_1], .int .i64 a1] w fun e w' => e = .returned (.int .i64 r) ∧ Below w.heap.size w w' := by
  have hu34 := Try.underlying34
  have HR0_1 := Aside0.mk hr0_1
  have HC0_1 := Aside0.mk hc0_1
  clear hr0_1 hc0_1
  have HB := Aside0.mk (Below.refl w.heap.size w)
  have H : (impl_Committee_weight.l0 k a1 0 l0_1 (l0_1.length : Int) 0) = some r := h
  clear h
  have H' := Aside0.mk H
  clear H
  go_enter Try.func81, Try.ntmps81
  go_wp2_with (first | ((with_reducible refine gate_dst (N := 2) rfl ?_); refine box_event ?hg (N := 2) ?hd (cs := #[.int .i64 a0_0, .slice A0_1 l0_1.length c0_1]) (t := 34) ?hr ?_; (case hd => rfl); (case hg => rfl); (case hr => first | (go_simp; done) | (go_simp; rfl)); intro gb556 hg w3 hbox hb; have n0_ := Aside0.mk (below_step (by repeat (first | (with_reducible first | exact HB.out | apply below_alloc | apply pw_below_drewN | apply below_drew1) | exact HB.out)) hb); have n1_ := Aside0.mk (hbox); have n2_ := Aside0.mk ((by rw [hg]; exact (below_size (by repeat (first | (with_reducible first | exact HB.out | apply below_alloc | apply pw_below_drewN | apply below_drew1) | exact HB.out))) : w.heap.size ≤ gb556)); have n3_ := Aside0.mk ((by rw [hg]; exact (below_size (by repeat (first | (with_reducible first | exact HB.out | apply below_alloc | apply pw_below_drewN | apply below_drew1) | exact HB.out))) : w.heap.size ≤ gb556)); clear HB; have HB := n0_; have BK556 := n1_; have GW556 := n2_; have GE556 := n3_; clear n0_ n1_ n2_ n3_; clear hb hbox hg; have hcz4_0 : w3.cell? ⟨gb556, 0, none⟩ = some (.int .i64 a0_0) := (blk_cell BK556.out 0).trans rfl; have hcz4_1 : w3.cell? ⟨gb556, 1, none⟩ = some (.slice A0_1 l0_1.length c0_1) := (blk_cell BK556.out 1).trans rfl; have hfz4_0 := blk_frozen BK556.out 0; have hfz4_1 := blk_frozen BK556.out 1))
  go_loopg [5, 11] k (fun kq v5 v11 w' => ∃ (x5_1 : Int) (x11_1 : Int), v5 = .int .i64 x5_1 ∧ v11 = .int .i64 x11_1 ∧ Aside0 (impl_Committee_weight.l0 kq a1 x5_1 l0_1 (l0_1.length : Int) x11_1 = some r) ∧ Aside0 (kq ≤ k) ∧ Aside0 (w'.heap[gb556]? = some (.cells #[.int .i64 a0_0, (.slice A0_1 l0_1.length c0_1)] 34 (0, 0))) ∧ Aside0 (Below w.heap.size w w'))
  case atStart => exact ⟨(0), (0), (by first | rfl | (simp; done) | (simp [*]; done)), (by first | rfl | (simp; done) | (simp [*]; done)), H', ⟨Nat.le_refl _⟩, ⟨by (with_reducible repeat (first | refine blk_drewN ?_ _ | refine blk_drew ?_ | refine blk_alloc ?_ _)); exact BK556.out⟩, ⟨by repeat (first | (with_reducible first | exact HB.out | apply below_alloc | apply pw_below_drewN | apply below_drew1 | refine below_set ?_ GE556.out) | exact HB.out)⟩⟩
  case round =>
    clear H'
    try clear p2
    try clear hcz4_0
    try clear hcz4_1
    try clear hfz4_0
    try clear hfz4_1
    obtain ⟨x5_1, x11_1, rfl, rfl, HA, HK1, BK556, HB⟩ := hrel
    cases gk with
    | zero => exact absurd HA.out (by simp [impl_Committee_weight.l0])
    | succ k1 =>
      have H := HA.out
      clear HA
      simp only [impl_Committee_weight.l0] at H
      by_cases c5 : x11_1 < (l0_1.length : Int)
      · rw [if_pos c5] at H
        have c5b0 : decide (x11_1 < (l0_1.length : Int)) = true := decide_eq_true c5
        clear c5
        by_cases c6 : 0 ≤ x11_1
        · rw [if_pos c6] at H
          have c6b0 : decide (0 ≤ x11_1) = true := decide_eq_true c6
          clear c6
          by_cases c7 : x11_1 < (l0_1.length : Int)
          · rw [if_pos c7] at H
            have c7b0 : decide (x11_1 < (l0_1.length : Int)) = true := decide_eq_true c7
            clear c7
            replace H := Option.bind_eq_some_iff.mp H
            obtain ⟨t558, A80, H⟩ := H
            replace H : (if t558 = true then (impl_Committee_weight.l0 k1 a1 (wrap64 (x5_1 + (rd l0_1 x11_1))) l0_1 (l0_1.length : Int) (wrap64 (x11_1 + 1))) else (impl_Committee_weight.l0 k1 a1 x5_1 l0_1 (l0_1.length : Int) (wrap64 (x11_1 + 1)))) = some r := H
            have A8 := Aside0.mk A80
            clear A80
            by_cases c9 : t558 = true
            · subst c9
              have H1 : (impl_Committee_weight.l0 k1 a1 (wrap64 (x5_1 + (rd l0_1 x11_1))) l0_1 (l0_1.length : Int) (wrap64 (x11_1 + 1))) = some r := by rw [if_pos rfl] at H; exact H
              clear H
              have H := H1
              clear H1
              have H' := Aside0.mk H
              clear H
              have p557 : 0 ≤ (x11_1 : Int) := of_decide_eq_true (by first | (with_reducible assumption) | assumption)
              have q557 : x11_1 < (l0_1.length : Int) := of_decide_eq_true (by first | (with_reducible assumption) | assumption)
              obtain ⟨ad557, e557, hx557_0⟩ := Kd.at_int HR0_1.out x11_1 p557 q557
              cases e557
              replace hx557_0 := (HB.out.cell (World.block_lt_of_cell? w _ hx557_0)).trans hx557_0
              replace p557 := eq_true p557
              replace q557 := eq_true q557
              go_wp2_with (first | ((with_reducible refine gate_callee (f := 95) rfl ?_); refine goesL_ (some 18) rfl rfl Try.func95 (by kernel_rfl) rfl #[.int .i64 a1, .int .i64 x11_1] rfl (by (try simp only [List.map_toArray, List.map_cons, List.map_nil]); first | done | rfl | (simp only [List.length_drop, List.length_take]; rfl)) ?_; (with_reducible refine (impl_has.calls a1 x11_1 true _ A8.out).mono ?_); rintro e w' ⟨rfl, ⟨nd, rfl⟩⟩; refine ⟨_, rfl, ?_⟩))
              go_roundg k1
              case measure => have := HK1.out; omega
              case rel => exact ⟨(wrap64 (x5_1 + (rd l0_1 x11_1))), (wrap64 (x11_1 + 1)), (by first | rfl | (simp; done) | (simp [*]; done)), (by first | rfl | (simp; done) | (simp [*]; done)), H', ⟨by have := HK1.out; omega⟩, ⟨by (with_reducible repeat (first | refine blk_drewN ?_ _ | refine blk_drew ?_ | refine blk_alloc ?_ _)); exact BK556.out⟩, ⟨by repeat (first | (with_reducible first | exact HB.out | apply below_alloc | apply pw_below_drewN | apply below_drew1 | refine below_set ?_ GE556.out) | exact HB.out)⟩⟩
            · replace c9 := Bool.eq_false_iff.mpr c9
              subst c9
              have H1 : (impl_Committee_weight.l0 k1 a1 x5_1 l0_1 (l0_1.length : Int) (wrap64 (x11_1 + 1))) = some r := by rw [if_neg (show ¬ (false = true) by decide)] at H; exact H
              clear H
              have H := H1
              clear H1
              have H' := Aside0.mk H
              clear H
              have p557 : 0 ≤ (x11_1 : Int) := of_decide_eq_true (by first | (with_reducible assumption) | assumption)
              have q557 : x11_1 < (l0_1.length : Int) := of_decide_eq_true (by first | (with_reducible assumption) | assumption)
              obtain ⟨ad557, e557, hx557_0⟩ := Kd.at_int HR0_1.out x11_1 p557 q557
              cases e557
              replace hx557_0 := (HB.out.cell (World.block_lt_of_cell? w _ hx557_0)).trans hx557_0
              replace p557 := eq_true p557
              replace q557 := eq_true q557
              go_wp2_with (first | ((with_reducible refine gate_callee (f := 95) rfl ?_); refine goesL_ (some 18) rfl rfl Try.func95 (by kernel_rfl) rfl #[.int .i64 a1, .int .i64 x11_1] rfl (by (try simp only [List.map_toArray, List.map_cons, List.map_nil]); first | done | rfl | (simp only [List.length_drop, List.length_take]; rfl)) ?_; (with_reducible refine (impl_has.calls a1 x11_1 false _ A8.out).mono ?_); rintro e w' ⟨rfl, ⟨nd, rfl⟩⟩; refine ⟨_, rfl, ?_⟩))
              go_roundg k1
              case measure => have := HK1.out; omega
              case rel => exact ⟨(x5_1), (wrap64 (x11_1 + 1)), (by first | rfl | (simp; done) | (simp [*]; done)), (by first | rfl | (simp; done) | (simp [*]; done)), H', ⟨by have := HK1.out; omega⟩, ⟨by (with_reducible repeat (first | refine blk_drewN ?_ _ | refine blk_drew ?_ | refine blk_alloc ?_ _)); exact BK556.out⟩, ⟨by repeat (first | (with_reducible first | exact HB.out | apply below_alloc | apply pw_below_drewN | apply below_drew1 | refine below_set ?_ GE556.out) | exact HB.out)⟩⟩
          · rw [if_neg c7] at H
            exact absurd H (by simp)
        · rw [if_neg c6] at H
          exact absurd H (by simp)
      · rw [if_neg c5] at H
        have c5b0 : decide (x11_1 < (l0_1.length : Int)) = false := decide_eq_false c5
        clear c5
        obtain rfl := Option.some.inj H
        go_wp2
        go_ret
        exact ⟨by first | rfl | (simp [errW_none, errW_some] <;> rfl) | (simp [*, errW_none, errW_some] <;> rfl), by repeat (first | (with_reducible first | exact HB.out | apply below_alloc | apply pw_below_drewN | apply below_drew1 | refine below_set ?_ GE556.out) | exact HB.out)⟩

end Go.Proofs.Ytghooagembinaaa.P

namespace Go.Proofs.Ytghooagembinaaa.P
open Go.RowKit Go.Proofs.YtghooagembinaaaW.PrintWords Go.Proofs.YtghooagembinaaaW.PrintLast Go.Proofs.YtghooagembinaaaW.PrintMore
attribute [local go_sem] max2_int min2_int max_two min_two max_three min_three max_four min_four   -- for this text's walks alone
set_option linter.unusedVariables false
set_option linter.unusedSimpArgs false

/-! ### impl_councilVotes_1: function 106 -/
def impl_councilVotes_1.l0 : Nat → Int → Int → Int → List (S_impl_Committee) → Int → Int → Int → List Int → Option (Bool)
  | 0, _, _, _, _, _, _, _, _ => none
  | k + 1, x0, x5, x6, x9, x10, x11, x3000, x3001 => if x11 < x10 then (if 0 ≤ x11 then (if x11 < (x9.length : Int) then (if 0 ≤ x6 then ((impl_Committee_weight.f k ((rd_impl_Committee x9 x11).f0) ((rd_impl_Committee x9 x11).f1) (shr .i64 x0 x6)).bind fun t930 => (if t930 ≥ ((rd_impl_Committee x9 x11).f0) then (if x11 < (x3001.length : Int) then (impl_councilVotes_1.l0 k x0 (wrap64 (x5 + (rd x3001 x11))) (wrap64 (x6 + (((rd_impl_Committee x9 x11).f1).length : Int))) x9 x10 (wrap64 (x11 + 1)) x3000 x3001) else (none)) else (impl_councilVotes_1.l0 k x0 x5 (wrap64 (x6 + (((rd_impl_Committee x9 x11).f1).length : Int))) x9 x10 (wrap64 (x11 + 1)) x3000 x3001))) else (none)) else (none)) else (none)) else (some (decide (x5 ≥ x3000)))
def impl_councilVotes_1.f (k : Nat) (a0 : Int) (l1 : List (S_impl_Committee)) (a2_0 : Int) (l2_1 : List Int) : Option (Bool) := impl_councilVotes_1.l0 k a0 0 0 l1 (l1.length : Int) 0 a2_0 l2_1
theorem impl_councilVotes_1.mono_l : ∀ k, (∀ y0 y1 y2 y3 y4 y5 y6 y7, LeO (impl_councilVotes_1.l0 k y0 y1 y2 y3 y4 y5 y6 y7) (impl_councilVotes_1.l0 (k + 1) y0 y1 y2 y3 y4 y5 y6 y7))
  | 0 => fun _ _ _ _ _ _ _ _ r h => by simp [impl_councilVotes_1.l0] at h
  | k + 1 => by
    have ih0 := impl_councilVotes_1.mono_l k
    · intro y0 y1 y2 y3 y4 y5 y6 y7
      unfold impl_councilVotes_1.l0
      repeat' first
      | (with_reducible exact ih0 _ _ _ _ _ _ _ _)
      | (with_reducible exact impl_Committee_weight.mono _ _ _ _)
      | (with_reducible exact LeO.refl _)
      | (with_reducible exact LeO.none _)
      | (with_reducible refine LeO.ite ?_ ?_)
      | (with_reducible refine LeO.bind ?_ (fun _ => ?_))
      | exact ih0 _ _ _ _ _ _ _ _
      | exact impl_Committee_weight.mono _ _ _ _
      | exact LeO.none _
      | refine LeO.ite ?_ ?_
      | refine LeO.bind ?_ (fun _ => ?_)
theorem impl_councilVotes_1.mono : ∀ a0 a1 a2 a3 k, LeO (impl_councilVotes_1.f k a0 a1 a2 a3) (impl_councilVotes_1.f (k + 1) a0 a1 a2 a3) := by
  intro a0 a1 a2 a3 k
  have ih0 := impl_councilVotes_1.mono_l k
  unfold impl_councilVotes_1.f
  repeat' first
      | (with_reducible exact ih0 _ _ _ _ _ _ _ _)
      | (with_reducible exact impl_Committee_weight.mono _ _ _ _)
      | (with_reducible exact LeO.refl _)
      | (with_reducible exact LeO.none _)
      | (with_reducible refine LeO.ite ?_ ?_)
      | (with_reducible refine LeO.bind ?_ (fun _ => ?_))
      | exact ih0 _ _ _ _ _ _ _ _
      | exact impl_Committee_weight.mono _ _ _ _
      | exact LeO.none _
      | refine LeO.ite ?_ ?_
      | refine LeO.bind ?_ (fun _ => ?_)
def impl_councilVotes_1.T5 : Bool × List (List Nat × List Nat) := (true, [([], []), ([], []), ([], []), ([1, 2], [1, 2]), ([0, 3], [0, 3]), ([], []), ([5], [5]), ([4, 6], [4, 6])])
def impl_councilVotes_1.B5 : List Nat := [0, 0, 0, 6, 15, 0, 32, 127]
theorem impl_councilVotes_1.tab5 : rtab .any (opsOf Try.f106 5) = impl_councilVotes_1.T5 := by kernel_rfl
theorem impl_councilVotes_1.bits5 : waitsOk impl_councilVotes_1.T5.2 impl_councilVotes_1.B5 = true := by kernel_rfl
set_option maxHeartbeats 8000000 in
set_option maxRecDepth 100000 in
theorem impl_councilVotes_1.calls (k : Nat) (a0 : Int) (gc1 : Nat) (A1 : Option Addr) (c1 : Nat) (l1 : List (S_impl_Committee)) (gc2 : Nat) (a2_0 : Int) (A2_1 : Option Addr) (c2_1 : Nat) (l2_1 : List Int) (r : Bool) (w : World) (hr1 : Kd.C k_impl_Committee w A1 l1.length l1) (hc1 : l1.length ≤ c1) (hr2_1 : Kd.C (Kd.int .i64) w A2_1 l2_1.length l2_1) (hc2_1 : l2_1.length ≤ c2_1) (hb1 : w.heap[gc1]? = some (.cells #[.slice A1 l1.length c1] 25 (0, 0))) (hb2 : w.heap[gc2]? = some (.cells #[.int .i64 a2_0, .slice A2_1 l2_1.length c2_1] 34 (0, 0))) (hn1_2 : gc1 ≠ gc2) (h : impl_councilVotes_1.f k a0 l1 a2_0 l2_1 = some r) :
    Calls Try.prog 106 #[.int .i64 a0, .pointer (some ⟨gc1, 0, none⟩), .pointer (some ⟨gc2, 0, none⟩)] w fun e w' => e = .returned (.bool r) ∧ Below w.heap.size w w' := by
  have hu34 := Try.underlying34
  have HR1 := Aside0.mk hr1
  have HC1 := Aside0.mk hc1
  clear hr1 hc1
  have HR2_1 := Aside0.mk hr2_1
  have HC2_1 := Aside0.mk hc2_1
  clear hr2_1 hc2_1
  have BK1 := Aside0.mk hb1
  clear hb1
  have BK2 := Aside0.mk hb2
  clear hb2
  have NB1_2 := Aside0.mk hn1_2
  have NB2_1 := Aside0.mk (Ne.symm hn1_2)
  clear hn1_2
  have HB := Aside0.mk (Below.refl w.heap.size w)
  have H : (impl_councilVotes_1.l0 k a0 0 0 l1 (l1.length : Int) 0 a2_0 l2_1) = some r := h
  clear h
  have H' := Aside0.mk H
  clear H
  have hnb4 := NB1_2.out
  have hnc4 := NB2_1.out
  have hcz5_0 : w.cell? ⟨gc1, 0, none⟩ = some (.slice A1 l1.length c1) := (blk_cell BK1.out 0).trans rfl
  have hfz5_0 := blk_frozen BK1.out 0
  go_enter Try.func106, Try.ntmps106
  go_wp2
  go_loopg [5, 6, 11] k (fun kq v5 v6 v11 w' => ∃ (x5_1 : Int) (x6_1 : Int) (x11_1 : Int), v5 = .int .i64 x5_1 ∧ v6 = .int .i64 x6_1 ∧ v11 = .int .i64 x11_1 ∧ Aside0 (impl_councilVotes_1.l0 kq a0 x5_1 x6_1 l1 (l1.length : Int) x11_1 a2_0 l2_1 = some r) ∧ Aside0 (kq ≤ k) ∧ Aside0 (w'.heap[gc1]? = some (.cells #[(.slice A1 l1.length c1)] 25 (0, 0))) ∧ Aside0 (w'.heap[gc2]? = some (.cells #[.int .i64 a2_0, (.slice A2_1 l2_1.length c2_1)] 34 (0, 0))) ∧ Aside0 (Below w.heap.size w w'))
  case atStart => exact ⟨(0), (0), (0), (by first | rfl | (simp; done) | (simp [*]; done)), (by first | rfl | (simp; done) | (simp [*]; done)), (by first | rfl | (simp; done) | (simp [*]; done)), H', ⟨Nat.le_refl _⟩, ⟨by (with_reducible repeat (first | refine blk_drewN ?_ _ | refine blk_drew ?_ | refine blk_alloc ?_ _)); exact BK1.out⟩, ⟨by (with_reducible repeat (first | refine blk_drewN ?_ _ | refine blk_drew ?_ | refine blk_alloc ?_ _)); exact BK2.out⟩, ⟨by repeat (first | (with_reducible first | exact HB.out | apply below_alloc | apply pw_below_drewN | apply below_drew1 | refine below_set ?_ GE1.out | refine below_set ?_ GE2.out) | exact HB.out)⟩⟩
  case round =>
    clear H'
    try clear c1
    try clear c2
    try clear p2
    try clear c4
    try clear hcz5_0
    try clear hfz5_0
    obtain ⟨x5_1, x6_1, x11_1, rfl, rfl, rfl, HA, HK1, BK1, BK2, HB⟩ := hrel
    cases gk with
    | zero => exact absurd HA.out (by simp [impl_councilVotes_1.l0])
    | succ k1 =>
      have H := HA.out
      clear HA
      simp only [impl_councilVotes_1.l0] at H
      by_cases c6 : x11_1 < (l1.length : Int)
      · rw [if_pos c6] at H
        have c6b0 : decide (x11_1 < (l1.length : Int)) = true := decide_eq_true c6
        clear c6
        by_cases c7 : 0 ≤ x11_1
        · rw [if_pos c7] at H
          have c7b0 : decide (0 ≤ x11_1) = true := decide_eq_true c7
          clear c7
          by_cases c8 : x11_1 < (l1.length : Int)
          · rw [if_pos c8] at H
            have c8b0 : decide (x11_1 < (l1.length : Int)) = true := decide_eq_true c8
            clear c8
            by_cases c9 : 0 ≤ x6_1
            · rw [if_pos c9] at H
              have c9b0 := eq_true c9
              have c9b1 : decide (0 ≤ x6_1) = true := decide_eq_true c9
              clear c9
              obtain ⟨ji10, hji10⟩ : ∃ j_ : Int, (shr .i64 a0 x6_1) = j_ := ⟨_, rfl⟩
              replace H : ((impl_Committee_weight.f k1 ((rd_impl_Committee l1 x11_1).f0) ((rd_impl_Committee l1 x11_1).f1) (ji10)).bind fun t930 => (if t930 ≥ ((rd_impl_Committee l1 x11_1).f0) then (if x11_1 < (l2_1.length : Int) then (impl_councilVotes_1.l0 k1 a0 (wrap64 (x5_1 + (rd l2_1 x11_1))) (wrap64 (x6_1 + (((rd_impl_Committee l1 x11_1).f1).length : Int))) l1 (l1.length : Int) (wrap64 (x11_1 + 1)) a2_0 l2_1) else (none)) else (impl_councilVotes_1.l0 k1 a0 x5_1 (wrap64 (x6_1 + (((rd_impl_Committee l1 x11_1).f1).length : Int))) l1 (l1.length : Int) (wrap64 (x11_1 + 1)) a2_0 l2_1))) = some r := by first | (rw [hji10] at H; exact H) | (simp only [hji10] at H ⊢; exact H)
              have hji10_ : (a0 / 2 ^ min x6_1.toNat 64) = ji10 := hji10
              have hji10z : x6_1 ≤ 64 → (a0 / 2 ^ x6_1.toNat) = ji10 := shr_small hji10
              replace H := Option.bind_eq_some_iff.mp H
              obtain ⟨t930, A110, H⟩ := H
              replace H : (if t930 ≥ ((rd_impl_Committee l1 x11_1).f0) then (if x11_1 < (l2_1.length : Int) then (impl_councilVotes_1.l0 k1 a0 (wrap64 (x5_1 + (rd l2_1 x11_1))) (wrap64 (x6_1 + (((rd_impl_Committee l1 x11_1).f1).length : Int))) l1 (l1.length : Int) (wrap64 (x11_1 + 1)) a2_0 l2_1) else (none)) else (impl_councilVotes_1.l0 k1 a0 x5_1 (wrap64 (x6_1 + (((rd_impl_Committee l1 x11_1).f1).length : Int))) l1 (l1.length : Int) (wrap64 (x11_1 + 1)) a2_0 l2_1)) = some r := H
              have A11 := Aside0.mk A110
              clear A110
              by_cases c12 : t930 ≥ ((rd_impl_Committee l1 x11_1).f0)
              · rw [if_pos c12] at H
                have c12b0 : decide (((rd_impl_Committee l1 x11_1).f0) ≤ t930) = true := decide_eq_true c12
                clear c12
                by_cases c13 : x11_1 < (l2_1.length : Int)
                · rw [if_pos c13] at H
                  have c13b0 : decide (x11_1 < (l2_1.length : Int)) = true := decide_eq_true c13
                  clear c13
                  have H' := Aside0.mk H
                  clear H
                  have p928 : 0 ≤ (x11_1 : Int) := of_decide_eq_true (by first | (with_reducible assumption) | assumption)
                  have q928 : x11_1 < (l1.length : Int) := of_decide_eq_true (by first | (with_reducible assumption) | assumption)
                  obtain ⟨ad928, A928_1, c928_1, e928, hx928_0, hx928_1, hl928_1, hi928_1⟩ := at_impl_Committee HR1.out x11_1 p928 q928
                  cases e928
                  replace hx928_0 := (HB.out.cell (World.block_lt_of_cell? w _ hx928_0)).trans hx928_0
                  replace hx928_1 := (HB.out.cell (World.block_lt_of_cell? w _ hx928_1)).trans hx928_1
                  have HR928_1 := Aside0.mk hi928_1
                  have HC928_1 := Aside0.mk hl928_1
                  clear hi928_1 hl928_1
                  replace p928 := eq_true p928
                  replace q928 := eq_true q928
                  try go_wp2_with (first | ((with_reducible refine gate_dst (N := 8) rfl ?_); refine box_event ?hg (N := 8) ?hd (cs := #[.int .i64 0, .slice none 0 0]) (t := 34) ?hr ?_; (case hd => rfl); (case hg => rfl); (case hr => first | (go_simp; done) | (go_simp; rfl)); intro gb929 hg w14 hbox hb; have n0_ := Aside0.mk (blk_below (g := gc1) (o := .cells #[.slice (some ad928) l1.length c1] 25 (0, 0)) (by (with_reducible repeat (first | refine blk_drewN ?_ _ | refine blk_drew ?_ | refine blk_alloc ?_ _)); exact BK1.out) hb); have n1_ := Aside0.mk (blk_below (g := gc2) (o := .cells #[.int .i64 a2_0, .slice A2_1 l2_1.length c2_1] 34 (0, 0)) (by (with_reducible repeat (first | refine blk_drewN ?_ _ | refine blk_drew ?_ | refine blk_alloc ?_ _)); exact BK2.out) hb); have n2_ := Aside0.mk (below_step (by repeat (first | (with_reducible first | exact HB.out | apply below_alloc | apply pw_below_drewN | apply below_drew1 | refine below_set ?_ GE1.out | refine below_set ?_ GE2.out) | exact HB.out)) hb); have n3_ := Aside0.mk (hbox); have n4_ := Aside0.mk ((by rw [hg]; exact (below_size (by repeat (first | (with_reducible first | exact HB.out | apply below_alloc | apply pw_below_drewN | apply below_drew1 | refine below_set ?_ GE1.out | refine below_set ?_ GE2.out) | exact HB.out))) : w.heap.size ≤ gb929)); have n5_ := Aside0.mk ((by rw [hg]; exact (below_size (by repeat (first | (with_reducible first | exact HB.out | apply below_alloc | apply pw_below_drewN | apply below_drew1 | refine below_set ?_ GE1.out | refine below_set ?_ GE2.out) | exact HB.out))) : w.heap.size ≤ gb929)); have n6_ := Aside0.mk ((by rw [hg]; exact Nat.ne_of_lt (blk_lt (g := gc1) (o := .cells #[.slice (some ad928) l1.length c1] 25 (0, 0)) (by (with_reducible repeat (first | refine blk_drewN ?_ _ | refine blk_drew ?_ | refine blk_alloc ?_ _)); exact BK1.out)) : gc1 ≠ gb929)); have n7_ := Aside0.mk ((by rw [hg]; exact Nat.ne_of_gt (blk_lt (g := gc1) (o := .cells #[.slice (some ad928) l1.length c1] 25 (0, 0)) (by (with_reducible repeat (first | refine blk_drewN ?_ _ | refine blk_drew ?_ | refine blk_alloc ?_ _)); exact BK1.out)) : gb929 ≠ gc1)); have n8_ := Aside0.mk ((by rw [hg]; exact Nat.ne_of_lt (blk_lt (g := gc2) (o := .cells #[.int .i64 a2_0, .slice A2_1 l2_1.length c2_1] 34 (0, 0)) (by (with_reducible repeat (first | refine blk_drewN ?_ _ | refine blk_drew ?_ | refine blk_alloc ?_ _)); exact BK2.out)) : gc2 ≠ gb929)); have n9_ := Aside0.mk ((by rw [hg]; exact Nat.ne_of_gt (blk_lt (g := gc2) (o := .cells #[.int .i64 a2_0, .slice A2_1 l2_1.length c2_1] 34 (0, 0)) (by (with_reducible repeat (first | refine blk_drewN ?_ _ | refine blk_drew ?_ | refine blk_alloc ?_ _)); exact BK2.out)) : gb929 ≠ gc2)); clear BK1; clear BK2; clear HB; have BK1 := n0_; have BK2 := n1_; have HB := n2_; have BK929 := n3_; have GW929 := n4_; have GE929 := n5_; have NB1_929 := n6_; have NB929_1 := n7_; have NB2_929 := n8_; have NB929_2 := n9_; clear n0_ n1_ n2_ n3_ n4_ n5_ n6_ n7_ n8_ n9_; clear hb hbox hg; have hnb15 := NB929_1.out; have hnc15 := NB1_929.out; have hnb16 := NB929_2.out; have hnc16 := NB2_929.out; have hcz17_0 : w14.cell? ⟨gb929, 0, none⟩ = some (.int .i64 0) := (blk_cell BK929.out 0).trans rfl; have hcz17_1 : w14.cell? ⟨gb929, 1, none⟩ = some (.slice none 0 0) := (blk_cell BK929.out 1).trans rfl; have hfz17_0 := blk_frozen BK929.out 0; have hfz17_1 := blk_frozen BK929.out 1))
                  have n0_ : Aside0 (((w14.setCell ⟨gb929, 0, none⟩ (.int .i64 ((rd_impl_Committee l1 x11_1).f0))).setCell ⟨gb929, 1, none⟩ (.slice A928_1 ((rd_impl_Committee l1 x11_1).f1).length c928_1)).heap[gc1]? = some (.cells #[.slice (some ad928) l1.length c1] 25 (0, 0))) := ⟨by (with_reducible repeat (first | refine blk_drewN ?_ _ | refine blk_drew ?_ | refine blk_alloc ?_ _)); refine blk_far ?_ NB1_929.out _; (with_reducible repeat (first | refine blk_drewN ?_ _ | refine blk_drew ?_ | refine blk_alloc ?_ _)); refine blk_far ?_ NB1_929.out _; (with_reducible repeat (first | refine blk_drewN ?_ _ | refine blk_drew ?_ | refine blk_alloc ?_ _)); exact BK1.out⟩
                  have n1_ : Aside0 (((w14.setCell ⟨gb929, 0, none⟩ (.int .i64 ((rd_impl_Committee l1 x11_1).f0))).setCell ⟨gb929, 1, none⟩ (.slice A928_1 ((rd_impl_Committee l1 x11_1).f1).length c928_1)).heap[gc2]? = some (.cells #[.int .i64 a2_0, .slice A2_1 l2_1.length c2_1] 34 (0, 0))) := ⟨by (with_reducible repeat (first | refine blk_drewN ?_ _ | refine blk_drew ?_ | refine blk_alloc ?_ _)); refine blk_far ?_ NB2_929.out _; (with_reducible repeat (first | refine blk_drewN ?_ _ | refine blk_drew ?_ | refine blk_alloc ?_ _)); refine blk_far ?_ NB2_929.out _; (with_reducible repeat (first | refine blk_drewN ?_ _ | refine blk_drew ?_ | refine blk_alloc ?_ _)); exact BK2.out⟩
                  have n2_ : Aside0 (((w14.setCell ⟨gb929, 0, none⟩ (.int .i64 ((rd_impl_Committee l1 x11_1).f0))).setCell ⟨gb929, 1, none⟩ (.slice A928_1 ((rd_impl_Committee l1 x11_1).f1).length c928_1)).heap[gb929]? = some (.cells #[.int .i64 ((rd_impl_Committee l1 x11_1).f0), .slice A928_1 ((rd_impl_Committee l1 x11_1).f1).length c928_1] 34 (0, 0))) := ⟨by (with_reducible repeat (first | refine blk_drewN ?_ _ | refine blk_drew ?_ | refine blk_alloc ?_ _)); refine blk_put (cs := #[.int .i64 ((rd_impl_Committee l1 x11_1).f0), .slice none 0 0]) ?_ 1 _ rfl; (with_reducible repeat (first | refine blk_drewN ?_ _ | refine blk_drew ?_ | refine blk_alloc ?_ _)); refine blk_put (cs := #[.int .i64 0, .slice none 0 0]) ?_ 0 _ rfl; (with_reducible repeat (first | refine blk_drewN ?_ _ | refine blk_drew ?_ | refine blk_alloc ?_ _)); exact BK929.out⟩
                  have n3_ : Aside0 (Below w.heap.size w ((w14.setCell ⟨gb929, 0, none⟩ (.int .i64 ((rd_impl_Committee l1 x11_1).f0))).setCell ⟨gb929, 1, none⟩ (.slice A928_1 ((rd_impl_Committee l1 x11_1).f1).length c928_1))) := ⟨by repeat (first | (with_reducible first | exact HB.out | apply below_alloc | apply pw_below_drewN | apply below_drew1 | refine below_set ?_ GE1.out | refine below_set ?_ GE2.out | refine below_set ?_ GE929.out) | exact HB.out)⟩
                  (try clear BK1)
                  (try clear BK2)
                  (try clear BK929)
                  (try clear HB)
                  generalize ((w14.setCell ⟨gb929, 0, none⟩ (.int .i64 ((rd_impl_Committee l1 x11_1).f0))).setCell ⟨gb929, 1, none⟩ (.slice A928_1 ((rd_impl_Committee l1 x11_1).f1).length c928_1)) = w18 at n0_ n1_ n2_ n3_ ⊢
                  have BK1 := n0_
                  have BK2 := n1_
                  have BK929 := n2_
                  have HB := n3_
                  clear n0_ n1_ n2_ n3_
                  have n0_ := Aside0.mk (blk_drew BK1.out)
                  have n1_ := Aside0.mk (blk_drew BK2.out)
                  have n2_ := Aside0.mk (blk_drew BK929.out)
                  have n3_ := Aside0.mk (below_drew1 HB.out)
                  clear BK1
                  clear BK2
                  clear BK929
                  clear HB
                  have BK1 := n0_
                  have BK2 := n1_
                  have BK929 := n2_
                  have HB := n3_
                  clear n0_ n1_ n2_ n3_
                  refine start_ (n := 8) (S := fun w' => w'.cell? ⟨gb929, 0, none⟩ = some (.int .i64 ((rd_impl_Committee l1 x11_1).f0)) ∧ w'.cell? ⟨gb929, 1, none⟩ = some (.slice A928_1 ((rd_impl_Committee l1 x11_1).f1).length c928_1)) (ds := []) #[false, false, false, false, false, false, false, false] (by kernel_rfl) rfl rfl ⟨(blk_cell BK929.out 0).trans rfl, (blk_cell BK929.out 1).trans rfl⟩ (fun hHeld => ?_); refine with_tabW impl_councilVotes_1.tab5 impl_councilVotes_1.bits5 (fun HT_ HW_ => ?_)
                  generalize w18.drew = w19 at BK1 BK2 BK929 HB hHeld ⊢
                  refine pure_ (i := 1) (N := some 17) (v := ?_) (a' := ?_) #[false, true, false, false, false, false, false, false] rfl rfl (any_of HT_.out (by kernel_rfl)) (fun _ _ _ h => h) (Or.inl ⟨by rfl, ?_⟩) ?_ ?_
                  rotate_left
                  · intro w'
                    go_simp
                    with_reducible rfl
                  rotate_left
                  · simp only [Act.put, List.setIfInBounds_toArray, List.set_cons_zero, List.set_cons_succ, i64_w, i32_w]
                    rfl
                  refine pure_ (i := 2) (N := some 18) (v := ?_) (a' := ?_) #[false, true, true, false, false, false, false, false] rfl rfl (any_of HT_.out (by kernel_rfl)) (fun _ _ _ h => h) (Or.inl ⟨by rfl, ?_⟩) ?_ ?_
                  rotate_left
                  · intro w'
                    go_simp
                    with_reducible rfl
                  rotate_left
                  · simp only [Act.put, List.setIfInBounds_toArray, List.set_cons_zero, List.set_cons_succ, i64_w, i32_w]
                    rfl
                  refine pure_ (i := 3) (N := some 19) (v := ?_) (a' := ?_) #[false, true, true, true, false, false, false, false] rfl rfl (any_of HT_.out (by kernel_rfl)) (fun _ _ _ h => h) (Or.inl ⟨by rfl, ?_⟩) ?_ ?_
                  rotate_left
                  · intro w'
                    go_simp
                    with_reducible rfl
                  rotate_left
                  · simp only [Act.put, List.setIfInBounds_toArray, List.set_cons_zero, List.set_cons_succ, i64_w, i32_w]
                    rfl
                  refine pure_ (i := 5) (N := some 21) (v := ?_) (a' := ?_) #[false, true, true, true, false, true, false, false] rfl rfl (any_of HT_.out (by kernel_rfl)) (fun _ _ _ h => h) (Or.inl ⟨by rfl, ?_⟩) ?_ ?_
                  rotate_left
                  · intro w'
                    go_simp
                    with_reducible rfl
                  rotate_left
                  · simp only [Act.put, List.setIfInBounds_toArray, List.set_cons_zero, List.set_cons_succ, i64_w, i32_w]
                    rfl
                  refine take_ (i := 0) (N := some 16) (v := ?_) (a' := ?_) #[true, true, true, true, false, true, false, false] rfl rfl (take_ofW HT_.out HW_.out (by kernel_rfl)) (fun _ _ _ h => h) (Or.inl ⟨by rfl, ?_⟩) hHeld ?_ ?_
                  rotate_left
                  · rintro w' ⟨s0, s1⟩
                    go_simp
                    with_reducible rfl
                  rotate_left
                  · simp only [Act.put, List.setIfInBounds_toArray, List.set_cons_zero, List.set_cons_succ, i64_w, i32_w]
                    rfl
                  refine take_ (i := 6) (N := some 22) (v := ?_) (a' := ?_) #[true, true, true, true, false, true, true, false] rfl rfl (take_ofW HT_.out HW_.out (by kernel_rfl)) (fun _ _ _ h => h) (Or.inl ⟨by rfl, ?_⟩) hHeld ?_ ?_
                  rotate_left
                  · rintro w' ⟨s0, s1⟩
                    go_simp
                    with_reducible rfl
                  rotate_left
                  · simp only [Act.put, List.setIfInBounds_toArray, List.set_cons_zero, List.set_cons_succ, i64_w, i32_w]
                    rfl
                  refine one_ (i := 4) (N := some 20) #[true, true, true, true, true, true, true, false] rfl rfl (one_of HT_.out (by kernel_rfl)) (by decide) (fun K hK => ?_)
                  refine goes_ Try.func81 (by kernel_rfl) rfl #[.agg #[.int .i64 ((rd_impl_Committee l1 x11_1).f0), .slice A928_1 ((rd_impl_Committee l1 x11_1).f1).length c928_1], .int .i64 ji10] (by rfl) rfl rfl (by (try simp only [List.map_toArray, List.map_cons, List.map_nil]); first | done | (simp only [hji10]; rfl) | rfl | (simp only [List.length_drop, List.length_take]; rfl)) ?_
                  with_reducible refine (impl_Committee_weight.calls k1 ((rd_impl_Committee l1 x11_1).f0) _ _ ((rd_impl_Committee l1 x11_1).f1) ji10 t930 _ ?side1 ?side2 A11.out).mono ?_
                  (case side1 => repeat (first | exact (Kd.C_below HR928_1.out HB.out) | (with_reducible refine Kd.C_alloc ?_ _) | (with_reducible refine Kd.C_drewN ?_ _) | (with_reducible refine Kd.C_drew ?_)))
                  (case side2 => exact HC928_1.out)
                  rintro e w20 ⟨rfl, hb⟩
                  refine ⟨_, rfl, ?_⟩
                  have n0_ := Aside0.mk (blk_below (g := gc1) (o := .cells #[.slice (some ad928) l1.length c1] 25 (0, 0)) (by (with_reducible repeat (first | refine blk_drewN ?_ _ | refine blk_drew ?_ | refine blk_alloc ?_ _)); exact BK1.out) hb)
                  have n1_ := Aside0.mk (blk_below (g := gc2) (o := .cells #[.int .i64 a2_0, .slice A2_1 l2_1.length c2_1] 34 (0, 0)) (by (with_reducible repeat (first | refine blk_drewN ?_ _ | refine blk_drew ?_ | refine blk_alloc ?_ _)); exact BK2.out) hb)
                  have n2_ := Aside0.mk (blk_below (g := gb929) (o := .cells #[.int .i64 ((rd_impl_Committee l1 x11_1).f0), .slice A928_1 ((rd_impl_Committee l1 x11_1).f1).length c928_1] 34 (0, 0)) (by (with_reducible repeat (first | refine blk_drewN ?_ _ | refine blk_drew ?_ | refine blk_alloc ?_ _)); exact BK929.out) hb)
                  have n3_ := Aside0.mk (below_step (by repeat (first | (with_reducible first | exact HB.out | apply below_alloc | apply pw_below_drewN | apply below_drew1 | refine below_set ?_ GE1.out | refine below_set ?_ GE2.out | refine below_set ?_ GE929.out) | exact HB.out)) hb)
                  clear BK1
                  clear BK2
                  clear BK929
                  clear HB
                  have BK1 := n0_
                  have BK2 := n1_
                  have BK929 := n2_
                  have HB := n3_
                  clear n0_ n1_ n2_ n3_
                  (try clear hb)
                  (try clear hb2)
                  (try clear hk)
                  (try clear hi)
                  refine hK.out _ _ ⟨(blk_cell BK929.out 0).trans rfl, (blk_cell BK929.out 1).trans rfl⟩ (fun hHeld => ?_)
                  clear hK K
                  refine norm_ (a' := ?_) ?_ ?_
                  rotate_left
                  · show Act.put _ (some 20) _ = _
                    simp only [Act.put, List.setIfInBounds_toArray, List.set_cons_zero, List.set_cons_succ, i64_w, i32_w]
                    rfl
                  refine pure_ (i := 7) (N := some 23) (v := ?_) (a' := ?_) #[true, true, true, true, true, true, true, true] rfl rfl (any_of HT_.out (by kernel_rfl)) (fun _ _ _ h => h) (Or.inl ⟨by rfl, ?_⟩) ?_ ?_
                  rotate_left
                  · intro w'
                    go_simp
                    with_reducible rfl
                  rotate_left
                  · simp only [Act.put, List.setIfInBounds_toArray, List.set_cons_zero, List.set_cons_succ, i64_w, i32_w]
                    rfl
                  refine done_ (done_of HT_.out (by kernel_rfl)) ?_
                  have hnb21 := NB2_1.out
                  have hnc21 := NB1_2.out
                  have hcz22_0 : w20.cell? ⟨gc2, 0, none⟩ = some (.int .i64 a2_0) := (blk_cell BK2.out 0).trans rfl
                  have hcz22_1 : w20.cell? ⟨gc2, 1, none⟩ = some (.slice A2_1 l2_1.length c2_1) := (blk_cell BK2.out 1).trans rfl
                  have hfz22_0 := blk_frozen BK2.out 0
                  have hfz22_1 := blk_frozen BK2.out 1
                  have p931 : 0 ≤ (x11_1 : Int) := of_decide_eq_true (by first | (with_reducible assumption) | assumption)
                  have q931 : x11_1 < (l2_1.length : Int) := of_decide_eq_true (by first | (with_reducible assumption) | assumption)
                  obtain ⟨ad931, e931, hx931_0⟩ := Kd.at_int HR2_1.out x11_1 p931 q931
                  cases e931
                  replace hx931_0 := (HB.out.cell (World.block_lt_of_cell? w _ hx931_0)).trans hx931_0
                  replace p931 := eq_true p931
                  replace q931 := eq_true q931
                  have hcz23_0 : w20.cell? ⟨gb929, 0, none⟩ = some (.int .i64 ((rd_impl_Committee l1 x11_1).f0)) := (blk_cell BK929.out 0).trans rfl
                  have hcz23_1 : w20.cell? ⟨gb929, 1, none⟩ = some (.slice A928_1 ((rd_impl_Committee l1 x11_1).f1).length c928_1) := (blk_cell BK929.out 1).trans rfl
                  have hfz23_0 := blk_frozen BK929.out 0
                  have hfz23_1 := blk_frozen BK929.out 1
                  try go_wp2
                  go_roundg k1
                  case measure => have := HK1.out; omega
                  case rel => exact ⟨(wrap64 (x5_1 + (rd l2_1 x11_1))), (wrap64 (x6_1 + (((rd_impl_Committee l1 x11_1).f1).length : Int))), (wrap64 (x11_1 + 1)), (by first | rfl | (simp; done) | (simp [*]; done)), (by first | rfl | (simp; done) | (simp [*]; done)), (by first | rfl | (simp; done) | (simp [*]; done)), H', ⟨by have := HK1.out; omega⟩, ⟨by (with_reducible repeat (first | refine blk_drewN ?_ _ | refine blk_drew ?_ | refine blk_alloc ?_ _)); exact BK1.out⟩, ⟨by (with_reducible repeat (first | refine blk_drewN ?_ _ | refine blk_drew ?_ | refine blk_alloc ?_ _)); exact BK2.out⟩, ⟨by repeat (first | (with_reducible first | exact HB.out | apply below_alloc | apply pw_below_drewN | apply below_drew1 | refine below_set ?_ GE1.out | refine below_set ?_ GE2.out | refine below_set ?_ GE929.out) | exact HB.out)⟩⟩
                · rw [if_neg c13] at H
                  exact absurd H (by simp)
              · rw [if_neg c12] at H
                have c12b0 : decide (((rd_impl_Committee l1 x11_1).f0) ≤ t930) = false := decide_eq_false c12
                clear c12
                have H' := Aside0.mk H
                clear H
                have p928 : 0 ≤ (x11_1 : Int) := of_decide_eq_true (by first | (with_reducible assumption) | assumption)
                have q928 : x11_1 < (l1.length : Int) := of_decide_eq_true (by first | (with_reducible assumption) | assumption)
                obtain ⟨ad928, A928_1, c928_1, e928, hx928_0, hx928_1, hl928_1, hi928_1⟩ := at_impl_Committee HR1.out x11_1 p928 q928
                cases e928
                replace hx928_0 := (HB.out.cell (World.block_lt_of_cell? w _ hx928_0)).trans hx928_0
                replace hx928_1 := (HB.out.cell (World.block_lt_of_cell? w _ hx928_1)).trans hx928_1
                have HR928_1 := Aside0.mk hi928_1
                have HC928_1 := Aside0.mk hl928_1
                clear hi928_1 hl928_1
                replace p928 := eq_true p928
                replace q928 := eq_true q928
                try go_wp2_with (first | ((with_reducible refine gate_dst (N := 8) rfl ?_); refine box_event ?hg (N := 8) ?hd (cs := #[.int .i64 0, .slice none 0 0]) (t := 34) ?hr ?_; (case hd => rfl); (case hg => rfl); (case hr => first | (go_simp; done) | (go_simp; rfl)); intro gb929 hg w24 hbox hb; have n0_ := Aside0.mk (blk_below (g := gc1) (o := .cells #[.slice (some ad928) l1.length c1] 25 (0, 0)) (by (with_reducible repeat (first | refine blk_drewN ?_ _ | refine blk_drew ?_ | refine blk_alloc ?_ _)); exact BK1.out) hb); have n1_ := Aside0.mk (blk_below (g := gc2) (o := .cells #[.int .i64 a2_0, .slice A2_1 l2_1.length c2_1] 34 (0, 0)) (by (with_reducible repeat (first | refine blk_drewN ?_ _ | refine blk_drew ?_ | refine blk_alloc ?_ _)); exact BK2.out) hb); have n2_ := Aside0.mk (below_step (by repeat (first | (with_reducible first | exact HB.out | apply below_alloc | apply pw_below_drewN | apply below_drew1 | refine below_set ?_ GE1.out | refine below_set ?_ GE2.out) | exact HB.out)) hb); have n3_ := Aside0.mk (hbox); have n4_ := Aside0.mk ((by rw [hg]; exact (below_size (by repeat (first | (with_reducible first | exact HB.out | apply below_alloc | apply pw_below_drewN | apply below_drew1 | refine below_set ?_ GE1.out | refine below_set ?_ GE2.out) | exact HB.out))) : w.heap.size ≤ gb929)); have n5_ := Aside0.mk ((by rw [hg]; exact (below_size (by repeat (first | (with_reducible first | exact HB.out | apply below_alloc | apply pw_below_drewN | apply below_drew1 | refine below_set ?_ GE1.out | refine below_set ?_ GE2.out) | exact HB.out))) : w.heap.size ≤ gb929)); have n6_ := Aside0.mk ((by rw [hg]; exact Nat.ne_of_lt (blk_lt (g := gc1) (o := .cells #[.slice (some ad928) l1.length c1] 25 (0, 0)) (by (with_reducible repeat (first | refine blk_drewN ?_ _ | refine blk_drew ?_ | refine blk_alloc ?_ _)); exact BK1.out)) : gc1 ≠ gb929)); have n7_ := Aside0.mk ((by rw [hg]; exact Nat.ne_of_gt (blk_lt (g := gc1) (o := .cells #[.slice (some ad928) l1.length c1] 25 (0, 0)) (by (with_reducible repeat (first | refine blk_drewN ?_ _ | refine blk_drew ?_ | refine blk_alloc ?_ _)); exact BK1.out)) : gb929 ≠ gc1)); have n8_ := Aside0.mk ((by rw [hg]; exact Nat.ne_of_lt (blk_lt (g := gc2) (o := .cells #[.int .i64 a2_0, .slice A2_1 l2_1.length c2_1] 34 (0, 0)) (by (with_reducible repeat (first | refine blk_drewN ?_ _ | refine blk_drew ?_ | refine blk_alloc ?_ _)); exact BK2.out)) : gc2 ≠ gb929)); have n9_ := Aside0.mk ((by rw [hg]; exact Nat.ne_of_gt (blk_lt (g := gc2) (o := .cells #[.int .i64 a2_0, .slice A2_1 l2_1.length c2_1] 34 (0, 0)) (by (with_reducible repeat (first | refine blk_drewN ?_ _ | refine blk_drew ?_ | refine blk_alloc ?_ _)); exact BK2.out)) : gb929 ≠ gc2)); clear BK1; clear BK2; clear HB; have BK1 := n0_; have BK2 := n1_; have HB := n2_; have BK929 := n3_; have GW929 := n4_; have GE929 := n5_; have NB1_929 := n6_; have NB929_1 := n7_; have NB2_929 := n8_; have NB929_2 := n9_; clear n0_ n1_ n2_ n3_ n4_ n5_ n6_ n7_ n8_ n9_; clear hb hbox hg; have hnb25 := NB929_1.out; have hnc25 := NB1_929.out; have hnb26 := NB929_2.out; have hnc26 := NB2_929.out; have hcz27_0 : w24.cell? ⟨gb929, 0, none⟩ = some (.int .i64 0) := (blk_cell BK929.out 0).trans rfl; have hcz27_1 : w24.cell? ⟨gb929, 1, none⟩ = some (.slice none 0 0) := (blk_cell BK929.out 1).trans rfl; have hfz27_0 := blk_frozen BK929.out 0; have hfz27_1 := blk_frozen BK929.out 1))
                have n0_ : Aside0 (((w24.setCell ⟨gb929, 0, none⟩ (.int .i64 ((rd_impl_Committee l1 x11_1).f0))).setCell ⟨gb929, 1, none⟩ (.slice A928_1 ((rd_impl_Committee l1 x11_1).f1).length c928_1)).heap[gc1]? = some (.cells #[.slice (some ad928) l1.length c1] 25 (0, 0))) := ⟨by (with_reducible repeat (first | refine blk_drewN ?_ _ | refine blk_drew ?_ | refine blk_alloc ?_ _)); refine blk_far ?_ NB1_929.out _; (with_reducible repeat (first | refine blk_drewN ?_ _ | refine blk_drew ?_ | refine blk_alloc ?_ _)); refine blk_far ?_ NB1_929.out _; (with_reducible repeat (first | refine blk_drewN ?_ _ | refine blk_drew ?_ | refine blk_alloc ?_ _)); exact BK1.out⟩
                have n1_ : Aside0 (((w24.setCell ⟨gb929, 0, none⟩ (.int .i64 ((rd_impl_Committee l1 x11_1).f0))).setCell ⟨gb929, 1, none⟩ (.slice A928_1 ((rd_impl_Committee l1 x11_1).f1).length c928_1)).heap[gc2]? = some (.cells #[.int .i64 a2_0, .slice A2_1 l2_1.length c2_1] 34 (0, 0))) := ⟨by (with_reducible repeat (first | refine blk_drewN ?_ _ | refine blk_drew ?_ | refine blk_alloc ?_ _)); refine blk_far ?_ NB2_929.out _; (with_reducible repeat (first | refine blk_drewN ?_ _ | refine blk_drew ?_ | refine blk_alloc ?_ _)); refine blk_far ?_ NB2_929.out _; (with_reducible repeat (first | refine blk_drewN ?_ _ | refine blk_drew ?_ | refine blk_alloc ?_ _)); exact BK2.out⟩
                have n2_ : Aside0 (((w24.setCell ⟨gb929, 0, none⟩ (.int .i64 ((rd_impl_Committee l1 x11_1).f0))).setCell ⟨gb929, 1, none⟩ (.slice A928_1 ((rd_impl_Committee l1 x11_1).f1).length c928_1)).heap[gb929]? = some (.cells #[.int .i64 ((rd_impl_Committee l1 x11_1).f0), .slice A928_1 ((rd_impl_Committee l1 x11_1).f1).length c928_1] 34 (0, 0))) := ⟨by (with_reducible repeat (first | refine blk_drewN ?_ _ | refine blk_drew ?_ | refine blk_alloc ?_ _)); refine blk_put (cs := #[.int .i64 ((rd_impl_Committee l1 x11_1).f0), .slice none 0 0]) ?_ 1 _ rfl; (with_reducible repeat (first | refine blk_drewN ?_ _ | refine blk_drew ?_ | refine blk_alloc ?_ _)); refine blk_put (cs := #[.int .i64 0, .slice none 0 0]) ?_ 0 _ rfl; (with_reducible repeat (first | refine blk_drewN ?_ _ | refine blk_drew ?_ | refine blk_alloc ?_ _)); exact BK929.out⟩
                have n3_ : Aside0 (Below w.heap.size w ((w24.setCell ⟨gb929, 0, none⟩ (.int .i64 ((rd_impl_Committee l1 x11_1).f0))).setCell ⟨gb929, 1, none⟩ (.slice A928_1 ((rd_impl_Committee l1 x11_1).f1).length c928_1))) := ⟨by repeat (first | (with_reducible first | exact HB.out | apply below_alloc | apply pw_below_drewN | apply below_drew1 | refine below_set ?_ GE1.out | refine below_set ?_ GE2.out | refine below_set ?_ GE929.out) | exact HB.out)⟩
                (try clear BK1)
                (try clear BK2)
                (try clear BK929)
                (try clear HB)
                generalize ((w24.setCell ⟨gb929, 0, none⟩ (.int .i64 ((rd_impl_Committee l1 x11_1).f0))).setCell ⟨gb929, 1, none⟩ (.slice A928_1 ((rd_impl_Committee l1 x11_1).f1).length c928_1)) = w28 at n0_ n1_ n2_ n3_ ⊢
                have BK1 := n0_
                have BK2 := n1_
                have BK929 := n2_
                have HB := n3_
                clear n0_ n1_ n2_ n3_
                have n0_ := Aside0.mk (blk_drew BK1.out)
                have n1_ := Aside0.mk (blk_drew BK2.out)
                have n2_ := Aside0.mk (blk_drew BK929.out)
                have n3_ := Aside0.mk (below_drew1 HB.out)
                clear BK1
                clear BK2
                clear BK929
                clear HB
                have BK1 := n0_
                have BK2 := n1_
                have BK929 := n2_
                have HB := n3_
                clear n0_ n1_ n2_ n3_
                refine start_ (n := 8) (S := fun w' => w'.cell? ⟨gb929, 0, none⟩ = some (.int .i64 ((rd_impl_Committee l1 x11_1).f0)) ∧ w'.cell? ⟨gb929, 1, none⟩ = some (.slice A928_1 ((rd_impl_Committee l1 x11_1).f1).length c928_1)) (ds := []) #[false, false, false, false, false, false, false, false] (by kernel_rfl) rfl rfl ⟨(blk_cell BK929.out 0).trans rfl, (blk_cell BK929.out 1).trans rfl⟩ (fun hHeld => ?_); refine with_tabW impl_councilVotes_1.tab5 impl_councilVotes_1.bits5 (fun HT_ HW_ => ?_)
                generalize w28.drew = w29 at BK1 BK2 BK929 HB hHeld ⊢
                refine pure_ (i := 1) (N := some 17) (v := ?_) (a' := ?_) #[false, true, false, false, false, false, false, false] rfl rfl (any_of HT_.out (by kernel_rfl)) (fun _ _ _ h => h) (Or.inl ⟨by rfl, ?_⟩) ?_ ?_
                rotate_left
                · intro w'
                  go_simp
                  with_reducible rfl
                rotate_left
                · simp only [Act.put, List.setIfInBounds_toArray, List.set_cons_zero, List.set_cons_succ, i64_w, i32_w]
                  rfl
                refine pure_ (i := 2) (N := some 18) (v := ?_) (a' := ?_) #[false, true, true, false, false, false, false, false] rfl rfl (any_of HT_.out (by kernel_rfl)) (fun _ _ _ h => h) (Or.inl ⟨by rfl, ?_⟩) ?_ ?_
                rotate_left
                · intro w'
                  go_simp
                  with_reducible rfl
                rotate_left
                · simp only [Act.put, List.setIfInBounds_toArray, List.set_cons_zero, List.set_cons_succ, i64_w, i32_w]
                  rfl
                refine pure_ (i := 3) (N := some 19) (v := ?_) (a' := ?_) #[false, true, true, true, false, false, false, false] rfl rfl (any_of HT_.out (by kernel_rfl)) (fun _ _ _ h => h) (Or.inl ⟨by rfl, ?_⟩) ?_ ?_
                rotate_left
                · intro w'
                  go_simp
                  with_reducible rfl
                rotate_left
                · simp only [Act.put, List.setIfInBounds_toArray, List.set_cons_zero, List.set_cons_succ, i64_w, i32_w]
                  rfl
                refine pure_ (i := 5) (N := some 21) (v := ?_) (a' := ?_) #[false, true, true, true, false, true, false, false] rfl rfl (any_of HT_.out (by kernel_rfl)) (fun _ _ _ h => h) (Or.inl ⟨by rfl, ?_⟩) ?_ ?_
                rotate_left
                · intro w'
                  go_simp
                  with_reducible rfl
                rotate_left
                · simp only [Act.put, List.setIfInBounds_toArray, List.set_cons_zero, List.set_cons_succ, i64_w, i32_w]
                  rfl
                refine take_ (i := 0) (N := some 16) (v := ?_) (a' := ?_) #[true, true, true, true, false, true, false, false] rfl rfl (take_ofW HT_.out HW_.out (by kernel_rfl)) (fun _ _ _ h => h) (Or.inl ⟨by rfl, ?_⟩) hHeld ?_ ?_
                rotate_left
                · rintro w' ⟨s0, s1⟩
                  go_simp
                  with_reducible rfl
                rotate_left
                · simp only [Act.put, List.setIfInBounds_toArray, List.set_cons_zero, List.set_cons_succ, i64_w, i32_w]
                  rfl
                refine take_ (i := 6) (N := some 22) (v := ?_) (a' := ?_) #[true, true, true, true, false, true, true, false] rfl rfl (take_ofW HT_.out HW_.out (by kernel_rfl)) (fun _ _ _ h => h) (Or.inl ⟨by rfl, ?_⟩) hHeld ?_ ?_
                rotate_left
                · rintro w' ⟨s0, s1⟩
                  go_simp
                  with_reducible rfl
                rotate_left
                · simp only [Act.put, List.setIfInBounds_toArray, List.set_cons_zero, List.set_cons_succ, i64_w, i32_w]
                  rfl
                refine one_ (i := 4) (N := some 20) #[true, true, true, true, true, true, true, false] rfl rfl (one_of HT_.out (by kernel_rfl)) (by decide) (fun K hK => ?_)
                refine goes_ Try.func81 (by kernel_rfl) rfl #[.agg #[.int .i64 ((rd_impl_Committee l1 x11_1).f0), .slice A928_1 ((rd_impl_Committee l1 x11_1).f1).length c928_1], .int .i64 ji10] (by rfl) rfl rfl (by (try simp only [List.map_toArray, List.map_cons, List.map_nil]); first | done | (simp only [hji10]; rfl) | rfl | (simp only [List.length_drop, List.length_take]; rfl)) ?_
                with_reducible refine (impl_Committee_weight.calls k1 ((rd_impl_Committee l1 x11_1).f0) _ _ ((rd_impl_Committee l1 x11_1).f1) ji10 t930 _ ?side1 ?side2 A11.out).mono ?_
                (case side1 => repeat (first | exact (Kd.C_below HR928_1.out HB.out) | (with_reducible refine Kd.C_alloc ?_ _) | (with_reducible refine Kd.C_drewN ?_ _) | (with_reducible refine Kd.C_drew ?_)))
                (case side2 => exact HC928_1.out)
                rintro e w30 ⟨rfl, hb⟩
                refine ⟨_, rfl, ?_⟩
                have n0_ := Aside0.mk (blk_below (g := gc1) (o := .cells #[.slice (some ad928) l1.length c1] 25 (0, 0)) (by (with_reducible repeat (first | refine blk_drewN ?_ _ | refine blk_drew ?_ | refine blk_alloc ?_ _)); exact BK1.out) hb)
                have n1_ := Aside0.mk (blk_below (g := gc2) (o := .cells #[.int .i64 a2_0, .slice A2_1 l2_1.length c2_1] 34 (0, 0)) (by (with_reducible repeat (first | refine blk_drewN ?_ _ | refine blk_drew ?_ | refine blk_alloc ?_ _)); exact BK2.out) hb)
                have n2_ := Aside0.mk (blk_below (g := gb929) (o := .cells #[.int .i64 ((rd_impl_Committee l1 x11_1).f0), .slice A928_1 ((rd_impl_Committee l1 x11_1).f1).length c928_1] 34 (0, 0)) (by (with_reducible repeat (first | refine blk_drewN ?_ _ | refine blk_drew ?_ | refine blk_alloc ?_ _)); exact BK929.out) hb)
                have n3_ := Aside0.mk (below_step (by repeat (first | (with_reducible first | exact HB.out | apply below_alloc | apply pw_below_drewN | apply below_drew1 | refine below_set ?_ GE1.out | refine below_set ?_ GE2.out | refine below_set ?_ GE929.out) | exact HB.out)) hb)
                clear BK1
                clear BK2
                clear BK929
                clear HB
                have BK1 := n0_
                have BK2 := n1_
                have BK929 := n2_
                have HB := n3_
                clear n0_ n1_ n2_ n3_
                (try clear hb)
                (try clear hb2)
                (try clear hk)
                (try clear hi)
                refine hK.out _ _ ⟨(blk_cell BK929.out 0).trans rfl, (blk_cell BK929.out 1).trans rfl⟩ (fun hHeld => ?_)
                clear hK K
                refine norm_ (a' := ?_) ?_ ?_
                rotate_left
                · show Act.put _ (some 20) _ = _
                  simp only [Act.put, List.setIfInBounds_toArray, List.set_cons_zero, List.set_cons_succ, i64_w, i32_w]
                  rfl
                refine pure_ (i := 7) (N := some 23) (v := ?_) (a' := ?_) #[true, true, true, true, true, true, true, true] rfl rfl (any_of HT_.out (by kernel_rfl)) (fun _ _ _ h => h) (Or.inl ⟨by rfl, ?_⟩) ?_ ?_
                rotate_left
                · intro w'
                  go_simp
                  with_reducible rfl
                rotate_left
                · simp only [Act.put, List.setIfInBounds_toArray, List.set_cons_zero, List.set_cons_succ, i64_w, i32_w]
                  rfl
                refine done_ (done_of HT_.out (by kernel_rfl)) ?_
                have hcz31_0 : w30.cell? ⟨gb929, 0, none⟩ = some (.int .i64 ((rd_impl_Committee l1 x11_1).f0)) := (blk_cell BK929.out 0).trans rfl
                have hcz31_1 : w30.cell? ⟨gb929, 1, none⟩ = some (.slice A928_1 ((rd_impl_Committee l1 x11_1).f1).length c928_1) := (blk_cell BK929.out 1).trans rfl
                have hfz31_0 := blk_frozen BK929.out 0
                have hfz31_1 := blk_frozen BK929.out 1
                try go_wp2
                go_roundg k1
                case measure => have := HK1.out; omega
                case rel => exact ⟨(x5_1), (wrap64 (x6_1 + (((rd_impl_Committee l1 x11_1).f1).length : Int))), (wrap64 (x11_1 + 1)), (by first | rfl | (simp; done) | (simp [*]; done)), (by first | rfl | (simp; done) | (simp [*]; done)), (by first | rfl | (simp; done) | (simp [*]; done)), H', ⟨by have := HK1.out; omega⟩, ⟨by (with_reducible repeat (first | refine blk_drewN ?_ _ | refine blk_drew ?_ | refine blk_alloc ?_ _)); exact BK1.out⟩, ⟨by (with_reducible repeat (first | refine blk_drewN ?_ _ | refine blk_drew ?_ | refine blk_alloc ?_ _)); exact BK2.out⟩, ⟨by repeat (first | (with_reducible first | exact HB.out | apply below_alloc | apply pw_below_drewN | apply below_drew1 | refine below_set ?_ GE1.out | refine below_set ?_ GE2.out | refine below_set ?_ GE929.out) | exact HB.out)⟩⟩
            · rw [if_neg c9] at H
              exact absurd H (by simp)
          · rw [if_neg c8] at H
            exact absurd H (by simp)
        · rw [if_neg c7] at H
          exact absurd H (by simp)
      · rw [if_neg c6] at H
        have c6b0 : decide (x11_1 < (l1.length : Int)) = false := decide_eq_false c6
        clear c6
        obtain rfl := Option.some.inj H
        have hnb32 := NB2_1.out
        have hnc32 := NB1_2.out
        have hcz33_0 : wr.cell? ⟨gc2, 0, none⟩ = some (.int .i64 a2_0) := (blk_cell BK2.out 0).trans rfl
        have hcz33_1 : wr.cell? ⟨gc2, 1, none⟩ = some (.slice A2_1 l2_1.length c2_1) := (blk_cell BK2.out 1).trans rfl
        have hfz33_0 := blk_frozen BK2.out 0
        have hfz33_1 := blk_frozen BK2.out 1
        go_wp2
        go_ret
        exact ⟨by first | rfl | (simp [errW_none, errW_some] <;> rfl) | (simp [*, errW_none, errW_some] <;> rfl), by repeat (first | (with_reducible first | exact HB.out | apply below_alloc | apply pw_below_drewN | apply below_drew1 | refine below_set ?_ GE1.out | refine below_set ?_ GE2.out) | exact HB.out)⟩
theorem impl_councilVotes_1.enters : ∀ (args : Array Value) (w : World), (callFunc 106 args).run Try.prog w = .ok (.enter 106 args) w := enters_of Try.func106 (by kernel_rfl) rfl

end Go.Proofs.Ytghooagembinaaa.P

namespace Go.Proofs.Ytghooagembinaaa.P
open Go.RowKit Go.Proofs.YtghooagembinaaaW.PrintWords Go.Proofs.YtghooagembinaaaW.PrintLast Go.Proofs.YtghooagembinaaaW.PrintMore
attribute [local go_sem] max2_int min2_int max_two min_two max_three min_three max_four min_four   -- for this text's walks alone
set_option linter.unusedVariables false
set_option linter.unusedSimpArgs false

/-! ### impl_councilVotes: function 85 -/
def impl_councilVotes.l0 : Nat → Int → List (S_impl_Committee) → Int → Int → Int → List Int → List (S_impl_Committee) → Option (Int × List Bool)
  | 0, _, _, _, _, _, _, _ => none
  | k + 1, x5, x8, x9, x10, x933000, x933001, x934000 => if x10 < x9 then (if 0 ≤ x10 then (if x10 < (x8.length : Int) then (impl_councilVotes.l0 k (wrap64 (x5 + (((rd_impl_Committee x8 x10).f1).length : Int))) x8 x9 (wrap64 (x10 + 1)) x933000 x933001 x934000) else (none)) else (none)) else ((impl_votesOf.f k x5 (fun y0_ => impl_councilVotes_1.f k y0_ x934000 x933000 x933001)).bind fun bt937 => (some (bt937.1, bt937.2)))
def impl_councilVotes.f (k : Nat) (a0_0 : Int) (l0_1 : List Int) (l1 : List (S_impl_Committee)) : Option (Int × List Bool) := impl_councilVotes.l0 k 0 l1 (l1.length : Int) 0 a0_0 l0_1 l1
theorem impl_councilVotes.mono_l : ∀ k, (∀ y0 y1 y2 y3 y4 y5 y6, LeO (impl_councilVotes.l0 k y0 y1 y2 y3 y4 y5 y6) (impl_councilVotes.l0 (k + 1) y0 y1 y2 y3 y4 y5 y6))
  | 0 => fun _ _ _ _ _ _ _ r h => by simp [impl_councilVotes.l0] at h
  | k + 1 => by
    have ih0 := impl_councilVotes.mono_l k
    · intro y0 y1 y2 y3 y4 y5 y6
      unfold impl_councilVotes.l0
      repeat' first
      | (with_reducible exact ih0 _ _ _ _ _ _ _)
      | (with_reducible exact impl_councilVotes_1.mono _ _ _ _ _)
      | (with_reducible exact impl_votesOf.mono _ _ _)
      | (with_reducible exact LeO.refl _)
      | (with_reducible exact LeO.none _)
      | (with_reducible refine LeO.trans (impl_votesOf.mono _ _ _) (impl_votesOf.mono_p (fun _ => ?_) _ _))
      | (with_reducible refine LeO.ite ?_ ?_)
      | (with_reducible refine LeO.bind ?_ (fun _ => ?_))
      | exact ih0 _ _ _ _ _ _ _
      | exact impl_councilVotes_1.mono _ _ _ _ _
      | exact impl_votesOf.mono _ _ _
      | exact LeO.none _
      | refine LeO.ite ?_ ?_
      | refine LeO.bind ?_ (fun _ => ?_)
theorem impl_councilVotes.mono : ∀ a0 a1 a2 k, LeO (impl_councilVotes.f k a0 a1 a2) (impl_councilVotes.f (k + 1) a0 a1 a2) := by
  intro a0 a1 a2 k
  have ih0 := impl_councilVotes.mono_l k
  unfold impl_councilVotes.f
  repeat' first
      | (with_reducible exact ih0 _ _ _ _ _ _ _)
      | (with_reducible exact impl_councilVotes_1.mono _ _ _ _ _)
      | (with_reducible exact impl_votesOf.mono _ _ _)
      | (with_reducible exact LeO.refl _)
      | (with_reducible exact LeO.none _)
      | (with_reducible refine LeO.trans (impl_votesOf.mono _ _ _) (impl_votesOf.mono_p (fun _ => ?_) _ _))
      | (with_reducible refine LeO.ite ?_ ?_)
      | (with_reducible refine LeO.bind ?_ (fun _ => ?_))
      | exact ih0 _ _ _ _ _ _ _
      | exact impl_councilVotes_1.mono _ _ _ _ _
      | exact impl_votesOf.mono _ _ _
      | exact LeO.none _
      | refine LeO.ite ?_ ?_
      | refine LeO.bind ?_ (fun _ => ?_)
set_option maxHeartbeats 8000000 in
set_option maxRecDepth 100000 in
theorem impl_councilVotes.calls (k : Nat) (a0_0 : Int) (A0_1 : Option Addr) (c0_1 : Nat) (l0_1 : List Int) (A1 : Option Addr) (c1 : Nat) (l1 : List (S_impl_Committee)) (r1 : Int) (r2 : List Bool) (w : World) (hr0_1 : Kd.C (Kd.int .i64) w A0_1 l0_1.length l0_1) (hc0_1 : l0_1.length ≤ c0_1) (hr1 : Kd.C k_impl_Committee w A1 l1.length l1) (hc1 : l1.length ≤ c1) (h : impl_councilVotes.f k a0_0 l0_1 l1 = some (r1, r2)) :
    Calls Try.prog 85 #[.agg #[.int .i64 a0_0, .slice A0_1 l0_1.length c0_1], .slice A1 l1.length c1] w fun e w' => ∃ v1_ : Value, e = .returned (.agg #[.int .i64 r1, v1_]) ∧ Kd.R Kd.bool 4 w' w.heap.size (fun _ => True) v1_ r2 ∧ Below w.heap.size w w' := by
  have hmf : ∀ (fn : Fn) (first cap : Array Value) (w : World), (Instr.makeFunc fn first cap).run Try.prog w = .ok (.func fn first cap) w := fun _ _ _ _ => rfl
  have hu34 := Try.underlying34
  have hu71 := Try.underlying71
  have HR0_1 := Aside0.mk hr0_1
  have HC0_1 := Aside0.mk hc0_1
  clear hr0_1 hc0_1
  have HR1 := Aside0.mk hr1
  have HC1 := Aside0.mk hc1
  clear hr1 hc1
  have HB := Aside0.mk (Below.refl w.heap.size w)
  have H : (impl_councilVotes.l0 k 0 l1 (l1.length : Int) 0 a0_0 l0_1 l1) = some (r1, r2) := h
  clear h
  have H' := Aside0.mk H
  clear H
  go_enter Try.func85, Try.ntmps85
  go_wp2_with (first | ((with_reducible refine gate_dst (N := 2) rfl ?_); refine box_event ?hg (N := 2) ?hd (cs := #[.int .i64 a0_0, .slice A0_1 l0_1.length c0_1]) (t := 34) ?hr ?_; (case hd => rfl); (case hg => rfl); (case hr => first | (go_simp; done) | (go_simp; rfl)); intro gb932 hg w3 hbox hb; have n0_ := Aside0.mk (below_step (by repeat (first | (with_reducible first | exact HB.out | apply below_alloc | apply pw_below_drewN | apply below_drew1) | exact HB.out)) hb); have n1_ := Aside0.mk (hbox); have n2_ := Aside0.mk ((by rw [hg]; exact (below_size (by repeat (first | (with_reducible first | exact HB.out | apply below_alloc | apply pw_below_drewN | apply below_drew1) | exact HB.out))) : w.heap.size ≤ gb932)); have n3_ := Aside0.mk ((by rw [hg]; exact (below_size (by repeat (first | (with_reducible first | exact HB.out | apply below_alloc | apply pw_below_drewN | apply below_drew1) | exact HB.out))) : w.heap.size ≤ gb932)); clear HB; have HB := n0_; have BK932 := n1_; have GW932 := n2_; have GE932 := n3_; clear n0_ n1_ n2_ n3_; clear hb hbox hg) | ((with_reducible refine gate_dst (N := 3) rfl ?_); refine box_event ?hg (N := 3) ?hd (cs := #[.slice A1 l1.length c1]) (t := 25) ?hr ?_; (case hd => rfl); (case hg => rfl); (case hr => first | (go_simp; done) | (go_simp; rfl)); intro gb933 hg w4 hbox hb; have n0_ := Aside0.mk (blk_below (g := gb932) (o := .cells #[.int .i64 a0_0, .slice A0_1 l0_1.length c0_1] 34 (0, 0)) (by (with_reducible repeat (first | refine blk_drewN ?_ _ | refine blk_drew ?_ | refine blk_alloc ?_ _)); exact BK932.out) hb); have n1_ := Aside0.mk (below_step (by repeat (first | (with_reducible first | exact HB.out | apply below_alloc | apply pw_below_drewN | apply below_drew1 | refine below_set ?_ GE932.out) | exact HB.out)) hb); have n2_ := Aside0.mk (hbox); have n3_ := Aside0.mk ((by rw [hg]; exact (below_size (by repeat (first | (with_reducible first | exact HB.out | apply below_alloc | apply pw_below_drewN | apply below_drew1 | refine below_set ?_ GE932.out) | exact HB.out))) : w.heap.size ≤ gb933)); have n4_ := Aside0.mk ((by rw [hg]; exact (below_size (by repeat (first | (with_reducible first | exact HB.out | apply below_alloc | apply pw_below_drewN | apply below_drew1 | refine below_set ?_ GE932.out) | exact HB.out))) : w.heap.size ≤ gb933)); have n5_ := Aside0.mk ((by rw [hg]; exact Nat.ne_of_lt (blk_lt (g := gb932) (o := .cells #[.int .i64 a0_0, .slice A0_1 l0_1.length c0_1] 34 (0, 0)) (by (with_reducible repeat (first | refine blk_drewN ?_ _ | refine blk_drew ?_ | refine blk_alloc ?_ _)); exact BK932.out)) : gb932 ≠ gb933)); have n6_ := Aside0.mk ((by rw [hg]; exact Nat.ne_of_gt (blk_lt (g := gb932) (o := .cells #[.int .i64 a0_0, .slice A0_1 l0_1.length c0_1] 34 (0, 0)) (by (with_reducible repeat (first | refine blk_drewN ?_ _ | refine blk_drew ?_ | refine blk_alloc ?_ _)); exact BK932.out)) : gb933 ≠ gb932)); clear BK932; clear HB; have BK932 := n0_; have HB := n1_; have BK933 := n2_; have GW933 := n3_; have GE933 := n4_; have NB932_933 := n5_; have NB933_932 := n6_; clear n0_ n1_ n2_ n3_ n4_ n5_ n6_; clear hb hbox hg) | ((with_reducible refine gate_dst (N := 4) rfl ?_); refine box_event ?hg (N := 4) ?hd (cs := #[.int .i64 0, .slice none 0 0]) (t := 71) ?hr ?_; (case hd => rfl); (case hg => rfl); (case hr => first | (go_simp; done) | (go_simp; rfl)); intro gb934 hg w5 hbox hb; have n0_ := Aside0.mk (blk_below (g := gb932) (o := .cells #[.int .i64 a0_0, .slice A0_1 l0_1.length c0_1] 34 (0, 0)) (by (with_reducible repeat (first | refine blk_drewN ?_ _ | refine blk_drew ?_ | refine blk_alloc ?_ _)); exact BK932.out) hb); have n1_ := Aside0.mk (blk_below (g := gb933) (o := .cells #[.slice A1 l1.length c1] 25 (0, 0)) (by (with_reducible repeat (first | refine blk_drewN ?_ _ | refine blk_drew ?_ | refine blk_alloc ?_ _)); exact BK933.out) hb); have n2_ := Aside0.mk (below_step (by repeat (first | (with_reducible first | exact HB.out | apply below_alloc | apply pw_below_drewN | apply below_drew1 | refine below_set ?_ GE932.out | refine below_set ?_ GE933.out) | exact HB.out)) hb); have n3_ := Aside0.mk (hbox); have n4_ := Aside0.mk ((by rw [hg]; exact (below_size (by repeat (first | (with_reducible first | exact HB.out | apply below_alloc | apply pw_below_drewN | apply below_drew1 | refine below_set ?_ GE932.out | refine below_set ?_ GE933.out) | exact HB.out))) : w.heap.size ≤ gb934)); have n5_ := Aside0.mk ((by rw [hg]; exact (below_size (by repeat (first | (with_reducible first | exact HB.out | apply below_alloc | apply pw_below_drewN | apply below_drew1 | refine below_set ?_ GE932.out | refine below_set ?_ GE933.out) | exact HB.out))) : w.heap.size ≤ gb934)); have n6_ := Aside0.mk ((by rw [hg]; exact Nat.ne_of_lt (blk_lt (g := gb932) (o := .cells #[.int .i64 a0_0, .slice A0_1 l0_1.length c0_1] 34 (0, 0)) (by (with_reducible repeat (first | refine blk_drewN ?_ _ | refine blk_drew ?_ | refine blk_alloc ?_ _)); exact BK932.out)) : gb932 ≠ gb934)); have n7_ := Aside0.mk ((by rw [hg]; exact Nat.ne_of_gt (blk_lt (g := gb932) (o := .cells #[.int .i64 a0_0, .slice A0_1 l0_1.length c0_1] 34 (0, 0)) (by (with_reducible repeat (first | refine blk_drewN ?_ _ | refine blk_drew ?_ | refine blk_alloc ?_ _)); exact BK932.out)) : gb934 ≠ gb932)); have n8_ := Aside0.mk ((by rw [hg]; exact Nat.ne_of_lt (blk_lt (g := gb933) (o := .cells #[.slice A1 l1.length c1] 25 (0, 0)) (by (with_reducible repeat (first | refine blk_drewN ?_ _ | refine blk_drew ?_ | refine blk_alloc ?_ _)); exact BK933.out)) : gb933 ≠ gb934)); have n9_ := Aside0.mk ((by rw [hg]; exact Nat.ne_of_gt (blk_lt (g := gb933) (o := .cells #[.slice A1 l1.length c1] 25 (0, 0)) (by (with_reducible repeat (first | refine blk_drewN ?_ _ | refine blk_drew ?_ | refine blk_alloc ?_ _)); exact BK933.out)) : gb934 ≠ gb933)); clear BK932; clear BK933; clear HB; have BK932 := n0_; have BK933 := n1_; have HB := n2_; have BK934 := n3_; have GW934 := n4_; have GE934 := n5_; have NB932_934 := n6_; have NB934_932 := n7_; have NB933_934 := n8_; have NB934_933 := n9_; clear n0_ n1_ n2_ n3_ n4_ n5_ n6_ n7_ n8_ n9_; clear hb hbox hg; have hnb6 := NB933_932.out; have hnc6 := NB932_933.out; have hnb7 := NB933_934.out; have hnc7 := NB934_933.out; have hcz8_0 : w5.cell? ⟨gb933, 0, none⟩ = some (.slice A1 l1.length c1) := (blk_cell BK933.out 0).trans rfl; have hfz8_0 := blk_frozen BK933.out 0))
  go_loopg [5, 10] k (fun kq v5 v10 w' => ∃ (x5_1 : Int) (x10_1 : Int), v5 = .int .i64 x5_1 ∧ v10 = .int .i64 x10_1 ∧ Aside0 (impl_councilVotes.l0 kq x5_1 l1 (l1.length : Int) x10_1 a0_0 l0_1 l1 = some (r1, r2)) ∧ Aside0 (kq ≤ k) ∧ Aside0 (w'.heap[gb932]? = some (.cells #[.int .i64 a0_0, (.slice A0_1 l0_1.length c0_1)] 34 (0, 0))) ∧ Aside0 (w'.heap[gb933]? = some (.cells #[(.slice A1 l1.length c1)] 25 (0, 0))) ∧ Aside0 (w'.heap[gb934]? = some (.cells #[.int .i64 0, (.slice none 0 0)] 71 (0, 0))) ∧ Aside0 (Below w.heap.size w w'))
  case atStart => exact ⟨(0), (0), (by first | rfl | (simp; done) | (simp [*]; done)), (by first | rfl | (simp; done) | (simp [*]; done)), H', ⟨Nat.le_refl _⟩, ⟨by (with_reducible repeat (first | refine blk_drewN ?_ _ | refine blk_drew ?_ | refine blk_alloc ?_ _)); exact BK932.out⟩, ⟨by (with_reducible repeat (first | refine blk_drewN ?_ _ | refine blk_drew ?_ | refine blk_alloc ?_ _)); exact BK933.out⟩, ⟨by (with_reducible repeat (first | refine blk_drewN ?_ _ | refine blk_drew ?_ | refine blk_alloc ?_ _)); exact BK934.out⟩, ⟨by repeat (first | (with_reducible first | exact HB.out | apply below_alloc | apply pw_below_drewN | apply below_drew1 | refine below_set ?_ GE932.out | refine below_set ?_ GE933.out | refine below_set ?_ GE934.out) | exact HB.out)⟩⟩
  case round =>
    clear H'
    try clear c1
    try clear p2
    try clear c6
    try clear c7
    try clear c8
    try clear hcz8_0
    try clear hfz8_0
    obtain ⟨x5_1, x10_1, rfl, rfl, HA, HK1, BK932, BK933, BK934, HB⟩ := hrel
    cases gk with
    | zero => exact absurd HA.out (by simp [impl_councilVotes.l0])
    | succ k1 =>
      have H := HA.out
      clear HA
      simp only [impl_councilVotes.l0] at H
      by_cases c9 : x10_1 < (l1.length : Int)
      · rw [if_pos c9] at H
        have c9b0 : decide (x10_1 < (l1.length : Int)) = true := decide_eq_true c9
        clear c9
        by_cases c10 : 0 ≤ x10_1
        · rw [if_pos c10] at H
          have c10b0 : decide (0 ≤ x10_1) = true := decide_eq_true c10
          clear c10
          by_cases c11 : x10_1 < (l1.length : Int)
          · rw [if_pos c11] at H
            have c11b0 : decide (x10_1 < (l1.length : Int)) = true := decide_eq_true c11
            clear c11
            have H' := Aside0.mk H
            clear H
            have p935 : 0 ≤ (x10_1 : Int) := of_decide_eq_true (by first | (with_reducible assumption) | assumption)
            have q935 : x10_1 < (l1.length : Int) := of_decide_eq_true (by first | (with_reducible assumption) | assumption)
            obtain ⟨ad935, A935_1, c935_1, e935, hx935_0, hx935_1, hl935_1, hi935_1⟩ := at_impl_Committee HR1.out x10_1 p935 q935
            cases e935
            replace hx935_0 := (HB.out.cell (World.block_lt_of_cell? w _ hx935_0)).trans hx935_0
            replace hx935_1 := (HB.out.cell (World.block_lt_of_cell? w _ hx935_1)).trans hx935_1
            have HR935_1 := Aside0.mk hi935_1
            have HC935_1 := Aside0.mk hl935_1
            clear hi935_1 hl935_1
            replace p935 := eq_true p935
            replace q935 := eq_true q935
            go_wp2_with (first | ((with_reducible refine gate_dst (N := 7) rfl ?_); refine box_event ?hg (N := 7) ?hd (cs := #[.int .i64 0, .slice none 0 0]) (t := 34) ?hr ?_; (case hd => rfl); (case hg => rfl); (case hr => first | (go_simp; done) | (go_simp; rfl)); intro gb936 hg w12 hbox hb; have n0_ := Aside0.mk (blk_below (g := gb932) (o := .cells #[.int .i64 a0_0, .slice A0_1 l0_1.length c0_1] 34 (0, 0)) (by (with_reducible repeat (first | refine blk_drewN ?_ _ | refine blk_drew ?_ | refine blk_alloc ?_ _)); exact BK932.out) hb); have n1_ := Aside0.mk (blk_below (g := gb933) (o := .cells #[.slice (some ad935) l1.length c1] 25 (0, 0)) (by (with_reducible repeat (first | refine blk_drewN ?_ _ | refine blk_drew ?_ | refine blk_alloc ?_ _)); exact BK933.out) hb); have n2_ := Aside0.mk (blk_below (g := gb934) (o := .cells #[.int .i64 0, .slice none 0 0] 71 (0, 0)) (by (with_reducible repeat (first | refine blk_drewN ?_ _ | refine blk_drew ?_ | refine blk_alloc ?_ _)); exact BK934.out) hb); have n3_ := Aside0.mk (below_step (by repeat (first | (with_reducible first | exact HB.out | apply below_alloc | apply pw_below_drewN | apply below_drew1 | refine below_set ?_ GE932.out | refine below_set ?_ GE933.out | refine below_set ?_ GE934.out) | exact HB.out)) hb); have n4_ := Aside0.mk (hbox); have n5_ := Aside0.mk ((by rw [hg]; exact (below_size (by repeat (first | (with_reducible first | exact HB.out | apply below_alloc | apply pw_below_drewN | apply below_drew1 | refine below_set ?_ GE932.out | refine below_set ?_ GE933.out | refine below_set ?_ GE934.out) | exact HB.out))) : w.heap.size ≤ gb936)); have n6_ := Aside0.mk ((by rw [hg]; exact (below_size (by repeat (first | (with_reducible first | exact HB.out | apply below_alloc | apply pw_below_drewN | apply below_drew1 | refine below_set ?_ GE932.out | refine below_set ?_ GE933.out | refine below_set ?_ GE934.out) | exact HB.out))) : w.heap.size ≤ gb936)); have n7_ := Aside0.mk ((by rw [hg]; exact Nat.ne_of_lt (blk_lt (g := gb932) (o := .cells #[.int .i64 a0_0, .slice A0_1 l0_1.length c0_1] 34 (0, 0)) (by (with_reducible repeat (first | refine blk_drewN ?_ _ | refine blk_drew ?_ | refine blk_alloc ?_ _)); exact BK932.out)) : gb932 ≠ gb936)); have n8_ := Aside0.mk ((by rw [hg]; exact Nat.ne_of_gt (blk_lt (g := gb932) (o := .cells #[.int .i64 a0_0, .slice A0_1 l0_1.length c0_1] 34 (0, 0)) (by (with_reducible repeat (first | refine blk_drewN ?_ _ | refine blk_drew ?_ | refine blk_alloc ?_ _)); exact BK932.out)) : gb936 ≠ gb932)); have n9_ := Aside0.mk ((by rw [hg]; exact Nat.ne_of_lt (blk_lt (g := gb933) (o := .cells #[.slice (some ad935) l1.length c1] 25 (0, 0)) (by (with_reducible repeat (first | refine blk_drewN ?_ _ | refine blk_drew ?_ | refine blk_alloc ?_ _)); exact BK933.out)) : gb933 ≠ gb936)); have n10_ := Aside0.mk ((by rw [hg]; exact Nat.ne_of_gt (blk_lt (g := gb933) (o := .cells #[.slice (some ad935) l1.length c1] 25 (0, 0)) (by (with_reducible repeat (first | refine blk_drewN ?_ _ | refine blk_drew ?_ | refine blk_alloc ?_ _)); exact BK933.out)) : gb936 ≠ gb933)); have n11_ := Aside0.mk ((by rw [hg]; exact Nat.ne_of_lt (blk_lt (g := gb934) (o := .cells #[.int .i64 0, .slice none 0 0] 71 (0, 0)) (by (with_reducible repeat (first | refine blk_drewN ?_ _ | refine blk_drew ?_ | refine blk_alloc ?_ _)); exact BK934.out)) : gb934 ≠ gb936)); have n12_ := Aside0.mk ((by rw [hg]; exact Nat.ne_of_gt (blk_lt (g := gb934) (o := .cells #[.int .i64 0, .slice none 0 0] 71 (0, 0)) (by (with_reducible repeat (first | refine blk_drewN ?_ _ | refine blk_drew ?_ | refine blk_alloc ?_ _)); exact BK934.out)) : gb936 ≠ gb934)); clear BK932; clear BK933; clear BK934; clear HB; have BK932 := n0_; have BK933 := n1_; have BK934 := n2_; have HB := n3_; have BK936 := n4_; have GW936 := n5_; have GE936 := n6_; have NB932_936 := n7_; have NB936_932 := n8_; have NB933_936 := n9_; have NB936_933 := n10_; have NB934_936 := n11_; have NB936_934 := n12_; clear n0_ n1_ n2_ n3_ n4_ n5_ n6_ n7_ n8_ n9_ n10_ n11_ n12_; clear hb hbox hg; have hnb13 := NB936_932.out; have hnc13 := NB932_936.out; have hnb14 := NB936_933.out; have hnc14 := NB933_936.out; have hnb15 := NB936_934.out; have hnc15 := NB934_936.out; have hcz16_0 : w12.cell? ⟨gb936, 0, none⟩ = some (.int .i64 0) := (blk_cell BK936.out 0).trans rfl; have hcz16_1 : w12.cell? ⟨gb936, 1, none⟩ = some (.slice none 0 0) := (blk_cell BK936.out 1).trans rfl; have hfz16_0 := blk_frozen BK936.out 0; have hfz16_1 := blk_frozen BK936.out 1))
            go_roundg k1
            case measure => have := HK1.out; omega
            case rel => exact ⟨(wrap64 (x5_1 + (((rd_impl_Committee l1 x10_1).f1).length : Int))), (wrap64 (x10_1 + 1)), (by first | rfl | (simp; done) | (simp [*]; done)), (by first | rfl | (simp; done) | (simp [*]; done)), H', ⟨by have := HK1.out; omega⟩, ⟨by (with_reducible repeat (first | refine blk_drewN ?_ _ | refine blk_drew ?_ | refine blk_alloc ?_ _)); refine blk_far ?_ NB932_936.out _; (with_reducible repeat (first | refine blk_drewN ?_ _ | refine blk_drew ?_ | refine blk_alloc ?_ _)); refine blk_far ?_ NB932_936.out _; (with_reducible repeat (first | refine blk_drewN ?_ _ | refine blk_drew ?_ | refine blk_alloc ?_ _)); exact BK932.out⟩, ⟨by (with_reducible repeat (first | refine blk_drewN ?_ _ | refine blk_drew ?_ | refine blk_alloc ?_ _)); refine blk_far ?_ NB933_936.out _; (with_reducible repeat (first | refine blk_drewN ?_ _ | refine blk_drew ?_ | refine blk_alloc ?_ _)); refine blk_far ?_ NB933_936.out _; (with_reducible repeat (first | refine blk_drewN ?_ _ | refine blk_drew ?_ | refine blk_alloc ?_ _)); exact BK933.out⟩, ⟨by (with_reducible repeat (first | refine blk_drewN ?_ _ | refine blk_drew ?_ | refine blk_alloc ?_ _)); refine blk_far ?_ NB934_936.out _; (with_reducible repeat (first | refine blk_drewN ?_ _ | refine blk_drew ?_ | refine blk_alloc ?_ _)); refine blk_far ?_ NB934_936.out _; (with_reducible repeat (first | refine blk_drewN ?_ _ | refine blk_drew ?_ | refine blk_alloc ?_ _)); exact BK934.out⟩, ⟨by repeat (first | (with_reducible first | exact HB.out | apply below_alloc | apply pw_below_drewN | apply below_drew1 | refine below_set ?_ GE932.out | refine below_set ?_ GE933.out | refine below_set ?_ GE934.out | refine below_set ?_ GE936.out) | exact HB.out)⟩⟩
          · rw [if_neg c11] at H
            exact absurd H (by simp)
        · rw [if_neg c10] at H
          exact absurd H (by simp)
      · rw [if_neg c9] at H
        have c9b0 : decide (x10_1 < (l1.length : Int)) = false := decide_eq_false c9
        clear c9
        replace H := Option.bind_eq_some_iff.mp H
        obtain ⟨⟨t937, t938⟩, A170, H⟩ := H
        replace H : (some (t937, t938)) = some (r1, r2) := H
        have A17 := Aside0.mk A170
        clear A170
        simp only [Option.some.injEq, Prod.mk.injEq] at H
        obtain ⟨rfl, rfl⟩ := H
        go_wp2_with (first | ((with_reducible refine gate_callee (f := 93) rfl ?_); refine goesL_ (some 22) rfl rfl Try.func93 (by kernel_rfl) rfl #[.int .i64 x5_1, .func (.func 106) #[] #[.pointer (some ⟨gb933, 0, none⟩), .pointer (some ⟨gb932, 0, none⟩)]] rfl (by (try simp only [List.map_toArray, List.map_cons, List.map_nil]); first | done | rfl | (simp only [List.length_drop, List.length_take]; rfl)) ?_; (with_reducible refine (impl_votesOf.calls k1 x5_1 (fun y0_ => impl_councilVotes_1.f k1 y0_ l1 a0_0 l0_1) 106 #[.pointer (some ⟨gb933, 0, none⟩), .pointer (some ⟨gb932, 0, none⟩)] impl_councilVotes_1.enters t937 t938 _ ?side1 A17.out).mono ?_); (case side1 => exact (fun W_ a0_ r0_ hx_ hb_  => (impl_councilVotes_1.calls k1 a0_ gb933 _ _ l1 gb932 a0_0 _ _ l0_1 r0_ W_  (Kd.C_below (by repeat (first | exact (Kd.C_below HR1.out HB.out) | (with_reducible refine Kd.C_alloc ?_ _) | (with_reducible refine Kd.C_drewN ?_ _) | (with_reducible refine Kd.C_drew ?_))) hb_) (by exact HC1.out) (Kd.C_below (by repeat (first | exact (Kd.C_below HR0_1.out HB.out) | (with_reducible refine Kd.C_alloc ?_ _) | (with_reducible refine Kd.C_drewN ?_ _) | (with_reducible refine Kd.C_drew ?_))) hb_) (by exact HC0_1.out) (box_later (by (with_reducible repeat (first | refine blk_drewN ?_ _ | refine blk_drew ?_ | refine blk_alloc ?_ _)); exact BK933.out) hb_) (box_later (by (with_reducible repeat (first | refine blk_drewN ?_ _ | refine blk_drew ?_ | refine blk_alloc ?_ _)); exact BK932.out) hb_) NB933_932.out hx_).mono (fun _ _ h_ => h_))); rintro e w18 ⟨v939, rfl, ho0, hb⟩; refine ⟨_, rfl, ?_⟩; have n0_ := Aside0.mk (Kd.R_lower ho0 (below_size (by repeat (first | (with_reducible first | exact HB.out | apply below_alloc | apply pw_below_drewN | apply below_drew1 | refine below_set ?_ GE932.out | refine below_set ?_ GE933.out | refine below_set ?_ GE934.out) | exact HB.out)))); have n1_ := Aside0.mk (blk_below (g := gb932) (o := .cells #[.int .i64 a0_0, .slice A0_1 l0_1.length c0_1] 34 (0, 0)) (by (with_reducible repeat (first | refine blk_drewN ?_ _ | refine blk_drew ?_ | refine blk_alloc ?_ _)); exact BK932.out) hb); have n2_ := Aside0.mk (blk_below (g := gb933) (o := .cells #[.slice A1 l1.length c1] 25 (0, 0)) (by (with_reducible repeat (first | refine blk_drewN ?_ _ | refine blk_drew ?_ | refine blk_alloc ?_ _)); exact BK933.out) hb); have n3_ := Aside0.mk (blk_below (g := gb934) (o := .cells #[.int .i64 0, .slice none 0 0] 71 (0, 0)) (by (with_reducible repeat (first | refine blk_drewN ?_ _ | refine blk_drew ?_ | refine blk_alloc ?_ _)); exact BK934.out) hb); have n4_ := Aside0.mk (below_step (by repeat (first | (with_reducible first | exact HB.out | apply below_alloc | apply pw_below_drewN | apply below_drew1 | refine below_set ?_ GE932.out | refine below_set ?_ GE933.out | refine below_set ?_ GE934.out) | exact HB.out)) hb); clear BK932; clear BK933; clear BK934; clear HB; have HO940 := n0_; have BK932 := n1_; have BK933 := n2_; have BK934 := n3_; have HB := n4_; clear n0_ n1_ n2_ n3_ n4_; (try clear hb); (try clear hb2); (try clear hk); (try clear hi); (try clear ho0); have hnb19 := NB934_932.out; have hnc19 := NB932_934.out; have hnb20 := NB934_933.out; have hnc20 := NB933_934.out; have hcz21_0 : w18.cell? ⟨gb934, 0, none⟩ = some (.int .i64 0) := (blk_cell BK934.out 0).trans rfl; have hcz21_1 : w18.cell? ⟨gb934, 1, none⟩ = some (.slice none 0 0) := (blk_cell BK934.out 1).trans rfl; have hfz21_0 := blk_frozen BK934.out 0; have hfz21_1 := blk_frozen BK934.out 1; obtain ⟨Ao22, co22, eo22⟩ := Kd.R_slice HO940.out; subst eo22))
        refine bodyPost_ret (results_cell_row rfl _ _ gb934 71 #[.int .i64 t937, .slice Ao22 t938.length co22] (0, 0) _ rfl (by (with_reducible repeat (first | refine blk_drewN ?_ _ | refine blk_drew ?_ | refine blk_alloc ?_ _)); refine blk_put (cs := #[.int .i64 t937, .slice none 0 0]) ?_ 1 _ rfl; (with_reducible repeat (first | refine blk_drewN ?_ _ | refine blk_drew ?_ | refine blk_alloc ?_ _)); refine blk_put (cs := #[.int .i64 0, .slice none 0 0]) ?_ 0 _ rfl; (with_reducible repeat (first | refine blk_drewN ?_ _ | refine blk_drew ?_ | refine blk_alloc ?_ _)); exact BK934.out) Try.underlying71 rfl (by kernel_rfl)) rfl ?_
        exact ⟨_, by first | rfl | (simp [errW_none, errW_some] <;> rfl) | (simp [*, errW_none, errW_some] <;> rfl), by (with_reducible repeat (first | apply Kd.R_alloc | apply Kd.R_drewN | apply Kd.R_drew)); exact Kd.R_mono (Kd.R_far (p := ⟨gb934, 1, none⟩) (Kd.R_far (p := ⟨gb934, 0, none⟩) (Kd.R_types HO940.out BK934.out (by decide)) (fun _ hk => hk.2) (.int .i64 t937)) (fun _ hk => hk.2) (.slice Ao22 t938.length co22)) (fun _ hk => trivial), by repeat (first | (with_reducible first | exact HB.out | apply below_alloc | apply pw_below_drewN | apply below_drew1 | refine below_set ?_ GE932.out | refine below_set ?_ GE933.out | refine below_set ?_ GE934.out) | exact HB.out)⟩

end Go.Proofs.Ytghooagembinaaa.P

namespace Go.Proofs.Ytghooagembinaaa.P
open Go.RowKit Go.Proofs.YtghooagembinaaaW.PrintWords Go.Proofs.YtghooagembinaaaW.PrintLast Go.Proofs.YtghooagembinaaaW.PrintMore
attribute [local go_sem] max2_int min2_int max_two min_two max_three min_three max_four min_four   -- for this text's walks alone
set_option linter.unusedVariables false
set_option linter.unusedSimpArgs false

/-! ### impl_CountCouncilWins: function 47 -/
def impl_CountCouncilWins.f (k : Nat) (a0_0 : Int) (l0_1 : List Int) (l1 : List (S_impl_Committee)) : Option (Int × Bool) := (impl_AreCouncil.f k a0_0 l0_1 l1).bind fun t942 => (if t942 = true then ((impl_councilVotes.f k a0_0 l0_1 l1).bind fun bt943 => ((impl_votes_countWins.f k bt943.1 bt943.2).bind fun t947 => (some (t947, true)))) else (some (0, false)))
theorem impl_CountCouncilWins.mono : ∀ a0 a1 a2 k, LeO (impl_CountCouncilWins.f k a0 a1 a2) (impl_CountCouncilWins.f (k + 1) a0 a1 a2) := by
  intro a0 a1 a2 k
  unfold impl_CountCouncilWins.f
  repeat' first
      | (with_reducible exact impl_AreCouncil.mono _ _ _ _)
      | (with_reducible exact impl_councilVotes.mono _ _ _ _)
      | (with_reducible exact impl_votes_countWins.mono _ _ _)
      | (with_reducible exact LeO.refl _)
      | (with_reducible exact LeO.none _)
      | (with_reducible refine LeO.ite ?_ ?_)
      | (with_reducible refine LeO.bind ?_ (fun _ => ?_))
      | exact impl_AreCouncil.mono _ _ _ _
      | exact impl_councilVotes.mono _ _ _ _
      | exact impl_votes_countWins.mono _ _ _
      | exact LeO.none _
      | refine LeO.ite ?_ ?_
      | refine LeO.bind ?_ (fun _ => ?_)
set_option maxHeartbeats 8000000 in
set_option maxRecDepth 100000 in
theorem impl_CountCouncilWins.calls (k : Nat) (a0_0 : Int) (A0_1 : Option Addr) (c0_1 : Nat) (l0_1 : List Int) (A1 : Option Addr) (c1 : Nat) (l1 : List (S_impl_Committee)) (r1 : Int) (r2 : Bool) (w : World) (hr0_1 : Kd.C (Kd.int .i64) w A0_1 l0_1.length l0_1) (hc0_1 : l0_1.length ≤ c0_1) (hr1 : Kd.C k_impl_Committee w A1 l1.length l1) (hc1 : l1.length ≤ c1) (h : impl_CountCouncilWins.f k a0_0 l0_1 l1 = some (r1, r2)) :
    Calls Try.prog 47 #[.agg #[.int .i64 a0_0, .slice A0_1 l0_1.length c0_1], .slice A1 l1.length c1] w fun e w' => e = .returned (.tuple #[.int .i64 r1, .bool r2]) ∧ Below w.heap.size w w' := by
  have hu34 := Try.underlying34
  have HR0_1 := Aside0.mk hr0_1
  have HC0_1 := Aside0.mk hc0_1
  clear hr0_1 hc0_1
  have HR1 := Aside0.mk hr1
  have HC1 := Aside0.mk hc1
  clear hr1 hc1
  have HB := Aside0.mk (Below.refl w.heap.size w)
  have H : ((impl_AreCouncil.f k a0_0 l0_1 l1).bind fun t942 => (if t942 = true then ((impl_councilVotes.f k a0_0 l0_1 l1).bind fun bt943 => ((impl_votes_countWins.f k bt943.1 bt943.2).bind fun t947 => (some (t947, true)))) else (some (0, false)))) = some (r1, r2) := h
  clear h
  replace H := Option.bind_eq_some_iff.mp H
  obtain ⟨t942, A30, H⟩ := H
  replace H : (if t942 = true then ((impl_councilVotes.f k a0_0 l0_1 l1).bind fun bt943 => ((impl_votes_countWins.f k bt943.1 bt943.2).bind fun t947 => (some (t947, true)))) else (some (0, false))) = some (r1, r2) := H
  have A3 := Aside0.mk A30
  clear A30
  by_cases c4 : t942 = true
  · subst c4
    have H1 : ((impl_councilVotes.f k a0_0 l0_1 l1).bind fun bt943 => ((impl_votes_countWins.f k bt943.1 bt943.2).bind fun t947 => (some (t947, true)))) = some (r1, r2) := by rw [if_pos rfl] at H; exact H
    clear H
    have H := H1
    clear H1
    replace H := Option.bind_eq_some_iff.mp H
    obtain ⟨⟨t943, t944⟩, A50, H⟩ := H
    replace H : ((impl_votes_countWins.f k t943 t944).bind fun t947 => (some (t947, true))) = some (r1, r2) := H
    have A5 := Aside0.mk A50
    clear A50
    replace H := Option.bind_eq_some_iff.mp H
    obtain ⟨t947, A60, H⟩ := H
    replace H : (some (t947, true)) = some (r1, r2) := H
    have A6 := Aside0.mk A60
    clear A60
    simp only [Option.some.injEq, Prod.mk.injEq] at H
    obtain ⟨rfl, rfl⟩ := H
    go_enter Try.func47, Try.ntmps47
    go_wp2_with (first | ((with_reducible refine gate_dst (N := 2) rfl ?_); refine box_event ?hg (N := 2) ?hd (cs := #[.int .i64 a0_0, .slice A0_1 l0_1.length c0_1]) (t := 34) ?hr ?_; (case hd => rfl); (case hg => rfl); (case hr => first | (go_simp; done) | (go_simp; rfl)); intro gb941 hg w7 hbox hb; have n0_ := Aside0.mk (below_step (by repeat (first | (with_reducible first | exact HB.out | apply below_alloc | apply pw_below_drewN | apply below_drew1) | exact HB.out)) hb); have n1_ := Aside0.mk (hbox); have n2_ := Aside0.mk ((by rw [hg]; exact (below_size (by repeat (first | (with_reducible first | exact HB.out | apply below_alloc | apply pw_below_drewN | apply below_drew1) | exact HB.out))) : w.heap.size ≤ gb941)); have n3_ := Aside0.mk ((by rw [hg]; exact (below_size (by repeat (first | (with_reducible first | exact HB.out | apply below_alloc | apply pw_below_drewN | apply below_drew1) | exact HB.out))) : w.heap.size ≤ gb941)); clear HB; have HB := n0_; have BK941 := n1_; have GW941 := n2_; have GE941 := n3_; clear n0_ n1_ n2_ n3_; clear hb hbox hg; have hcz8_0 : w7.cell? ⟨gb941, 0, none⟩ = some (.int .i64 a0_0) := (blk_cell BK941.out 0).trans rfl; have hcz8_1 : w7.cell? ⟨gb941, 1, none⟩ = some (.slice A0_1 l0_1.length c0_1) := (blk_cell BK941.out 1).trans rfl; have hfz8_0 := blk_frozen BK941.out 0; have hfz8_1 := blk_frozen BK941.out 1) | ((with_reducible refine gate_callee (f := 22) rfl ?_); refine goesL_ (some 8) rfl rfl Try.func22 (by kernel_rfl) rfl #[.agg #[.int .i64 a0_0, .slice A0_1 l0_1.length c0_1], .slice A1 l1.length c1] rfl (by (try simp only [List.map_toArray, List.map_cons, List.map_nil]); first | done | rfl | (simp only [List.length_drop, List.length_take]; rfl)) ?_; (with_reducible refine (impl_AreCouncil.calls k a0_0 _ _ l0_1 _ _ l1 true _ ?side1 ?side2 ?side3 ?side4 A3.out).mono ?_); (case side1 => repeat (first | exact (Kd.C_below HR0_1.out HB.out) | (with_reducible refine Kd.C_alloc ?_ _) | (with_reducible refine Kd.C_drewN ?_ _) | (with_reducible refine Kd.C_drew ?_))); (case side2 => exact HC0_1.out); (case side3 => repeat (first | exact (Kd.C_below HR1.out HB.out) | (with_reducible refine Kd.C_alloc ?_ _) | (with_reducible refine Kd.C_drewN ?_ _) | (with_reducible refine Kd.C_drew ?_))); (case side4 => exact HC1.out); rintro e w9 ⟨rfl, hb⟩; refine ⟨_, rfl, ?_⟩; have n0_ := Aside0.mk (blk_below (g := gb941) (o := .cells #[.int .i64 a0_0, .slice A0_1 l0_1.length c0_1] 34 (0, 0)) (by (with_reducible repeat (first | refine blk_drewN ?_ _ | refine blk_drew ?_ | refine blk_alloc ?_ _)); exact BK941.out) hb); have n1_ := Aside0.mk (below_step (by repeat (first | (with_reducible first | exact HB.out | apply below_alloc | apply pw_below_drewN | apply below_drew1 | refine below_set ?_ GE941.out) | exact HB.out)) hb); clear BK941; clear HB; have BK941 := n0_; have HB := n1_; clear n0_ n1_; (try clear hb); (try clear hb2); (try clear hk); (try clear hi); have hcz10_0 : w9.cell? ⟨gb941, 0, none⟩ = some (.int .i64 a0_0) := (blk_cell BK941.out 0).trans rfl; have hcz10_1 : w9.cell? ⟨gb941, 1, none⟩ = some (.slice A0_1 l0_1.length c0_1) := (blk_cell BK941.out 1).trans rfl; have hfz10_0 := blk_frozen BK941.out 0; have hfz10_1 := blk_frozen BK941.out 1) | ((with_reducible refine gate_callee (f := 85) rfl ?_); refine goesL_ (some 12) rfl rfl Try.func85 (by kernel_rfl) rfl #[.agg #[.int .i64 a0_0, .slice A0_1 l0_1.length c0_1], .slice A1 l1.length c1] rfl (by (try simp only [List.map_toArray, List.map_cons, List.map_nil]); first | done | rfl | (simp only [List.length_drop, List.length_take]; rfl)) ?_; (with_reducible refine (impl_councilVotes.calls k a0_0 _ _ l0_1 _ _ l1 t943 t944 _ ?side1 ?side2 ?side3 ?side4 A5.out).mono ?_); (case side1 => repeat (first | exact (Kd.C_below HR0_1.out HB.out) | (with_reducible refine Kd.C_alloc ?_ _) | (with_reducible refine Kd.C_drewN ?_ _) | (with_reducible refine Kd.C_drew ?_))); (case side2 => exact HC0_1.out); (case side3 => repeat (first | exact (Kd.C_below HR1.out HB.out) | (with_reducible refine Kd.C_alloc ?_ _) | (with_reducible refine Kd.C_drewN ?_ _) | (with_reducible refine Kd.C_drew ?_))); (case side4 => exact HC1.out); rintro e w11 ⟨v945, rfl, ho0, hb⟩; refine ⟨_, rfl, ?_⟩; have n0_ := Aside0.mk (Kd.R_lower ho0 (below_size (by repeat (first | (with_reducible first | exact HB.out | apply below_alloc | apply pw_below_drewN | apply below_drew1 | refine below_set ?_ GE941.out) | exact HB.out)))); have n1_ := Aside0.mk (blk_below (g := gb941) (o := .cells #[.int .i64 a0_0, .slice A0_1 l0_1.length c0_1] 34 (0, 0)) (by (with_reducible repeat (first | refine blk_drewN ?_ _ | refine blk_drew ?_ | refine blk_alloc ?_ _)); exact BK941.out) hb); have n2_ := Aside0.mk (below_step (by repeat (first | (with_reducible first | exact HB.out | apply below_alloc | apply pw_below_drewN | apply below_drew1 | refine below_set ?_ GE941.out) | exact HB.out)) hb); clear BK941; clear HB; have HO946 := n0_; have BK941 := n1_; have HB := n2_; clear n0_ n1_ n2_; (try clear hb); (try clear hb2); (try clear hk); (try clear hi); (try clear ho0); obtain ⟨Ao12, co12, eo12⟩ := Kd.R_slice HO946.out; subst eo12) | ((with_reducible refine gate_callee (f := 71) rfl ?_); refine goesL_ (some 13) rfl rfl Try.func71 (by kernel_rfl) rfl #[.agg #[.int .i64 t943, .slice Ao12 t944.length co12]] rfl (by (try simp only [List.map_toArray, List.map_cons, List.map_nil]); first | done | rfl | (simp only [List.length_drop, List.length_take]; rfl)) ?_; (with_reducible refine (impl_votes_countWins.calls k t943 _ _ t944 t947 _ ?side1 ?side2 A6.out).mono ?_); (case side1 => repeat (first | exact (Kd.R_reads' HO946.out).2.2 | (with_reducible refine Kd.C_alloc ?_ _) | (with_reducible refine Kd.C_drewN ?_ _) | (with_reducible refine Kd.C_drew ?_))); (case side2 => exact (Kd.R_reads' HO946.out).2.1); rintro e w13 ⟨rfl, hb⟩; refine ⟨_, rfl, ?_⟩; have n0_ := Aside0.mk (Kd.R_below (by (with_reducible repeat (first | apply Kd.R_alloc | apply Kd.R_drewN | apply Kd.R_drew)); exact HO946.out) hb); have n1_ := Aside0.mk (blk_below (g := gb941) (o := .cells #[.int .i64 a0_0, .slice A0_1 l0_1.length c0_1] 34 (0, 0)) (by (with_reducible repeat (first | refine blk_drewN ?_ _ | refine blk_drew ?_ | refine blk_alloc ?_ _)); exact BK941.out) hb); have n2_ := Aside0.mk (below_step (by repeat (first | (with_reducible first | exact HB.out | apply below_alloc | apply pw_below_drewN | apply below_drew1 | refine below_set ?_ GE941.out) | exact HB.out)) hb); clear HO946; clear BK941; clear HB; have HO946 := n0_; have BK941 := n1_; have HB := n2_; clear n0_ n1_ n2_; (try clear hb); (try clear hb2); (try clear hk); (try clear hi)))
    go_ret2
    exact ⟨by first | rfl | (simp [errW_none, errW_some] <;> rfl) | (simp [*, errW_none, errW_some] <;> rfl), by repeat (first | (with_reducible first | exact HB.out | apply below_alloc | apply pw_below_drewN | apply below_drew1 | refine below_set ?_ GE941.out) | exact HB.out)⟩
  · replace c4 := Bool.eq_false_iff.mpr c4
    subst c4
    have H1 : (some (0, false)) = some (r1, r2) := by rw [if_neg (show ¬ (false = true) by decide)] at H; exact H
    clear H
    have H := H1
    clear H1
    simp only [Option.some.injEq, Prod.mk.injEq] at H
    obtain ⟨rfl, rfl⟩ := H
    go_enter Try.func47, Try.ntmps47
    go_wp2_with (first | ((with_reducible refine gate_dst (N := 2) rfl ?_); refine box_event ?hg (N := 2) ?hd (cs := #[.int .i64 a0_0, .slice A0_1 l0_1.length c0_1]) (t := 34) ?hr ?_; (case hd => rfl); (case hg => rfl); (case hr => first | (go_simp; done) | (go_simp; rfl)); intro gb941 hg w14 hbox hb; have n0_ := Aside0.mk (below_step (by repeat (first | (with_reducible first | exact HB.out | apply below_alloc | apply pw_below_drewN | apply below_drew1) | exact HB.out)) hb); have n1_ := Aside0.mk (hbox); have n2_ := Aside0.mk ((by rw [hg]; exact (below_size (by repeat (first | (with_reducible first | exact HB.out | apply below_alloc | apply pw_below_drewN | apply below_drew1) | exact HB.out))) : w.heap.size ≤ gb941)); have n3_ := Aside0.mk ((by rw [hg]; exact (below_size (by repeat (first | (with_reducible first | exact HB.out | apply below_alloc | apply pw_below_drewN | apply below_drew1) | exact HB.out))) : w.heap.size ≤ gb941)); clear HB; have HB := n0_; have BK941 := n1_; have GW941 := n2_; have GE941 := n3_; clear n0_ n1_ n2_ n3_; clear hb hbox hg; have hcz15_0 : w14.cell? ⟨gb941, 0, none⟩ = some (.int .i64 a0_0) := (blk_cell BK941.out 0).trans rfl; have hcz15_1 : w14.cell? ⟨gb941, 1, none⟩ = some (.slice A0_1 l0_1.length c0_1) := (blk_cell BK941.out 1).trans rfl; have hfz15_0 := blk_frozen BK941.out 0; have hfz15_1 := blk_frozen BK941.out 1) | ((with_reducible refine gate_callee (f := 22) rfl ?_); refine goesL_ (some 8) rfl rfl Try.func22 (by kernel_rfl) rfl #[.agg #[.int .i64 a0_0, .slice A0_1 l0_1.length c0_1], .slice A1 l1.length c1] rfl (by (try simp only [List.map_toArray, List.map_cons, List.map_nil]); first | done | rfl | (simp only [List.length_drop, List.length_take]; rfl)) ?_; (with_reducible refine (impl_AreCouncil.calls k a0_0 _ _ l0_1 _ _ l1 false _ ?side1 ?side2 ?side3 ?side4 A3.out).mono ?_); (case side1 => repeat (first | exact (Kd.C_below HR0_1.out HB.out) | (with_reducible refine Kd.C_alloc ?_ _) | (with_reducible refine Kd.C_drewN ?_ _) | (with_reducible refine Kd.C_drew ?_))); (case side2 => exact HC0_1.out); (case side3 => repeat (first | exact (Kd.C_below HR1.out HB.out) | (with_reducible refine Kd.C_alloc ?_ _) | (with_reducible refine Kd.C_drewN ?_ _) | (with_reducible refine Kd.C_drew ?_))); (case side4 => exact HC1.out); rintro e w16 ⟨rfl, hb⟩; refine ⟨_, rfl, ?_⟩; have n0_ := Aside0.mk (blk_below (g := gb941) (o := .cells #[.int .i64 a0_0, .slice A0_1 l0_1.length c0_1] 34 (0, 0)) (by (with_reducible repeat (first | refine blk_drewN ?_ _ | refine blk_drew ?_ | refine blk_alloc ?_ _)); exact BK941.out) hb); have n1_ := Aside0.mk (below_step (by repeat (first | (with_reducible first | exact HB.out | apply below_alloc | apply pw_below_drewN | apply below_drew1 | refine below_set ?_ GE941.out) | exact HB.out)) hb); clear BK941; clear HB; have BK941 := n0_; have HB := n1_; clear n0_ n1_; (try clear hb); (try clear hb2); (try clear hk); (try clear hi)))
    go_ret2
    exact ⟨by first | rfl | (simp [errW_none, errW_some] <;> rfl) | (simp [*, errW_none, errW_some] <;> rfl), by repeat (first | (with_reducible first | exact HB.out | apply below_alloc | apply pw_below_drewN | apply below_drew1 | refine below_set ?_ GE941.out) | exact HB.out)⟩

end Go.Proofs.Ytghooagembinaaa.P

namespace Go.Proofs.Ytghooagembinaaa.P
open Go.RowKit Go.Proofs.YtghooagembinaaaW.PrintWords Go.Proofs.YtghooagembinaaaW.PrintLast Go.Proofs.YtghooagembinaaaW.PrintMore
attribute [local go_sem] max2_int min2_int max_two min_two max_three min_three max_four min_four   -- for this text's walks alone
set_option linter.unusedVariables false
set_option linter.unusedSimpArgs false

/-! ### laws_FnExactCountCouncilWins: function 13 -/
def laws_FnExactCountCouncilWins.f (k : Nat) (a0_0 : Int) (l0_1 : List Int) (l1 : List (S_laws_Committee)) : Option (Bool) := (laws_szCommittee.f a0_0 l0_1 1048576).bind fun t949 => (if t949 < 0 then (some true) else ((laws_szCommitteeS.f k l1 t949).bind fun t950 => (if t950 < 0 then (some true) else ((laws_toCommittee.f k a0_0 l0_1).bind fun bt951 => ((laws_toCommitteeS.f k l1).bind fun t955 => ((spec_CountCouncilWins.f k bt951.1 bt951.2 t955).bind fun bt958 => ((laws_toCommittee.f k a0_0 l0_1).bind fun bt960 => ((laws_toCommitteeS.f k l1).bind fun t965 => ((impl_CountCouncilWins.f k bt960.1 bt960.2 t965).bind fun bt968 => (if bt968.1 = bt958.1 then (if (bt968.2 != bt958.2) = true then (some false) else ((laws_toCommittee.f k a0_0 l0_1).bind fun bt970 => ((laws_eqCommittee.f k bt960.1 bt960.2 bt970.1 bt970.2).bind fun t974 => (if t974 = true then ((laws_toCommitteeS.f k l1).bind fun t975 => ((laws_eqCommitteeS.f k t965 t975).bind fun t978 => (if t978 = true then (some true) else (some false)))) else (some false))))) else (some false)))))))))))
theorem laws_FnExactCountCouncilWins.mono : ∀ a0 a1 a2 k, LeO (laws_FnExactCountCouncilWins.f k a0 a1 a2) (laws_FnExactCountCouncilWins.f (k + 1) a0 a1 a2) := by
  intro a0 a1 a2 k
  unfold laws_FnExactCountCouncilWins.f
  repeat' first
      | (with_reducible exact impl_CountCouncilWins.mono _ _ _ _)
      | (with_reducible exact laws_eqCommittee.mono _ _ _ _ _)
      | (with_reducible exact laws_eqCommitteeS.mono _ _ _)
      | (with_reducible exact laws_szCommitteeS.mono _ _ _)
      | (with_reducible exact laws_toCommittee.mono _ _ _)
      | (with_reducible exact laws_toCommitteeS.mono _ _)
      | (with_reducible exact spec_CountCouncilWins.mono _ _ _ _)
      | (with_reducible exact LeO.refl _)
      | (with_reducible exact LeO.none _)
      | (with_reducible refine LeO.ite ?_ ?_)
      | (with_reducible refine LeO.bind ?_ (fun _ => ?_))
      | exact impl_CountCouncilWins.mono _ _ _ _
      | exact laws_eqCommittee.mono _ _ _ _ _
      | exact laws_eqCommitteeS.mono _ _ _
      | exact laws_szCommitteeS.mono _ _ _
      | exact laws_toCommittee.mono _ _ _
      | exact laws_toCommitteeS.mono _ _
      | exact spec_CountCouncilWins.mono _ _ _ _
      | exact LeO.none _
      | refine LeO.ite ?_ ?_
      | refine LeO.bind ?_ (fun _ => ?_)
set_option maxHeartbeats 8000000 in
set_option maxRecDepth 100000 in
theorem laws_FnExactCountCouncilWins.calls (k : Nat) (a0_0 : Int) (A0_1 : Option Addr) (c0_1 : Nat) (l0_1 : List Int) (A1 : Option Addr) (c1 : Nat) (l1 : List (S_laws_Committee)) (r : Bool) (w : World) (hr0_1 : Kd.C (Kd.int .i64) w A0_1 l0_1.length l0_1) (hc0_1 : l0_1.length ≤ c0_1) (hr1 : Kd.C k_laws_Committee w A1 l1.length l1) (hc1 : l1.length ≤ c1) (hr_ : Aside0 (r = true)) (h : laws_FnExactCountCouncilWins.f k a0_0 l0_1 l1 = some r) :
    Calls Try.prog 13 #[.agg #[.int .i64 a0_0, .slice A0_1 l0_1.length c0_1], .slice A1 l1.length c1] w fun e w' => e = .returned (.bool r) ∧ Below w.heap.size w w' := by
  have hu31 := Try.underlying31
  have hu34 := Try.underlying34
  have HR0_1 := Aside0.mk hr0_1
  have HC0_1 := Aside0.mk hc0_1
  clear hr0_1 hc0_1
  have HR1 := Aside0.mk hr1
  have HC1 := Aside0.mk hc1
  clear hr1 hc1
  have HB := Aside0.mk (Below.refl w.heap.size w)
  have H : ((laws_szCommittee.f a0_0 l0_1 1048576).bind fun t949 => (if t949 < 0 then (some true) else ((laws_szCommitteeS.f k l1 t949).bind fun t950 => (if t950 < 0 then (some true) else ((laws_toCommittee.f k a0_0 l0_1).bind fun bt951 => ((laws_toCommitteeS.f k l1).bind fun t955 => ((spec_CountCouncilWins.f k bt951.1 bt951.2 t955).bind fun bt958 => ((laws_toCommittee.f k a0_0 l0_1).bind fun bt960 => ((laws_toCommitteeS.f k l1).bind fun t965 => ((impl_CountCouncilWins.f k bt960.1 bt960.2 t965).bind fun bt968 => (if bt968.1 = bt958.1 then (if (bt968.2 != bt958.2) = true then (some false) else ((laws_toCommittee.f k a0_0 l0_1).bind fun bt970 => ((laws_eqCommittee.f k bt960.1 bt960.2 bt970.1 bt970.2).bind fun t974 => (if t974 = true then ((laws_toCommitteeS.f k l1).bind fun t975 => ((laws_eqCommitteeS.f k t965 t975).bind fun t978 => (if t978 = true then (some true) else (some false)))) else (some false))))) else (some false)))))))))))) = some r := h
  clear h
  replace H := Option.bind_eq_some_iff.mp H
  obtain ⟨t949, A30, H⟩ := H
  replace H : (if t949 < 0 then (some true) else ((laws_szCommitteeS.f k l1 t949).bind fun t950 => (if t950 < 0 then (some true) else ((laws_toCommittee.f k a0_0 l0_1).bind fun bt951 => ((laws_toCommitteeS.f k l1).bind fun t955 => ((spec_CountCouncilWins.f k bt951.1 bt951.2 t955).bind fun bt958 => ((laws_toCommittee.f k a0_0 l0_1).bind fun bt960 => ((laws_toCommitteeS.f k l1).bind fun t965 => ((impl_CountCouncilWins.f k bt960.1 bt960.2 t965).bind fun bt968 => (if bt968.1 = bt958.1 then (if (bt968.2 != bt958.2) = true then (some false) else ((laws_toCommittee.f k a0_0 l0_1).bind fun bt970 => ((laws_eqCommittee.f k bt960.1 bt960.2 bt970.1 bt970.2).bind fun t974 => (if t974 = true then ((laws_toCommitteeS.f k l1).bind fun t975 => ((laws_eqCommitteeS.f k t965 t975).bind fun t978 => (if t978 = true then (some true) else (some false)))) else (some false))))) else (some false))))))))))) = some r := H
  have A3 := Aside0.mk A30
  clear A30
  by_cases c4 : t949 < 0
  · rw [if_pos c4] at H
    have c4b0 : decide (t949 < 0) = true := decide_eq_true c4
    clear c4
    obtain rfl := Option.some.inj H
    go_enter Try.func13, Try.ntmps13
    go_wp2_with (first | ((with_reducible refine gate_dst (N := 2) rfl ?_); refine box_event ?hg (N := 2) ?hd (cs := #[.int .i64 a0_0, .slice A0_1 l0_1.length c0_1]) (t := 31) ?hr ?_; (case hd => rfl); (case hg => rfl); (case hr => first | (go_simp; done) | (go_simp; rfl)); intro gb948 hg w5 hbox hb; have n0_ := Aside0.mk (below_step (by repeat (first | (with_reducible first | exact HB.out | apply below_alloc | apply pw_below_drewN | apply below_drew1) | exact HB.out)) hb); have n1_ := Aside0.mk (hbox); have n2_ := Aside0.mk ((by rw [hg]; exact (below_size (by repeat (first | (with_reducible first | exact HB.out | apply below_alloc | apply pw_below_drewN | apply below_drew1) | exact HB.out))) : w.heap.size ≤ gb948)); have n3_ := Aside0.mk ((by rw [hg]; exact (below_size (by repeat (first | (with_reducible first | exact HB.out | apply below_alloc | apply pw_below_drewN | apply below_drew1) | exact HB.out))) : w.heap.size ≤ gb948)); clear HB; have HB := n0_; have BK948 := n1_; have GW948 := n2_; have GE948 := n3_; clear n0_ n1_ n2_ n3_; clear hb hbox hg; have hcz6_0 : w5.cell? ⟨gb948, 0, none⟩ = some (.int .i64 a0_0) := (blk_cell BK948.out 0).trans rfl; have hcz6_1 : w5.cell? ⟨gb948, 1, none⟩ = some (.slice A0_1 l0_1.length c0_1) := (blk_cell BK948.out 1).trans rfl; have hfz6_0 := blk_frozen BK948.out 0; have hfz6_1 := blk_frozen BK948.out 1) | ((with_reducible refine gate_callee (f := 19) rfl ?_); refine goesL_ (some 14) rfl rfl Try.func19 (by kernel_rfl) rfl #[.agg #[.int .i64 a0_0, .slice A0_1 l0_1.length c0_1], .int .i64 1048576] rfl (by (try simp only [List.map_toArray, List.map_cons, List.map_nil]); first | done | rfl | (simp only [List.length_drop, List.length_take]; rfl)) ?_; (with_reducible refine (laws_szCommittee.calls a0_0 _ _ l0_1 1048576 t949 _ ?side1 ?side2 A3.out).mono ?_); (case side1 => repeat (first | exact (Kd.C_below HR0_1.out HB.out) | (with_reducible refine Kd.C_alloc ?_ _) | (with_reducible refine Kd.C_drewN ?_ _) | (with_reducible refine Kd.C_drew ?_))); (case side2 => exact HC0_1.out); rintro e w7 ⟨rfl, hb⟩; refine ⟨_, rfl, ?_⟩; have n0_ := Aside0.mk (blk_below (g := gb948) (o := .cells #[.int .i64 a0_0, .slice A0_1 l0_1.length c0_1] 31 (0, 0)) (by (with_reducible repeat (first | refine blk_drewN ?_ _ | refine blk_drew ?_ | refine blk_alloc ?_ _)); exact BK948.out) hb); have n1_ := Aside0.mk (below_step (by repeat (first | (with_reducible first | exact HB.out | apply below_alloc | apply pw_below_drewN | apply below_drew1 | refine below_set ?_ GE948.out) | exact HB.out)) hb); clear BK948; clear HB; have BK948 := n0_; have HB := n1_; clear n0_ n1_; (try clear hb); (try clear hb2); (try clear hk); (try clear hi)))
    go_ret
    exact ⟨by first | rfl | (simp [errW_none, errW_some] <;> rfl) | (simp [*, errW_none, errW_some] <;> rfl), by repeat (first | (with_reducible first | exact HB.out | apply below_alloc | apply pw_below_drewN | apply below_drew1 | refine below_set ?_ GE948.out) | exact HB.out)⟩
  · rw [if_neg c4] at H
    have c4b0 : decide (t949 < 0) = false := decide_eq_false c4
    clear c4
    replace H := Option.bind_eq_some_iff.mp H
    obtain ⟨t950, A80, H⟩ := H
    replace H : (if t950 < 0 then (some true) else ((laws_toCommittee.f k a0_0 l0_1).bind fun bt951 => ((laws_toCommitteeS.f k l1).bind fun t955 => ((spec_CountCouncilWins.f k bt951.1 bt951.2 t955).bind fun bt958 => ((laws_toCommittee.f k a0_0 l0_1).bind fun bt960 => ((laws_toCommitteeS.f k l1).bind fun t965 => ((impl_CountCouncilWins.f k bt960.1 bt960.2 t965).bind fun bt968 => (if bt968.1 = bt958.1 then (if (bt968.2 != bt958.2) = true then (some false) else ((laws_toCommittee.f k a0_0 l0_1).bind fun bt970 => ((laws_eqCommittee.f k bt960.1 bt960.2 bt970.1 bt970.2).bind fun t974 => (if t974 = true then ((laws_toCommitteeS.f k l1).bind fun t975 => ((laws_eqCommitteeS.f k t965 t975).bind fun t978 => (if t978 = true then (some true) else (some false)))) else (some false))))) else (some false))))))))) = some r := H
    have A8 := Aside0.mk A80
    clear A80
    by_cases c9 : t950 < 0
    · rw [if_pos c9] at H
      have c9b0 : decide (t950 < 0) = true := decide_eq_true c9
      clear c9
      obtain rfl := Option.some.inj H
      go_enter Try.func13, Try.ntmps13
      go_wp2_with (first | ((with_reducible refine gate_dst (N := 2) rfl ?_); refine box_event ?hg (N := 2) ?hd (cs := #[.int .i64 a0_0, .slice A0_1 l0_1.length c0_1]) (t := 31) ?hr ?_; (case hd => rfl); (case hg => rfl); (case hr => first | (go_simp; done) | (go_simp; rfl)); intro gb948 hg w10 hbox hb; have n0_ := Aside0.mk (below_step (by repeat (first | (with_reducible first | exact HB.out | apply below_alloc | apply pw_below_drewN | apply below_drew1) | exact HB.out)) hb); have n1_ := Aside0.mk (hbox); have n2_ := Aside0.mk ((by rw [hg]; exact (below_size (by repeat (first | (with_reducible first | exact HB.out | apply below_alloc | apply pw_below_drewN | apply below_drew1) | exact HB.out))) : w.heap.size ≤ gb948)); have n3_ := Aside0.mk ((by rw [hg]; exact (below_size (by repeat (first | (with_reducible first | exact HB.out | apply below_alloc | apply pw_below_drewN | apply below_drew1) | exact HB.out))) : w.heap.size ≤ gb948)); clear HB; have HB := n0_; have BK948 := n1_; have GW948 := n2_; have GE948 := n3_; clear n0_ n1_ n2_ n3_; clear hb hbox hg; have hcz11_0 : w10.cell? ⟨gb948, 0, none⟩ = some (.int .i64 a0_0) := (blk_cell BK948.out 0).trans rfl; have hcz11_1 : w10.cell? ⟨gb948, 1, none⟩ = some (.slice A0_1 l0_1.length c0_1) := (blk_cell BK948.out 1).trans rfl; have hfz11_0 := blk_frozen BK948.out 0; have hfz11_1 := blk_frozen BK948.out 1) | ((with_reducible refine gate_callee (f := 19) rfl ?_); refine goesL_ (some 14) rfl rfl Try.func19 (by kernel_rfl) rfl #[.agg #[.int .i64 a0_0, .slice A0_1 l0_1.length c0_1], .int .i64 1048576] rfl (by (try simp only [List.map_toArray, List.map_cons, List.map_nil]); first | done | rfl | (simp only [List.length_drop, List.length_take]; rfl)) ?_; (with_reducible refine (laws_szCommittee.calls a0_0 _ _ l0_1 1048576 t949 _ ?side1 ?side2 A3.out).mono ?_); (case side1 => repeat (first | exact (Kd.C_below HR0_1.out HB.out) | (with_reducible refine Kd.C_alloc ?_ _) | (with_reducible refine Kd.C_drewN ?_ _) | (with_reducible refine Kd.C_drew ?_))); (case side2 => exact HC0_1.out); rintro e w12 ⟨rfl, hb⟩; refine ⟨_, rfl, ?_⟩; have n0_ := Aside0.mk (blk_below (g := gb948) (o := .cells #[.int .i64 a0_0, .slice A0_1 l0_1.length c0_1] 31 (0, 0)) (by (with_reducible repeat (first | refine blk_drewN ?_ _ | refine blk_drew ?_ | refine blk_alloc ?_ _)); exact BK948.out) hb); have n1_ := Aside0.mk (below_step (by repeat (first | (with_reducible first | exact HB.out | apply below_alloc | apply pw_below_drewN | apply below_drew1 | refine below_set ?_ GE948.out) | exact HB.out)) hb); clear BK948; clear HB; have BK948 := n0_; have HB := n1_; clear n0_ n1_; (try clear hb); (try clear hb2); (try clear hk); (try clear hi)) | ((with_reducible refine gate_callee (f := 14) rfl ?_); refine goesL_ (some 19) rfl rfl Try.func14 (by kernel_rfl) rfl #[.slice A1 l1.length c1, .int .i64 t949] rfl (by (try simp only [List.map_toArray, List.map_cons, List.map_nil]); first | done | rfl | (simp only [List.length_drop, List.length_take]; rfl)) ?_; (with_reducible refine (laws_szCommitteeS.calls k _ _ l1 t949 t950 _ ?side1 ?side2 A8.out).mono ?_); (case side1 => repeat (first | exact (Kd.C_below HR1.out HB.out) | (with_reducible refine Kd.C_alloc ?_ _) | (with_reducible refine Kd.C_drewN ?_ _) | (with_reducible refine Kd.C_drew ?_))); (case side2 => exact HC1.out); rintro e w13 ⟨rfl, hb⟩; refine ⟨_, rfl, ?_⟩; have n0_ := Aside0.mk (blk_below (g := gb948) (o := .cells #[.int .i64 a0_0, .slice A0_1 l0_1.length c0_1] 31 (0, 0)) (by (with_reducible repeat (first | refine blk_drewN ?_ _ | refine blk_drew ?_ | refine blk_alloc ?_ _)); exact BK948.out) hb); have n1_ := Aside0.mk (below_step (by repeat (first | (with_reducible first | exact HB.out | apply below_alloc | apply pw_below_drewN | apply below_drew1 | refine below_set ?_ GE948.out) | exact HB.out)) hb); clear BK948; clear HB; have BK948 := n0_; have HB := n1_; clear n0_ n1_; (try clear hb); (try clear hb2); (try clear hk); (try clear hi)))
      go_ret
      exact ⟨by first | rfl | (simp [errW_none, errW_some] <;> rfl) | (simp [*, errW_none, errW_some] <;> rfl), by repeat (first | (with_reducible first | exact HB.out | apply below_alloc | apply pw_below_drewN | apply below_drew1 | refine below_set ?_ GE948.out) | exact HB.out)⟩
    · rw [if_neg c9] at H
      have c9b0 : decide (t950 < 0) = false := decide_eq_false c9
      clear c9
      replace H := Option.bind_eq_some_iff.mp H
      obtain ⟨⟨t951, t952⟩, A140, H⟩ := H
      replace H : ((laws_toCommitteeS.f k l1).bind fun t955 => ((spec_CountCouncilWins.f k t951 t952 t955).bind fun bt958 => ((laws_toCommittee.f k a0_0 l0_1).bind fun bt960 => ((laws_toCommitteeS.f k l1).bind fun t965 => ((impl_CountCouncilWins.f k bt960.1 bt960.2 t965).bind fun bt968 => (if bt968.1 = bt958.1 then (if (bt968.2 != bt958.2) = true then (some false) else ((laws_toCommittee.f k a0_0 l0_1).bind fun bt970 => ((laws_eqCommittee.f k bt960.1 bt960.2 bt970.1 bt970.2).bind fun t974 => (if t974 = true then ((laws_toCommitteeS.f k l1).bind fun t975 => ((laws_eqCommitteeS.f k t965 t975).bind fun t978 => (if t978 = true then (some true) else (some false)))) else (some false))))) else (some false))))))) = some r := H
      have A14 := Aside0.mk A140
      clear A140
      replace H := Option.bind_eq_some_iff.mp H
      obtain ⟨t955, A150, H⟩ := H
      replace H : ((spec_CountCouncilWins.f k t951 t952 t955).bind fun bt958 => ((laws_toCommittee.f k a0_0 l0_1).bind fun bt960 => ((laws_toCommitteeS.f k l1).bind fun t965 => ((impl_CountCouncilWins.f k bt960.1 bt960.2 t965).bind fun bt968 => (if bt968.1 = bt958.1 then (if (bt968.2 != bt958.2) = true then (some false) else ((laws_toCommittee.f k a0_0 l0_1).bind fun bt970 => ((laws_eqCommittee.f k bt960.1 bt960.2 bt970.1 bt970.2).bind fun t974 => (if t974 = true then ((laws_toCommitteeS.f k l1).bind fun t975 => ((laws_eqCommitteeS.f k t965 t975).bind fun t978 => (if t978 = true then (some true) else (some false)))) else (some false))))) else (some false)))))) = some r := H
      have A15 := Aside0.mk A150
      clear A150
      replace H := Option.bind_eq_some_iff.mp H
      obtain ⟨⟨t958, t959⟩, A160, H⟩ := H
      replace H : ((laws_toCommittee.f k a0_0 l0_1).bind fun bt960 => ((laws_toCommitteeS.f k l1).bind fun t965 => ((impl_CountCouncilWins.f k bt960.1 bt960.2 t965).bind fun bt968 => (if bt968.1 = t958 then (if (bt968.2 != t959) = true then (some false) else ((laws_toCommittee.f k a0_0 l0_1).bind fun bt970 => ((laws_eqCommittee.f k bt960.1 bt960.2 bt970.1 bt970.2).bind fun t974 => (if t974 = true then ((laws_toCommitteeS.f k l1).bind fun t975 => ((laws_eqCommitteeS.f k t965 t975).bind fun t978 => (if t978 = true then (some true) else (some false)))) else (some false))))) else (some false))))) = some r := H
      have A16 := Aside0.mk A160
      clear A160
      replace H := Option.bind_eq_some_iff.mp H
      obtain ⟨⟨t960, t961⟩, A170, H⟩ := H
      replace H : ((laws_toCommitteeS.f k l1).bind fun t965 => ((impl_CountCouncilWins.f k t960 t961 t965).bind fun bt968 => (if bt968.1 = t958 then (if (bt968.2 != t959) = true then (some false) else ((laws_toCommittee.f k a0_0 l0_1).bind fun bt970 => ((laws_eqCommittee.f k t960 t961 bt970.1 bt970.2).bind fun t974 => (if t974 = true then ((laws_toCommitteeS.f k l1).bind fun t975 => ((laws_eqCommitteeS.f k t965 t975).bind fun t978 => (if t978 = true then (some true) else (some false)))) else (some false))))) else (some false)))) = some r := H
      have A17 := Aside0.mk A170
      clear A170
      replace H := Option.bind_eq_some_iff.mp H
      obtain ⟨t965, A180, H⟩ := H
      replace H : ((impl_CountCouncilWins.f k t960 t961 t965).bind fun bt968 => (if bt968.1 = t958 then (if (bt968.2 != t959) = true then (some false) else ((laws_toCommittee.f k a0_0 l0_1).bind fun bt970 => ((laws_eqCommittee.f k t960 t961 bt970.1 bt970.2).bind fun t974 => (if t974 = true then ((laws_toCommitteeS.f k l1).bind fun t975 => ((laws_eqCommitteeS.f k t965 t975).bind fun t978 => (if t978 = true then (some true) else (some false)))) else (some false))))) else (some false))) = some r := H
      have A18 := Aside0.mk A180
      clear A180
      replace H := Option.bind_eq_some_iff.mp H
      obtain ⟨⟨t968, t969⟩, A190, H⟩ := H
      replace H : (if t968 = t958 then (if (t969 != t959) = true then (some false) else ((laws_toCommittee.f k a0_0 l0_1).bind fun bt970 => ((laws_eqCommittee.f k t960 t961 bt970.1 bt970.2).bind fun t974 => (if t974 = true then ((laws_toCommitteeS.f k l1).bind fun t975 => ((laws_eqCommitteeS.f k t965 t975).bind fun t978 => (if t978 = true then (some true) else (some false)))) else (some false))))) else (some false)) = some r := H
      have A19 := Aside0.mk A190
      clear A190
      by_cases c20 : t968 = t958
      · rw [if_pos c20] at H
        have c20b0 : (t968 == t958) = true := beq_iff_eq.mpr c20
        have c20b1 : (t968 != t958) = false := bne_eq_false_iff_eq.mpr c20
        clear c20
        by_cases c21 : (t969 != t959) = true
        · rw [if_pos c21] at H
          have c21b0 : (t969 != t959) = true := c21
          (try (have c21b1 : decide (t969 = t959) = false := by simpa using c21))
          (try (have c21b2 : (t969 == t959) = false := by simpa using c21))
          (try (have c21b3 : ¬ (t969 = t959) := by simpa using c21))
          clear c21
          exact absurd (H.trans (congrArg some hr_.out)) (by simp)
        · rw [if_neg c21] at H
          have c21b0 : (t969 != t959) = false := by simpa using c21
          (try (have c21b1 : decide (t969 = t959) = true := by simpa using c21))
          (try (have c21b2 : (t969 == t959) = true := by simpa using c21))
          clear c21
          replace H := Option.bind_eq_some_iff.mp H
          obtain ⟨⟨t970, t971⟩, A220, H⟩ := H
          replace H : ((laws_eqCommittee.f k t960 t961 t970 t971).bind fun t974 => (if t974 = true then ((laws_toCommitteeS.f k l1).bind fun t975 => ((laws_eqCommitteeS.f k t965 t975).bind fun t978 => (if t978 = true then (some true) else (some false)))) else (some false))) = some r := H
          have A22 := Aside0.mk A220
          clear A220
          replace H := Option.bind_eq_some_iff.mp H
          obtain ⟨t974, A230, H⟩ := H
          replace H : (if t974 = true then ((laws_toCommitteeS.f k l1).bind fun t975 => ((laws_eqCommitteeS.f k t965 t975).bind fun t978 => (if t978 = true then (some true) else (some false)))) else (some false)) = some r := H
          have A23 := Aside0.mk A230
          clear A230
          by_cases c24 : t974 = true
          · subst c24
            have H1 : ((laws_toCommitteeS.f k l1).bind fun t975 => ((laws_eqCommitteeS.f k t965 t975).bind fun t978 => (if t978 = true then (some true) else (some false)))) = some r := by rw [if_pos rfl] at H; exact H
            clear H
            have H := H1
            clear H1
            replace H := Option.bind_eq_some_iff.mp H
            obtain ⟨t975, A250, H⟩ := H
            replace H : ((laws_eqCommitteeS.f k t965 t975).bind fun t978 => (if t978 = true then (some true) else (some false))) = some r := H
            have A25 := Aside0.mk A250
            clear A250
            replace H := Option.bind_eq_some_iff.mp H
            obtain ⟨t978, A260, H⟩ := H
            replace H : (if t978 = true then (some true) else (some false)) = some r := H
            have A26 := Aside0.mk A260
            clear A260
            by_cases c27 : t978 = true
            · subst c27
              have H1 : (some true) = some r := by rw [if_pos rfl] at H; exact H
              clear H
              have H := H1
              clear H1
              obtain rfl := Option.some.inj H
              go_enter Try.func13, Try.ntmps13
              try go_wp2_with (first | ((with_reducible refine gate_dst (N := 2) rfl ?_); refine box_event ?hg (N := 2) ?hd (cs := #[.int .i64 a0_0, .slice A0_1 l0_1.length c0_1]) (t := 31) ?hr ?_; (case hd => rfl); (case hg => rfl); (case hr => first | (go_simp; done) | (go_simp; rfl)); intro gb948 hg w28 hbox hb; have n0_ := Aside0.mk (below_step (by repeat (first | (with_reducible first | exact HB.out | apply below_alloc | apply pw_below_drewN | apply below_drew1) | exact HB.out)) hb); have n1_ := Aside0.mk (hbox); have n2_ := Aside0.mk ((by rw [hg]; exact (below_size (by repeat (first | (with_reducible first | exact HB.out | apply below_alloc | apply pw_below_drewN | apply below_drew1) | exact HB.out))) : w.heap.size ≤ gb948)); have n3_ := Aside0.mk ((by rw [hg]; exact (below_size (by repeat (first | (with_reducible first | exact HB.out | apply below_alloc | apply pw_below_drewN | apply below_drew1) | exact HB.out))) : w.heap.size ≤ gb948)); clear HB; have HB := n0_; have BK948 := n1_; have GW948 := n2_; have GE948 := n3_; clear n0_ n1_ n2_ n3_; clear hb hbox hg; have hcz29_0 : w28.cell? ⟨gb948, 0, none⟩ = some (.int .i64 a0_0) := (blk_cell BK948.out 0).trans rfl; have hcz29_1 : w28.cell? ⟨gb948, 1, none⟩ = some (.slice A0_1 l0_1.length c0_1) := (blk_cell BK948.out 1).trans rfl; have hfz29_0 := blk_frozen BK948.out 0; have hfz29_1 := blk_frozen BK948.out 1) | ((with_reducible refine gate_callee (f := 19) rfl ?_); refine goesL_ (some 14) rfl rfl Try.func19 (by kernel_rfl) rfl #[.agg #[.int .i64 a0_0, .slice A0_1 l0_1.length c0_1], .int .i64 1048576] rfl (by (try simp only [List.map_toArray, List.map_cons, List.map_nil]); first | done | rfl | (simp only [List.length_drop, List.length_take]; rfl)) ?_; (with_reducible refine (laws_szCommittee.calls a0_0 _ _ l0_1 1048576 t949 _ ?side1 ?side2 A3.out).mono ?_); (case side1 => repeat (first | exact (Kd.C_below HR0_1.out HB.out) | (with_reducible refine Kd.C_alloc ?_ _) | (with_reducible refine Kd.C_drewN ?_ _) | (with_reducible refine Kd.C_drew ?_))); (case side2 => exact HC0_1.out); rintro e w30 ⟨rfl, hb⟩; refine ⟨_, rfl, ?_⟩; have n0_ := Aside0.mk (blk_below (g := gb948) (o := .cells #[.int .i64 a0_0, .slice A0_1 l0_1.length c0_1] 31 (0, 0)) (by (with_reducible repeat (first | refine blk_drewN ?_ _ | refine blk_drew ?_ | refine blk_alloc ?_ _)); exact BK948.out) hb); have n1_ := Aside0.mk (below_step (by repeat (first | (with_reducible first | exact HB.out | apply below_alloc | apply pw_below_drewN | apply below_drew1 | refine below_set ?_ GE948.out) | exact HB.out)) hb); clear BK948; clear HB; have BK948 := n0_; have HB := n1_; clear n0_ n1_; (try clear hb); (try clear hb2); (try clear hk); (try clear hi)) | ((with_reducible refine gate_callee (f := 14) rfl ?_); refine goesL_ (some 19) rfl rfl Try.func14 (by kernel_rfl) rfl #[.slice A1 l1.length c1, .int .i64 t949] rfl (by (try simp only [List.map_toArray, List.map_cons, List.map_nil]); first | done | rfl | (simp only [List.length_drop, List.length_take]; rfl)) ?_; (with_reducible refine (laws_szCommitteeS.calls k _ _ l1 t949 t950 _ ?side1 ?side2 A8.out).mono ?_); (case side1 => repeat (first | exact (Kd.C_below HR1.out HB.out) | (with_reducible refine Kd.C_alloc ?_ _) | (with_reducible refine Kd.C_drewN ?_ _) | (with_reducible refine Kd.C_drew ?_))); (case side2 => exact HC1.out); rintro e w31 ⟨rfl, hb⟩; refine ⟨_, rfl, ?_⟩; have n0_ := Aside0.mk (blk_below (g := gb948) (o := .cells #[.int .i64 a0_0, .slice A0_1 l0_1.length c0_1] 31 (0, 0)) (by (with_reducible repeat (first | refine blk_drewN ?_ _ | refine blk_drew ?_ | refine blk_alloc ?_ _)); exact BK948.out) hb); have n1_ := Aside0.mk (below_step (by repeat (first | (with_reducible first | exact HB.out | apply below_alloc | apply pw_below_drewN | apply below_drew1 | refine below_set ?_ GE948.out) | exact HB.out)) hb); clear BK948; clear HB; have BK948 := n0_; have HB := n1_; clear n0_ n1_; (try clear hb); (try clear hb2); (try clear hk); (try clear hi); have hcz32_0 : w31.cell? ⟨gb948, 0, none⟩ = some (.int .i64 a0_0) := (blk_cell BK948.out 0).trans rfl; have hcz32_1 : w31.cell? ⟨gb948, 1, none⟩ = some (.slice A0_1 l0_1.length c0_1) := (blk_cell BK948.out 1).trans rfl; have hfz32_0 := blk_frozen BK948.out 0; have hfz32_1 := blk_frozen BK948.out 1) | ((with_reducible refine gate_callee (f := 21) rfl ?_); refine goesL_ (some 24) rfl rfl Try.func21 (by kernel_rfl) rfl #[.agg #[.int .i64 a0_0, .slice A0_1 l0_1.length c0_1]] rfl (by (try simp only [List.map_toArray, List.map_cons, List.map_nil]); first | done | rfl | (simp only [List.length_drop, List.length_take]; rfl)) ?_; (with_reducible refine (laws_toCommittee.calls k a0_0 _ _ l0_1 t951 t952 _ ?side1 ?side2 A14.out).mono ?_); (case side1 => repeat (first | exact (Kd.C_below HR0_1.out HB.out) | (with_reducible refine Kd.C_alloc ?_ _) | (with_reducible refine Kd.C_drewN ?_ _) | (with_reducible refine Kd.C_drew ?_))); (case side2 => exact HC0_1.out); rintro e w33 ⟨v953, rfl, ho0, hb⟩; refine ⟨_, rfl, ?_⟩; have n0_ := Aside0.mk (Kd.R_lower ho0 (below_size (by repeat (first | (with_reducible first | exact HB.out | apply below_alloc | apply pw_below_drewN | apply below_drew1 | refine below_set ?_ GE948.out) | exact HB.out)))); have n1_ := Aside0.mk (blk_below (g := gb948) (o := .cells #[.int .i64 a0_0, .slice A0_1 l0_1.length c0_1] 31 (0, 0)) (by (with_reducible repeat (first | refine blk_drewN ?_ _ | refine blk_drew ?_ | refine blk_alloc ?_ _)); exact BK948.out) hb); have n2_ := Aside0.mk (below_step (by repeat (first | (with_reducible first | exact HB.out | apply below_alloc | apply pw_below_drewN | apply below_drew1 | refine below_set ?_ GE948.out) | exact HB.out)) hb); clear BK948; clear HB; have HO954 := n0_; have BK948 := n1_; have HB := n2_; clear n0_ n1_ n2_; (try clear hb); (try clear hb2); (try clear hk); (try clear hi); (try clear ho0)) | ((with_reducible refine gate_callee (f := 16) rfl ?_); refine goesL_ (some 26) rfl rfl Try.func16 (by kernel_rfl) rfl #[.slice A1 l1.length c1] rfl (by (try simp only [List.map_toArray, List.map_cons, List.map_nil]); first | done | rfl | (simp only [List.length_drop, List.length_take]; rfl)) ?_; (with_reducible refine (laws_toCommitteeS.calls k _ _ l1 t955 _ ?side1 ?side2 A15.out).mono ?_); (case side1 => repeat (first | exact (Kd.C_below HR1.out HB.out) | (with_reducible refine Kd.C_alloc ?_ _) | (with_reducible refine Kd.C_drewN ?_ _) | (with_reducible refine Kd.C_drew ?_))); (case side2 => exact HC1.out); rintro e w34 ⟨v956, rfl, ho0, hb⟩; refine ⟨_, rfl, ?_⟩; have n0_ := Aside0.mk (Kd.R_below (by (with_reducible repeat (first | apply Kd.R_alloc | apply Kd.R_drewN | apply Kd.R_drew)); exact HO954.out) hb); have n1_ := Aside0.mk (Kd.S_lower (Kd.S_new' ho0 (Kd.R_lt (by (with_reducible repeat (first | apply Kd.R_alloc | apply Kd.R_drewN | apply Kd.R_drew)); exact HO954.out))) (below_size (by repeat (first | (with_reducible first | exact HB.out | apply below_alloc | apply pw_below_drewN | apply below_drew1 | refine below_set ?_ GE948.out) | exact HB.out)))); have n2_ := Aside0.mk (blk_below (g := gb948) (o := .cells #[.int .i64 a0_0, .slice A0_1 l0_1.length c0_1] 31 (0, 0)) (by (with_reducible repeat (first | refine blk_drewN ?_ _ | refine blk_drew ?_ | refine blk_alloc ?_ _)); exact BK948.out) hb); have n3_ := Aside0.mk (below_step (by repeat (first | (with_reducible first | exact HB.out | apply below_alloc | apply pw_below_drewN | apply below_drew1 | refine below_set ?_ GE948.out) | exact HB.out)) hb); clear HO954; clear BK948; clear HB; have HO954 := n0_; have HO957 := n1_; have BK948 := n2_; have HB := n3_; clear n0_ n1_ n2_ n3_; (try clear hb); (try clear hb2); (try clear hk); (try clear hi); (try clear ho0); obtain ⟨Ao35, co35, eo35⟩ := Kd.R_slice HO954.out; subst eo35; obtain ⟨Ao36, co36, eo36⟩ := Kd.S_slice HO957.out; subst eo36) | ((with_reducible refine gate_callee (f := 46) rfl ?_); refine goesL_ (some 27) rfl rfl Try.func46 (by kernel_rfl) rfl #[.agg #[.int .i64 t951, .slice Ao35 t952.length co35], .slice Ao36 t955.length co36] rfl (by (try simp only [List.map_toArray, List.map_cons, List.map_nil]); first | done | rfl | (simp only [List.length_drop, List.length_take]; rfl)) ?_; (with_reducible refine (spec_CountCouncilWins.calls k t951 _ _ t952 _ _ t955 t958 t959 _ ?side1 ?side2 ?side3 ?side4 A16.out).mono ?_); (case side1 => repeat (first | exact (Kd.R_reads' HO954.out).2.2 | (with_reducible refine Kd.C_alloc ?_ _) | (with_reducible refine Kd.C_drewN ?_ _) | (with_reducible refine Kd.C_drew ?_))); (case side2 => exact (Kd.R_reads' HO954.out).2.1); (case side3 => repeat (first | exact (Kd.S_reads' HO957.out).2.2 | (with_reducible refine Kd.C_alloc ?_ _) | (with_reducible refine Kd.C_drewN ?_ _) | (with_reducible refine Kd.C_drew ?_))); (case side4 => exact (Kd.S_reads' HO957.out).2.1); rintro e w37 ⟨rfl, hb⟩; refine ⟨_, rfl, ?_⟩; have n0_ := Aside0.mk (Kd.R_below (by (with_reducible repeat (first | apply Kd.R_alloc | apply Kd.R_drewN | apply Kd.R_drew)); exact HO954.out) hb); have n1_ := Aside0.mk (Kd.S_below (by (with_reducible repeat (first | apply Kd.S_alloc | apply Kd.S_drewN | apply Kd.S_drew)); exact HO957.out) hb); have n2_ := Aside0.mk (blk_below (g := gb948) (o := .cells #[.int .i64 a0_0, .slice A0_1 l0_1.length c0_1] 31 (0, 0)) (by (with_reducible repeat (first | refine blk_drewN ?_ _ | refine blk_drew ?_ | refine blk_alloc ?_ _)); exact BK948.out) hb); have n3_ := Aside0.mk (below_step (by repeat (first | (with_reducible first | exact HB.out | apply below_alloc | apply pw_below_drewN | apply below_drew1 | refine below_set ?_ GE948.out) | exact HB.out)) hb); clear HO954; clear HO957; clear BK948; clear HB; have HO954 := n0_; have HO957 := n1_; have BK948 := n2_; have HB := n3_; clear n0_ n1_ n2_ n3_; (try clear hb); (try clear hb2); (try clear hk); (try clear hi); have hcz38_0 : w37.cell? ⟨gb948, 0, none⟩ = some (.int .i64 a0_0) := (blk_cell BK948.out 0).trans rfl; have hcz38_1 : w37.cell? ⟨gb948, 1, none⟩ = some (.slice A0_1 l0_1.length c0_1) := (blk_cell BK948.out 1).trans rfl; have hfz38_0 := blk_frozen BK948.out 0; have hfz38_1 := blk_frozen BK948.out 1) | ((with_reducible refine gate_callee (f := 21) rfl ?_); refine goesL_ (some 31) rfl rfl Try.func21 (by kernel_rfl) rfl #[.agg #[.int .i64 a0_0, .slice A0_1 l0_1.length c0_1]] rfl (by (try simp only [List.map_toArray, List.map_cons, List.map_nil]); first | done | rfl | (simp only [List.length_drop, List.length_take]; rfl)) ?_; (with_reducible refine (laws_toCommittee.calls k a0_0 _ _ l0_1 t960 t961 _ ?side1 ?side2 A17.out).mono ?_); (case side1 => repeat (first | exact (Kd.C_below HR0_1.out HB.out) | (with_reducible refine Kd.C_alloc ?_ _) | (with_reducible refine Kd.C_drewN ?_ _) | (with_reducible refine Kd.C_drew ?_))); (case side2 => exact HC0_1.out); rintro e w39 ⟨v962, rfl, ho0, hb⟩; refine ⟨_, rfl, ?_⟩; have n0_ := Aside0.mk (Kd.R_elder' (by (with_reducible repeat (first | apply Kd.R_alloc | apply Kd.R_drewN | apply Kd.R_drew)); exact HO954.out) (Kd.R_base ho0) hb); have n1_ := Aside0.mk (Kd.S_elder' (by (with_reducible repeat (first | apply Kd.S_alloc | apply Kd.S_drewN | apply Kd.S_drew)); exact HO957.out) (Kd.R_base ho0) hb); have n2_ := Aside0.mk (Kd.R_lower (Kd.R_new' ho0 (Kd.R_lt (by (with_reducible repeat (first | apply Kd.R_alloc | apply Kd.R_drewN | apply Kd.R_drew)); exact HO954.out))) (below_size (by repeat (first | (with_reducible first | exact HB.out | apply below_alloc | apply pw_below_drewN | apply below_drew1 | refine below_set ?_ GE948.out) | exact HB.out)))); have n3_ := Aside0.mk (blk_below (g := gb948) (o := .cells #[.int .i64 a0_0, .slice A0_1 l0_1.length c0_1] 31 (0, 0)) (by (with_reducible repeat (first | refine blk_drewN ?_ _ | refine blk_drew ?_ | refine blk_alloc ?_ _)); exact BK948.out) hb); have n4_ := Aside0.mk (below_step (by repeat (first | (with_reducible first | exact HB.out | apply below_alloc | apply pw_below_drewN | apply below_drew1 | refine below_set ?_ GE948.out) | exact HB.out)) hb); clear HO954; clear HO957; clear BK948; clear HB; have HO954 := n0_; have HO957 := n1_; have HO963 := n2_; have BK948 := n3_; have HB := n4_; clear n0_ n1_ n2_ n3_ n4_; (try clear hb); (try clear hb2); (try clear hk); (try clear hi); (try clear ho0)) | ((with_reducible refine gate_dst (N := 8) rfl ?_); refine box_event ?hg (N := 8) ?hd (cs := #[.int .i64 0, .slice none 0 0]) (t := 34) ?hr ?_; (case hd => rfl); (case hg => rfl); (case hr => first | (go_simp; done) | (go_simp; rfl)); intro gb964 hg w40 hbox hb; have n0_ := Aside0.mk (Kd.R_below (by (with_reducible repeat (first | apply Kd.R_alloc | apply Kd.R_drewN | apply Kd.R_drew)); exact HO954.out) hb); have n1_ := Aside0.mk (Kd.S_below (Kd.S_elderB (by (with_reducible repeat (first | apply Kd.S_alloc | apply Kd.S_drewN | apply Kd.S_drew)); exact HO957.out) gb964 (Nat.le_of_eq hg.symm)) hb); have n2_ := Aside0.mk (Kd.R_below (by (with_reducible repeat (first | apply Kd.R_alloc | apply Kd.R_drewN | apply Kd.R_drew)); exact HO963.out) hb); have n3_ := Aside0.mk (blk_below (g := gb948) (o := .cells #[.int .i64 a0_0, .slice A0_1 l0_1.length c0_1] 31 (0, 0)) (by (with_reducible repeat (first | refine blk_drewN ?_ _ | refine blk_drew ?_ | refine blk_alloc ?_ _)); exact BK948.out) hb); have n4_ := Aside0.mk (below_step (by repeat (first | (with_reducible first | exact HB.out | apply below_alloc | apply pw_below_drewN | apply below_drew1 | refine below_set ?_ GE948.out) | exact HB.out)) hb); have n5_ := Aside0.mk (hbox); have n6_ := Aside0.mk ((by rw [hg]; exact (below_size (by repeat (first | (with_reducible first | exact HB.out | apply below_alloc | apply pw_below_drewN | apply below_drew1 | refine below_set ?_ GE948.out) | exact HB.out))) : w.heap.size ≤ gb964)); have n7_ := Aside0.mk ((by rw [hg]; exact (below_size (by repeat (first | (with_reducible first | exact HB.out | apply below_alloc | apply pw_below_drewN | apply below_drew1 | refine below_set ?_ GE948.out) | exact HB.out))) : w.heap.size ≤ gb964)); have n8_ := Aside0.mk ((by rw [hg]; exact Nat.ne_of_lt (blk_lt (g := gb948) (o := .cells #[.int .i64 a0_0, .slice A0_1 l0_1.length c0_1] 31 (0, 0)) (by (with_reducible repeat (first | refine blk_drewN ?_ _ | refine blk_drew ?_ | refine blk_alloc ?_ _)); exact BK948.out)) : gb948 ≠ gb964)); have n9_ := Aside0.mk ((by rw [hg]; exact Nat.ne_of_gt (blk_lt (g := gb948) (o := .cells #[.int .i64 a0_0, .slice A0_1 l0_1.length c0_1] 31 (0, 0)) (by (with_reducible repeat (first | refine blk_drewN ?_ _ | refine blk_drew ?_ | refine blk_alloc ?_ _)); exact BK948.out)) : gb964 ≠ gb948)); clear HO954; clear HO957; clear HO963; clear BK948; clear HB; have HO954 := n0_; have HO957 := n1_; have HO963 := n2_; have BK948 := n3_; have HB := n4_; have BK964 := n5_; have GW964 := n6_; have GE964 := n7_; have NB948_964 := n8_; have NB964_948 := n9_; clear n0_ n1_ n2_ n3_ n4_ n5_ n6_ n7_ n8_ n9_; clear hb hbox hg; have hnb41 := NB964_948.out; have hnc41 := NB948_964.out; have hcz42_0 : w40.cell? ⟨gb964, 0, none⟩ = some (.int .i64 0) := (blk_cell BK964.out 0).trans rfl; have hcz42_1 : w40.cell? ⟨gb964, 1, none⟩ = some (.slice none 0 0) := (blk_cell BK964.out 1).trans rfl; have hfz42_0 := blk_frozen BK964.out 0; have hfz42_1 := blk_frozen BK964.out 1; obtain ⟨Ao43, co43, eo43⟩ := Kd.R_slice HO963.out; subst eo43) | ((with_reducible refine gate_callee (f := 16) rfl ?_); refine goesL_ (some 33) rfl rfl Try.func16 (by kernel_rfl) rfl #[.slice A1 l1.length c1] rfl (by (try simp only [List.map_toArray, List.map_cons, List.map_nil]); first | done | rfl | (simp only [List.length_drop, List.length_take]; rfl)) ?_; (with_reducible refine (laws_toCommitteeS.calls k _ _ l1 t965 _ ?side1 ?side2 A18.out).mono ?_); (case side1 => exact Kd.C_below HR1.out (by repeat (first | (with_reducible first | exact HB.out | apply below_alloc | apply pw_below_drewN | apply below_drew1 | refine below_set ?_ GE948.out | refine below_set ?_ GE964.out) | exact HB.out))); (case side2 => exact HC1.out); rintro e w44 ⟨v966, rfl, ho0, hb⟩; refine ⟨_, rfl, ?_⟩; have n0_ := Aside0.mk (Kd.R_below (by (with_reducible repeat (first | apply Kd.R_alloc | apply Kd.R_drewN | apply Kd.R_drew)); exact (Kd.R_mono (Kd.R_far (p := ⟨gb964, 1, none⟩) (Kd.R_far (p := ⟨gb964, 0, none⟩) (Kd.R_types HO954.out BK964.out (by decide)) (fun _ hk => hk.2) (.int .i64 t960)) (fun _ hk => hk.2) (.slice Ao43 t961.length co43)) (fun _ h_ => h_.1))) hb); have n1_ := Aside0.mk (Kd.S_elder' (by (with_reducible repeat (first | apply Kd.S_alloc | apply Kd.S_drewN | apply Kd.S_drew)); exact (Kd.S_mono (Kd.S_far (p := ⟨gb964, 1, none⟩) (Kd.S_far (p := ⟨gb964, 0, none⟩) (Kd.S_mono HO957.out (fun k_ hk => (⟨hk, hk.2⟩ : _ ∧ k_ ≠ gb964))) (fun _ hk => hk.2) (.int .i64 t960)) (fun _ hk => hk.2) (.slice Ao43 t961.length co43)) (fun _ h_ => h_.1))) (Kd.S_base ho0) hb); have n2_ := Aside0.mk (Kd.R_below (by (with_reducible repeat (first | apply Kd.R_alloc | apply Kd.R_drewN | apply Kd.R_drew)); exact (Kd.R_mono (Kd.R_far (p := ⟨gb964, 1, none⟩) (Kd.R_far (p := ⟨gb964, 0, none⟩) (Kd.R_types HO963.out BK964.out (by decide)) (fun _ hk => hk.2) (.int .i64 t960)) (fun _ hk => hk.2) (.slice Ao43 t961.length co43)) (fun _ h_ => h_.1))) hb); have n3_ := Aside0.mk (Kd.S_lower (Kd.S_newB (Kd.S_new' (Kd.S_new' (Kd.S_new' ho0 (Kd.R_lt (by (with_reducible repeat (first | apply Kd.R_alloc | apply Kd.R_drewN | apply Kd.R_drew)); exact (Kd.R_mono (Kd.R_far (p := ⟨gb964, 1, none⟩) (Kd.R_far (p := ⟨gb964, 0, none⟩) (Kd.R_types HO954.out BK964.out (by decide)) (fun _ hk => hk.2) (.int .i64 t960)) (fun _ hk => hk.2) (.slice Ao43 t961.length co43)) (fun _ h_ => h_.1))))) (Kd.S_lt (by (with_reducible repeat (first | apply Kd.S_alloc | apply Kd.S_drewN | apply Kd.S_drew)); exact (Kd.S_mono (Kd.S_far (p := ⟨gb964, 1, none⟩) (Kd.S_far (p := ⟨gb964, 0, none⟩) (Kd.S_mono HO957.out (fun k_ hk => (⟨hk, hk.2⟩ : _ ∧ k_ ≠ gb964))) (fun _ hk => hk.2) (.int .i64 t960)) (fun _ hk => hk.2) (.slice Ao43 t961.length co43)) (fun _ h_ => h_.1))))) (Kd.R_lt (by (with_reducible repeat (first | apply Kd.R_alloc | apply Kd.R_drewN | apply Kd.R_drew)); exact (Kd.R_mono (Kd.R_far (p := ⟨gb964, 1, none⟩) (Kd.R_far (p := ⟨gb964, 0, none⟩) (Kd.R_types HO963.out BK964.out (by decide)) (fun _ hk => hk.2) (.int .i64 t960)) (fun _ hk => hk.2) (.slice Ao43 t961.length co43)) (fun _ h_ => h_.1))))) (g := gb964) (o := .cells #[.int .i64 t960, .slice Ao43 t961.length co43] 34 (0, 0)) (by (with_reducible repeat (first | refine blk_drewN ?_ _ | refine blk_drew ?_ | refine blk_alloc ?_ _)); refine blk_put (cs := #[.int .i64 t960, .slice none 0 0]) ?_ 1 _ rfl; (with_reducible repeat (first | refine blk_drewN ?_ _ | refine blk_drew ?_ | refine blk_alloc ?_ _)); refine blk_put (cs := #[.int .i64 0, .slice none 0 0]) ?_ 0 _ rfl; (with_reducible repeat (first | refine blk_drewN ?_ _ | refine blk_drew ?_ | refine blk_alloc ?_ _)); exact BK964.out)) (below_size (by repeat (first | (with_reducible first | exact HB.out | apply below_alloc | apply pw_below_drewN | apply below_drew1 | refine below_set ?_ GE948.out | refine below_set ?_ GE964.out) | exact HB.out)))); have n4_ := Aside0.mk (blk_below (g := gb948) (o := .cells #[.int .i64 a0_0, .slice A0_1 l0_1.length c0_1] 31 (0, 0)) (by (with_reducible repeat (first | refine blk_drewN ?_ _ | refine blk_drew ?_ | refine blk_alloc ?_ _)); refine blk_far ?_ NB948_964.out _; (with_reducible repeat (first | refine blk_drewN ?_ _ | refine blk_drew ?_ | refine blk_alloc ?_ _)); refine blk_far ?_ NB948_964.out _; (with_reducible repeat (first | refine blk_drewN ?_ _ | refine blk_drew ?_ | refine blk_alloc ?_ _)); exact BK948.out) hb); have n5_ := Aside0.mk (blk_below (g := gb964) (o := .cells #[.int .i64 t960, .slice Ao43 t961.length co43] 34 (0, 0)) (by (with_reducible repeat (first | refine blk_drewN ?_ _ | refine blk_drew ?_ | refine blk_alloc ?_ _)); refine blk_put (cs := #[.int .i64 t960, .slice none 0 0]) ?_ 1 _ rfl; (with_reducible repeat (first | refine blk_drewN ?_ _ | refine blk_drew ?_ | refine blk_alloc ?_ _)); refine blk_put (cs := #[.int .i64 0, .slice none 0 0]) ?_ 0 _ rfl; (with_reducible repeat (first | refine blk_drewN ?_ _ | refine blk_drew ?_ | refine blk_alloc ?_ _)); exact BK964.out) hb); have n6_ := Aside0.mk (below_step (by repeat (first | (with_reducible first | exact HB.out | apply below_alloc | apply pw_below_drewN | apply below_drew1 | refine below_set ?_ GE948.out | refine below_set ?_ GE964.out) | exact HB.out)) hb); clear HO954; clear HO957; clear HO963; clear BK948; clear BK964; clear HB; have HO954 := n0_; have HO957 := n1_; have HO963 := n2_; have HO967 := n3_; have BK948 := n4_; have BK964 := n5_; have HB := n6_; clear n0_ n1_ n2_ n3_ n4_ n5_ n6_; (try clear hb); (try clear hb2); (try clear hk); (try clear hi); (try clear ho0); have hcz45_0 : w44.cell? ⟨gb964, 0, none⟩ = some (.int .i64 t960) := (blk_cell BK964.out 0).trans rfl; have hcz45_1 : w44.cell? ⟨gb964, 1, none⟩ = some (.slice Ao43 t961.length co43) := (blk_cell BK964.out 1).trans rfl; have hfz45_0 := blk_frozen BK964.out 0; have hfz45_1 := blk_frozen BK964.out 1; obtain ⟨Ao46, co46, eo46⟩ := Kd.S_slice HO967.out; subst eo46) | ((with_reducible refine gate_callee (f := 47) rfl ?_); refine goesL_ (some 37) rfl rfl Try.func47 (by kernel_rfl) rfl #[.agg #[.int .i64 t960, .slice Ao43 t961.length co43], .slice Ao46 t965.length co46] rfl (by (try simp only [List.map_toArray, List.map_cons, List.map_nil]); first | done | rfl | (simp only [List.length_drop, List.length_take]; rfl)) ?_; (with_reducible refine (impl_CountCouncilWins.calls k t960 _ _ t961 _ _ t965 t968 t969 _ ?side1 ?side2 ?side3 ?side4 A19.out).mono ?_); (case side1 => repeat (first | exact (Kd.R_reads' HO963.out).2.2 | (with_reducible refine Kd.C_alloc ?_ _) | (with_reducible refine Kd.C_drewN ?_ _) | (with_reducible refine Kd.C_drew ?_))); (case side2 => exact (Kd.R_reads' HO963.out).2.1); (case side3 => repeat (first | exact (Kd.S_reads' HO967.out).2.2 | (with_reducible refine Kd.C_alloc ?_ _) | (with_reducible refine Kd.C_drewN ?_ _) | (with_reducible refine Kd.C_drew ?_))); (case side4 => exact (Kd.S_reads' HO967.out).2.1); rintro e w47 ⟨rfl, hb⟩; refine ⟨_, rfl, ?_⟩; have n0_ := Aside0.mk (Kd.R_below (by (with_reducible repeat (first | apply Kd.R_alloc | apply Kd.R_drewN | apply Kd.R_drew)); exact HO954.out) hb); have n1_ := Aside0.mk (Kd.S_below (by (with_reducible repeat (first | apply Kd.S_alloc | apply Kd.S_drewN | apply Kd.S_drew)); exact HO957.out) hb); have n2_ := Aside0.mk (Kd.R_below (by (with_reducible repeat (first | apply Kd.R_alloc | apply Kd.R_drewN | apply Kd.R_drew)); exact HO963.out) hb); have n3_ := Aside0.mk (Kd.S_below (by (with_reducible repeat (first | apply Kd.S_alloc | apply Kd.S_drewN | apply Kd.S_drew)); exact HO967.out) hb); have n4_ := Aside0.mk (blk_below (g := gb948) (o := .cells #[.int .i64 a0_0, .slice A0_1 l0_1.length c0_1] 31 (0, 0)) (by (with_reducible repeat (first | refine blk_drewN ?_ _ | refine blk_drew ?_ | refine blk_alloc ?_ _)); exact BK948.out) hb); have n5_ := Aside0.mk (blk_below (g := gb964) (o := .cells #[.int .i64 t960, .slice Ao43 t961.length co43] 34 (0, 0)) (by (with_reducible repeat (first | refine blk_drewN ?_ _ | refine blk_drew ?_ | refine blk_alloc ?_ _)); exact BK964.out) hb); have n6_ := Aside0.mk (below_step (by repeat (first | (with_reducible first | exact HB.out | apply below_alloc | apply pw_below_drewN | apply below_drew1 | refine below_set ?_ GE948.out | refine below_set ?_ GE964.out) | exact HB.out)) hb); clear HO954; clear HO957; clear HO963; clear HO967; clear BK948; clear BK964; clear HB; have HO954 := n0_; have HO957 := n1_; have HO963 := n2_; have HO967 := n3_; have BK948 := n4_; have BK964 := n5_; have HB := n6_; clear n0_ n1_ n2_ n3_ n4_ n5_ n6_; (try clear hb); (try clear hb2); (try clear hk); (try clear hi)))
              have n0_ := Aside0.mk (Kd.R_drew HO954.out)
              have n1_ := Aside0.mk (Kd.S_drew HO957.out)
              have n2_ := Aside0.mk (Kd.R_drew HO963.out)
              have n3_ := Aside0.mk (Kd.S_drew HO967.out)
              have n4_ := Aside0.mk (blk_drew BK948.out)
              have n5_ := Aside0.mk (blk_drew BK964.out)
              have n6_ := Aside0.mk (below_drew1 HB.out)
              clear HO954
              clear HO957
              clear HO963
              clear HO967
              clear BK948
              clear BK964
              clear HB
              have HO954 := n0_
              have HO957 := n1_
              have HO963 := n2_
              have HO967 := n3_
              have BK948 := n4_
              have BK964 := n5_
              have HB := n6_
              clear n0_ n1_ n2_ n3_ n4_ n5_ n6_
              refine start_ (n := 5) (S := fun w' => w'.cell? ⟨gb964, 0, none⟩ = some (.int .i64 t960) ∧ w'.cell? ⟨gb964, 1, none⟩ = some (.slice Ao43 t961.length co43) ∧ w'.cell? ⟨gb948, 0, none⟩ = some (.int .i64 a0_0) ∧ w'.cell? ⟨gb948, 1, none⟩ = some (.slice A0_1 l0_1.length c0_1)) (ds := []) #[false, false, false, false, false] (by kernel_rfl) rfl rfl ⟨(blk_cell BK964.out 0).trans rfl, (blk_cell BK964.out 1).trans rfl, (blk_cell BK948.out 0).trans rfl, (blk_cell BK948.out 1).trans rfl⟩ (fun hHeld => ?_)
              generalize w47.drew = w48 at HO954 HO957 HO963 HO967 BK948 BK964 HB hHeld ⊢
              refine take_ (i := 0) (N := some 48) (v := ?_) (a' := ?_) #[true, false, false, false, false] rfl rfl (by kernel_rfl) (fun _ _ _ h => h) (Or.inl ⟨by rfl, ?_⟩) hHeld ?_ ?_
              rotate_left
              · rintro w' ⟨s0, s1, s2, s3⟩
                go_simp
                with_reducible rfl
              rotate_left
              · simp only [Act.put, List.setIfInBounds_toArray, List.set_cons_zero, List.set_cons_succ, i64_w, i32_w]
                rfl
              refine take_ (i := 1) (N := some 49) (v := ?_) (a' := ?_) #[true, true, false, false, false] rfl rfl (by kernel_rfl) (fun _ _ _ h => h) (Or.inl ⟨by rfl, ?_⟩) hHeld ?_ ?_
              rotate_left
              · rintro w' ⟨s0, s1, s2, s3⟩
                go_simp
                with_reducible rfl
              rotate_left
              · simp only [Act.put, List.setIfInBounds_toArray, List.set_cons_zero, List.set_cons_succ, i64_w, i32_w]
                rfl
              refine one_ (i := 2) (N := some 50) #[true, true, true, false, false] rfl rfl (by kernel_rfl) (by decide) (fun K hK => ?_)
              refine goes_ Try.func21 (by kernel_rfl) rfl #[.agg #[.int .i64 a0_0, .slice A0_1 l0_1.length c0_1]] (by rfl) rfl rfl (by (try simp only [List.map_toArray, List.map_cons, List.map_nil]); first | done | rfl | (simp only [List.length_drop, List.length_take]; rfl)) ?_
              with_reducible refine (laws_toCommittee.calls k a0_0 _ _ l0_1 t970 t971 _ ?side1 ?side2 A22.out).mono ?_
              (case side1 => repeat (first | exact (Kd.C_below HR0_1.out HB.out) | (with_reducible refine Kd.C_alloc ?_ _) | (with_reducible refine Kd.C_drewN ?_ _) | (with_reducible refine Kd.C_drew ?_)))
              (case side2 => exact HC0_1.out)
              rintro e w49 ⟨v972, rfl, ho0, hb⟩
              refine ⟨_, rfl, ?_⟩
              have n0_ := Aside0.mk (Kd.R_elder' (by (with_reducible repeat (first | apply Kd.R_alloc | apply Kd.R_drewN | apply Kd.R_drew)); exact HO954.out) (Kd.R_base ho0) hb)
              have n1_ := Aside0.mk (Kd.S_elder' (by (with_reducible repeat (first | apply Kd.S_alloc | apply Kd.S_drewN | apply Kd.S_drew)); exact HO957.out) (Kd.R_base ho0) hb)
              have n2_ := Aside0.mk (Kd.R_elder' (by (with_reducible repeat (first | apply Kd.R_alloc | apply Kd.R_drewN | apply Kd.R_drew)); exact HO963.out) (Kd.R_base ho0) hb)
              have n3_ := Aside0.mk (Kd.S_elder' (by (with_reducible repeat (first | apply Kd.S_alloc | apply Kd.S_drewN | apply Kd.S_drew)); exact HO967.out) (Kd.R_base ho0) hb)
              have n4_ := Aside0.mk (Kd.R_lower (Kd.R_new' (Kd.R_new' ho0 (Kd.R_lt (by (with_reducible repeat (first | apply Kd.R_alloc | apply Kd.R_drewN | apply Kd.R_drew)); exact HO954.out))) (Kd.R_lt (by (with_reducible repeat (first | apply Kd.R_alloc | apply Kd.R_drewN | apply Kd.R_drew)); exact HO963.out))) (below_size (by repeat (first | (with_reducible first | exact HB.out | apply below_alloc | apply pw_below_drewN | apply below_drew1 | refine below_set ?_ GE948.out | refine below_set ?_ GE964.out) | exact HB.out))))
              have n5_ := Aside0.mk (blk_below (g := gb948) (o := .cells #[.int .i64 a0_0, .slice A0_1 l0_1.length c0_1] 31 (0, 0)) (by (with_reducible repeat (first | refine blk_drewN ?_ _ | refine blk_drew ?_ | refine blk_alloc ?_ _)); exact BK948.out) hb)
              have n6_ := Aside0.mk (blk_below (g := gb964) (o := .cells #[.int .i64 t960, .slice Ao43 t961.length co43] 34 (0, 0)) (by (with_reducible repeat (first | refine blk_drewN ?_ _ | refine blk_drew ?_ | refine blk_alloc ?_ _)); exact BK964.out) hb)
              have n7_ := Aside0.mk (below_step (by repeat (first | (with_reducible first | exact HB.out | apply below_alloc | apply pw_below_drewN | apply below_drew1 | refine below_set ?_ GE948.out | refine below_set ?_ GE964.out) | exact HB.out)) hb)
              clear HO954
              clear HO957
              clear HO963
              clear HO967
              clear BK948
              clear BK964
              clear HB
              have HO954 := n0_
              have HO957 := n1_
              have HO963 := n2_
              have HO967 := n3_
              have HO973 := n4_
              have BK948 := n5_
              have BK964 := n6_
              have HB := n7_
              clear n0_ n1_ n2_ n3_ n4_ n5_ n6_ n7_
              (try clear hb)
              (try clear hb2)
              (try clear hk)
              (try clear hi)
              (try clear ho0)
              obtain ⟨Ao50, co50, eo50⟩ := Kd.R_slice HO973.out
              (first | subst eo50 | (injection eo50 with f1_ f2_ f3_; have f4_ := f1_.symm; have f5_ := f3_.symm; clear f1_ f2_ f3_; subst f4_; subst f5_))
              refine hK.out _ _ ⟨(blk_cell BK964.out 0).trans rfl, (blk_cell BK964.out 1).trans rfl, (blk_cell BK948.out 0).trans rfl, (blk_cell BK948.out 1).trans rfl⟩ (fun hHeld => ?_)
              clear hK K
              refine norm_ (a' := ?_) ?_ ?_
              rotate_left
              · show Act.put _ (some 50) _ = _
                simp only [Act.put, List.setIfInBounds_toArray, List.set_cons_zero, List.set_cons_succ, i64_w, i32_w]
                rfl
              refine one_ (i := 3) (N := some 51) #[true, true, true, true, false] rfl rfl (by kernel_rfl) (by decide) (fun K hK => ?_)
              refine goes_ Try.func23 (by kernel_rfl) rfl #[.agg #[.int .i64 t960, .slice Ao43 t961.length co43], .agg #[.int .i64 t970, .slice Ao50 t971.length co50]] (by rfl) rfl rfl (by (try simp only [List.map_toArray, List.map_cons, List.map_nil]); first | done | rfl | (simp only [List.length_drop, List.length_take]; rfl)) ?_
              with_reducible refine (laws_eqCommittee.calls k t960 _ _ t961 t970 _ _ t971 true _ ?side1 ?side2 ?side3 ?side4 A23.out).mono ?_
              (case side1 => repeat (first | exact (Kd.R_reads' HO963.out).2.2 | (with_reducible refine Kd.C_alloc ?_ _) | (with_reducible refine Kd.C_drewN ?_ _) | (with_reducible refine Kd.C_drew ?_)))
              (case side2 => exact (Kd.R_reads' HO963.out).2.1)
              (case side3 => repeat (first | exact (Kd.R_reads' HO973.out).2.2 | (with_reducible refine Kd.C_alloc ?_ _) | (with_reducible refine Kd.C_drewN ?_ _) | (with_reducible refine Kd.C_drew ?_)))
              (case side4 => exact (Kd.R_reads' HO973.out).2.1)
              rintro e w51 ⟨rfl, hb⟩
              refine ⟨_, rfl, ?_⟩
              have n0_ := Aside0.mk (Kd.R_below (by (with_reducible repeat (first | apply Kd.R_alloc | apply Kd.R_drewN | apply Kd.R_drew)); exact HO954.out) hb)
              have n1_ := Aside0.mk (Kd.S_below (by (with_reducible repeat (first | apply Kd.S_alloc | apply Kd.S_drewN | apply Kd.S_drew)); exact HO957.out) hb)
              have n2_ := Aside0.mk (Kd.R_below (by (with_reducible repeat (first | apply Kd.R_alloc | apply Kd.R_drewN | apply Kd.R_drew)); exact HO963.out) hb)
              have n3_ := Aside0.mk (Kd.S_below (by (with_reducible repeat (first | apply Kd.S_alloc | apply Kd.S_drewN | apply Kd.S_drew)); exact HO967.out) hb)
              have n4_ := Aside0.mk (Kd.R_below (by (with_reducible repeat (first | apply Kd.R_alloc | apply Kd.R_drewN | apply Kd.R_drew)); exact HO973.out) hb)
              have n5_ := Aside0.mk (blk_below (g := gb948) (o := .cells #[.int .i64 a0_0, .slice A0_1 l0_1.length c0_1] 31 (0, 0)) (by (with_reducible repeat (first | refine blk_drewN ?_ _ | refine blk_drew ?_ | refine blk_alloc ?_ _)); exact BK948.out) hb)
              have n6_ := Aside0.mk (blk_below (g := gb964) (o := .cells #[.int .i64 t960, .slice Ao43 t961.length co43] 34 (0, 0)) (by (with_reducible repeat (first | refine blk_drewN ?_ _ | refine blk_drew ?_ | refine blk_alloc ?_ _)); exact BK964.out) hb)
              have n7_ := Aside0.mk (below_step (by repeat (first | (with_reducible first | exact HB.out | apply below_alloc | apply pw_below_drewN | apply below_drew1 | refine below_set ?_ GE948.out | refine below_set ?_ GE964.out) | exact HB.out)) hb)
              clear HO954
              clear HO957
              clear HO963
              clear HO967
              clear HO973
              clear BK948
              clear BK964
              clear HB
              have HO954 := n0_
              have HO957 := n1_
              have HO963 := n2_
              have HO967 := n3_
              have HO973 := n4_
              have BK948 := n5_
              have BK964 := n6_
              have HB := n7_
              clear n0_ n1_ n2_ n3_ n4_ n5_ n6_ n7_
              (try clear hb)
              (try clear hb2)
              (try clear hk)
              (try clear hi)
              refine hK.out _ _ ⟨(blk_cell BK964.out 0).trans rfl, (blk_cell BK964.out 1).trans rfl, (blk_cell BK948.out 0).trans rfl, (blk_cell BK948.out 1).trans rfl⟩ (fun hHeld => ?_)
              clear hK K
              refine norm_ (a' := ?_) ?_ ?_
              rotate_left
              · show Act.put _ (some 51) _ = _
                simp only [Act.put, List.setIfInBounds_toArray, List.set_cons_zero, List.set_cons_succ, i64_w, i32_w]
                rfl
              refine pure_ (i := 4) (N := some 52) (v := ?_) (a' := ?_) #[true, true, true, true, true] rfl rfl (by kernel_rfl) (fun _ _ _ h => h) (Or.inl ⟨by rfl, ?_⟩) ?_ ?_
              rotate_left
              · intro w'
                go_simp
                with_reducible rfl
              rotate_left
              · simp only [Act.put, List.setIfInBounds_toArray, List.set_cons_zero, List.set_cons_succ, i64_w, i32_w]
                rfl
              refine done_ (by kernel_rfl) ?_
              try go_wp2_with (first | ((with_reducible refine gate_callee (f := 16) rfl ?_); refine goesL_ (some 55) rfl rfl Try.func16 (by kernel_rfl) rfl #[.slice A1 l1.length c1] rfl (by (try simp only [List.map_toArray, List.map_cons, List.map_nil]); first | done | rfl | (simp only [List.length_drop, List.length_take]; rfl)) ?_; (with_reducible refine (laws_toCommitteeS.calls k _ _ l1 t975 _ ?side1 ?side2 A25.out).mono ?_); (case side1 => repeat (first | exact (Kd.C_below HR1.out HB.out) | (with_reducible refine Kd.C_alloc ?_ _) | (with_reducible refine Kd.C_drewN ?_ _) | (with_reducible refine Kd.C_drew ?_))); (case side2 => exact HC1.out); rintro e w52 ⟨v976, rfl, ho0, hb⟩; refine ⟨_, rfl, ?_⟩; have n0_ := Aside0.mk (Kd.R_below (by (with_reducible repeat (first | apply Kd.R_alloc | apply Kd.R_drewN | apply Kd.R_drew)); exact HO954.out) hb); have n1_ := Aside0.mk (Kd.S_elder' (by (with_reducible repeat (first | apply Kd.S_alloc | apply Kd.S_drewN | apply Kd.S_drew)); exact HO957.out) (Kd.S_base ho0) hb); have n2_ := Aside0.mk (Kd.R_below (by (with_reducible repeat (first | apply Kd.R_alloc | apply Kd.R_drewN | apply Kd.R_drew)); exact HO963.out) hb); have n3_ := Aside0.mk (Kd.S_elder' (by (with_reducible repeat (first | apply Kd.S_alloc | apply Kd.S_drewN | apply Kd.S_drew)); exact HO967.out) (Kd.S_base ho0) hb); have n4_ := Aside0.mk (Kd.R_below (by (with_reducible repeat (first | apply Kd.R_alloc | apply Kd.R_drewN | apply Kd.R_drew)); exact HO973.out) hb); have n5_ := Aside0.mk (Kd.S_lower (Kd.S_newB (Kd.S_new' (Kd.S_new' (Kd.S_new' (Kd.S_new' (Kd.S_new' ho0 (Kd.R_lt (by (with_reducible repeat (first | apply Kd.R_alloc | apply Kd.R_drewN | apply Kd.R_drew)); exact HO954.out))) (Kd.S_lt (by (with_reducible repeat (first | apply Kd.S_alloc | apply Kd.S_drewN | apply Kd.S_drew)); exact HO957.out))) (Kd.R_lt (by (with_reducible repeat (first | apply Kd.R_alloc | apply Kd.R_drewN | apply Kd.R_drew)); exact HO963.out))) (Kd.S_lt (by (with_reducible repeat (first | apply Kd.S_alloc | apply Kd.S_drewN | apply Kd.S_drew)); exact HO967.out))) (Kd.R_lt (by (with_reducible repeat (first | apply Kd.R_alloc | apply Kd.R_drewN | apply Kd.R_drew)); exact HO973.out))) (g := gb964) (o := .cells #[.int .i64 t960, .slice Ao43 t961.length co43] 34 (0, 0)) (by (with_reducible repeat (first | refine blk_drewN ?_ _ | refine blk_drew ?_ | refine blk_alloc ?_ _)); exact BK964.out)) (below_size (by repeat (first | (with_reducible first | exact HB.out | apply below_alloc | apply pw_below_drewN | apply below_drew1 | refine below_set ?_ GE948.out | refine below_set ?_ GE964.out) | exact HB.out)))); have n6_ := Aside0.mk (blk_below (g := gb948) (o := .cells #[.int .i64 a0_0, .slice A0_1 l0_1.length c0_1] 31 (0, 0)) (by (with_reducible repeat (first | refine blk_drewN ?_ _ | refine blk_drew ?_ | refine blk_alloc ?_ _)); exact BK948.out) hb); have n7_ := Aside0.mk (blk_below (g := gb964) (o := .cells #[.int .i64 t960, .slice Ao43 t961.length co43] 34 (0, 0)) (by (with_reducible repeat (first | refine blk_drewN ?_ _ | refine blk_drew ?_ | refine blk_alloc ?_ _)); exact BK964.out) hb); have n8_ := Aside0.mk (below_step (by repeat (first | (with_reducible first | exact HB.out | apply below_alloc | apply pw_below_drewN | apply below_drew1 | refine below_set ?_ GE948.out | refine below_set ?_ GE964.out) | exact HB.out)) hb); clear HO954; clear HO957; clear HO963; clear HO967; clear HO973; clear BK948; clear BK964; clear HB; have HO954 := n0_; have HO957 := n1_; have HO963 := n2_; have HO967 := n3_; have HO973 := n4_; have HO977 := n5_; have BK948 := n6_; have BK964 := n7_; have HB := n8_; clear n0_ n1_ n2_ n3_ n4_ n5_ n6_ n7_ n8_; (try clear hb); (try clear hb2); (try clear hk); (try clear hi); (try clear ho0); obtain ⟨Ao53, co53, eo53⟩ := Kd.S_slice HO977.out; subst eo53) | ((with_reducible refine gate_callee (f := 18) rfl ?_); refine goesL_ (some 56) rfl rfl Try.func18 (by kernel_rfl) rfl #[.slice Ao46 t965.length co46, .slice Ao53 t975.length co53] rfl (by (try simp only [List.map_toArray, List.map_cons, List.map_nil]); first | done | rfl | (simp only [List.length_drop, List.length_take]; rfl)) ?_; (with_reducible refine (laws_eqCommitteeS.calls k _ _ t965 _ _ t975 true _ ?side1 ?side2 ?side3 ?side4 A26.out).mono ?_); (case side1 => repeat (first | exact (Kd.S_reads' HO967.out).2.2 | (with_reducible refine Kd.C_alloc ?_ _) | (with_reducible refine Kd.C_drewN ?_ _) | (with_reducible refine Kd.C_drew ?_))); (case side2 => exact (Kd.S_reads' HO967.out).2.1); (case side3 => repeat (first | exact (Kd.S_reads' HO977.out).2.2 | (with_reducible refine Kd.C_alloc ?_ _) | (with_reducible refine Kd.C_drewN ?_ _) | (with_reducible refine Kd.C_drew ?_))); (case side4 => exact (Kd.S_reads' HO977.out).2.1); rintro e w54 ⟨rfl, hb⟩; refine ⟨_, rfl, ?_⟩; have n0_ := Aside0.mk (Kd.R_below (by (with_reducible repeat (first | apply Kd.R_alloc | apply Kd.R_drewN | apply Kd.R_drew)); exact HO954.out) hb); have n1_ := Aside0.mk (Kd.S_below (by (with_reducible repeat (first | apply Kd.S_alloc | apply Kd.S_drewN | apply Kd.S_drew)); exact HO957.out) hb); have n2_ := Aside0.mk (Kd.R_below (by (with_reducible repeat (first | apply Kd.R_alloc | apply Kd.R_drewN | apply Kd.R_drew)); exact HO963.out) hb); have n3_ := Aside0.mk (Kd.S_below (by (with_reducible repeat (first | apply Kd.S_alloc | apply Kd.S_drewN | apply Kd.S_drew)); exact HO967.out) hb); have n4_ := Aside0.mk (Kd.R_below (by (with_reducible repeat (first | apply Kd.R_alloc | apply Kd.R_drewN | apply Kd.R_drew)); exact HO973.out) hb); have n5_ := Aside0.mk (Kd.S_below (by (with_reducible repeat (first | apply Kd.S_alloc | apply Kd.S_drewN | apply Kd.S_drew)); exact HO977.out) hb); have n6_ := Aside0.mk (blk_below (g := gb948) (o := .cells #[.int .i64 a0_0, .slice A0_1 l0_1.length c0_1] 31 (0, 0)) (by (with_reducible repeat (first | refine blk_drewN ?_ _ | refine blk_drew ?_ | refine blk_alloc ?_ _)); exact BK948.out) hb); have n7_ := Aside0.mk (blk_below (g := gb964) (o := .cells #[.int .i64 t960, .slice Ao43 t961.length co43] 34 (0, 0)) (by (with_reducible repeat (first | refine blk_drewN ?_ _ | refine blk_drew ?_ | refine blk_alloc ?_ _)); exact BK964.out) hb); have n8_ := Aside0.mk (below_step (by repeat (first | (with_reducible first | exact HB.out | apply below_alloc | apply pw_below_drewN | apply below_drew1 | refine below_set ?_ GE948.out | refine below_set ?_ GE964.out) | exact HB.out)) hb); clear HO954; clear HO957; clear HO963; clear HO967; clear HO973; clear HO977; clear BK948; clear BK964; clear HB; have HO954 := n0_; have HO957 := n1_; have HO963 := n2_; have HO967 := n3_; have HO973 := n4_; have HO977 := n5_; have BK948 := n6_; have BK964 := n7_; have HB := n8_; clear n0_ n1_ n2_ n3_ n4_ n5_ n6_ n7_ n8_; (try clear hb); (try clear hb2); (try clear hk); (try clear hi)))
              go_ret
              exact ⟨by first | rfl | (simp [errW_none, errW_some] <;> rfl) | (simp [*, errW_none, errW_some] <;> rfl), by repeat (first | (with_reducible first | exact HB.out | apply below_alloc | apply pw_below_drewN | apply below_drew1 | refine below_set ?_ GE948.out | refine below_set ?_ GE964.out) | exact HB.out)⟩
            · replace c27 := Bool.eq_false_iff.mpr c27
              subst c27
              have H1 : (some false) = some r := by rw [if_neg (show ¬ (false = true) by decide)] at H; exact H
              clear H
              have H := H1
              clear H1
              exact absurd (H.trans (congrArg some hr_.out)) (by simp)
          · replace c24 := Bool.eq_false_iff.mpr c24
            subst c24
            have H1 : (some false) = some r := by rw [if_neg (show ¬ (false = true) by decide)] at H; exact H
            clear H
            have H := H1
            clear H1
            exact absurd (H.trans (congrArg some hr_.out)) (by simp)
      · rw [if_neg c20] at H
        have c20b0 : (t968 == t958) = false := beq_eq_false_iff_ne.mpr c20
        have c20b1 : (t968 != t958) = true := bne_iff_ne.mpr c20
        exact absurd (H.trans (congrArg some hr_.out)) (by simp)

end Go.Proofs.Ytghooagembinaaa.P
