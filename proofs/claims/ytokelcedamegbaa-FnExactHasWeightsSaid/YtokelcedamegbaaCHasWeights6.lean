/- Part 6 of the texts below the law FnExactHasWeights. Printed by this session's driver over the kit's printer, but for the hand contracts and the plain laws. -/
import Derived.Test.YtokelcedamegbaaCHasWeights1
import Derived.Test.YtokelcedamegbaaCHasWeights3
import Derived.Test.YtokelcedamegbaaCHasWeights4
set_option linter.unusedVariables false
set_option linter.unusedSimpArgs false
namespace Go.Proofs.Ytokelcedamegbaa.P
open Go.RowKit Go.Proofs.YtokelcedamegbaaW.PrintWords Go.Proofs.YtokelcedamegbaaW.PrintLast Go.Proofs.YtokelcedamegbaaW.PrintMore
attribute [local go_sem] max2_int min2_int max_two min_two max_three min_three max_four min_four   -- for this text's walks alone
set_option linter.unusedVariables false
set_option linter.unusedSimpArgs false

/-! ### spec_voSorted: function 143 -/
-- LEND 0 0
-- IMPORT B
-- IMPORT InsSort
-- IMPORT P_spec_voBefore
theorem spec_voSorted.at_ {α : Type} [Inhabited α] {enc : α → Value} {h1 : ∀ x, (enc x).oneCell' = true} {w : World} {A : Option Addr} {n : Nat} {xs : List α} (h : Kd.C (Kd.scalar enc h1) w A n xs) (i : Int) (h0 : 0 ≤ i) (hi : i < n) : ∃ ad, A = some ad ∧ w.cell? (ad.add i.toNat) = some (enc (rdOf default xs i)) :=
  ReadsOf.at_ (Kd.reads_of_C (enc := enc) (d := (default : α)) (h1 := h1) h) i h0 hi
mutual
def spec_voSorted.g0 {α : Type} [Inhabited α] (bf : α → α → Option Bool) : Nat → List α → List α → Int → Int → Option (List α)
  | 0, _, _, _, _ => none
  | k + 1, x3, x8, x9, x10 => if x10 < x9 then (if 0 ≤ x10 then (if x10 < (x8.length : Int) then (spec_voSorted.g1 bf k x3 (rdOf default x8 x10) 0 x8 x9 x10) else (none)) else (none)) else (some x3)
def spec_voSorted.g1 {α : Type} [Inhabited α] (bf : α → α → Option Bool) : Nat → List α → α → Int → List α → Int → Int → Option (List α)
  | 0, _, _, _, _, _, _ => none
  | k + 1, x3, x5, x6, x8, x9, x10 => if x6 < (x3.length : Int) then (if 0 ≤ x6 then ((bf (rdOf default x3 x6) x5).bind fun t745 => (if t745 = true then (spec_voSorted.g1 bf k x3 x5 (wrap64 (x6 + 1)) x8 x9 x10) else ((some (([] : List α) : List α)).bind fun y746 => (if x6 ≤ (x3.length : Int) then ((some (x3.take (x6 : Int).toNat : List α)).bind fun y749 => (if y746.length + y749.length < 5864062014805 then ((some (y746 ++ y749 : List α)).bind fun y753 => (if y753.length < 5864062014805 then ((some (y753 ++ [x5] : List α)).bind fun y756 => ((some (x3.drop (x6 : Int).toNat : List α)).bind fun y759 => (if y756.length + y759.length < 5864062014805 then (spec_voSorted.g0 bf k (y756 ++ y759) x8 x9 (wrap64 (x10 + 1))) else (none)))) else (none))) else (none))) else (none))))) else (none)) else ((some (([] : List α) : List α)).bind fun y766 => (if 0 ≤ x6 then (if x6 ≤ (x3.length : Int) then ((some (x3.take (x6 : Int).toNat : List α)).bind fun y769 => (if y766.length + y769.length < 5864062014805 then ((some (y766 ++ y769 : List α)).bind fun y773 => (if y773.length < 5864062014805 then ((some (y773 ++ [x5] : List α)).bind fun y776 => ((some (x3.drop (x6 : Int).toNat : List α)).bind fun y779 => (if y776.length + y779.length < 5864062014805 then (spec_voSorted.g0 bf k (y776 ++ y779) x8 x9 (wrap64 (x10 + 1))) else (none)))) else (none))) else (none))) else (none)) else (none)))
end
def spec_voSorted.gf {α : Type} [Inhabited α] (bf : α → α → Option Bool) (k : Nat) (l0 : List α) : Option (List α) := spec_voSorted.g0 bf k ([] : List α) l0 (l0.length : Int) 0
set_option maxHeartbeats 8000000 in
set_option maxRecDepth 100000 in
theorem spec_voSorted.callsG {α : Type} [Inhabited α] (sA : α → Option Addr) (sn sc : α → Nat) (bf : α → α → Option Bool) (k : Nat) (A0 : Option Addr) (c0 : Nat) (l0 : List α) (r : List α) (w : World)
    (hbf : ∀ (W : World) (x y : α) (b : Bool), bf x y = some b → Below w.heap.size w W → Calls Try.prog 120 #[.slice (sA x) (sn x) (sc x), .slice (sA y) (sn y) (sc y)] W fun e w' => e = .returned (.bool b) ∧ Drawn0 W w') (hr0 : Kd.C (Kd.scalar (fun x_ : α => Value.slice (sA x_) (sn x_) (sc x_)) (fun _ => rfl)) w A0 l0.length l0) (hc0 : l0.length ≤ c0) (h : spec_voSorted.gf bf k l0 = some r) :
    Calls Try.prog 143 #[.slice A0 l0.length c0] w fun e w' => ∃ v0_ : Value, e = .returned (v0_) ∧ Kd.R (Kd.scalar (fun x_ : α => Value.slice (sA x_) (sn x_) (sc x_)) (fun _ => rfl)) 40 w' w.heap.size (fun _ => True) v0_ r ∧ Below w.heap.size w w' := by
  have HR0 := Aside0.mk hr0
  have HC0 := Aside0.mk hc0
  have HBF := Aside0.mk hbf
  clear hbf
  clear hr0 hc0
  have HB := Aside0.mk (Below.refl w.heap.size w)
  have H : (spec_voSorted.g0 bf k ([] : List α) l0 (l0.length : Int) 0) = some r := h
  clear h
  have H' := Aside0.mk H
  clear H
  go_enter Try.func143, Try.ntmps143
  go_wp2
  go_loopg [3, 10] k (fun kq v3 v10 w' => ∃ (x3_1 : List α) (x10_1 : Int), v10 = .int .i64 x10_1 ∧ Aside0 (spec_voSorted.g0 bf kq x3_1 l0 (l0.length : Int) x10_1 = some r) ∧ Aside0 (kq ≤ k) ∧ Aside0 (Kd.R (Kd.scalar (fun x_ : α => Value.slice (sA x_) (sn x_) (sc x_)) (fun _ => rfl)) 40 w' w.heap.size (fun _ => True) v3 x3_1) ∧ Aside0 (Below w.heap.size w w'))
  case atStart => exact ⟨(([] : List α)), (0), (by first | rfl | (simp; done) | (simp [*]; done)), H', ⟨Nat.le_refl _⟩, ⟨by first | exact Kd.R_nil _ _ _ _ _ | exact Kd.N_nil _ _ _ _ _ | exact Kd.V_nil _ _ _ _ _ | exact Kd.Q_nil _ _ _ _ _ | exact Kd.S_nil _ _ _ _ _⟩, ⟨by repeat (first | (with_reducible first | exact HB.out | apply below_alloc | apply pw_below_drewN | apply below_drew1) | exact HB.out)⟩⟩
  case round =>
    clear H'
    try clear c1
    obtain ⟨x3_1, x10_1, rfl, HA, HK1, HO_3, HB⟩ := hrel
    cases gk with
    | zero => exact absurd HA.out (by simp [spec_voSorted.g0])
    | succ k1 =>
      have H := HA.out
      clear HA
      simp only [spec_voSorted.g0] at H
      by_cases c2 : x10_1 < (l0.length : Int)
      · rw [if_pos c2] at H
        have c2b0 : decide (x10_1 < (l0.length : Int)) = true := decide_eq_true c2
        clear c2
        by_cases c3 : 0 ≤ x10_1
        · rw [if_pos c3] at H
          have c3b0 : decide (0 ≤ x10_1) = true := decide_eq_true c3
          clear c3
          by_cases c4 : x10_1 < (l0.length : Int)
          · rw [if_pos c4] at H
            have c4b0 : decide (x10_1 < (l0.length : Int)) = true := decide_eq_true c4
            clear c4
            have H' := Aside0.mk H
            clear H
            have p743 : 0 ≤ (x10_1 : Int) := of_decide_eq_true (by first | (with_reducible assumption) | assumption)
            have q743 : x10_1 < (l0.length : Int) := of_decide_eq_true (by first | (with_reducible assumption) | assumption)
            obtain ⟨ad743, e743, hx743_0⟩ := spec_voSorted.at_ HR0.out x10_1 p743 q743
            cases e743
            replace hx743_0 := (HB.out.cell (World.block_lt_of_cell? w _ hx743_0)).trans hx743_0
            replace p743 := eq_true p743
            replace q743 := eq_true q743
            go_wp2
            go_loopg [6] k1 (fun kq v6 w' => ∃ (x6_2 : Int), v6 = .int .i64 x6_2 ∧ Aside0 (spec_voSorted.g1 bf kq x3_1 (rdOf default l0 x10_1) x6_2 l0 (l0.length : Int) x10_1 = some r) ∧ Aside0 (kq ≤ k1) ∧ Aside0 (Kd.R (Kd.scalar (fun x_ : α => Value.slice (sA x_) (sn x_) (sc x_)) (fun _ => rfl)) 40 w' w.heap.size (fun _ => True) u3 x3_1) ∧ Aside0 (Below w.heap.size w w'))
            case atStart => exact ⟨(0), (by first | rfl | (simp; done) | (simp [*]; done)), H', ⟨Nat.le_refl _⟩, ⟨by (with_reducible repeat (first | apply Kd.R_alloc | apply Kd.R_drewN | apply Kd.R_drew)); exact HO_3.out⟩, ⟨by repeat (first | (with_reducible first | exact HB.out | apply below_alloc | apply pw_below_drewN | apply below_drew1) | exact HB.out)⟩⟩
            case round =>
              clear H'
              try clear c1
              try clear c2
              try clear c2b0
              try clear p2
              try clear c3
              try clear c3b0
              try clear c4
              try clear c4b0
              try clear hx743_0
              try clear p743
              try clear q743
              obtain ⟨x6_2, rfl, HA, HK2, HO_3, HB⟩ := hrel
              cases gk with
              | zero => exact absurd HA.out (by simp [spec_voSorted.g1])
              | succ k2 =>
                have H := HA.out
                clear HA
                simp only [spec_voSorted.g1] at H
                by_cases c5 : x6_2 < (x3_1.length : Int)
                · rw [if_pos c5] at H
                  have c5b0 : decide (x6_2 < (x3_1.length : Int)) = true := decide_eq_true c5
                  clear c5
                  by_cases c6 : 0 ≤ x6_2
                  · rw [if_pos c6] at H
                    have c6b0 : decide (0 ≤ x6_2) = true := decide_eq_true c6
                    clear c6
                    replace H := Option.bind_eq_some_iff.mp H
                    obtain ⟨t745, A70, H⟩ := H
                    replace H : (if t745 = true then (spec_voSorted.g1 bf k2 x3_1 (rdOf default l0 x10_1) (wrap64 (x6_2 + 1)) l0 (l0.length : Int) x10_1) else ((some (([] : List α) : List α)).bind fun y746 => (if x6_2 ≤ (x3_1.length : Int) then ((some (x3_1.take (x6_2 : Int).toNat : List α)).bind fun y749 => (if y746.length + y749.length < 5864062014805 then ((some (y746 ++ y749 : List α)).bind fun y753 => (if y753.length < 5864062014805 then ((some (y753 ++ [(rdOf default l0 x10_1)] : List α)).bind fun y756 => ((some (x3_1.drop (x6_2 : Int).toNat : List α)).bind fun y759 => (if y756.length + y759.length < 5864062014805 then (spec_voSorted.g0 bf k2 (y756 ++ y759) l0 (l0.length : Int) (wrap64 (x10_1 + 1))) else (none)))) else (none))) else (none))) else (none)))) = some r := H
                    have A7 := Aside0.mk A70
                    clear A70
                    by_cases c8 : t745 = true
                    · subst c8
                      have H1 : (spec_voSorted.g1 bf k2 x3_1 (rdOf default l0 x10_1) (wrap64 (x6_2 + 1)) l0 (l0.length : Int) x10_1) = some r := by rw [if_pos rfl] at H; exact H
                      clear H
                      have H := H1
                      clear H1
                      have H' := Aside0.mk H
                      clear H
                      obtain ⟨Ao9, co9, eo9⟩ := Kd.R_slice HO_3.out
                      subst eo9
                      have p744 : 0 ≤ (x6_2 : Int) := of_decide_eq_true (by first | (with_reducible assumption) | assumption)
                      have q744 : x6_2 < (x3_1.length : Int) := of_decide_eq_true (by first | (with_reducible assumption) | assumption)
                      obtain ⟨ad744, e744, hx744_0⟩ := spec_voSorted.at_ (Kd.R_reads' HO_3.out).2.2 x6_2 p744 q744
                      cases e744
                      replace p744 := eq_true p744
                      replace q744 := eq_true q744
                      go_wp2_with (first | (go_at_call 120; (with_reducible refine (HBF.out _ (rdOf default x3_1 x6_2) (rdOf default l0 x10_1) true A7.out (by repeat (first | (with_reducible first | exact HB.out | apply below_alloc | apply pw_below_drewN | apply below_drew1) | exact HB.out))).mono ?_); rintro e w' ⟨rfl, ⟨nd, rfl⟩⟩))
                      go_roundg k2
                      case measure => have := HK1.out; have := HK2.out; omega
                      case rel => exact ⟨(wrap64 (x6_2 + 1)), (by first | rfl | (simp; done) | (simp [*]; done)), H', ⟨by have := HK1.out; have := HK2.out; omega⟩, ⟨by (with_reducible repeat (first | apply Kd.R_alloc | apply Kd.R_drewN | apply Kd.R_drew)); exact HO_3.out⟩, ⟨by repeat (first | (with_reducible first | exact HB.out | apply below_alloc | apply pw_below_drewN | apply below_drew1) | exact HB.out)⟩⟩
                    · replace c8 := Bool.eq_false_iff.mpr c8
                      subst c8
                      have H1 : ((some (([] : List α) : List α)).bind fun y746 => (if x6_2 ≤ (x3_1.length : Int) then ((some (x3_1.take (x6_2 : Int).toNat : List α)).bind fun y749 => (if y746.length + y749.length < 5864062014805 then ((some (y746 ++ y749 : List α)).bind fun y753 => (if y753.length < 5864062014805 then ((some (y753 ++ [(rdOf default l0 x10_1)] : List α)).bind fun y756 => ((some (x3_1.drop (x6_2 : Int).toNat : List α)).bind fun y759 => (if y756.length + y759.length < 5864062014805 then (spec_voSorted.g0 bf k2 (y756 ++ y759) l0 (l0.length : Int) (wrap64 (x10_1 + 1))) else (none)))) else (none))) else (none))) else (none))) = some r := by rw [if_neg (show ¬ (false = true) by decide)] at H; exact H
                      clear H
                      have H := H1
                      clear H1
                      obtain ⟨y746, hy746⟩ : ∃ y_ : List α, y_ = (([] : List α)) := ⟨_, rfl⟩
                      replace H : (if x6_2 ≤ (x3_1.length : Int) then ((some (x3_1.take (x6_2 : Int).toNat : List α)).bind fun y749 => (if y746.length + y749.length < 5864062014805 then ((some (y746 ++ y749 : List α)).bind fun y753 => (if y753.length < 5864062014805 then ((some (y753 ++ [(rdOf default l0 x10_1)] : List α)).bind fun y756 => ((some (x3_1.drop (x6_2 : Int).toNat : List α)).bind fun y759 => (if y756.length + y759.length < 5864062014805 then (spec_voSorted.g0 bf k2 (y756 ++ y759) l0 (l0.length : Int) (wrap64 (x10_1 + 1))) else (none)))) else (none))) else (none))) else (none)) = some r := by first | (rw [hy746]; with_reducible exact H) | (have H2_ := (Option.bind_some _ _).symm.trans H; rw [hy746]; with_reducible exact H2_) | (have H2_ := (Option.bind_some _ _).symm.trans H; with_reducible exact H2_) | with_reducible exact H | (rw [hy746]; exact H) | exact H
                      have Ny746 := Aside0.mk hy746
                      clear hy746
                      have c10b0 := eq_true (of_decide_eq_true (by first | (with_reducible assumption) | assumption) : 0 ≤ x6_2)
                      by_cases c11 : x6_2 ≤ (x3_1.length : Int)
                      · rw [if_pos c11] at H
                        have c11b0 := eq_true c11
                        have c11b1 : decide (x6_2 ≤ (x3_1.length : Int)) = true := decide_eq_true c11
                        clear c11
                        obtain ⟨y749, hy749⟩ : ∃ y_ : List α, y_ = (x3_1.take (x6_2 : Int).toNat) := ⟨_, rfl⟩
                        replace H : (if y746.length + y749.length < 5864062014805 then ((some (y746 ++ y749 : List α)).bind fun y753 => (if y753.length < 5864062014805 then ((some (y753 ++ [(rdOf default l0 x10_1)] : List α)).bind fun y756 => ((some (x3_1.drop (x6_2 : Int).toNat : List α)).bind fun y759 => (if y756.length + y759.length < 5864062014805 then (spec_voSorted.g0 bf k2 (y756 ++ y759) l0 (l0.length : Int) (wrap64 (x10_1 + 1))) else (none)))) else (none))) else (none)) = some r := by first | (rw [hy749]; with_reducible exact H) | (have H2_ := (Option.bind_some _ _).symm.trans H; rw [hy749]; with_reducible exact H2_) | (have H2_ := (Option.bind_some _ _).symm.trans H; with_reducible exact H2_) | with_reducible exact H | (rw [hy749]; exact H) | exact H
                        have Ny749 := Aside0.mk hy749
                        clear hy749
                        by_cases c12 : y746.length + y749.length < 5864062014805
                        · rw [if_pos c12] at H
                          have LMc12 := Aside0.mk c12
                          clear c12
                          obtain ⟨y753, hy753⟩ : ∃ y_ : List α, y_ = (y746 ++ y749) := ⟨_, rfl⟩
                          replace H : (if y753.length < 5864062014805 then ((some (y753 ++ [(rdOf default l0 x10_1)] : List α)).bind fun y756 => ((some (x3_1.drop (x6_2 : Int).toNat : List α)).bind fun y759 => (if y756.length + y759.length < 5864062014805 then (spec_voSorted.g0 bf k2 (y756 ++ y759) l0 (l0.length : Int) (wrap64 (x10_1 + 1))) else (none)))) else (none)) = some r := by first | (rw [hy753]; with_reducible exact H) | (have H2_ := (Option.bind_some _ _).symm.trans H; rw [hy753]; with_reducible exact H2_) | (have H2_ := (Option.bind_some _ _).symm.trans H; with_reducible exact H2_) | with_reducible exact H | (rw [hy753]; exact H) | exact H
                          have Ny753 := Aside0.mk hy753
                          clear hy753
                          by_cases c13 : y753.length < 5864062014805
                          · rw [if_pos c13] at H
                            have LMc13 := Aside0.mk c13
                            clear c13
                            obtain ⟨y756, hy756⟩ : ∃ y_ : List α, y_ = (y753 ++ [(rdOf default l0 x10_1)]) := ⟨_, rfl⟩
                            replace H : ((some (x3_1.drop (x6_2 : Int).toNat : List α)).bind fun y759 => (if y756.length + y759.length < 5864062014805 then (spec_voSorted.g0 bf k2 (y756 ++ y759) l0 (l0.length : Int) (wrap64 (x10_1 + 1))) else (none))) = some r := by first | (rw [hy756]; with_reducible exact H) | (have H2_ := (Option.bind_some _ _).symm.trans H; rw [hy756]; with_reducible exact H2_) | (have H2_ := (Option.bind_some _ _).symm.trans H; with_reducible exact H2_) | with_reducible exact H | (rw [hy756]; exact H) | exact H
                            have Ny756 := Aside0.mk hy756
                            clear hy756
                            have c14b0 := eq_true (of_decide_eq_true (by first | (with_reducible assumption) | assumption) : 0 ≤ x6_2)
                            have c15b0 := eq_true (of_decide_eq_true (by first | (with_reducible assumption) | assumption) : x6_2 ≤ (x3_1.length : Int))
                            obtain ⟨y759, hy759⟩ : ∃ y_ : List α, y_ = (x3_1.drop (x6_2 : Int).toNat) := ⟨_, rfl⟩
                            replace H : (if y756.length + y759.length < 5864062014805 then (spec_voSorted.g0 bf k2 (y756 ++ y759) l0 (l0.length : Int) (wrap64 (x10_1 + 1))) else (none)) = some r := by first | (rw [hy759]; with_reducible exact H) | (have H2_ := (Option.bind_some _ _).symm.trans H; rw [hy759]; with_reducible exact H2_) | (have H2_ := (Option.bind_some _ _).symm.trans H; with_reducible exact H2_) | with_reducible exact H | (rw [hy759]; exact H) | exact H
                            have Ny759 := Aside0.mk hy759
                            clear hy759
                            by_cases c16 : y756.length + y759.length < 5864062014805
                            · rw [if_pos c16] at H
                              have LMc16 := Aside0.mk c16
                              clear c16
                              obtain ⟨y763, hy763⟩ : ∃ y_ : List α, y_ = (y756 ++ y759) := ⟨_, rfl⟩
                              replace H : (spec_voSorted.g0 bf k2 y763 l0 (l0.length : Int) (wrap64 (x10_1 + 1))) = some r := by first | (rw [hy763]; with_reducible exact H) | (have H2_ := (Option.bind_some _ _).symm.trans H; rw [hy763]; with_reducible exact H2_) | (have H2_ := (Option.bind_some _ _).symm.trans H; with_reducible exact H2_) | with_reducible exact H | (rw [hy763]; exact H) | exact H
                              have Ny763 := Aside0.mk hy763
                              clear hy763
                              have H' := Aside0.mk H
                              clear H
                              obtain ⟨Ao17, co17, eo17⟩ := Kd.R_slice HO_3.out
                              subst eo17
                              have p744 : 0 ≤ (x6_2 : Int) := of_decide_eq_true (by first | (with_reducible assumption) | assumption)
                              have q744 : x6_2 < (x3_1.length : Int) := of_decide_eq_true (by first | (with_reducible assumption) | assumption)
                              obtain ⟨ad744, e744, hx744_0⟩ := spec_voSorted.at_ (Kd.R_reads' HO_3.out).2.2 x6_2 p744 q744
                              cases e744
                              replace p744 := eq_true p744
                              replace q744 := eq_true q744
                              go_wp2_with (first | (go_at_call 120; (with_reducible refine (HBF.out _ (rdOf default x3_1 x6_2) (rdOf default l0 x10_1) false A7.out (by repeat (first | (with_reducible first | exact HB.out | apply below_alloc | apply pw_below_drewN | apply below_drew1) | exact HB.out))).mono ?_); rintro e w' ⟨rfl, ⟨nd, rfl⟩⟩) | ((with_reducible refine gate_dst (N := 28) rfl ?_); refine Kd.R_lit (Kd.scalar (fun x_ : α => Value.slice (sA x_) (sn x_) (sc x_)) (fun _ => rfl)) _ 40 ?hg (N := 28) ?hd (xs := ([] : List α)) (inner := []) (ok := fun _ => True) (okp := fun _ => True) ?hr ?hp (fun _ hk => hk) trivial (Below.refl _ _) (Nat.le_refl _) (by simp) ?_; (case hd => rfl); (case hg => rfl); (case hr => first | (go_simp; done) | (go_simp; rfl)); (case hp => exact (Reps.none _ _)); intro v747 w18 ho19 hb hg_ hnew_; clear hg_ hnew_; (first | rw [← Ny746.out] at ho19 | (simp only [Int.reduceToNat] at ho19; rw [← Ny746.out] at ho19)); have n0_ := Aside0.mk (Kd.R_elder' (by (with_reducible repeat (first | apply Kd.R_alloc | apply Kd.R_drewN | apply Kd.R_drew)); exact HO_3.out) (Kd.R_base ho19) hb); have n1_ := Aside0.mk (Kd.R_lower (Kd.R_new' ho19 (Kd.R_lt (by (with_reducible repeat (first | apply Kd.R_alloc | apply Kd.R_drewN | apply Kd.R_drew)); exact HO_3.out))) (below_size (by repeat (first | (with_reducible first | exact HB.out | apply below_alloc | apply pw_below_drewN | apply below_drew1) | exact HB.out)))); have n2_ := Aside0.mk (below_step (by repeat (first | (with_reducible first | exact HB.out | apply below_alloc | apply pw_below_drewN | apply below_drew1) | exact HB.out)) hb); clear HO_3; clear HB; have HO_3 := n0_; have HO748 := n1_; have HB := n2_; clear n0_ n1_ n2_; clear hb ho19; have q20 : (x6_2 : Int) ≤ ((x3_1.length : Int) : Int) := of_decide_eq_true (by first | (with_reducible assumption) | assumption); obtain ⟨i020, hi020, _, hsz20, _⟩ := info_parts info40; have hroom20 : x3_1.length ≤ co17 := (Kd.R_reads' HO_3.out).2.1; have hC20 : Kd.C (Kd.scalar (fun x_ : α => Value.slice (sA x_) (sn x_) (sc x_)) (fun _ => rfl)) _ (some ad744) x3_1.length x3_1 := (Kd.R_reads' HO_3.out).2.2; have hcut20 := cut_to (P := Try.prog) 22 40 .i64 Try.underlying22 hi020 (some ad744) x3_1.length co17 x6_2 (of_decide_eq_true (by first | (with_reducible assumption) | assumption)) q20 hroom20; have hr20 := Kd.C_take (m := (x6_2 : Int).toNat) hC20 (by omega); have hy20 : y749.length = (x6_2 : Int).toNat := (by rw [Ny749.out, List.length_take]; omega); rw [← Ny749.out] at hr20; rw [← hy20] at hcut20; have HR752 := Aside0.mk hr20; have HC752 := Aside0.mk (show y749.length ≤ co17 from by omega); clear hr20 hC20 hroom20 hi020 hsz20; have KY20 := Aside0.mk hy20; clear hy20; have KL20 := Aside0.mk (show (x6_2 : Int).toNat ≤ x3_1.length from by omega); replace q20 := eq_true q20) | ((with_reducible refine gate_builtin (b := .append) (xs := #[.tmp 28, .tmp 31]) rfl ?_); at_builtin; refine Kd.R_append_rows (Kd.scalar (fun x_ : α => Value.slice (sA x_) (sn x_) (sc x_)) (fun _ => rfl)) (w0 := w) w.heap.size rfl (.tmp 28) (.tmp 31) 22 40 (.slice none 0 0) 24 rfl Try.underlying22 info40 rfl (Nat.lt_succ_self 0) (by omega) v747 y746 y749 _ _ _ (fun k_ => some k_ ≠ (.slice (some ad744) x3_1.length co17 : Value).ownBlock) (fun _ => False) rfl rfl ?aO ?aR (fun _ _ h => h) (fun _ h => h.elim) ?aF ?aB ?aS ?aL ?_; (case aR => repeat (first | exact (by repeat (first | (with_reducible exact HR752.out) | (with_reducible refine Kd.C_alloc ?_ _) | (with_reducible refine Kd.C_drewN ?_ _) | (with_reducible refine Kd.C_drew ?_) | exact HR752.out)) | (with_reducible refine Kd.C_alloc ?_ _) | (with_reducible refine Kd.C_drewN ?_ _) | (with_reducible refine Kd.C_drew ?_))); (case aB => exact (by repeat (first | (with_reducible first | exact HB.out | apply below_alloc | apply pw_below_drewN | apply below_drew1) | exact HB.out))); (case aF => exact (fun k_ hk => Kd.fresh' (Kd.R_lt (by (with_reducible repeat (first | apply Kd.R_alloc | apply Kd.R_drewN | apply Kd.R_drew)); exact HO_3.out)) k_ hk)); (case aO => exact (by (with_reducible repeat (first | apply Kd.R_alloc | apply Kd.R_drewN | apply Kd.R_drew)); exact Kd.R_mono HO748.out (fun _ hk => hk.2))); (case aS => exact (below_size (by repeat (first | (with_reducible first | exact HB.out | apply below_alloc | apply pw_below_drewN | apply below_drew1) | exact HB.out)))); (case aL => have := LMc12.out; omega); intro v754 w21 ho hb hg hat; rw [← Ny753.out] at ho; have n0_ := Aside0.mk (Kd.R_after (ok := (fun _ => True)) (by (with_reducible repeat (first | apply Kd.R_alloc | apply Kd.R_drewN | apply Kd.R_drew)); exact HO_3.out) hg hat); have n1_ := Aside0.mk (hb); have n2_ := Aside0.mk ((show Kd.C (Kd.scalar (fun x_ : α => Value.slice (sA x_) (sn x_) (sc x_)) (fun _ => rfl)) w21 (some ad744) y749.length y749 from by rw [Ny749.out]; exact Kd.C_take (m := (x6_2 : Int).toNat) ((Kd.R_reads' (Kd.R_after (ok := (fun _ => True)) (by (with_reducible repeat (first | apply Kd.R_alloc | apply Kd.R_drewN | apply Kd.R_drew)); exact HO_3.out) hg hat)).2.2) KL20.out)); have n3_ := Aside0.mk (ho); clear HO_3; clear HB; clear HR752; clear HO748; have HO_3 := n0_; have HB := n1_; have HR752 := n2_; have HO755 := n3_; clear n0_ n1_ n2_ n3_; clear ho hb hg hat) | ((with_reducible refine gate_builtin (b := .append) (xs := #[.tmp 32, .tmp 34]) rfl ?_); at_builtin; refine Kd.R_append (Kd.scalar (fun x_ : α => Value.slice (sA x_) (sn x_) (sc x_)) (fun _ => rfl)) (w0 := w) w.heap.size rfl (.tmp 32) (.tmp 34) 22 40 (.slice none 0 0) 24 rfl Try.underlying22 info40 rfl (Nat.lt_succ_self 0) (by omega) v754 y753 (rdOf default l0 x10_1) [.slice (sA (rdOf default l0 x10_1)) (sn (rdOf default l0 x10_1)) (sc (rdOf default l0 x10_1))] (fun k_ => some k_ ≠ (.slice (some ad744) x3_1.length co17 : Value).ownBlock) (fun _ => False) rfl rfl ?aP (fun _ hk => hk.elim) ?aF ?aO ?aB ?aS ?aL ?_; (case aP => exact rfl); (case aB => exact (by repeat (first | (with_reducible first | exact HB.out | apply below_alloc | apply pw_below_drewN | apply below_drew1) | exact HB.out))); (case aF => exact (fun k_ hk => Kd.fresh' (Kd.R_lt (by (with_reducible repeat (first | apply Kd.R_alloc | apply Kd.R_drewN | apply Kd.R_drew)); exact HO_3.out)) k_ hk)); (case aO => exact (by (with_reducible repeat (first | apply Kd.R_alloc | apply Kd.R_drewN | apply Kd.R_drew)); exact HO755.out)); (case aS => exact (below_size (by repeat (first | (with_reducible first | exact HB.out | apply below_alloc | apply pw_below_drewN | apply below_drew1) | exact HB.out)))); (case aL => have := LMc13.out; omega); intro v757 w22 ho hb hg hat; rw [← Ny756.out] at ho; have n0_ := Aside0.mk (Kd.R_after (ok := (fun _ => True)) (by (with_reducible repeat (first | apply Kd.R_alloc | apply Kd.R_drewN | apply Kd.R_drew)); exact HO_3.out) hg hat); have n1_ := Aside0.mk (hb); have n2_ := Aside0.mk ((show Kd.C (Kd.scalar (fun x_ : α => Value.slice (sA x_) (sn x_) (sc x_)) (fun _ => rfl)) w22 (some ad744) y749.length y749 from by rw [Ny749.out]; exact Kd.C_take (m := (x6_2 : Int).toNat) ((Kd.R_reads' (Kd.R_after (ok := (fun _ => True)) (by (with_reducible repeat (first | apply Kd.R_alloc | apply Kd.R_drewN | apply Kd.R_drew)); exact HO_3.out) hg hat)).2.2) KL20.out)); have n3_ := Aside0.mk (ho); clear HO_3; clear HB; clear HR752; clear HO755; have HO_3 := n0_; have HB := n1_; have HR752 := n2_; have HO758 := n3_; clear n0_ n1_ n2_ n3_; clear ho hb hg hat; have q23 : (x6_2 : Int) ≤ ((x3_1.length : Int) : Int) := of_decide_eq_true (by first | (with_reducible assumption) | assumption); obtain ⟨i023, hi023, _, hsz23, _⟩ := info_parts info40; have hroom23 : x3_1.length ≤ co17 := (Kd.R_reads' HO_3.out).2.1; have hC23 : Kd.C (Kd.scalar (fun x_ : α => Value.slice (sA x_) (sn x_) (sc x_)) (fun _ => rfl)) _ (some ad744) x3_1.length x3_1 := (Kd.R_reads' HO_3.out).2.2; have q023 : (0 : Int) ≤ (x6_2 : Int) := of_decide_eq_true (by first | (with_reducible assumption) | assumption); have hcut23 := cut_from (P := Try.prog) 22 40 .i64 Try.underlying22 hi023 1 hsz23 (some ad744) x3_1.length co17 x6_2 q023 q23; have hr23 := Kd.C_drop (m := (x6_2 : Int).toNat) (c := co17) hC23 (by omega) hroom23; obtain ⟨A23, hA23⟩ : ∃ A1, A1 = (if co17 = (x6_2 : Int).toNat then (some ad744) else ((some ad744) : Option Addr).map (·.add ((x6_2 : Int).toNat * 1))) := ⟨_, rfl⟩; obtain ⟨c23, hc23⟩ : ∃ c1, c1 = co17 - (x6_2 : Int).toNat := ⟨_, rfl⟩; have hy23 : y759.length = x3_1.length - (x6_2 : Int).toNat := (by rw [Ny759.out, List.length_drop] <;> omega); rw [show (x3_1).drop (x6_2 : Int).toNat = y759 from Ny759.out.symm] at hr23; replace hr23 : Kd.C (Kd.scalar (fun x_ : α => Value.slice (sA x_) (sn x_) (sc x_)) (fun _ => rfl)) _ A23 y759.length y759 := (by rw [hA23]; exact hr23); rw [← hy23, ← hA23, ← hc23] at hcut23; have HR762 := Aside0.mk hr23; have HC762 := Aside0.mk (show y759.length ≤ c23 from by rw [hy23, hc23]; exact Nat.sub_le_sub_right hroom23 _); clear hr23 hC23 hroom23 hi023 hsz23 hc23; have KY23 := Aside0.mk hy23; have KA23 := Aside0.mk hA23; clear hy23 hA23; have KL23 := Aside0.mk (show (x6_2 : Int).toNat ≤ x3_1.length from by omega); replace q23 := eq_true q23) | ((with_reducible refine gate_builtin (b := .append) (xs := #[.tmp 36, .tmp 39]) rfl ?_); at_builtin; refine Kd.R_append_rows (Kd.scalar (fun x_ : α => Value.slice (sA x_) (sn x_) (sc x_)) (fun _ => rfl)) (w0 := w) w.heap.size rfl (.tmp 36) (.tmp 39) 22 40 (.slice none 0 0) 24 rfl Try.underlying22 info40 rfl (Nat.lt_succ_self 0) (by omega) v757 y756 y759 _ _ _ (fun k_ => some k_ ≠ (.slice (some ad744) x3_1.length co17 : Value).ownBlock) (fun _ => False) rfl rfl ?aO ?aR (fun _ _ h => h) (fun _ h => h.elim) ?aF ?aB ?aS ?aL ?_; (case aR => repeat (first | exact (by repeat (first | (with_reducible exact HR762.out) | (with_reducible refine Kd.C_alloc ?_ _) | (with_reducible refine Kd.C_drewN ?_ _) | (with_reducible refine Kd.C_drew ?_) | exact HR762.out)) | (with_reducible refine Kd.C_alloc ?_ _) | (with_reducible refine Kd.C_drewN ?_ _) | (with_reducible refine Kd.C_drew ?_))); (case aB => exact (by repeat (first | (with_reducible first | exact HB.out | apply below_alloc | apply pw_below_drewN | apply below_drew1) | exact HB.out))); (case aF => exact (fun k_ hk => Kd.fresh' (Kd.R_lt (by (with_reducible repeat (first | apply Kd.R_alloc | apply Kd.R_drewN | apply Kd.R_drew)); exact HO_3.out)) k_ hk)); (case aO => exact (by (with_reducible repeat (first | apply Kd.R_alloc | apply Kd.R_drewN | apply Kd.R_drew)); exact HO758.out)); (case aS => exact (below_size (by repeat (first | (with_reducible first | exact HB.out | apply below_alloc | apply pw_below_drewN | apply below_drew1) | exact HB.out)))); (case aL => have := LMc16.out; omega); intro v764 w24 ho hb hg hat; rw [← Ny763.out] at ho; have n0_ := Aside0.mk (Kd.R_after (ok := (fun _ => True)) (by (with_reducible repeat (first | apply Kd.R_alloc | apply Kd.R_drewN | apply Kd.R_drew)); exact HO_3.out) hg hat); have n1_ := Aside0.mk (hb); have n2_ := Aside0.mk ((show Kd.C (Kd.scalar (fun x_ : α => Value.slice (sA x_) (sn x_) (sc x_)) (fun _ => rfl)) w24 (some ad744) y749.length y749 from by rw [Ny749.out]; exact Kd.C_take (m := (x6_2 : Int).toNat) ((Kd.R_reads' (Kd.R_after (ok := (fun _ => True)) (by (with_reducible repeat (first | apply Kd.R_alloc | apply Kd.R_drewN | apply Kd.R_drew)); exact HO_3.out) hg hat)).2.2) KL20.out)); have n3_ := Aside0.mk ((show Kd.C (Kd.scalar (fun x_ : α => Value.slice (sA x_) (sn x_) (sc x_)) (fun _ => rfl)) w24 A23 y759.length y759 from by rw [Ny759.out, KA23.out]; exact Kd.C_drop (m := (x6_2 : Int).toNat) (c := co17) ((Kd.R_reads' (Kd.R_after (ok := (fun _ => True)) (by (with_reducible repeat (first | apply Kd.R_alloc | apply Kd.R_drewN | apply Kd.R_drew)); exact HO_3.out) hg hat)).2.2) KL23.out ((Kd.R_reads' (Kd.R_after (ok := (fun _ => True)) (by (with_reducible repeat (first | apply Kd.R_alloc | apply Kd.R_drewN | apply Kd.R_drew)); exact HO_3.out) hg hat)).2.1))); have n4_ := Aside0.mk (ho); clear HO_3; clear HB; clear HR752; clear HR762; clear HO758; have HO_3 := n0_; have HB := n1_; have HR752 := n2_; have HR762 := n3_; have HO765 := n4_; clear n0_ n1_ n2_ n3_ n4_; clear ho hb hg hat))
                              go_roundg k2
                              case measure => have := HK1.out; have := HK2.out; omega
                              case rel => exact ⟨(y763), (wrap64 (x10_1 + 1)), (by first | rfl | (simp; done) | (simp [*]; done)), H', ⟨by have := HK1.out; have := HK2.out; omega⟩, ⟨by (with_reducible repeat (first | apply Kd.R_alloc | apply Kd.R_drewN | apply Kd.R_drew)); exact Kd.R_mono HO765.out (fun _ hk => trivial)⟩, ⟨by repeat (first | (with_reducible first | exact HB.out | apply below_alloc | apply pw_below_drewN | apply below_drew1) | exact HB.out)⟩⟩
                            · rw [if_neg c16] at H
                              exact absurd H (by simp)
                          · rw [if_neg c13] at H
                            exact absurd H (by simp)
                        · rw [if_neg c12] at H
                          exact absurd H (by simp)
                      · rw [if_neg c11] at H
                        exact absurd H (by simp)
                  · rw [if_neg c6] at H
                    exact absurd H (by simp)
                · rw [if_neg c5] at H
                  have c5b0 : decide (x6_2 < (x3_1.length : Int)) = false := decide_eq_false c5
                  clear c5
                  obtain ⟨y766, hy766⟩ : ∃ y_ : List α, y_ = (([] : List α)) := ⟨_, rfl⟩
                  replace H : (if 0 ≤ x6_2 then (if x6_2 ≤ (x3_1.length : Int) then ((some (x3_1.take (x6_2 : Int).toNat : List α)).bind fun y769 => (if y766.length + y769.length < 5864062014805 then ((some (y766 ++ y769 : List α)).bind fun y773 => (if y773.length < 5864062014805 then ((some (y773 ++ [(rdOf default l0 x10_1)] : List α)).bind fun y776 => ((some (x3_1.drop (x6_2 : Int).toNat : List α)).bind fun y779 => (if y776.length + y779.length < 5864062014805 then (spec_voSorted.g0 bf k2 (y776 ++ y779) l0 (l0.length : Int) (wrap64 (x10_1 + 1))) else (none)))) else (none))) else (none))) else (none)) else (none)) = some r := by first | (rw [hy766]; with_reducible exact H) | (have H2_ := (Option.bind_some _ _).symm.trans H; rw [hy766]; with_reducible exact H2_) | (have H2_ := (Option.bind_some _ _).symm.trans H; with_reducible exact H2_) | with_reducible exact H | (rw [hy766]; exact H) | exact H
                  have Ny766 := Aside0.mk hy766
                  clear hy766
                  by_cases c25 : 0 ≤ x6_2
                  · rw [if_pos c25] at H
                    have c25b0 := eq_true c25
                    have c25b1 : decide (0 ≤ x6_2) = true := decide_eq_true c25
                    clear c25
                    by_cases c26 : x6_2 ≤ (x3_1.length : Int)
                    · rw [if_pos c26] at H
                      have c26b0 := eq_true c26
                      have c26b1 : decide (x6_2 ≤ (x3_1.length : Int)) = true := decide_eq_true c26
                      clear c26
                      obtain ⟨y769, hy769⟩ : ∃ y_ : List α, y_ = (x3_1.take (x6_2 : Int).toNat) := ⟨_, rfl⟩
                      replace H : (if y766.length + y769.length < 5864062014805 then ((some (y766 ++ y769 : List α)).bind fun y773 => (if y773.length < 5864062014805 then ((some (y773 ++ [(rdOf default l0 x10_1)] : List α)).bind fun y776 => ((some (x3_1.drop (x6_2 : Int).toNat : List α)).bind fun y779 => (if y776.length + y779.length < 5864062014805 then (spec_voSorted.g0 bf k2 (y776 ++ y779) l0 (l0.length : Int) (wrap64 (x10_1 + 1))) else (none)))) else (none))) else (none)) = some r := by first | (rw [hy769]; with_reducible exact H) | (have H2_ := (Option.bind_some _ _).symm.trans H; rw [hy769]; with_reducible exact H2_) | (have H2_ := (Option.bind_some _ _).symm.trans H; with_reducible exact H2_) | with_reducible exact H | (rw [hy769]; exact H) | exact H
                      have Ny769 := Aside0.mk hy769
                      clear hy769
                      by_cases c27 : y766.length + y769.length < 5864062014805
                      · rw [if_pos c27] at H
                        have LMc27 := Aside0.mk c27
                        clear c27
                        obtain ⟨y773, hy773⟩ : ∃ y_ : List α, y_ = (y766 ++ y769) := ⟨_, rfl⟩
                        replace H : (if y773.length < 5864062014805 then ((some (y773 ++ [(rdOf default l0 x10_1)] : List α)).bind fun y776 => ((some (x3_1.drop (x6_2 : Int).toNat : List α)).bind fun y779 => (if y776.length + y779.length < 5864062014805 then (spec_voSorted.g0 bf k2 (y776 ++ y779) l0 (l0.length : Int) (wrap64 (x10_1 + 1))) else (none)))) else (none)) = some r := by first | (rw [hy773]; with_reducible exact H) | (have H2_ := (Option.bind_some _ _).symm.trans H; rw [hy773]; with_reducible exact H2_) | (have H2_ := (Option.bind_some _ _).symm.trans H; with_reducible exact H2_) | with_reducible exact H | (rw [hy773]; exact H) | exact H
                        have Ny773 := Aside0.mk hy773
                        clear hy773
                        by_cases c28 : y773.length < 5864062014805
                        · rw [if_pos c28] at H
                          have LMc28 := Aside0.mk c28
                          clear c28
                          obtain ⟨y776, hy776⟩ : ∃ y_ : List α, y_ = (y773 ++ [(rdOf default l0 x10_1)]) := ⟨_, rfl⟩
                          replace H : ((some (x3_1.drop (x6_2 : Int).toNat : List α)).bind fun y779 => (if y776.length + y779.length < 5864062014805 then (spec_voSorted.g0 bf k2 (y776 ++ y779) l0 (l0.length : Int) (wrap64 (x10_1 + 1))) else (none))) = some r := by first | (rw [hy776]; with_reducible exact H) | (have H2_ := (Option.bind_some _ _).symm.trans H; rw [hy776]; with_reducible exact H2_) | (have H2_ := (Option.bind_some _ _).symm.trans H; with_reducible exact H2_) | with_reducible exact H | (rw [hy776]; exact H) | exact H
                          have Ny776 := Aside0.mk hy776
                          clear hy776
                          have c29b0 := eq_true (of_decide_eq_true (by first | (with_reducible assumption) | assumption) : 0 ≤ x6_2)
                          have c30b0 := eq_true (of_decide_eq_true (by first | (with_reducible assumption) | assumption) : x6_2 ≤ (x3_1.length : Int))
                          obtain ⟨y779, hy779⟩ : ∃ y_ : List α, y_ = (x3_1.drop (x6_2 : Int).toNat) := ⟨_, rfl⟩
                          replace H : (if y776.length + y779.length < 5864062014805 then (spec_voSorted.g0 bf k2 (y776 ++ y779) l0 (l0.length : Int) (wrap64 (x10_1 + 1))) else (none)) = some r := by first | (rw [hy779]; with_reducible exact H) | (have H2_ := (Option.bind_some _ _).symm.trans H; rw [hy779]; with_reducible exact H2_) | (have H2_ := (Option.bind_some _ _).symm.trans H; with_reducible exact H2_) | with_reducible exact H | (rw [hy779]; exact H) | exact H
                          have Ny779 := Aside0.mk hy779
                          clear hy779
                          by_cases c31 : y776.length + y779.length < 5864062014805
                          · rw [if_pos c31] at H
                            have LMc31 := Aside0.mk c31
                            clear c31
                            obtain ⟨y783, hy783⟩ : ∃ y_ : List α, y_ = (y776 ++ y779) := ⟨_, rfl⟩
                            replace H : (spec_voSorted.g0 bf k2 y783 l0 (l0.length : Int) (wrap64 (x10_1 + 1))) = some r := by first | (rw [hy783]; with_reducible exact H) | (have H2_ := (Option.bind_some _ _).symm.trans H; rw [hy783]; with_reducible exact H2_) | (have H2_ := (Option.bind_some _ _).symm.trans H; with_reducible exact H2_) | with_reducible exact H | (rw [hy783]; exact H) | exact H
                            have Ny783 := Aside0.mk hy783
                            clear hy783
                            have H' := Aside0.mk H
                            clear H
                            obtain ⟨Ao32, co32, eo32⟩ := Kd.R_slice HO_3.out
                            subst eo32
                            go_wp2_with (first | ((with_reducible refine gate_dst (N := 28) rfl ?_); refine Kd.R_lit (Kd.scalar (fun x_ : α => Value.slice (sA x_) (sn x_) (sc x_)) (fun _ => rfl)) _ 40 ?hg (N := 28) ?hd (xs := ([] : List α)) (inner := []) (ok := fun _ => True) (okp := fun _ => True) ?hr ?hp (fun _ hk => hk) trivial (Below.refl _ _) (Nat.le_refl _) (by simp) ?_; (case hd => rfl); (case hg => rfl); (case hr => first | (go_simp; done) | (go_simp; rfl)); (case hp => exact (Reps.none _ _)); intro v767 w33 ho34 hb hg_ hnew_; clear hg_ hnew_; (first | rw [← Ny766.out] at ho34 | (simp only [Int.reduceToNat] at ho34; rw [← Ny766.out] at ho34)); have n0_ := Aside0.mk (Kd.R_elder' (by (with_reducible repeat (first | apply Kd.R_alloc | apply Kd.R_drewN | apply Kd.R_drew)); exact HO_3.out) (Kd.R_base ho34) hb); have n1_ := Aside0.mk (Kd.R_lower (Kd.R_new' ho34 (Kd.R_lt (by (with_reducible repeat (first | apply Kd.R_alloc | apply Kd.R_drewN | apply Kd.R_drew)); exact HO_3.out))) (below_size (by repeat (first | (with_reducible first | exact HB.out | apply below_alloc | apply pw_below_drewN | apply below_drew1) | exact HB.out)))); have n2_ := Aside0.mk (below_step (by repeat (first | (with_reducible first | exact HB.out | apply below_alloc | apply pw_below_drewN | apply below_drew1) | exact HB.out)) hb); clear HO_3; clear HB; have HO_3 := n0_; have HO768 := n1_; have HB := n2_; clear n0_ n1_ n2_; clear hb ho34; have q35 : (x6_2 : Int) ≤ ((x3_1.length : Int) : Int) := of_decide_eq_true (by first | (with_reducible assumption) | assumption); obtain ⟨i035, hi035, _, hsz35, _⟩ := info_parts info40; have hroom35 : x3_1.length ≤ co32 := (Kd.R_reads' HO_3.out).2.1; have hC35 : Kd.C (Kd.scalar (fun x_ : α => Value.slice (sA x_) (sn x_) (sc x_)) (fun _ => rfl)) _ Ao32 x3_1.length x3_1 := (Kd.R_reads' HO_3.out).2.2; have hcut35 := cut_to (P := Try.prog) 22 40 .i64 Try.underlying22 hi035 Ao32 x3_1.length co32 x6_2 (of_decide_eq_true (by first | (with_reducible assumption) | assumption)) q35 hroom35; have hr35 := Kd.C_take (m := (x6_2 : Int).toNat) hC35 (by omega); have hy35 : y769.length = (x6_2 : Int).toNat := (by rw [Ny769.out, List.length_take]; omega); rw [← Ny769.out] at hr35; rw [← hy35] at hcut35; have HR772 := Aside0.mk hr35; have HC772 := Aside0.mk (show y769.length ≤ co32 from by omega); clear hr35 hC35 hroom35 hi035 hsz35; have KY35 := Aside0.mk hy35; clear hy35; have KL35 := Aside0.mk (show (x6_2 : Int).toNat ≤ x3_1.length from by omega); replace q35 := eq_true q35) | ((with_reducible refine gate_builtin (b := .append) (xs := #[.tmp 28, .tmp 31]) rfl ?_); at_builtin; refine Kd.R_append_rows (Kd.scalar (fun x_ : α => Value.slice (sA x_) (sn x_) (sc x_)) (fun _ => rfl)) (w0 := w) w.heap.size rfl (.tmp 28) (.tmp 31) 22 40 (.slice none 0 0) 24 rfl Try.underlying22 info40 rfl (Nat.lt_succ_self 0) (by omega) v767 y766 y769 _ _ _ (fun k_ => some k_ ≠ (.slice Ao32 x3_1.length co32 : Value).ownBlock) (fun _ => False) rfl rfl ?aO ?aR (fun _ _ h => h) (fun _ h => h.elim) ?aF ?aB ?aS ?aL ?_; (case aR => repeat (first | exact (by repeat (first | (with_reducible exact HR772.out) | (with_reducible refine Kd.C_alloc ?_ _) | (with_reducible refine Kd.C_drewN ?_ _) | (with_reducible refine Kd.C_drew ?_) | exact HR772.out)) | (with_reducible refine Kd.C_alloc ?_ _) | (with_reducible refine Kd.C_drewN ?_ _) | (with_reducible refine Kd.C_drew ?_))); (case aB => exact (by repeat (first | (with_reducible first | exact HB.out | apply below_alloc | apply pw_below_drewN | apply below_drew1) | exact HB.out))); (case aF => exact (fun k_ hk => Kd.fresh' (Kd.R_lt (by (with_reducible repeat (first | apply Kd.R_alloc | apply Kd.R_drewN | apply Kd.R_drew)); exact HO_3.out)) k_ hk)); (case aO => exact (by (with_reducible repeat (first | apply Kd.R_alloc | apply Kd.R_drewN | apply Kd.R_drew)); exact Kd.R_mono HO768.out (fun _ hk => hk.2))); (case aS => exact (below_size (by repeat (first | (with_reducible first | exact HB.out | apply below_alloc | apply pw_below_drewN | apply below_drew1) | exact HB.out)))); (case aL => have := LMc27.out; omega); intro v774 w36 ho hb hg hat; rw [← Ny773.out] at ho; have n0_ := Aside0.mk (Kd.R_after (ok := (fun _ => True)) (by (with_reducible repeat (first | apply Kd.R_alloc | apply Kd.R_drewN | apply Kd.R_drew)); exact HO_3.out) hg hat); have n1_ := Aside0.mk (hb); have n2_ := Aside0.mk ((show Kd.C (Kd.scalar (fun x_ : α => Value.slice (sA x_) (sn x_) (sc x_)) (fun _ => rfl)) w36 Ao32 y769.length y769 from by rw [Ny769.out]; exact Kd.C_take (m := (x6_2 : Int).toNat) ((Kd.R_reads' (Kd.R_after (ok := (fun _ => True)) (by (with_reducible repeat (first | apply Kd.R_alloc | apply Kd.R_drewN | apply Kd.R_drew)); exact HO_3.out) hg hat)).2.2) KL35.out)); have n3_ := Aside0.mk (ho); clear HO_3; clear HB; clear HR772; clear HO768; have HO_3 := n0_; have HB := n1_; have HR772 := n2_; have HO775 := n3_; clear n0_ n1_ n2_ n3_; clear ho hb hg hat) | ((with_reducible refine gate_builtin (b := .append) (xs := #[.tmp 32, .tmp 34]) rfl ?_); at_builtin; refine Kd.R_append (Kd.scalar (fun x_ : α => Value.slice (sA x_) (sn x_) (sc x_)) (fun _ => rfl)) (w0 := w) w.heap.size rfl (.tmp 32) (.tmp 34) 22 40 (.slice none 0 0) 24 rfl Try.underlying22 info40 rfl (Nat.lt_succ_self 0) (by omega) v774 y773 (rdOf default l0 x10_1) [.slice (sA (rdOf default l0 x10_1)) (sn (rdOf default l0 x10_1)) (sc (rdOf default l0 x10_1))] (fun k_ => some k_ ≠ (.slice Ao32 x3_1.length co32 : Value).ownBlock) (fun _ => False) rfl rfl ?aP (fun _ hk => hk.elim) ?aF ?aO ?aB ?aS ?aL ?_; (case aP => exact rfl); (case aB => exact (by repeat (first | (with_reducible first | exact HB.out | apply below_alloc | apply pw_below_drewN | apply below_drew1) | exact HB.out))); (case aF => exact (fun k_ hk => Kd.fresh' (Kd.R_lt (by (with_reducible repeat (first | apply Kd.R_alloc | apply Kd.R_drewN | apply Kd.R_drew)); exact HO_3.out)) k_ hk)); (case aO => exact (by (with_reducible repeat (first | apply Kd.R_alloc | apply Kd.R_drewN | apply Kd.R_drew)); exact HO775.out)); (case aS => exact (below_size (by repeat (first | (with_reducible first | exact HB.out | apply below_alloc | apply pw_below_drewN | apply below_drew1) | exact HB.out)))); (case aL => have := LMc28.out; omega); intro v777 w37 ho hb hg hat; rw [← Ny776.out] at ho; have n0_ := Aside0.mk (Kd.R_after (ok := (fun _ => True)) (by (with_reducible repeat (first | apply Kd.R_alloc | apply Kd.R_drewN | apply Kd.R_drew)); exact HO_3.out) hg hat); have n1_ := Aside0.mk (hb); have n2_ := Aside0.mk ((show Kd.C (Kd.scalar (fun x_ : α => Value.slice (sA x_) (sn x_) (sc x_)) (fun _ => rfl)) w37 Ao32 y769.length y769 from by rw [Ny769.out]; exact Kd.C_take (m := (x6_2 : Int).toNat) ((Kd.R_reads' (Kd.R_after (ok := (fun _ => True)) (by (with_reducible repeat (first | apply Kd.R_alloc | apply Kd.R_drewN | apply Kd.R_drew)); exact HO_3.out) hg hat)).2.2) KL35.out)); have n3_ := Aside0.mk (ho); clear HO_3; clear HB; clear HR772; clear HO775; have HO_3 := n0_; have HB := n1_; have HR772 := n2_; have HO778 := n3_; clear n0_ n1_ n2_ n3_; clear ho hb hg hat; have q38 : (x6_2 : Int) ≤ ((x3_1.length : Int) : Int) := of_decide_eq_true (by first | (with_reducible assumption) | assumption); obtain ⟨i038, hi038, _, hsz38, _⟩ := info_parts info40; have hroom38 : x3_1.length ≤ co32 := (Kd.R_reads' HO_3.out).2.1; have hC38 : Kd.C (Kd.scalar (fun x_ : α => Value.slice (sA x_) (sn x_) (sc x_)) (fun _ => rfl)) _ Ao32 x3_1.length x3_1 := (Kd.R_reads' HO_3.out).2.2; have q038 : (0 : Int) ≤ (x6_2 : Int) := of_decide_eq_true (by first | (with_reducible assumption) | assumption); have hcut38 := cut_from (P := Try.prog) 22 40 .i64 Try.underlying22 hi038 1 hsz38 Ao32 x3_1.length co32 x6_2 q038 q38; have hr38 := Kd.C_drop (m := (x6_2 : Int).toNat) (c := co32) hC38 (by omega) hroom38; obtain ⟨A38, hA38⟩ : ∃ A1, A1 = (if co32 = (x6_2 : Int).toNat then Ao32 else (Ao32 : Option Addr).map (·.add ((x6_2 : Int).toNat * 1))) := ⟨_, rfl⟩; obtain ⟨c38, hc38⟩ : ∃ c1, c1 = co32 - (x6_2 : Int).toNat := ⟨_, rfl⟩; have hy38 : y779.length = x3_1.length - (x6_2 : Int).toNat := (by rw [Ny779.out, List.length_drop] <;> omega); rw [show (x3_1).drop (x6_2 : Int).toNat = y779 from Ny779.out.symm] at hr38; replace hr38 : Kd.C (Kd.scalar (fun x_ : α => Value.slice (sA x_) (sn x_) (sc x_)) (fun _ => rfl)) _ A38 y779.length y779 := (by rw [hA38]; exact hr38); rw [← hy38, ← hA38, ← hc38] at hcut38; have HR782 := Aside0.mk hr38; have HC782 := Aside0.mk (show y779.length ≤ c38 from by rw [hy38, hc38]; exact Nat.sub_le_sub_right hroom38 _); clear hr38 hC38 hroom38 hi038 hsz38 hc38; have KY38 := Aside0.mk hy38; have KA38 := Aside0.mk hA38; clear hy38 hA38; have KL38 := Aside0.mk (show (x6_2 : Int).toNat ≤ x3_1.length from by omega); replace q38 := eq_true q38) | ((with_reducible refine gate_builtin (b := .append) (xs := #[.tmp 36, .tmp 39]) rfl ?_); at_builtin; refine Kd.R_append_rows (Kd.scalar (fun x_ : α => Value.slice (sA x_) (sn x_) (sc x_)) (fun _ => rfl)) (w0 := w) w.heap.size rfl (.tmp 36) (.tmp 39) 22 40 (.slice none 0 0) 24 rfl Try.underlying22 info40 rfl (Nat.lt_succ_self 0) (by omega) v777 y776 y779 _ _ _ (fun k_ => some k_ ≠ (.slice Ao32 x3_1.length co32 : Value).ownBlock) (fun _ => False) rfl rfl ?aO ?aR (fun _ _ h => h) (fun _ h => h.elim) ?aF ?aB ?aS ?aL ?_; (case aR => repeat (first | exact (by repeat (first | (with_reducible exact HR782.out) | (with_reducible refine Kd.C_alloc ?_ _) | (with_reducible refine Kd.C_drewN ?_ _) | (with_reducible refine Kd.C_drew ?_) | exact HR782.out)) | (with_reducible refine Kd.C_alloc ?_ _) | (with_reducible refine Kd.C_drewN ?_ _) | (with_reducible refine Kd.C_drew ?_))); (case aB => exact (by repeat (first | (with_reducible first | exact HB.out | apply below_alloc | apply pw_below_drewN | apply below_drew1) | exact HB.out))); (case aF => exact (fun k_ hk => Kd.fresh' (Kd.R_lt (by (with_reducible repeat (first | apply Kd.R_alloc | apply Kd.R_drewN | apply Kd.R_drew)); exact HO_3.out)) k_ hk)); (case aO => exact (by (with_reducible repeat (first | apply Kd.R_alloc | apply Kd.R_drewN | apply Kd.R_drew)); exact HO778.out)); (case aS => exact (below_size (by repeat (first | (with_reducible first | exact HB.out | apply below_alloc | apply pw_below_drewN | apply below_drew1) | exact HB.out)))); (case aL => have := LMc31.out; omega); intro v784 w39 ho hb hg hat; rw [← Ny783.out] at ho; have n0_ := Aside0.mk (Kd.R_after (ok := (fun _ => True)) (by (with_reducible repeat (first | apply Kd.R_alloc | apply Kd.R_drewN | apply Kd.R_drew)); exact HO_3.out) hg hat); have n1_ := Aside0.mk (hb); have n2_ := Aside0.mk ((show Kd.C (Kd.scalar (fun x_ : α => Value.slice (sA x_) (sn x_) (sc x_)) (fun _ => rfl)) w39 Ao32 y769.length y769 from by rw [Ny769.out]; exact Kd.C_take (m := (x6_2 : Int).toNat) ((Kd.R_reads' (Kd.R_after (ok := (fun _ => True)) (by (with_reducible repeat (first | apply Kd.R_alloc | apply Kd.R_drewN | apply Kd.R_drew)); exact HO_3.out) hg hat)).2.2) KL35.out)); have n3_ := Aside0.mk ((show Kd.C (Kd.scalar (fun x_ : α => Value.slice (sA x_) (sn x_) (sc x_)) (fun _ => rfl)) w39 A38 y779.length y779 from by rw [Ny779.out, KA38.out]; exact Kd.C_drop (m := (x6_2 : Int).toNat) (c := co32) ((Kd.R_reads' (Kd.R_after (ok := (fun _ => True)) (by (with_reducible repeat (first | apply Kd.R_alloc | apply Kd.R_drewN | apply Kd.R_drew)); exact HO_3.out) hg hat)).2.2) KL38.out ((Kd.R_reads' (Kd.R_after (ok := (fun _ => True)) (by (with_reducible repeat (first | apply Kd.R_alloc | apply Kd.R_drewN | apply Kd.R_drew)); exact HO_3.out) hg hat)).2.1))); have n4_ := Aside0.mk (ho); clear HO_3; clear HB; clear HR772; clear HR782; clear HO778; have HO_3 := n0_; have HB := n1_; have HR772 := n2_; have HR782 := n3_; have HO785 := n4_; clear n0_ n1_ n2_ n3_ n4_; clear ho hb hg hat))
                            go_roundg k2
                            case measure => have := HK1.out; have := HK2.out; omega
                            case rel => exact ⟨(y783), (wrap64 (x10_1 + 1)), (by first | rfl | (simp; done) | (simp [*]; done)), H', ⟨by have := HK1.out; have := HK2.out; omega⟩, ⟨by (with_reducible repeat (first | apply Kd.R_alloc | apply Kd.R_drewN | apply Kd.R_drew)); exact Kd.R_mono HO785.out (fun _ hk => trivial)⟩, ⟨by repeat (first | (with_reducible first | exact HB.out | apply below_alloc | apply pw_below_drewN | apply below_drew1) | exact HB.out)⟩⟩
                          · rw [if_neg c31] at H
                            exact absurd H (by simp)
                        · rw [if_neg c28] at H
                          exact absurd H (by simp)
                      · rw [if_neg c27] at H
                        exact absurd H (by simp)
                    · rw [if_neg c26] at H
                      exact absurd H (by simp)
                  · rw [if_neg c25] at H
                    exact absurd H (by simp)
          · rw [if_neg c4] at H
            exact absurd H (by simp)
        · rw [if_neg c3] at H
          exact absurd H (by simp)
      · rw [if_neg c2] at H
        have c2b0 : decide (x10_1 < (l0.length : Int)) = false := decide_eq_false c2
        clear c2
        obtain rfl := Option.some.inj H
        go_wp2
        go_ret
        exact ⟨_, by first | rfl | (simp [errW_none, errW_some] <;> rfl) | (simp [*, errW_none, errW_some] <;> rfl), by (with_reducible repeat (first | apply Kd.R_alloc | apply Kd.R_drewN | apply Kd.R_drew)); exact HO_3.out, by repeat (first | (with_reducible first | exact HB.out | apply below_alloc | apply pw_below_drewN | apply below_drew1) | exact HB.out)⟩
/-- What the comparing of rows says. -/
def spec_voSorted.bf {α : Type} (row : α → List Int) (y x : α) : Option Bool := some (ltR row y x)
theorem spec_voSorted.g1_ev {α : Type} [Inhabited α] (row : α → List Int) (o : List α) (x : α) (l0 : List α) (i : Int) (R : List α) (ho : o.length ≤ 1000000) (h : Ev (fun k => spec_voSorted.g0 (spec_voSorted.bf row) k (insR row x o) l0 (l0.length : Int) (wrap64 (i + 1))) R) : Ev (fun k => spec_voSorted.g1 (spec_voSorted.bf row) k o x 0 l0 (l0.length : Int) i) R := by
  obtain ⟨h1, h2, h3, h4, h5⟩ := tw_spec (fun y => ltR row y x) default o
  have hins : insR row x o = ((([] : List α) ++ o.take (o.takeWhile (fun y => ltR row y x)).length) ++ [x]) ++ o.drop (o.takeWhile (fun y => ltR row y x)).length := by
    unfold insR
    rw [List.nil_append, List.append_assoc, List.singleton_append, ← h3, ← h4]
  rw [hins] at h
  generalize (o.takeWhile (fun y => ltR row y x)).length = T at h h1 h2 h5
  have key := Ev.down (G := fun j k => spec_voSorted.g1 (spec_voSorted.bf row) k o x (j : Int) l0 (l0.length : Int) i) (R := fun _ => R) T
    (by
      refine Ev.shift ?_
      simp only [spec_voSorted.g1]
      have ht : (o.take T).length ≤ T := by rw [List.length_take]; omega
      have hd : (o.drop T).length ≤ o.length := by rw [List.length_drop]; omega
      by_cases c : T < o.length
      · refine Ev.ite_pos (by omega) (Ev.ite_pos (by omega) ?_)
        refine Ev.bind (Ev.one (show spec_voSorted.bf row (rdOf default o (T : Int)) x = some false from by
          unfold spec_voSorted.bf rdOf
          rw [Int.toNat_natCast, h2 c])) ?_
        refine Ev.ite_neg (by decide) ?_
        refine Ev.bind (Ev.one rfl) (Ev.ite_pos (by omega) (Ev.bind (Ev.one rfl) ?_))
        rw [Int.toNat_natCast]
        refine Ev.ite_pos (by rw [List.length_nil]; omega) (Ev.bind (Ev.one rfl) (Ev.ite_pos (by rw [List.length_append, List.length_nil]; omega) (Ev.bind (Ev.one rfl) (Ev.bind (Ev.one rfl) (Ev.ite_pos ?_ h)))))
        rw [List.length_append, List.length_append, List.length_nil, List.length_singleton]
        omega
      · refine Ev.ite_neg (by omega) ?_
        refine Ev.bind (Ev.one rfl) (Ev.ite_pos (by omega) (Ev.ite_pos (by omega) (Ev.bind (Ev.one rfl) ?_)))
        rw [Int.toNat_natCast]
        refine Ev.ite_pos (by rw [List.length_nil]; omega) (Ev.bind (Ev.one rfl) (Ev.ite_pos (by rw [List.length_append, List.length_nil]; omega) (Ev.bind (Ev.one rfl) (Ev.bind (Ev.one rfl) (Ev.ite_pos ?_ h)))))
        rw [List.length_append, List.length_append, List.length_nil, List.length_singleton]
        omega)
    (fun j hj ih => by
      refine Ev.shift ?_
      simp only [spec_voSorted.g1]
      refine Ev.ite_pos (by omega) (Ev.ite_pos (by omega) ?_)
      refine Ev.bind (Ev.one (show spec_voSorted.bf row (rdOf default o (j : Int)) x = some true from by
        unfold spec_voSorted.bf rdOf
        rw [Int.toNat_natCast, h1 j hj])) ?_
      refine Ev.ite_pos rfl ?_
      rw [w1 hj (by omega)]
      exact ih)
  exact key 0 (Nat.zero_le _)
theorem spec_voSorted.gf_ev {α : Type} [Inhabited α] (row : α → List Int) (l0 : List α) (hl : l0.length ≤ 1000000) : Ev (fun k => spec_voSorted.gf (spec_voSorted.bf row) k l0) (istR row l0) := by
  unfold spec_voSorted.gf
  have key := Ev.down (G := fun i k => spec_voSorted.g0 (spec_voSorted.bf row) k (istR row (l0.take i)) l0 (l0.length : Int) (i : Int)) (R := fun _ => istR row l0) l0.length
    (by
      refine Ev.shift ?_
      simp only [spec_voSorted.g0]
      refine Ev.ite_neg (by omega) ?_
      rw [List.take_length]
      exact Ev.some)
    (fun i hi ih => by
      refine Ev.shift ?_
      simp only [spec_voSorted.g0]
      refine Ev.ite_pos (by omega) (Ev.ite_pos (by omega) (Ev.ite_pos (by omega) ?_))
      refine spec_voSorted.g1_ev row _ _ l0 _ _ ?_ ?_
      · rw [(istR_perm row (l0.take i)).length_eq, List.length_take]; omega
      · rw [w1 hi (by omega)]
        have e : istR row (l0.take (i + 1)) = insR row (l0.getD i default) (istR row (l0.take i)) := foldl_take (fun o x => insR row x o) [] l0 default i hi
        rw [e] at ih
        have e2 : rdOf default l0 (i : Int) = l0.getD i default := by unfold rdOf; rw [Int.toNat_natCast]
        rw [e2]
        exact ih)
  exact key 0 (Nat.zero_le _)
/-- The rows in order. -/
def spec_voSorted.f (k : Nat) (l0 : List (List Int)) : Option (List (List Int)) := if l0.length ≤ 1000000 ∧ ∀ x ∈ l0, ∀ y ∈ l0, spec_voBefore.f k x y = some (decide (lexc x y < 0)) then some (sorted l0) else none
theorem spec_voSorted.mono : ∀ a0 k, LeO (spec_voSorted.f k a0) (spec_voSorted.f (k + 1) a0) := by
  intro a0 k r hr
  unfold spec_voSorted.f at hr ⊢
  split at hr
  · rename_i hc
    rw [if_pos ⟨hc.1, fun x hx y hy => spec_voBefore.mono x y k _ (hc.2 x hx y hy)⟩]
    exact hr
  · exact absurd hr (by simp)
set_option maxHeartbeats 2000000 in
theorem spec_voSorted.callsN (k : Nat) (P0_ : Nat → Prop) (u9000_ : Value) (l0 : List (List Int)) (r : List (List Int)) (w0 w : World) (hB : Below w0.heap.size w0 w) (ho0 : Kd.S (Kd.slice 3 (Kd.int .i64)) 40 w w0.heap.size P0_ u9000_ l0) (h : spec_voSorted.f k l0 = some r) :
    Calls Try.prog 143 #[u9000_] w fun e w' => ∃ v0_ : Value, e = .returned (v0_) ∧ Kd.S (Kd.slice 3 (Kd.int .i64)) 40 w' w0.heap.size (fun k_ => ((P0_ k_ ∧ k_ < w.heap.size) ∨ some k_ = v0_.ownBlock)) v0_ r ∧ (∀ k_, v0_.ownBlock = some k_ → w.heap.size ≤ k_) ∧ Below w.heap.size w w' := by
  unfold spec_voSorted.f at h
  split at h
  case isFalse => exact absurd h (by simp)
  rename_i hc
  obtain ⟨hlen, hcmp⟩ := hc
  obtain rfl := Option.some.inj h
  clear h
  obtain ⟨f, h0, inner, ho, hr⟩ := ho0
  rw [List.length_zipIdx] at ho
  obtain ⟨hil, hv⟩ := ho
  have hil : inner.length = l0.length := by have h1 : inner.length = l0.length * 1 := hil; omega
  have hM : ∀ (i : Nat) (hi : i < l0.length), ∃ A c, inner[i]'(by omega) = .slice A l0[i].length c ∧ Kd.R (Kd.int .i64) 3 w w0.heap.size (fun k => ((P0_ k ∧ some k ≠ u9000_.ownBlock) ∧ f k = i)) (.slice A l0[i].length c) l0[i] := fun i hi => by
    have h1 := hr.2 i (l0[i], i) (Kd.zip_at (List.getElem?_eq_getElem hi))
    have h2 : (inner.drop (i * 1)).take 1 = [inner[i]'(by omega)] := by rw [Nat.mul_one, List.drop_eq_getElem_cons (by omega), List.take_succ_cons, List.take_zero]
    obtain ⟨v', hv', hR⟩ := (show ∃ v', (inner.drop (i * 1)).take 1 = [v'] ∧ Kd.R (Kd.int .i64) 3 w w0.heap.size (fun k => ((P0_ k ∧ some k ≠ u9000_.ownBlock) ∧ f k = i)) v' l0[i] from h1)
    rw [h2] at hv'
    injection hv' with hv' _
    obtain ⟨A, c, e⟩ := Kd.R_slice hR
    subst e
    exact ⟨A, c, hv', hR⟩
  rcases Nat.eq_zero_or_pos l0.length with hn | hn
  · obtain rfl := List.eq_nil_of_length_eq_zero hn
    have hR0 : Kd.R (Kd.scalar (fun _ : Unit => Value.slice none 0 0) (fun _ => rfl)) 40 w w0.heap.size P0_ u9000_ ([] : List Unit) := ⟨h0, inner, ⟨by rw [hil]; rfl, hv⟩, by
      rw [List.eq_nil_of_length_eq_zero hil]
      exact Reps.none _ _⟩
    obtain ⟨A, c, rfl, hl, hC⟩ := Kd.R_reads hR0
    refine (spec_voSorted.callsG (α := Unit) (fun _ => none) (fun _ => 0) (fun _ => 0) (fun _ _ => none) 1 A c [] [] w (fun _ _ _ _ hz _ => absurd hz (by simp)) hC hl rfl).mono ?_
    rintro e w' ⟨v0, rfl, hR, hb⟩
    have e0 : sorted ([] : List (List Int)) = [] := by simp [sorted]
    rw [e0]
    obtain ⟨_, inner', ho', hr'⟩ := hR
    have hnil : inner' = [] := List.eq_nil_of_length_eq_zero (by have h1 : inner'.length = 0 * 1 := ho'.1; omega)
    subst hnil
    exact ⟨v0, rfl, ⟨fun _ => 0, fun k hk => .inr hk.symm, [], own_weaken ho' hB.size, Reps.none _ _⟩, fun k hk => own_base ho' k hk, hb⟩
  -- the parts of each element's cell, by the element's index
  let sA : Fin l0.length → Option Addr := fun i => (hM i.1 i.2).choose
  let sn : Fin l0.length → Nat := fun i => l0[i.1].length
  let sc : Fin l0.length → Nat := fun i => (hM i.1 i.2).choose_spec.choose
  let row : Fin l0.length → List Int := fun i => l0[i.1]
  have cellE : ∀ (i : Fin l0.length), inner[i.1]'(by omega) = .slice (sA i) (sn i) (sc i) ∧ Kd.R (Kd.int .i64) 3 w w0.heap.size (fun k => ((P0_ k ∧ some k ≠ u9000_.ownBlock) ∧ f k = i.1)) (.slice (sA i) (sn i) (sc i)) (row i) := fun i => (hM i.1 i.2).choose_spec.choose_spec
  have snE : ∀ i, sn i = (row i).length := fun _ => rfl
  have rowE : ∀ i : Fin l0.length, row i = l0[i.1] := fun _ => rfl
  haveI : Inhabited (Fin l0.length) := ⟨⟨0, hn⟩⟩
  clear_value sA sn sc row
  have hdl : (List.finRange l0.length).length = l0.length := List.length_finRange
  have hrow : (List.finRange l0.length).map row = l0 := by
    apply List.ext_getElem
    · rw [List.length_map, hdl]
    · intro j h1 h2
      rw [List.getElem_map, rowE]
      congr 1
      simp
  have hperm := istR_perm row (List.finRange l0.length)
  have hsort := istR_rows row (List.finRange l0.length)
  rw [hrow] at hsort
  obtain ⟨K, hK⟩ := spec_voSorted.gf_ev row (List.finRange l0.length) (by rw [hdl]; exact hlen)
  have hK := hK K (Nat.le_refl K)
  have hinner : inner = encs (fun x_ : Fin l0.length => Value.slice (sA x_) (sn x_) (sc x_)) (List.finRange l0.length) := by
    apply List.ext_getElem
    · rw [encs_length, hdl, hil]
    · intro j h1 h2
      have hj : j < l0.length := by omega
      have e1 := (cellE ⟨j, hj⟩).1
      refine e1.trans ?_
      simp [encs]
  have hR0 : Kd.R (Kd.scalar (fun x_ : Fin l0.length => Value.slice (sA x_) (sn x_) (sc x_)) (fun _ => rfl)) 40 w w0.heap.size P0_ u9000_ (List.finRange l0.length) := Kd.R_of_own (by rw [hdl, ← hinner]; exact ⟨by rw [hil, Nat.mul_one], hv⟩) h0
  obtain ⟨A, c, hu, hl, hC⟩ := Kd.R_reads hR0
  generalize hrs : istR row (List.finRange l0.length) = rs at hperm hsort hK
  have hrl : rs.length = l0.length := hperm.length_eq.trans hdl
  have hnd : (rs.map (fun i => i.1)).Nodup := by
    refine ((hperm.map (fun i : Fin l0.length => i.1)).nodup_iff).2 ?_
    exact List.Pairwise.map _ (fun a b hab z => hab (Fin.ext z)) (List.nodup_finRange l0.length)
  rw [hu]
  refine (spec_voSorted.callsG sA sn sc (spec_voSorted.bf row) K A c (List.finRange l0.length) rs w ?_ hC hl hK).mono ?_
  · intro W x y b hb hW
    obtain ⟨hx1, hx2, hx3⟩ := Kd.R_reads' (Kd.R_below (cellE x).2 hW)
    obtain ⟨hy1, hy2, hy3⟩ := Kd.R_reads' (Kd.R_below (cellE y).2 hW)
    have hb2 : spec_voBefore.f k (row x) (row y) = some b := by
      rw [rowE, rowE, hcmp _ (List.getElem_mem _) _ (List.getElem_mem _)]
      have := hb
      unfold spec_voSorted.bf ltR at this
      rw [rowE, rowE] at this
      exact this
    rw [hx1, hy1]
    rw [hx1] at hx2
    rw [hy1] at hy2
    exact spec_voBefore.calls k (sA x) (sc x) (row x) (sA y) (sc y) (row y) b W hx3 hx2 hy3 hy2 hb2
  · rintro e w' ⟨v0, rfl, hR, hb⟩
    have ho' := Kd.own_of_R hR
    refine ⟨v0, rfl, ⟨fun q => (rs.map (fun i => i.1)).idxOf (f q), fun q hq => .inr hq.symm, encs (fun x_ : Fin l0.length => Value.slice (sA x_) (sn x_) (sc x_)) rs, ?_, ?_⟩, fun q hq => own_base ho' q hq, hb⟩
    · rw [List.length_zipIdx, ← hsort, List.length_map]
      exact own_weaken ho' hB.size
    · refine ⟨by rw [List.length_zipIdx, ← hsort, List.length_map, encs_length]; show _ = _ * 1; omega, ?_⟩
      intro j p hj
      rw [← hsort, List.getElem?_zipIdx, Nat.zero_add] at hj
      obtain ⟨x, hx, rfl⟩ := Option.map_eq_some_iff.1 hj
      rw [List.getElem?_map] at hx
      obtain ⟨i, hi, rfl⟩ := Option.map_eq_some_iff.1 hx
      have hjl : j < rs.length := (List.getElem?_eq_some_iff.1 hi).1
      have hi2 : rs[j] = i := (List.getElem?_eq_some_iff.1 hi).2
      have hdr : ((encs (fun x_ : Fin l0.length => Value.slice (sA x_) (sn x_) (sc x_)) rs).drop (j * 1)).take 1 = [Value.slice (sA i) (sn i) (sc i)] := by
        rw [Nat.mul_one, List.drop_eq_getElem_cons (by rw [encs_length]; exact hjl), List.take_succ_cons, List.take_zero]
        congr 1
        simp [encs, hi2]
      have hR2 := Kd.R_below (Kd.R_bound (cellE i).2) hb
      refine ⟨_, hdr, Kd.R_mono hR2 (fun q hq => ⟨⟨.inl ⟨hq.1.1.1, hq.2.2.1⟩, fun z => ?_⟩, ?_⟩)⟩
      · have := own_base ho' q z.symm
        have := hq.2.2.1
        omega
      · show (rs.map (fun i => i.1)).idxOf (f q) = j
        have h3 := List.Nodup.idxOf_getElem hnd j (by rw [List.length_map]; exact hjl)
        rw [List.getElem_map, hi2] at h3
        rw [hq.1.2]
        exact h3
theorem spec_voSorted.calls (k : Nat) (P0_ : Nat → Prop) (u9000_ : Value) (l0 : List (List Int)) (r : List (List Int)) (w0 w : World) (hB : Below w0.heap.size w0 w) (ho0 : Kd.S (Kd.slice 3 (Kd.int .i64)) 40 w w0.heap.size P0_ u9000_ l0) (h : spec_voSorted.f k l0 = some r) :
    Calls Try.prog 143 #[u9000_] w fun e w' => ∃ v0_ : Value, e = .returned (v0_) ∧ Kd.S (Kd.slice 3 (Kd.int .i64)) 40 w' w0.heap.size (fun k_ => (P0_ k_ ∨ w.heap.size ≤ k_)) v0_ r ∧ Below w0.heap.size w0 w' ∧ Kept w w' (fun k_ => P0_ k_) := by
  refine (spec_voSorted.callsN k P0_ u9000_ l0 r w0 w hB ho0 h).mono ?_
  rintro e w' ⟨v0, rfl, h1, h2, h3⟩
  exact ⟨v0, rfl, Kd.S_mono h1 (fun q hq => hq.elim (fun z => .inl z.1) (fun z => .inr (h2 q z.symm))), hB.trans (h3.mono hB.size), Kept.of_below h3 _⟩


/-! ### spec_voLeast: function 107 -/
mutual
def spec_voLeast.l0:Nat → List Bool → List (List Int) → List Bool → Int → Int → Option ((List (List Int)))
 | 0,_,_,_,_,_=>none
 | k + 1,x0,x3,x9,x10,x11=>if x11 < x10 then (if 0 ≤ x11 then (if x11 < (x9.length:Int) then (if rdOf false x9 x11 = true then ((spec_voList.f k x11).bind fun t747=>(spec_voLeast.l1 k x0 x3 x11 true x9 x10 x11 t747 (t747.length:Int) 0)) else (spec_voLeast.l0 k x0 x3 x9 x10 (wrap64 (x11 + 1)))) else (none)) else (none)) else ((spec_voSorted.f k x3).bind fun t743=>(some t743))
def spec_voLeast.l1:Nat → List Bool → List (List Int) → Int → Bool → List Bool → Int → Int → List Int → Int → Int → Option ((List (List Int)))
 | 0,_,_,_,_,_,_,_,_,_,_=>none
 | k + 1,x0,x3,x4,x6,x9,x10,x11,x19,x20,x21=>if x21 < x20 then (if 0 ≤ x21 then (if x21 < (x19.length:Int) then (if x6 = true then (if 0 ≤ (rd x19 x21) then (if 0 ≤ (wrap64 (x4 - (shl .i64 1 (rd x19 x21)))) then (if (wrap64 (x4 - (shl .i64 1 (rd x19 x21)))) < (x0.length:Int) then (spec_voLeast.l1 k x0 x3 x4 (!(rdOf false x0 (wrap64 (x4 - (shl .i64 1 (rd x19 x21)))))) x9 x10 x11 x19 x20 (wrap64 (x21 + 1))) else (none)) else (none)) else (none)) else (spec_voLeast.l1 k x0 x3 x4 false x9 x10 x11 x19 x20 (wrap64 (x21 + 1)))) else (none)) else (none)) else (if x6 = true then ((spec_voList.f k x4).bind fun t752=>(if x3.length < 5864062014805 then (spec_voLeast.l0 k x0 (x3 ++ [t752]) x9 x10 (wrap64 (x11 + 1))) else (none))) else (spec_voLeast.l0 k x0 x3 x9 x10 (wrap64 (x11 + 1))))
end
def spec_voLeast.f (k:Nat) (l0:List Bool):Option ((List (List Int))):=spec_voLeast.l0 k l0 ([]:List (List Int)) l0 (l0.length:Int) 0
theorem spec_voLeast.mono_l:∀ k,(∀ y0 y1 y2 y3 y4,LeO (spec_voLeast.l0 k y0 y1 y2 y3 y4) (spec_voLeast.l0 (k + 1) y0 y1 y2 y3 y4)) ∧ (∀ y0 y1 y2 y3 y4 y5 y6 y7 y8 y9,LeO (spec_voLeast.l1 k y0 y1 y2 y3 y4 y5 y6 y7 y8 y9) (spec_voLeast.l1 (k + 1) y0 y1 y2 y3 y4 y5 y6 y7 y8 y9))
 | 0=>⟨fun _ _ _ _ _ r h=>by simp [spec_voLeast.l0] at h,fun _ _ _ _ _ _ _ _ _ _ r h=>by simp [spec_voLeast.l1] at h⟩
 | k + 1=>by
  obtain ⟨ih0,ih1⟩:=spec_voLeast.mono_l k;refine ⟨?_,?_⟩
  ·intro y0 y1 y2 y3 y4;unfold spec_voLeast.l0
   repeat' with_reducible first|exact ih0 _ _ _ _ _|exact ih1 _ _ _ _ _ _ _ _ _ _|exact spec_voList.mono _ _|exact spec_voSorted.mono _ _|exact LeO.refl _|exact LeO.none _|refine LeO.ite ?_ ?_|refine LeO.bind ?_ (fun _=>?_)
  ·intro y0 y1 y2 y3 y4 y5 y6 y7 y8 y9;unfold spec_voLeast.l1
   repeat' with_reducible first|exact ih0 _ _ _ _ _|exact ih1 _ _ _ _ _ _ _ _ _ _|exact spec_voList.mono _ _|exact spec_voSorted.mono _ _|exact LeO.refl _|exact LeO.none _|refine LeO.ite ?_ ?_|refine LeO.bind ?_ (fun _=>?_)
theorem spec_voLeast.mono:∀ a0 k,LeO (spec_voLeast.f k a0) (spec_voLeast.f (k + 1) a0):=by
 intro a0 k;obtain ⟨ih0,ih1⟩:=spec_voLeast.mono_l k;unfold spec_voLeast.f
 repeat' with_reducible first|exact ih0 _ _ _ _ _|exact ih1 _ _ _ _ _ _ _ _ _ _|exact spec_voList.mono _ _|exact spec_voSorted.mono _ _|exact LeO.refl _|exact LeO.none _|refine LeO.ite ?_ ?_|refine LeO.bind ?_ (fun _=>?_)
set_option maxHeartbeats 8000000 in
set_option maxRecDepth 100000 in
theorem spec_voLeast.calls (k:Nat) (A0:Option Addr) (c0:Nat) (l0:List Bool) (r:List (List Int)) (w:World) (hr0:Kd.C Kd.bool w A0 l0.length l0) (hc0:l0.length ≤ c0) (h:spec_voLeast.f k l0 = some r) :
  Calls Try.prog 107 #[.slice A0 l0.length c0] w fun e w'=>∃ v0_:Value,e = .returned (v0_) ∧ Kd.S (Kd.slice 3 (Kd.int .i64)) 40 w' w.heap.size (fun _=>True) v0_ r ∧ Below w.heap.size w w':=by
 have HR0:=Aside0.mk hr0;have HC0:=Aside0.mk hc0;clear hr0 hc0;have HB:=Aside0.mk (Below.refl w.heap.size w);have H:(spec_voLeast.l0 k l0 ([]:List (List Int)) l0 (l0.length:Int) 0) = some r:=h;clear h;have H':=Aside0.mk H;clear H;go_enter Try.func107,Try.ntmps107;go_wp2
 go_loopg [3,11] k (fun kq v3 v11 w'=>∃ (x3_1:List (List Int)) (x11_1:Int),v11 = .int .i64 x11_1 ∧ Aside0 (spec_voLeast.l0 kq l0 x3_1 l0 (l0.length:Int) x11_1 = some r) ∧ Aside0 (kq ≤ k) ∧ Aside0 (Kd.S (Kd.slice 3 (Kd.int .i64)) 40 w' w.heap.size (fun _=>True) v3 x3_1) ∧ Aside0 (Below w.heap.size w w'))
 case atStart=>exact ⟨(([]:List (List Int))),(0),(by first|rfl|(simp;done)|(simp [*];done)),H',⟨Nat.le_refl _⟩,⟨by first|exact Kd.S_nil _ _ _ _ _|exact Kd.N_nil _ _ _ _ _|exact Kd.V_nil _ _ _ _ _|exact Kd.Q_nil _ _ _ _ _|exact Kd.R_nil _ _ _ _ _⟩,⟨by repeat (first|(with_reducible first|exact HB.out|apply below_alloc|apply pw_below_drewN|apply below_drew1)|exact HB.out)⟩⟩
 case round =>
  clear H'
  try clear c1
  obtain ⟨x3_1,x11_1,rfl,HA,HK1,HO_3,HB⟩:=hrel
  cases gk with
  | zero=>exact absurd HA.out (by simp [spec_voLeast.l0])
  | succ k1 =>
   have H:=HA.out;clear HA;simp only [spec_voLeast.l0] at H;by_cases c2:x11_1 < (l0.length:Int)
   ·rw [if_pos c2] at H;have c2b0:decide (x11_1 < (l0.length:Int)) = true:=decide_eq_true c2;clear c2;by_cases c3:0 ≤ x11_1
    ·rw [if_pos c3] at H;have c3b0:decide (0 ≤ x11_1) = true:=decide_eq_true c3;clear c3;by_cases c4:x11_1 < (l0.length:Int)
     ·rw [if_pos c4] at H;have c4b0:decide (x11_1 < (l0.length:Int)) = true:=decide_eq_true c4;clear c4;obtain ⟨bq5,hbq5⟩:∃ b_:Bool,b_ = (rdOf false l0 x11_1):=⟨_,rfl⟩;replace H:(if bq5 = true then ((spec_voList.f k1 x11_1).bind fun t747=>(spec_voLeast.l1 k1 l0 x3_1 x11_1 true l0 (l0.length:Int) x11_1 t747 (t747.length:Int) 0)) else (spec_voLeast.l0 k1 l0 x3_1 l0 (l0.length:Int) (wrap64 (x11_1 + 1)))) = some r:=by rw [← hbq5] at H;exact H
      have Nbq5:=Aside0.mk hbq5;clear hbq5;by_cases c6:bq5 = true
      ·subst c6;have H1:((spec_voList.f k1 x11_1).bind fun t747=>(spec_voLeast.l1 k1 l0 x3_1 x11_1 true l0 (l0.length:Int) x11_1 t747 (t747.length:Int) 0)) = some r:=by rw [if_pos rfl] at H;exact H
       clear H;have H:=H1;clear H1;replace H:=Option.bind_eq_some_iff.mp H;obtain ⟨t747,A70,H⟩:=H;replace H:(spec_voLeast.l1 k1 l0 x3_1 x11_1 true l0 (l0.length:Int) x11_1 t747 (t747.length:Int) 0) = some r:=H;have A7:=Aside0.mk A70;clear A70;have H':=Aside0.mk H;clear H;have p746:0 ≤ (x11_1:Int):=of_decide_eq_true ab;have q746:x11_1 < (l0.length:Int):=of_decide_eq_true ab;obtain ⟨ad746,e746,hx746_0⟩:=Kd.at_bool HR0.out x11_1 p746 q746;(try rw [← Nbq5.out] at hx746_0)
       cases e746
       replace hx746_0:=(HB.out.cell (World.block_lt_of_cell? w _ hx746_0)).trans hx746_0;replace p746:=eq_true p746;replace q746:=eq_true q746;go_wp2_with (first|((with_reducible refine gate_callee (f:=65) rfl ?_);refine goesL_ (some 19) rfl rfl Try.func65 (by kernel_rfl) rfl #[.int .i64 x11_1] rfl mq ?_;(with_reducible refine (spec_voList.calls k1 x11_1 t747 _ A7.out).mono ?_);rintro e w8 ⟨v748,rfl,ho0,hb⟩;refine ⟨_,rfl,?_⟩;have n0_:=Aside0.mk (Kd.S_elder' (by (with_reducible repeat (first|apply Kd.S_alloc|apply Kd.S_drewN|apply Kd.S_drew));exact HO_3.out) (Kd.R_base ho0) hb);have n1_:=Aside0.mk (Kd.R_lower ho0 (below_size bw));have n2_:=Aside0.mk (below_step bw hb);clear HO_3;clear HB;have HO_3:=n0_;have HO749:=n1_;have HB:=n2_;clear n0_ n1_ n2_;(try clear hb);(try clear hb2);(try clear hk);(try clear hi);(try clear ho0);obtain ⟨Ao9,co9,eo9⟩:=Kd.R_slice HO749.out;subst eo9))
       go_loopg [6,21] k1 (fun kq v6 v21 w'=>∃ (x6_2:Bool) (x21_2:Int),v6 = .bool x6_2 ∧ v21 = .int .i64 x21_2 ∧ Aside0 (spec_voLeast.l1 kq l0 x3_1 x11_1 x6_2 l0 (l0.length:Int) x11_1 t747 (t747.length:Int) x21_2 = some r) ∧ Aside0 (kq ≤ k1) ∧ Aside0 (Kd.S (Kd.slice 3 (Kd.int .i64)) 40 w' w.heap.size (fun k_=>some k_ ≠ ((.slice Ao9 t747.length co9):Value).ownBlock) u3 x3_1) ∧ Aside0 (Kd.R (Kd.int .i64) 3 w' w.heap.size (fun _=>True) (.slice Ao9 t747.length co9) t747) ∧ Aside0 (Below w.heap.size w w'))
       case atStart=>exact ⟨(true),(0),(by first|rfl|(simp;done)|(simp [*];done)),(by first|rfl|(simp;done)|(simp [*];done)),H',⟨Nat.le_refl _⟩,⟨by (with_reducible repeat (first|apply Kd.S_alloc|apply Kd.S_drewN|apply Kd.S_drew));exact Kd.S_mono HO_3.out (fun _ hk=>hk.2)⟩,⟨by (with_reducible repeat (first|apply Kd.R_alloc|apply Kd.R_drewN|apply Kd.R_drew));exact HO749.out⟩,⟨by repeat (first|(with_reducible first|exact HB.out|apply below_alloc|apply pw_below_drewN|apply below_drew1)|exact HB.out)⟩⟩
       case round =>
        clear H'
        try clear c1
        try clear c2
        try clear c2b0
        try clear p2
        try clear c3
        try clear c3b0
        try clear c4
        try clear c4b0
        try clear q5
        try clear c6
        try clear p6
        try clear p7
        try clear q7
        try clear hx7
        try clear hx746_0
        try clear p746
        try clear q746
        obtain ⟨x6_2,x21_2,rfl,rfl,HA,HK2,HO_3,HO_19,HB⟩:=hrel
        cases gk with
        | zero=>exact absurd HA.out (by simp [spec_voLeast.l1])
        | succ k2 =>
         have H:=HA.out;clear HA;simp only [spec_voLeast.l1] at H;by_cases c10:x21_2 < (t747.length:Int)
         ·rw [if_pos c10] at H;have c10b0:decide (x21_2 < (t747.length:Int)) = true:=decide_eq_true c10;clear c10;by_cases c11:0 ≤ x21_2
          ·rw [if_pos c11] at H;have c11b0:decide (0 ≤ x21_2) = true:=decide_eq_true c11;clear c11;by_cases c12:x21_2 < (t747.length:Int)
           ·rw [if_pos c12] at H;have c12b0:decide (x21_2 < (t747.length:Int)) = true:=decide_eq_true c12;clear c12;by_cases c13:x6_2 = true
            ·subst c13;have H1:(if 0 ≤ (rd t747 x21_2) then (if 0 ≤ (wrap64 (x11_1 - (shl .i64 1 (rd t747 x21_2)))) then (if (wrap64 (x11_1 - (shl .i64 1 (rd t747 x21_2)))) < (l0.length:Int) then (spec_voLeast.l1 k2 l0 x3_1 x11_1 (!(rdOf false l0 (wrap64 (x11_1 - (shl .i64 1 (rd t747 x21_2)))))) l0 (l0.length:Int) x11_1 t747 (t747.length:Int) (wrap64 (x21_2 + 1))) else (none)) else (none)) else (none)) = some r:=by rw [if_pos rfl] at H;exact H
             clear H;have H:=H1;clear H1;by_cases c14:0 ≤ (rd t747 x21_2)
             ·rw [if_pos c14] at H;have c14b0:=eq_true c14;have c14b1:decide (0 ≤ (rd t747 x21_2)) = true:=decide_eq_true c14;clear c14;obtain ⟨ji15,hji15⟩:∃ j_:Int,(shl .i64 1 (rd t747 x21_2)) = j_:=⟨_,rfl⟩;replace H:(if 0 ≤ (wrap64 (x11_1 - (ji15))) then (if (wrap64 (x11_1 - (ji15))) < (l0.length:Int) then (spec_voLeast.l1 k2 l0 x3_1 x11_1 (!(rdOf false l0 (wrap64 (x11_1 - (ji15))))) l0 (l0.length:Int) x11_1 t747 (t747.length:Int) (wrap64 (x21_2 + 1))) else (none)) else (none)) = some r:=by first|(rw [hji15] at H;exact H)|(simp only [hji15] at H ⊢;exact H)
              have hji15_:(IntKind.i64.wrap (1 * 2 ^ min (rd t747 x21_2).toNat 64)) = ji15:=hji15;have hji15z:(rd t747 x21_2) ≤ 64 → (IntKind.i64.wrap (1 * 2 ^ (rd t747 x21_2).toNat)) = ji15:=shl_small hji15;have hji15u:(IntKind.i64.wrap (2 ^ min (rd t747 x21_2).toNat 64)) = ji15:=by have h_:=hji15_;rw [Int.one_mul] at h_;exact h_
              have hji15v:(rd t747 x21_2) ≤ 64 → (IntKind.i64.wrap (2 ^ (rd t747 x21_2).toNat)) = ji15:=fun hle_=>by have h_:=hji15z hle_;rw [Int.one_mul] at h_;exact h_
              have hji15y:(wrap64 (1 * 2 ^ min (rd t747 x21_2).toNat 64)) = ji15:=(i64_w _).symm.trans hji15_;have hji15x:(rd t747 x21_2) ≤ 64 → (wrap64 (1 * 2 ^ (rd t747 x21_2).toNat)) = ji15:=fun h_=>(i64_w _).symm.trans (hji15z h_)
              obtain ⟨ji16,hji16⟩:∃ j_:Int,(wrap64 (x11_1 - (ji15))) = j_:=⟨_,rfl⟩;replace H:(if 0 ≤ (ji16) then (if (ji16) < (l0.length:Int) then (spec_voLeast.l1 k2 l0 x3_1 x11_1 (!(rdOf false l0 (ji16))) l0 (l0.length:Int) x11_1 t747 (t747.length:Int) (wrap64 (x21_2 + 1))) else (none)) else (none)) = some r:=by first|(rw [hji16] at H;exact H)|(simp only [hji16] at H ⊢;exact H)
              have hji16w:(IntKind.i64.wrap (x11_1 - (ji15))) = ji16:=(i64_w _).trans hji16;by_cases c17:0 ≤ (ji16)
              ·rw [if_pos c17] at H;have c17b0:decide (0 ≤ (ji16)) = true:=decide_eq_true c17;clear c17;by_cases c18:(ji16) < (l0.length:Int)
               ·rw [if_pos c18] at H;have c18b0:decide ((ji16) < (l0.length:Int)) = true:=decide_eq_true c18;clear c18;have H':=Aside0.mk H;clear H;have p750:0 ≤ (x21_2:Int):=of_decide_eq_true ab;have q750:x21_2 < (t747.length:Int):=of_decide_eq_true ab;obtain ⟨ad750,e750,hx750_0⟩:=Kd.at_int (Kd.R_reads' HO_19.out).2.2 x21_2 p750 q750;cases e750
                replace p750:=eq_true p750;replace q750:=eq_true q750;have p751:0 ≤ ((ji16):Int):=of_decide_eq_true ab;have q751:(ji16) < (l0.length:Int):=of_decide_eq_true ab;obtain ⟨ad751,e751,hx751_0⟩:=Kd.at_bool HR0.out (ji16) p751 q751;(try rw [← Nbq5.out] at hx751_0)
                obtain rfl:ad746 = ad751:=(by injection e751);replace hx751_0:=(HB.out.cell (World.block_lt_of_cell? w _ hx751_0)).trans hx751_0;replace p751:=eq_true p751;replace q751:=eq_true q751;go_wp2
                go_roundg k2
                case measure=>have:=HK1.out;have:=HK2.out;omega
                case rel=>exact ⟨(!(rdOf false l0 (ji16))),(wrap64 (x21_2 + 1)),(by first|rfl|(simp;done)|(simp only [← hji16] <;> (first|rfl|simp))|(simp [*];done)),(by first|rfl|(simp;done)|(simp [*];done)),H',⟨by have:=HK1.out;have:=HK2.out;omega⟩,⟨by (with_reducible repeat (first|apply Kd.S_alloc|apply Kd.S_drewN|apply Kd.S_drew));exact HO_3.out⟩,⟨by (with_reducible repeat (first|apply Kd.R_alloc|apply Kd.R_drewN|apply Kd.R_drew));exact HO_19.out⟩,⟨by repeat (first|(with_reducible first|exact HB.out|apply below_alloc|apply pw_below_drewN|apply below_drew1)|exact HB.out)⟩⟩
               ·rw [if_neg c18] at H;exact absurd H (by simp)
              ·rw [if_neg c17] at H;exact absurd H (by simp)
             ·rw [if_neg c14] at H;exact absurd H (by simp)
            ·replace c13:=Bool.eq_false_iff.mpr c13;subst c13;have H1:(spec_voLeast.l1 k2 l0 x3_1 x11_1 false l0 (l0.length:Int) x11_1 t747 (t747.length:Int) (wrap64 (x21_2 + 1))) = some r:=by rw [if_neg (show ¬ (false = true) by decide)] at H;exact H
             clear H;have H:=H1;clear H1;have H':=Aside0.mk H;clear H;have p750:0 ≤ (x21_2:Int):=of_decide_eq_true ab;have q750:x21_2 < (t747.length:Int):=of_decide_eq_true ab;obtain ⟨ad750,e750,hx750_0⟩:=Kd.at_int (Kd.R_reads' HO_19.out).2.2 x21_2 p750 q750;cases e750
             replace p750:=eq_true p750;replace q750:=eq_true q750;go_wp2
             go_roundg k2
             case measure=>have:=HK1.out;have:=HK2.out;omega
             case rel=>exact ⟨(false),(wrap64 (x21_2 + 1)),(by first|rfl|(simp;done)|(simp [*];done)),(by first|rfl|(simp;done)|(simp [*];done)),H',⟨by have:=HK1.out;have:=HK2.out;omega⟩,⟨by (with_reducible repeat (first|apply Kd.S_alloc|apply Kd.S_drewN|apply Kd.S_drew));exact HO_3.out⟩,⟨by (with_reducible repeat (first|apply Kd.R_alloc|apply Kd.R_drewN|apply Kd.R_drew));exact HO_19.out⟩,⟨by repeat (first|(with_reducible first|exact HB.out|apply below_alloc|apply pw_below_drewN|apply below_drew1)|exact HB.out)⟩⟩
           ·rw [if_neg c12] at H;exact absurd H (by simp)
          ·rw [if_neg c11] at H;exact absurd H (by simp)
         ·rw [if_neg c10] at H;have c10b0:decide (x21_2 < (t747.length:Int)) = false:=decide_eq_false c10;clear c10;by_cases c19:x6_2 = true
          ·subst c19;have H1:((spec_voList.f k2 x11_1).bind fun t752=>(if x3_1.length < 5864062014805 then (spec_voLeast.l0 k2 l0 (x3_1 ++ [t752]) l0 (l0.length:Int) (wrap64 (x11_1 + 1))) else (none))) = some r:=by rw [if_pos rfl] at H;exact H
           clear H;have H:=H1;clear H1;replace H:=Option.bind_eq_some_iff.mp H;obtain ⟨t752,A200,H⟩:=H;replace H:(if x3_1.length < 5864062014805 then (spec_voLeast.l0 k2 l0 (x3_1 ++ [t752]) l0 (l0.length:Int) (wrap64 (x11_1 + 1))) else (none)) = some r:=H;have A20:=Aside0.mk A200;clear A200;by_cases c21:x3_1.length < 5864062014805
           ·rw [if_pos c21] at H;have LMc21:=Aside0.mk c21;clear c21;obtain ⟨y755,hy755⟩:∃ y_:List (List Int),y_ = (x3_1 ++ [t752]):=⟨_,rfl⟩;replace H:(spec_voLeast.l0 k2 l0 y755 l0 (l0.length:Int) (wrap64 (x11_1 + 1))) = some r:=by first|(rw [hy755];with_reducible exact H)|(have H2_:=(Option.bind_some _ _).symm.trans H;rw [hy755];with_reducible exact H2_)|(have H2_:=(Option.bind_some _ _).symm.trans H;with_reducible exact H2_)|with_reducible exact H|(rw [hy755];exact H)|exact H
            have Ny755:=Aside0.mk hy755;clear hy755;have H':=Aside0.mk H;clear H;go_wp2_with (first|((with_reducible refine gate_callee (f:=65) rfl ?_);refine goesL_ (some 40) rfl rfl Try.func65 (by kernel_rfl) rfl #[.int .i64 x11_1] rfl mq ?_;(with_reducible refine (spec_voList.calls k2 x11_1 t752 _ A20.out).mono ?_);rintro e w22 ⟨v753,rfl,ho0,hb⟩;refine ⟨_,rfl,?_⟩;have n0_:=Aside0.mk (Kd.S_elder' (by (with_reducible repeat (first|apply Kd.S_alloc|apply Kd.S_drewN|apply Kd.S_drew));exact HO_3.out) (Kd.R_base ho0) hb);have n1_:=Aside0.mk (Kd.R_elder' (by (with_reducible repeat (first|apply Kd.R_alloc|apply Kd.R_drewN|apply Kd.R_drew));exact HO_19.out) (Kd.R_base ho0) hb);have n2_:=Aside0.mk (Kd.R_lower (Kd.R_new' ho0 (Kd.R_lt (by (with_reducible repeat (first|apply Kd.R_alloc|apply Kd.R_drewN|apply Kd.R_drew));exact HO_19.out))) (below_size bw));have n3_:=Aside0.mk (below_step bw hb);clear HO_3;clear HO_19;clear HB;have HO_3:=n0_;have HO_19:=n1_;have HO754:=n2_;have HB:=n3_;clear n0_ n1_ n2_ n3_;(try clear hb);(try clear hb2);(try clear hk);(try clear hi);(try clear ho0);obtain ⟨Ao24,co24,eo24⟩:=Kd.R_slice HO754.out;subst eo24)|((with_reducible refine gate_builtin (b:=.append) (xs:=#[.tmp 38,.tmp 41]) rfl ?_);at_builtin;refine Kd.S_append (Kd.slice 3 (Kd.int .i64)) (w0:=w) w.heap.size rfl (.tmp 38) (.tmp 41) 22 40 (.slice none 0 0) 24 rfl Try.underlying22 info40 rfl (by decide) (by omega) u3 x3_1 t752 [.slice Ao24 t752.length co24] (fun k_=>some k_ ≠ (.slice Ao9 t747.length co9:Value).ownBlock) (fun k_=>some k_ = (.slice Ao24 t752.length co24:Value).ownBlock) rfl rfl ?aP (fun k_ hk_=>((Kd.R_mono (ok':=fun k_=>((fun k_=>some k_ ≠ (.slice Ao9 t747.length co9:Value).ownBlock)) k_ ∧ some k_ ≠ (u3:Value).ownBlock) (Kd.R_apart' (HO754.out) (Kd.S_typed HO_3.out) (by decide)) (fun k_ hk=>⟨hk.1.2,hk.2⟩))).1 k_ hk_.symm) ?aF ?aO ?aB ?aS ?aL ?_;(case aP=>exact Kd.M_row (Kd.R_mono (Kd.R_tight rfl (Kd.R_mono (ok':=fun k_=>((fun k_=>some k_ ≠ (.slice Ao9 t747.length co9:Value).ownBlock)) k_ ∧ some k_ ≠ (u3:Value).ownBlock) (Kd.R_apart' (HO754.out) (Kd.S_typed HO_3.out) (by decide)) (fun k_ hk=>⟨hk.1.2,hk.2⟩))) (fun _ h_=>h_)));(case aB=>exact bw);(case aF=>exact (fun k_ hk=>Kd.fresh' (Kd.R_lt (by (with_reducible repeat (first|apply Kd.R_alloc|apply Kd.R_drewN|apply Kd.R_drew));exact HO_19.out)) k_ hk));(case aO=>exact (by (with_reducible repeat (first|apply Kd.S_alloc|apply Kd.S_drewN|apply Kd.S_drew));exact Kd.S_mono HO_3.out (fun k_ hk=>⟨hk.1,fun e_=>hk.2 e_⟩)));(case aS=>exact (below_size bw));(case aL=>have:=LMc21.out;omega);intro v756 w23 ho hb hg hat;rw [← Ny755.out] at ho;have n0_:=Aside0.mk (Kd.R_over' (by (with_reducible repeat (first|apply Kd.R_alloc|apply Kd.R_drewN|apply Kd.R_drew));exact HO_19.out) (Kd.S_typed (by (with_reducible repeat (first|apply Kd.S_alloc|apply Kd.S_drewN|apply Kd.S_drew));exact HO_3.out)) (by decide) hg);have n1_:=Aside0.mk (hb);have n2_:=Aside0.mk (ho);clear HO_19;clear HB;clear HO_3;clear HO754;have HO_19:=n0_;have HB:=n1_;have HO757:=n2_;clear n0_ n1_ n2_;clear ho hb hg hat))
            go_roundg k2
            case measure=>have:=HK1.out;have:=HK2.out;omega
            case rel=>exact ⟨(y755),(wrap64 (x11_1 + 1)),(by first|rfl|(simp;done)|(simp [*];done)),H',⟨by have:=HK1.out;have:=HK2.out;omega⟩,⟨by (with_reducible repeat (first|apply Kd.S_alloc|apply Kd.S_drewN|apply Kd.S_drew));exact Kd.S_mono HO757.out (fun _ hk=>trivial)⟩,⟨by repeat (first|(with_reducible first|exact HB.out|apply below_alloc|apply pw_below_drewN|apply below_drew1)|exact HB.out)⟩⟩
           ·rw [if_neg c21] at H;exact absurd H (by simp)
          ·replace c19:=Bool.eq_false_iff.mpr c19;subst c19;have H1:(spec_voLeast.l0 k2 l0 x3_1 l0 (l0.length:Int) (wrap64 (x11_1 + 1))) = some r:=by rw [if_neg (show ¬ (false = true) by decide)] at H;exact H
           clear H;have H:=H1;clear H1;have H':=Aside0.mk H;clear H;go_wp2
           go_roundg k2
           case measure=>have:=HK1.out;have:=HK2.out;omega
           case rel=>exact ⟨(x3_1),(wrap64 (x11_1 + 1)),(by first|rfl|(simp;done)|(simp [*];done)),H',⟨by have:=HK1.out;have:=HK2.out;omega⟩,⟨by (with_reducible repeat (first|apply Kd.S_alloc|apply Kd.S_drewN|apply Kd.S_drew));exact Kd.S_mono HO_3.out (fun _ hk=>trivial)⟩,⟨by repeat (first|(with_reducible first|exact HB.out|apply below_alloc|apply pw_below_drewN|apply below_drew1)|exact HB.out)⟩⟩
      ·replace c6:=Bool.eq_false_iff.mpr c6;subst c6;have H1:(spec_voLeast.l0 k1 l0 x3_1 l0 (l0.length:Int) (wrap64 (x11_1 + 1))) = some r:=by rw [if_neg (show ¬ (false = true) by decide)] at H;exact H
       clear H;have H:=H1;clear H1;have H':=Aside0.mk H;clear H;have p746:0 ≤ (x11_1:Int):=of_decide_eq_true ab;have q746:x11_1 < (l0.length:Int):=of_decide_eq_true ab;obtain ⟨ad746,e746,hx746_0⟩:=Kd.at_bool HR0.out x11_1 p746 q746;(try rw [← Nbq5.out] at hx746_0)
       cases e746
       replace hx746_0:=(HB.out.cell (World.block_lt_of_cell? w _ hx746_0)).trans hx746_0;replace p746:=eq_true p746;replace q746:=eq_true q746;go_wp2
       go_roundg k1
       case measure=>have:=HK1.out;omega
       case rel=>exact ⟨(x3_1),(wrap64 (x11_1 + 1)),(by first|rfl|(simp;done)|(simp [*];done)),H',⟨by have:=HK1.out;omega⟩,⟨by (with_reducible repeat (first|apply Kd.S_alloc|apply Kd.S_drewN|apply Kd.S_drew));exact HO_3.out⟩,⟨by repeat (first|(with_reducible first|exact HB.out|apply below_alloc|apply pw_below_drewN|apply below_drew1)|exact HB.out)⟩⟩
     ·rw [if_neg c4] at H;exact absurd H (by simp)
    ·rw [if_neg c3] at H;exact absurd H (by simp)
   ·rw [if_neg c2] at H;have c2b0:decide (x11_1 < (l0.length:Int)) = false:=decide_eq_false c2;clear c2;replace H:=Option.bind_eq_some_iff.mp H;obtain ⟨t743,A250,H⟩:=H;replace H:(some t743) = some r:=H;have A25:=Aside0.mk A250;clear A250;obtain rfl:=Option.some.inj H;obtain ⟨Ao26,co26,eo26⟩:=Kd.S_slice HO_3.out;subst eo26;go_wp2_with (first|((with_reducible refine gate_callee (f:=143) rfl ?_);refine goesL_ (some 45) rfl rfl Try.func143 (by kernel_rfl) rfl #[.slice Ao26 x3_1.length co26] rfl mq ?_;(with_reducible refine (spec_voSorted.calls k1 (fun k_=>True) (.slice Ao26 x3_1.length co26) x3_1 t743 w _ ?side1 ?side2 A25.out).mono ?_);(case side1=>repeat (first|(with_reducible first|exact HB.out|apply below_alloc|apply pw_below_drewN|apply below_drew1)|exact HB.out));(case side2=>exact HO_3.out);rintro e w27 ⟨v744,rfl,ho0,hb,hkp⟩;refine ⟨_,rfl,?_⟩;have n0_:=Aside0.mk (Kd.S_mono (ok':=fun k_=>True) ho0 (fun k_ hk_=>trivial));have n1_:=Aside0.mk (hb);clear HB;clear HO_3;have HO745:=n0_;have HB:=n1_;clear n0_ n1_;(try clear hb);(try clear hkp);(try clear ho0)))
    go_ret
    exact ⟨_,by first|rfl|(simp [errW_none,errW_some] <;> rfl)|(simp [*,errW_none,errW_some] <;> rfl),by (with_reducible repeat (first|apply Kd.S_alloc|apply Kd.S_drewN|apply Kd.S_drew));exact HO745.out,by repeat (first|(with_reducible first|exact HB.out|apply below_alloc|apply pw_below_drewN|apply below_drew1)|exact HB.out)⟩


/-! ### spec_gmOf: function 66 -/
def spec_gmOf.f (k:Nat) (a0:Int) (l1:List Bool):Option (Int × (List (List Int))):=(spec_voLeast.f k l1).bind fun t759=>(some (a0,t759))
theorem spec_gmOf.mono:∀ a0 a1 k,LeO (spec_gmOf.f k a0 a1) (spec_gmOf.f (k + 1) a0 a1):=by
 intro a0 a1 k;unfold spec_gmOf.f
 repeat' with_reducible first|exact spec_voLeast.mono _ _|exact LeO.refl _|exact LeO.none _|refine LeO.ite ?_ ?_|refine LeO.bind ?_ (fun _=>?_)
set_option maxHeartbeats 8000000 in
set_option maxRecDepth 100000 in
theorem spec_gmOf.calls (k:Nat) (a0:Int) (A1:Option Addr) (c1:Nat) (l1:List Bool) (r1:Int) (r2:List (List Int)) (w:World) (hr1:Kd.C Kd.bool w A1 l1.length l1) (hc1:l1.length ≤ c1) (h:spec_gmOf.f k a0 l1 = some (r1,r2)) :
  Calls Try.prog 66 #[.int .i64 a0,.slice A1 l1.length c1] w fun e w'=>∃ v1_:Value,e = .returned (.agg #[.int .i64 r1,v1_]) ∧ Kd.S (Kd.slice 3 (Kd.int .i64)) 40 w' w.heap.size (fun _=>True) v1_ r2 ∧ Below w.heap.size w w':=by
 have hu28:=Try.underlying28;have HR1:=Aside0.mk hr1;have HC1:=Aside0.mk hc1;clear hr1 hc1;have HB:=Aside0.mk (Below.refl w.heap.size w);have H:((spec_voLeast.f k l1).bind fun t759=>(some (a0,t759))) = some (r1,r2):=h;clear h;replace H:=Option.bind_eq_some_iff.mp H;obtain ⟨t759,A30,H⟩:=H;replace H:(some (a0,t759)) = some (r1,r2):=H;have A3:=Aside0.mk A30;clear A30;simp only [Option.some.injEq,Prod.mk.injEq] at H;obtain ⟨rfl,rfl⟩:=H;go_enter Try.func66,Try.ntmps66;go_wp2_with (first|((with_reducible refine gate_dst (N:=4) rfl ?_);refine box_event ?hg (N:=4) ?hd (cs:=#[.int .i64 0,.slice none 0 0]) (t:=28) ?hr ?_;(case hd=>rfl);(case hg=>rfl);(case hr=>first|(go_simp;done)|(go_simp;rfl));intro gb758 hg w4 hbox hb;have n0_:=Aside0.mk (below_step bw hb);have n1_:=Aside0.mk (hbox);have n2_:=Aside0.mk ((by rw [hg];exact (below_size bw):w.heap.size ≤ gb758));have n3_:=Aside0.mk ((by rw [hg];exact (below_size bw):w.heap.size ≤ gb758));clear HB;have HB:=n0_;have BK758:=n1_;have GW758:=n2_;have GE758:=n3_;clear n0_ n1_ n2_ n3_;clear hb hbox hg)|((with_reducible refine gate_callee (f:=107) rfl ?_);refine goesL_ (some 7) rfl rfl Try.func107 (by kernel_rfl) rfl #[.slice A1 l1.length c1] rfl mq ?_;(with_reducible refine (spec_voLeast.calls k _ _ l1 t759 _ ?side1 ?side2 A3.out).mono ?_);(case side1=>repeat (first|exact (Kd.C_below HR1.out HB.out)|(with_reducible refine Kd.C_alloc ?_ _)|(with_reducible refine Kd.C_drewN ?_ _)|(with_reducible refine Kd.C_drew ?_)));(case side2=>exact HC1.out);rintro e w5 ⟨v760,rfl,ho0,hb⟩;refine ⟨_,rfl,?_⟩;have n0_:=Aside0.mk (Kd.S_lower ho0 (below_size bw));have n1_:=Aside0.mk (blk_below (g:=gb758) (o:=.cells #[.int .i64 0,.slice none 0 0] 28 (0,0)) bk hb);have n2_:=Aside0.mk (below_step bw hb);clear BK758;clear HB;have HO761:=n0_;have BK758:=n1_;have HB:=n2_;clear n0_ n1_ n2_;(try clear hb);(try clear hb2);(try clear hk);(try clear hi);(try clear ho0);obtain ⟨Ao6,co6,eo6⟩:=Kd.S_slice HO761.out;subst eo6;have hcz7_0:w5.cell? ⟨gb758,0,none⟩ = some (.int .i64 0):=(blk_cell BK758.out 0).trans rfl;have hcz7_1:w5.cell? ⟨gb758,1,none⟩ = some (.slice none 0 0):=(blk_cell BK758.out 1).trans rfl;have hfz7_0:=blk_frozen BK758.out 0;have hfz7_1:=blk_frozen BK758.out 1))
 refine bodyPost_ret (results_cell_row rfl _ _ gb758 28 #[.int .i64 a0,.slice Ao6 t759.length co6] (0,0) _ rfl (by (with_reducible repeat (first|refine blk_drewN ?_ _|refine blk_drew ?_|refine blk_alloc ?_ _));refine blk_put (cs:=#[.int .i64 a0,.slice none 0 0]) ?_ 1 _ rfl;(with_reducible repeat (first|refine blk_drewN ?_ _|refine blk_drew ?_|refine blk_alloc ?_ _));refine blk_put (cs:=#[.int .i64 0,.slice none 0 0]) ?_ 0 _ rfl;(with_reducible repeat (first|refine blk_drewN ?_ _|refine blk_drew ?_|refine blk_alloc ?_ _));exact BK758.out) Try.underlying28 rfl (by kernel_rfl)) rfl ?_;exact ⟨_,by first|rfl|(simp [errW_none,errW_some] <;> rfl)|(simp [*,errW_none,errW_some] <;> rfl),by (with_reducible repeat (first|apply Kd.S_alloc|apply Kd.S_drewN|apply Kd.S_drew));exact Kd.S_mono (Kd.S_far (p:=⟨gb758,1,none⟩) (Kd.S_far (p:=⟨gb758,0,none⟩) (Kd.S_types HO761.out BK758.out (by decide)) (fun _ hk=>hk.2) (.int .i64 a0)) (fun _ hk=>hk.2) (.slice Ao6 t759.length co6)) (fun _ hk=>trivial),by repeat (first|(with_reducible first|exact HB.out|apply below_alloc|apply pw_below_drewN|apply below_drew1|refine below_set ?_ GE758.out)|exact HB.out)⟩

end Go.Proofs.Ytokelcedamegbaa.P
