/- Part 4 of the texts below the law FnExactHeadsGame. Printed by this session's driver over the kit's printer, but for the hand contracts and the plain laws. -/
import Derived.Shelf.SlSortCmp.NoneTotal
import Derived.Test.YtokelcedamegbaaCHeadsGame1
import Derived.Test.YtokelcedamegbaaCHeadsGame2
import Derived.Test.YtokelcedamegbaaCHeadsGame3
set_option linter.unusedVariables false
set_option linter.unusedSimpArgs false
namespace Go.Proofs.Ytokelcedamegbaa.P
open Go.RowKit Go.Proofs.YtokelcedamegbaaW.PrintWords Go.Proofs.YtokelcedamegbaaW.PrintLast Go.Proofs.YtokelcedamegbaaW.PrintMore
attribute [local go_sem] max2_int min2_int max_two min_two max_three min_three max_four min_four   -- for this text's walks alone
set_option linter.unusedVariables false
set_option linter.unusedSimpArgs false

/-! ### spec_voSorted: function 143 -/
-- LEND 0 0
-- IMPORT B
-- IMPORT InsSort
-- IMPORT P_spec_voBefore
theorem spec_voSorted.at_ {α : Type} [Inhabited α] {enc : α → Value} {h1 : ∀ x, (enc x).oneCell' = true} {w : World} {A : Option Addr} {n : Nat} {xs : List α} (h : Kd.C (Kd.scalar enc h1) w A n xs) (i : Int) (h0 : 0 ≤ i) (hi : i < n) : ∃ ad, A = some ad ∧ w.cell? (ad.add i.toNat) = some (enc (rdOf default xs i)) :=
  ReadsOf.at_ (Kd.reads_of_C (enc := enc) (d := (default : α)) (h1 := h1) h) i h0 hi
mutual
def spec_voSorted.g0 {α : Type} [Inhabited α] (bf : α → α → Option Bool) : Nat → List α → List α → Int → Int → Option (List α)
  | 0, _, _, _, _ => none
  | k + 1, x3, x8, x9, x10 => if x10 < x9 then (if 0 ≤ x10 then (if x10 < (x8.length : Int) then (spec_voSorted.g1 bf k x3 (rdOf default x8 x10) 0 x8 x9 x10) else (none)) else (none)) else (some x3)
def spec_voSorted.g1 {α : Type} [Inhabited α] (bf : α → α → Option Bool) : Nat → List α → α → Int → List α → Int → Int → Option (List α)
  | 0, _, _, _, _, _, _ => none
  | k + 1, x3, x5, x6, x8, x9, x10 => if x6 < (x3.length : Int) then (if 0 ≤ x6 then ((bf (rdOf default x3 x6) x5).bind fun t745 => (if t745 = true then (spec_voSorted.g1 bf k x3 x5 (wrap64 (x6 + 1)) x8 x9 x10) else ((some (([] : List α) : List α)).bind fun y746 => (if x6 ≤ (x3.length : Int) then ((some (x3.take (x6 : Int).toNat : List α)).bind fun y749 => (if y746.length + y749.length < 5864062014805 then ((some (y746 ++ y749 : List α)).bind fun y753 => (if y753.length < 5864062014805 then ((some (y753 ++ [x5] : List α)).bind fun y756 => ((some (x3.drop (x6 : Int).toNat : List α)).bind fun y759 => (if y756.length + y759.length < 5864062014805 then (spec_voSorted.g0 bf k (y756 ++ y759) x8 x9 (wrap64 (x10 + 1))) else (none)))) else (none))) else (none))) else (none))))) else (none)) else ((some (([] : List α) : List α)).bind fun y766 => (if 0 ≤ x6 then (if x6 ≤ (x3.length : Int) then ((some (x3.take (x6 : Int).toNat : List α)).bind fun y769 => (if y766.length + y769.length < 5864062014805 then ((some (y766 ++ y769 : List α)).bind fun y773 => (if y773.length < 5864062014805 then ((some (y773 ++ [x5] : List α)).bind fun y776 => ((some (x3.drop (x6 : Int).toNat : List α)).bind fun y779 => (if y776.length + y779.length < 5864062014805 then (spec_voSorted.g0 bf k (y776 ++ y779) x8 x9 (wrap64 (x10 + 1))) else (none)))) else (none))) else (none))) else (none)) else (none)))
end
def spec_voSorted.gf {α : Type} [Inhabited α] (bf : α → α → Option Bool) (k : Nat) (l0 : List α) : Option (List α) := spec_voSorted.g0 bf k ([] : List α) l0 (l0.length : Int) 0
set_option maxHeartbeats 8000000 in
set_option maxRecDepth 100000 in
theorem spec_voSorted.callsG {α : Type} [Inhabited α] (sA : α → Option Addr) (sn sc : α → Nat) (bf : α → α → Option Bool) (k : Nat) (A0 : Option Addr) (c0 : Nat) (l0 : List α) (r : List α) (w : World)
    (hbf : ∀ (W : World) (x y : α) (b : Bool), bf x y = some b → Below w.heap.size w W → Calls Try.prog 120 #[.slice (sA x) (sn x) (sc x), .slice (sA y) (sn y) (sc y)] W fun e w' => e = .returned (.bool b) ∧ Drawn0 W w') (hr0 : Kd.C (Kd.scalar (fun x_ : α => Value.slice (sA x_) (sn x_) (sc x_)) (fun _ => rfl)) w A0 l0.length l0) (hc0 : l0.length ≤ c0) (h : spec_voSorted.gf bf k l0 = some r) :
    Calls Try.prog 143 #[.slice A0 l0.length c0] w fun e w' => ∃ v0_ : Value, e = .returned (v0_) ∧ Kd.R (Kd.scalar (fun x_ : α => Value.slice (sA x_) (sn x_) (sc x_)) (fun _ => rfl)) 40 w' w.heap.size (fun _ => True) v0_ r ∧ Below w.heap.size w w' := by
  have HR0 := Aside0.mk hr0
  have HC0 := Aside0.mk hc0
  have HBF := Aside0.mk hbf
  clear hbf
  clear hr0 hc0
  have HB := Aside0.mk (Below.refl w.heap.size w)
  have H : (spec_voSorted.g0 bf k ([] : List α) l0 (l0.length : Int) 0) = some r := h
  clear h
  have H' := Aside0.mk H
  clear H
  go_enter Try.func143, Try.ntmps143
  go_wp2
  go_loopg [3, 10] k (fun kq v3 v10 w' => ∃ (x3_1 : List α) (x10_1 : Int), v10 = .int .i64 x10_1 ∧ Aside0 (spec_voSorted.g0 bf kq x3_1 l0 (l0.length : Int) x10_1 = some r) ∧ Aside0 (kq ≤ k) ∧ Aside0 (Kd.R (Kd.scalar (fun x_ : α => Value.slice (sA x_) (sn x_) (sc x_)) (fun _ => rfl)) 40 w' w.heap.size (fun _ => True) v3 x3_1) ∧ Aside0 (Below w.heap.size w w'))
  case atStart => exact ⟨(([] : List α)), (0), (by first | rfl | (simp; done) | (simp [*]; done)), H', ⟨Nat.le_refl _⟩, ⟨by first | exact Kd.R_nil _ _ _ _ _ | exact Kd.N_nil _ _ _ _ _ | exact Kd.V_nil _ _ _ _ _ | exact Kd.Q_nil _ _ _ _ _ | exact Kd.S_nil _ _ _ _ _⟩, ⟨by repeat (first | (with_reducible first | exact HB.out | apply below_alloc | apply pw_below_drewN | apply below_drew1) | exact HB.out)⟩⟩
  case round =>
    clear H'
    try clear c1
    obtain ⟨x3_1, x10_1, rfl, HA, HK1, HO_3, HB⟩ := hrel
    cases gk with
    | zero => exact absurd HA.out (by simp [spec_voSorted.g0])
    | succ k1 =>
      have H := HA.out
      clear HA
      simp only [spec_voSorted.g0] at H
      by_cases c2 : x10_1 < (l0.length : Int)
      · rw [if_pos c2] at H
        have c2b0 : decide (x10_1 < (l0.length : Int)) = true := decide_eq_true c2
        clear c2
        by_cases c3 : 0 ≤ x10_1
        · rw [if_pos c3] at H
          have c3b0 : decide (0 ≤ x10_1) = true := decide_eq_true c3
          clear c3
          by_cases c4 : x10_1 < (l0.length : Int)
          · rw [if_pos c4] at H
            have c4b0 : decide (x10_1 < (l0.length : Int)) = true := decide_eq_true c4
            clear c4
            have H' := Aside0.mk H
            clear H
            have p743 : 0 ≤ (x10_1 : Int) := of_decide_eq_true (by first | (with_reducible assumption) | assumption)
            have q743 : x10_1 < (l0.length : Int) := of_decide_eq_true (by first | (with_reducible assumption) | assumption)
            obtain ⟨ad743, e743, hx743_0⟩ := spec_voSorted.at_ HR0.out x10_1 p743 q743
            cases e743
            replace hx743_0 := (HB.out.cell (World.block_lt_of_cell? w _ hx743_0)).trans hx743_0
            replace p743 := eq_true p743
            replace q743 := eq_true q743
            go_wp2
            go_loopg [6] k1 (fun kq v6 w' => ∃ (x6_2 : Int), v6 = .int .i64 x6_2 ∧ Aside0 (spec_voSorted.g1 bf kq x3_1 (rdOf default l0 x10_1) x6_2 l0 (l0.length : Int) x10_1 = some r) ∧ Aside0 (kq ≤ k1) ∧ Aside0 (Kd.R (Kd.scalar (fun x_ : α => Value.slice (sA x_) (sn x_) (sc x_)) (fun _ => rfl)) 40 w' w.heap.size (fun _ => True) u3 x3_1) ∧ Aside0 (Below w.heap.size w w'))
            case atStart => exact ⟨(0), (by first | rfl | (simp; done) | (simp [*]; done)), H', ⟨Nat.le_refl _⟩, ⟨by (with_reducible repeat (first | apply Kd.R_alloc | apply Kd.R_drewN | apply Kd.R_drew)); exact HO_3.out⟩, ⟨by repeat (first | (with_reducible first | exact HB.out | apply below_alloc | apply pw_below_drewN | apply below_drew1) | exact HB.out)⟩⟩
            case round =>
              clear H'
              try clear c1
              try clear c2
              try clear c2b0
              try clear p2
              try clear c3
              try clear c3b0
              try clear c4
              try clear c4b0
              try clear hx743_0
              try clear p743
              try clear q743
              obtain ⟨x6_2, rfl, HA, HK2, HO_3, HB⟩ := hrel
              cases gk with
              | zero => exact absurd HA.out (by simp [spec_voSorted.g1])
              | succ k2 =>
                have H := HA.out
                clear HA
                simp only [spec_voSorted.g1] at H
                by_cases c5 : x6_2 < (x3_1.length : Int)
                · rw [if_pos c5] at H
                  have c5b0 : decide (x6_2 < (x3_1.length : Int)) = true := decide_eq_true c5
                  clear c5
                  by_cases c6 : 0 ≤ x6_2
                  · rw [if_pos c6] at H
                    have c6b0 : decide (0 ≤ x6_2) = true := decide_eq_true c6
                    clear c6
                    replace H := Option.bind_eq_some_iff.mp H
                    obtain ⟨t745, A70, H⟩ := H
                    replace H : (if t745 = true then (spec_voSorted.g1 bf k2 x3_1 (rdOf default l0 x10_1) (wrap64 (x6_2 + 1)) l0 (l0.length : Int) x10_1) else ((some (([] : List α) : List α)).bind fun y746 => (if x6_2 ≤ (x3_1.length : Int) then ((some (x3_1.take (x6_2 : Int).toNat : List α)).bind fun y749 => (if y746.length + y749.length < 5864062014805 then ((some (y746 ++ y749 : List α)).bind fun y753 => (if y753.length < 5864062014805 then ((some (y753 ++ [(rdOf default l0 x10_1)] : List α)).bind fun y756 => ((some (x3_1.drop (x6_2 : Int).toNat : List α)).bind fun y759 => (if y756.length + y759.length < 5864062014805 then (spec_voSorted.g0 bf k2 (y756 ++ y759) l0 (l0.length : Int) (wrap64 (x10_1 + 1))) else (none)))) else (none))) else (none))) else (none)))) = some r := H
                    have A7 := Aside0.mk A70
                    clear A70
                    by_cases c8 : t745 = true
                    · subst c8
                      have H1 : (spec_voSorted.g1 bf k2 x3_1 (rdOf default l0 x10_1) (wrap64 (x6_2 + 1)) l0 (l0.length : Int) x10_1) = some r := by rw [if_pos rfl] at H; exact H
                      clear H
                      have H := H1
                      clear H1
                      have H' := Aside0.mk H
                      clear H
                      obtain ⟨Ao9, co9, eo9⟩ := Kd.R_slice HO_3.out
                      subst eo9
                      have p744 : 0 ≤ (x6_2 : Int) := of_decide_eq_true (by first | (with_reducible assumption) | assumption)
                      have q744 : x6_2 < (x3_1.length : Int) := of_decide_eq_true (by first | (with_reducible assumption) | assumption)
                      obtain ⟨ad744, e744, hx744_0⟩ := spec_voSorted.at_ (Kd.R_reads' HO_3.out).2.2 x6_2 p744 q744
                      cases e744
                      replace p744 := eq_true p744
                      replace q744 := eq_true q744
                      go_wp2_with (first | (go_at_call 120; (with_reducible refine (HBF.out _ (rdOf default x3_1 x6_2) (rdOf default l0 x10_1) true A7.out (by repeat (first | (with_reducible first | exact HB.out | apply below_alloc | apply pw_below_drewN | apply below_drew1) | exact HB.out))).mono ?_); rintro e w' ⟨rfl, ⟨nd, rfl⟩⟩))
                      go_roundg k2
                      case measure => have := HK1.out; have := HK2.out; omega
                      case rel => exact ⟨(wrap64 (x6_2 + 1)), (by first | rfl | (simp; done) | (simp [*]; done)), H', ⟨by have := HK1.out; have := HK2.out; omega⟩, ⟨by (with_reducible repeat (first | apply Kd.R_alloc | apply Kd.R_drewN | apply Kd.R_drew)); exact HO_3.out⟩, ⟨by repeat (first | (with_reducible first | exact HB.out | apply below_alloc | apply pw_below_drewN | apply below_drew1) | exact HB.out)⟩⟩
                    · replace c8 := Bool.eq_false_iff.mpr c8
                      subst c8
                      have H1 : ((some (([] : List α) : List α)).bind fun y746 => (if x6_2 ≤ (x3_1.length : Int) then ((some (x3_1.take (x6_2 : Int).toNat : List α)).bind fun y749 => (if y746.length + y749.length < 5864062014805 then ((some (y746 ++ y749 : List α)).bind fun y753 => (if y753.length < 5864062014805 then ((some (y753 ++ [(rdOf default l0 x10_1)] : List α)).bind fun y756 => ((some (x3_1.drop (x6_2 : Int).toNat : List α)).bind fun y759 => (if y756.length + y759.length < 5864062014805 then (spec_voSorted.g0 bf k2 (y756 ++ y759) l0 (l0.length : Int) (wrap64 (x10_1 + 1))) else (none)))) else (none))) else (none))) else (none))) = some r := by rw [if_neg (show ¬ (false = true) by decide)] at H; exact H
                      clear H
                      have H := H1
                      clear H1
                      obtain ⟨y746, hy746⟩ : ∃ y_ : List α, y_ = (([] : List α)) := ⟨_, rfl⟩
                      replace H : (if x6_2 ≤ (x3_1.length : Int) then ((some (x3_1.take (x6_2 : Int).toNat : List α)).bind fun y749 => (if y746.length + y749.length < 5864062014805 then ((some (y746 ++ y749 : List α)).bind fun y753 => (if y753.length < 5864062014805 then ((some (y753 ++ [(rdOf default l0 x10_1)] : List α)).bind fun y756 => ((some (x3_1.drop (x6_2 : Int).toNat : List α)).bind fun y759 => (if y756.length + y759.length < 5864062014805 then (spec_voSorted.g0 bf k2 (y756 ++ y759) l0 (l0.length : Int) (wrap64 (x10_1 + 1))) else (none)))) else (none))) else (none))) else (none)) = some r := by first | (rw [hy746]; with_reducible exact H) | (have H2_ := (Option.bind_some _ _).symm.trans H; rw [hy746]; with_reducible exact H2_) | (have H2_ := (Option.bind_some _ _).symm.trans H; with_reducible exact H2_) | with_reducible exact H | (rw [hy746]; exact H) | exact H
                      have Ny746 := Aside0.mk hy746
                      clear hy746
                      have c10b0 := eq_true (of_decide_eq_true (by first | (with_reducible assumption) | assumption) : 0 ≤ x6_2)
                      by_cases c11 : x6_2 ≤ (x3_1.length : Int)
                      · rw [if_pos c11] at H
                        have c11b0 := eq_true c11
                        have c11b1 : decide (x6_2 ≤ (x3_1.length : Int)) = true := decide_eq_true c11
                        clear c11
                        obtain ⟨y749, hy749⟩ : ∃ y_ : List α, y_ = (x3_1.take (x6_2 : Int).toNat) := ⟨_, rfl⟩
                        replace H : (if y746.length + y749.length < 5864062014805 then ((some (y746 ++ y749 : List α)).bind fun y753 => (if y753.length < 5864062014805 then ((some (y753 ++ [(rdOf default l0 x10_1)] : List α)).bind fun y756 => ((some (x3_1.drop (x6_2 : Int).toNat : List α)).bind fun y759 => (if y756.length + y759.length < 5864062014805 then (spec_voSorted.g0 bf k2 (y756 ++ y759) l0 (l0.length : Int) (wrap64 (x10_1 + 1))) else (none)))) else (none))) else (none)) = some r := by first | (rw [hy749]; with_reducible exact H) | (have H2_ := (Option.bind_some _ _).symm.trans H; rw [hy749]; with_reducible exact H2_) | (have H2_ := (Option.bind_some _ _).symm.trans H; with_reducible exact H2_) | with_reducible exact H | (rw [hy749]; exact H) | exact H
                        have Ny749 := Aside0.mk hy749
                        clear hy749
                        by_cases c12 : y746.length + y749.length < 5864062014805
                        · rw [if_pos c12] at H
                          have LMc12 := Aside0.mk c12
                          clear c12
                          obtain ⟨y753, hy753⟩ : ∃ y_ : List α, y_ = (y746 ++ y749) := ⟨_, rfl⟩
                          replace H : (if y753.length < 5864062014805 then ((some (y753 ++ [(rdOf default l0 x10_1)] : List α)).bind fun y756 => ((some (x3_1.drop (x6_2 : Int).toNat : List α)).bind fun y759 => (if y756.length + y759.length < 5864062014805 then (spec_voSorted.g0 bf k2 (y756 ++ y759) l0 (l0.length : Int) (wrap64 (x10_1 + 1))) else (none)))) else (none)) = some r := by first | (rw [hy753]; with_reducible exact H) | (have H2_ := (Option.bind_some _ _).symm.trans H; rw [hy753]; with_reducible exact H2_) | (have H2_ := (Option.bind_some _ _).symm.trans H; with_reducible exact H2_) | with_reducible exact H | (rw [hy753]; exact H) | exact H
                          have Ny753 := Aside0.mk hy753
                          clear hy753
                          by_cases c13 : y753.length < 5864062014805
                          · rw [if_pos c13] at H
                            have LMc13 := Aside0.mk c13
                            clear c13
                            obtain ⟨y756, hy756⟩ : ∃ y_ : List α, y_ = (y753 ++ [(rdOf default l0 x10_1)]) := ⟨_, rfl⟩
                            replace H : ((some (x3_1.drop (x6_2 : Int).toNat : List α)).bind fun y759 => (if y756.length + y759.length < 5864062014805 then (spec_voSorted.g0 bf k2 (y756 ++ y759) l0 (l0.length : Int) (wrap64 (x10_1 + 1))) else (none))) = some r := by first | (rw [hy756]; with_reducible exact H) | (have H2_ := (Option.bind_some _ _).symm.trans H; rw [hy756]; with_reducible exact H2_) | (have H2_ := (Option.bind_some _ _).symm.trans H; with_reducible exact H2_) | with_reducible exact H | (rw [hy756]; exact H) | exact H
                            have Ny756 := Aside0.mk hy756
                            clear hy756
                            have c14b0 := eq_true (of_decide_eq_true (by first | (with_reducible assumption) | assumption) : 0 ≤ x6_2)
                            have c15b0 := eq_true (of_decide_eq_true (by first | (with_reducible assumption) | assumption) : x6_2 ≤ (x3_1.length : Int))
                            obtain ⟨y759, hy759⟩ : ∃ y_ : List α, y_ = (x3_1.drop (x6_2 : Int).toNat) := ⟨_, rfl⟩
                            replace H : (if y756.length + y759.length < 5864062014805 then (spec_voSorted.g0 bf k2 (y756 ++ y759) l0 (l0.length : Int) (wrap64 (x10_1 + 1))) else (none)) = some r := by first | (rw [hy759]; with_reducible exact H) | (have H2_ := (Option.bind_some _ _).symm.trans H; rw [hy759]; with_reducible exact H2_) | (have H2_ := (Option.bind_some _ _).symm.trans H; with_reducible exact H2_) | with_reducible exact H | (rw [hy759]; exact H) | exact H
                            have Ny759 := Aside0.mk hy759
                            clear hy759
                            by_cases c16 : y756.length + y759.length < 5864062014805
                            · rw [if_pos c16] at H
                              have LMc16 := Aside0.mk c16
                              clear c16
                              obtain ⟨y763, hy763⟩ : ∃ y_ : List α, y_ = (y756 ++ y759) := ⟨_, rfl⟩
                              replace H : (spec_voSorted.g0 bf k2 y763 l0 (l0.length : Int) (wrap64 (x10_1 + 1))) = some r := by first | (rw [hy763]; with_reducible exact H) | (have H2_ := (Option.bind_some _ _).symm.trans H; rw [hy763]; with_reducible exact H2_) | (have H2_ := (Option.bind_some _ _).symm.trans H; with_reducible exact H2_) | with_reducible exact H | (rw [hy763]; exact H) | exact H
                              have Ny763 := Aside0.mk hy763
                              clear hy763
                              have H' := Aside0.mk H
                              clear H
                              obtain ⟨Ao17, co17, eo17⟩ := Kd.R_slice HO_3.out
                              subst eo17
                              have p744 : 0 ≤ (x6_2 : Int) := of_decide_eq_true (by first | (with_reducible assumption) | assumption)
                              have q744 : x6_2 < (x3_1.length : Int) := of_decide_eq_true (by first | (with_reducible assumption) | assumption)
                              obtain ⟨ad744, e744, hx744_0⟩ := spec_voSorted.at_ (Kd.R_reads' HO_3.out).2.2 x6_2 p744 q744
                              cases e744
                              replace p744 := eq_true p744
                              replace q744 := eq_true q744
                              go_wp2_with (first | (go_at_call 120; (with_reducible refine (HBF.out _ (rdOf default x3_1 x6_2) (rdOf default l0 x10_1) false A7.out (by repeat (first | (with_reducible first | exact HB.out | apply below_alloc | apply pw_below_drewN | apply below_drew1) | exact HB.out))).mono ?_); rintro e w' ⟨rfl, ⟨nd, rfl⟩⟩) | ((with_reducible refine gate_dst (N := 28) rfl ?_); refine Kd.R_lit (Kd.scalar (fun x_ : α => Value.slice (sA x_) (sn x_) (sc x_)) (fun _ => rfl)) _ 40 ?hg (N := 28) ?hd (xs := ([] : List α)) (inner := []) (ok := fun _ => True) (okp := fun _ => True) ?hr ?hp (fun _ hk => hk) trivial (Below.refl _ _) (Nat.le_refl _) (by simp) ?_; (case hd => rfl); (case hg => rfl); (case hr => first | (go_simp; done) | (go_simp; rfl)); (case hp => exact (Reps.none _ _)); intro v747 w18 ho19 hb hg_ hnew_; clear hg_ hnew_; (first | rw [← Ny746.out] at ho19 | (simp only [Int.reduceToNat] at ho19; rw [← Ny746.out] at ho19)); have n0_ := Aside0.mk (Kd.R_elder' (by (with_reducible repeat (first | apply Kd.R_alloc | apply Kd.R_drewN | apply Kd.R_drew)); exact HO_3.out) (Kd.R_base ho19) hb); have n1_ := Aside0.mk (Kd.R_lower (Kd.R_new' ho19 (Kd.R_lt (by (with_reducible repeat (first | apply Kd.R_alloc | apply Kd.R_drewN | apply Kd.R_drew)); exact HO_3.out))) (below_size (by repeat (first | (with_reducible first | exact HB.out | apply below_alloc | apply pw_below_drewN | apply below_drew1) | exact HB.out)))); have n2_ := Aside0.mk (below_step (by repeat (first | (with_reducible first | exact HB.out | apply below_alloc | apply pw_below_drewN | apply below_drew1) | exact HB.out)) hb); clear HO_3; clear HB; have HO_3 := n0_; have HO748 := n1_; have HB := n2_; clear n0_ n1_ n2_; clear hb ho19; have q20 : (x6_2 : Int) ≤ ((x3_1.length : Int) : Int) := of_decide_eq_true (by first | (with_reducible assumption) | assumption); obtain ⟨i020, hi020, _, hsz20, _⟩ := info_parts info40; have hroom20 : x3_1.length ≤ co17 := (Kd.R_reads' HO_3.out).2.1; have hC20 : Kd.C (Kd.scalar (fun x_ : α => Value.slice (sA x_) (sn x_) (sc x_)) (fun _ => rfl)) _ (some ad744) x3_1.length x3_1 := (Kd.R_reads' HO_3.out).2.2; have hcut20 := cut_to (P := Try.prog) 22 40 .i64 Try.underlying22 hi020 (some ad744) x3_1.length co17 x6_2 (of_decide_eq_true (by first | (with_reducible assumption) | assumption)) q20 hroom20; have hr20 := Kd.C_take (m := (x6_2 : Int).toNat) hC20 (by omega); have hy20 : y749.length = (x6_2 : Int).toNat := (by rw [Ny749.out, List.length_take]; omega); rw [← Ny749.out] at hr20; rw [← hy20] at hcut20; have HR752 := Aside0.mk hr20; have HC752 := Aside0.mk (show y749.length ≤ co17 from by omega); clear hr20 hC20 hroom20 hi020 hsz20; have KY20 := Aside0.mk hy20; clear hy20; have KL20 := Aside0.mk (show (x6_2 : Int).toNat ≤ x3_1.length from by omega); replace q20 := eq_true q20) | ((with_reducible refine gate_builtin (b := .append) (xs := #[.tmp 28, .tmp 31]) rfl ?_); at_builtin; refine Kd.R_append_rows (Kd.scalar (fun x_ : α => Value.slice (sA x_) (sn x_) (sc x_)) (fun _ => rfl)) (w0 := w) w.heap.size rfl (.tmp 28) (.tmp 31) 22 40 (.slice none 0 0) 24 rfl Try.underlying22 info40 rfl (Nat.lt_succ_self 0) (by omega) v747 y746 y749 _ _ _ (fun k_ => some k_ ≠ (.slice (some ad744) x3_1.length co17 : Value).ownBlock) (fun _ => False) rfl rfl ?aO ?aR (fun _ _ h => h) (fun _ h => h.elim) ?aF ?aB ?aS ?aL ?_; (case aR => repeat (first | exact (by repeat (first | (with_reducible exact HR752.out) | (with_reducible refine Kd.C_alloc ?_ _) | (with_reducible refine Kd.C_drewN ?_ _) | (with_reducible refine Kd.C_drew ?_) | exact HR752.out)) | (with_reducible refine Kd.C_alloc ?_ _) | (with_reducible refine Kd.C_drewN ?_ _) | (with_reducible refine Kd.C_drew ?_))); (case aB => exact (by repeat (first | (with_reducible first | exact HB.out | apply below_alloc | apply pw_below_drewN | apply below_drew1) | exact HB.out))); (case aF => exact (fun k_ hk => Kd.fresh' (Kd.R_lt (by (with_reducible repeat (first | apply Kd.R_alloc | apply Kd.R_drewN | apply Kd.R_drew)); exact HO_3.out)) k_ hk)); (case aO => exact (by (with_reducible repeat (first | apply Kd.R_alloc | apply Kd.R_drewN | apply Kd.R_drew)); exact Kd.R_mono HO748.out (fun _ hk => hk.2))); (case aS => exact (below_size (by repeat (first | (with_reducible first | exact HB.out | apply below_alloc | apply pw_below_drewN | apply below_drew1) | exact HB.out)))); (case aL => have := LMc12.out; omega); intro v754 w21 ho hb hg hat; rw [← Ny753.out] at ho; have n0_ := Aside0.mk (Kd.R_after (ok := (fun _ => True)) (by (with_reducible repeat (first | apply Kd.R_alloc | apply Kd.R_drewN | apply Kd.R_drew)); exact HO_3.out) hg hat); have n1_ := Aside0.mk (hb); have n2_ := Aside0.mk ((show Kd.C (Kd.scalar (fun x_ : α => Value.slice (sA x_) (sn x_) (sc x_)) (fun _ => rfl)) w21 (some ad744) y749.length y749 from by rw [Ny749.out]; exact Kd.C_take (m := (x6_2 : Int).toNat) ((Kd.R_reads' (Kd.R_after (ok := (fun _ => True)) (by (with_reducible repeat (first | apply Kd.R_alloc | apply Kd.R_drewN | apply Kd.R_drew)); exact HO_3.out) hg hat)).2.2) KL20.out)); have n3_ := Aside0.mk (ho); clear HO_3; clear HB; clear HR752; clear HO748; have HO_3 := n0_; have HB := n1_; have HR752 := n2_; have HO755 := n3_; clear n0_ n1_ n2_ n3_; clear ho hb hg hat) | ((with_reducible refine gate_builtin (b := .append) (xs := #[.tmp 32, .tmp 34]) rfl ?_); at_builtin; refine Kd.R_append (Kd.scalar (fun x_ : α => Value.slice (sA x_) (sn x_) (sc x_)) (fun _ => rfl)) (w0 := w) w.heap.size rfl (.tmp 32) (.tmp 34) 22 40 (.slice none 0 0) 24 rfl Try.underlying22 info40 rfl (Nat.lt_succ_self 0) (by omega) v754 y753 (rdOf default l0 x10_1) [.slice (sA (rdOf default l0 x10_1)) (sn (rdOf default l0 x10_1)) (sc (rdOf default l0 x10_1))] (fun k_ => some k_ ≠ (.slice (some ad744) x3_1.length co17 : Value).ownBlock) (fun _ => False) rfl rfl ?aP (fun _ hk => hk.elim) ?aF ?aO ?aB ?aS ?aL ?_; (case aP => exact rfl); (case aB => exact (by repeat (first | (with_reducible first | exact HB.out | apply below_alloc | apply pw_below_drewN | apply below_drew1) | exact HB.out))); (case aF => exact (fun k_ hk => Kd.fresh' (Kd.R_lt (by (with_reducible repeat (first | apply Kd.R_alloc | apply Kd.R_drewN | apply Kd.R_drew)); exact HO_3.out)) k_ hk)); (case aO => exact (by (with_reducible repeat (first | apply Kd.R_alloc | apply Kd.R_drewN | apply Kd.R_drew)); exact HO755.out)); (case aS => exact (below_size (by repeat (first | (with_reducible first | exact HB.out | apply below_alloc | apply pw_below_drewN | apply below_drew1) | exact HB.out)))); (case aL => have := LMc13.out; omega); intro v757 w22 ho hb hg hat; rw [← Ny756.out] at ho; have n0_ := Aside0.mk (Kd.R_after (ok := (fun _ => True)) (by (with_reducible repeat (first | apply Kd.R_alloc | apply Kd.R_drewN | apply Kd.R_drew)); exact HO_3.out) hg hat); have n1_ := Aside0.mk (hb); have n2_ := Aside0.mk ((show Kd.C (Kd.scalar (fun x_ : α => Value.slice (sA x_) (sn x_) (sc x_)) (fun _ => rfl)) w22 (some ad744) y749.length y749 from by rw [Ny749.out]; exact Kd.C_take (m := (x6_2 : Int).toNat) ((Kd.R_reads' (Kd.R_after (ok := (fun _ => True)) (by (with_reducible repeat (first | apply Kd.R_alloc | apply Kd.R_drewN | apply Kd.R_drew)); exact HO_3.out) hg hat)).2.2) KL20.out)); have n3_ := Aside0.mk (ho); clear HO_3; clear HB; clear HR752; clear HO755; have HO_3 := n0_; have HB := n1_; have HR752 := n2_; have HO758 := n3_; clear n0_ n1_ n2_ n3_; clear ho hb hg hat; have q23 : (x6_2 : Int) ≤ ((x3_1.length : Int) : Int) := of_decide_eq_true (by first | (with_reducible assumption) | assumption); obtain ⟨i023, hi023, _, hsz23, _⟩ := info_parts info40; have hroom23 : x3_1.length ≤ co17 := (Kd.R_reads' HO_3.out).2.1; have hC23 : Kd.C (Kd.scalar (fun x_ : α => Value.slice (sA x_) (sn x_) (sc x_)) (fun _ => rfl)) _ (some ad744) x3_1.length x3_1 := (Kd.R_reads' HO_3.out).2.2; have q023 : (0 : Int) ≤ (x6_2 : Int) := of_decide_eq_true (by first | (with_reducible assumption) | assumption); have hcut23 := cut_from (P := Try.prog) 22 40 .i64 Try.underlying22 hi023 1 hsz23 (some ad744) x3_1.length co17 x6_2 q023 q23; have hr23 := Kd.C_drop (m := (x6_2 : Int).toNat) (c := co17) hC23 (by omega) hroom23; obtain ⟨A23, hA23⟩ : ∃ A1, A1 = (if co17 = (x6_2 : Int).toNat then (some ad744) else ((some ad744) : Option Addr).map (·.add ((x6_2 : Int).toNat * 1))) := ⟨_, rfl⟩; obtain ⟨c23, hc23⟩ : ∃ c1, c1 = co17 - (x6_2 : Int).toNat := ⟨_, rfl⟩; have hy23 : y759.length = x3_1.length - (x6_2 : Int).toNat := (by rw [Ny759.out, List.length_drop] <;> omega); rw [show (x3_1).drop (x6_2 : Int).toNat = y759 from Ny759.out.symm] at hr23; replace hr23 : Kd.C (Kd.scalar (fun x_ : α => Value.slice (sA x_) (sn x_) (sc x_)) (fun _ => rfl)) _ A23 y759.length y759 := (by rw [hA23]; exact hr23); rw [← hy23, ← hA23, ← hc23] at hcut23; have HR762 := Aside0.mk hr23; have HC762 := Aside0.mk (show y759.length ≤ c23 from by rw [hy23, hc23]; exact Nat.sub_le_sub_right hroom23 _); clear hr23 hC23 hroom23 hi023 hsz23 hc23; have KY23 := Aside0.mk hy23; have KA23 := Aside0.mk hA23; clear hy23 hA23; have KL23 := Aside0.mk (show (x6_2 : Int).toNat ≤ x3_1.length from by omega); replace q23 := eq_true q23) | ((with_reducible refine gate_builtin (b := .append) (xs := #[.tmp 36, .tmp 39]) rfl ?_); at_builtin; refine Kd.R_append_rows (Kd.scalar (fun x_ : α => Value.slice (sA x_) (sn x_) (sc x_)) (fun _ => rfl)) (w0 := w) w.heap.size rfl (.tmp 36) (.tmp 39) 22 40 (.slice none 0 0) 24 rfl Try.underlying22 info40 rfl (Nat.lt_succ_self 0) (by omega) v757 y756 y759 _ _ _ (fun k_ => some k_ ≠ (.slice (some ad744) x3_1.length co17 : Value).ownBlock) (fun _ => False) rfl rfl ?aO ?aR (fun _ _ h => h) (fun _ h => h.elim) ?aF ?aB ?aS ?aL ?_; (case aR => repeat (first | exact (by repeat (first | (with_reducible exact HR762.out) | (with_reducible refine Kd.C_alloc ?_ _) | (with_reducible refine Kd.C_drewN ?_ _) | (with_reducible refine Kd.C_drew ?_) | exact HR762.out)) | (with_reducible refine Kd.C_alloc ?_ _) | (with_reducible refine Kd.C_drewN ?_ _) | (with_reducible refine Kd.C_drew ?_))); (case aB => exact (by repeat (first | (with_reducible first | exact HB.out | apply below_alloc | apply pw_below_drewN | apply below_drew1) | exact HB.out))); (case aF => exact (fun k_ hk => Kd.fresh' (Kd.R_lt (by (with_reducible repeat (first | apply Kd.R_alloc | apply Kd.R_drewN | apply Kd.R_drew)); exact HO_3.out)) k_ hk)); (case aO => exact (by (with_reducible repeat (first | apply Kd.R_alloc | apply Kd.R_drewN | apply Kd.R_drew)); exact HO758.out)); (case aS => exact (below_size (by repeat (first | (with_reducible first | exact HB.out | apply below_alloc | apply pw_below_drewN | apply below_drew1) | exact HB.out)))); (case aL => have := LMc16.out; omega); intro v764 w24 ho hb hg hat; rw [← Ny763.out] at ho; have n0_ := Aside0.mk (Kd.R_after (ok := (fun _ => True)) (by (with_reducible repeat (first | apply Kd.R_alloc | apply Kd.R_drewN | apply Kd.R_drew)); exact HO_3.out) hg hat); have n1_ := Aside0.mk (hb); have n2_ := Aside0.mk ((show Kd.C (Kd.scalar (fun x_ : α => Value.slice (sA x_) (sn x_) (sc x_)) (fun _ => rfl)) w24 (some ad744) y749.length y749 from by rw [Ny749.out]; exact Kd.C_take (m := (x6_2 : Int).toNat) ((Kd.R_reads' (Kd.R_after (ok := (fun _ => True)) (by (with_reducible repeat (first | apply Kd.R_alloc | apply Kd.R_drewN | apply Kd.R_drew)); exact HO_3.out) hg hat)).2.2) KL20.out)); have n3_ := Aside0.mk ((show Kd.C (Kd.scalar (fun x_ : α => Value.slice (sA x_) (sn x_) (sc x_)) (fun _ => rfl)) w24 A23 y759.length y759 from by rw [Ny759.out, KA23.out]; exact Kd.C_drop (m := (x6_2 : Int).toNat) (c := co17) ((Kd.R_reads' (Kd.R_after (ok := (fun _ => True)) (by (with_reducible repeat (first | apply Kd.R_alloc | apply Kd.R_drewN | apply Kd.R_drew)); exact HO_3.out) hg hat)).2.2) KL23.out ((Kd.R_reads' (Kd.R_after (ok := (fun _ => True)) (by (with_reducible repeat (first | apply Kd.R_alloc | apply Kd.R_drewN | apply Kd.R_drew)); exact HO_3.out) hg hat)).2.1))); have n4_ := Aside0.mk (ho); clear HO_3; clear HB; clear HR752; clear HR762; clear HO758; have HO_3 := n0_; have HB := n1_; have HR752 := n2_; have HR762 := n3_; have HO765 := n4_; clear n0_ n1_ n2_ n3_ n4_; clear ho hb hg hat))
                              go_roundg k2
                              case measure => have := HK1.out; have := HK2.out; omega
                              case rel => exact ⟨(y763), (wrap64 (x10_1 + 1)), (by first | rfl | (simp; done) | (simp [*]; done)), H', ⟨by have := HK1.out; have := HK2.out; omega⟩, ⟨by (with_reducible repeat (first | apply Kd.R_alloc | apply Kd.R_drewN | apply Kd.R_drew)); exact Kd.R_mono HO765.out (fun _ hk => trivial)⟩, ⟨by repeat (first | (with_reducible first | exact HB.out | apply below_alloc | apply pw_below_drewN | apply below_drew1) | exact HB.out)⟩⟩
                            · rw [if_neg c16] at H
                              exact absurd H (by simp)
                          · rw [if_neg c13] at H
                            exact absurd H (by simp)
                        · rw [if_neg c12] at H
                          exact absurd H (by simp)
                      · rw [if_neg c11] at H
                        exact absurd H (by simp)
                  · rw [if_neg c6] at H
                    exact absurd H (by simp)
                · rw [if_neg c5] at H
                  have c5b0 : decide (x6_2 < (x3_1.length : Int)) = false := decide_eq_false c5
                  clear c5
                  obtain ⟨y766, hy766⟩ : ∃ y_ : List α, y_ = (([] : List α)) := ⟨_, rfl⟩
                  replace H : (if 0 ≤ x6_2 then (if x6_2 ≤ (x3_1.length : Int) then ((some (x3_1.take (x6_2 : Int).toNat : List α)).bind fun y769 => (if y766.length + y769.length < 5864062014805 then ((some (y766 ++ y769 : List α)).bind fun y773 => (if y773.length < 5864062014805 then ((some (y773 ++ [(rdOf default l0 x10_1)] : List α)).bind fun y776 => ((some (x3_1.drop (x6_2 : Int).toNat : List α)).bind fun y779 => (if y776.length + y779.length < 5864062014805 then (spec_voSorted.g0 bf k2 (y776 ++ y779) l0 (l0.length : Int) (wrap64 (x10_1 + 1))) else (none)))) else (none))) else (none))) else (none)) else (none)) = some r := by first | (rw [hy766]; with_reducible exact H) | (have H2_ := (Option.bind_some _ _).symm.trans H; rw [hy766]; with_reducible exact H2_) | (have H2_ := (Option.bind_some _ _).symm.trans H; with_reducible exact H2_) | with_reducible exact H | (rw [hy766]; exact H) | exact H
                  have Ny766 := Aside0.mk hy766
                  clear hy766
                  by_cases c25 : 0 ≤ x6_2
                  · rw [if_pos c25] at H
                    have c25b0 := eq_true c25
                    have c25b1 : decide (0 ≤ x6_2) = true := decide_eq_true c25
                    clear c25
                    by_cases c26 : x6_2 ≤ (x3_1.length : Int)
                    · rw [if_pos c26] at H
                      have c26b0 := eq_true c26
                      have c26b1 : decide (x6_2 ≤ (x3_1.length : Int)) = true := decide_eq_true c26
                      clear c26
                      obtain ⟨y769, hy769⟩ : ∃ y_ : List α, y_ = (x3_1.take (x6_2 : Int).toNat) := ⟨_, rfl⟩
                      replace H : (if y766.length + y769.length < 5864062014805 then ((some (y766 ++ y769 : List α)).bind fun y773 => (if y773.length < 5864062014805 then ((some (y773 ++ [(rdOf default l0 x10_1)] : List α)).bind fun y776 => ((some (x3_1.drop (x6_2 : Int).toNat : List α)).bind fun y779 => (if y776.length + y779.length < 5864062014805 then (spec_voSorted.g0 bf k2 (y776 ++ y779) l0 (l0.length : Int) (wrap64 (x10_1 + 1))) else (none)))) else (none))) else (none)) = some r := by first | (rw [hy769]; with_reducible exact H) | (have H2_ := (Option.bind_some _ _).symm.trans H; rw [hy769]; with_reducible exact H2_) | (have H2_ := (Option.bind_some _ _).symm.trans H; with_reducible exact H2_) | with_reducible exact H | (rw [hy769]; exact H) | exact H
                      have Ny769 := Aside0.mk hy769
                      clear hy769
                      by_cases c27 : y766.length + y769.length < 5864062014805
                      · rw [if_pos c27] at H
                        have LMc27 := Aside0.mk c27
                        clear c27
                        obtain ⟨y773, hy773⟩ : ∃ y_ : List α, y_ = (y766 ++ y769) := ⟨_, rfl⟩
                        replace H : (if y773.length < 5864062014805 then ((some (y773 ++ [(rdOf default l0 x10_1)] : List α)).bind fun y776 => ((some (x3_1.drop (x6_2 : Int).toNat : List α)).bind fun y779 => (if y776.length + y779.length < 5864062014805 then (spec_voSorted.g0 bf k2 (y776 ++ y779) l0 (l0.length : Int) (wrap64 (x10_1 + 1))) else (none)))) else (none)) = some r := by first | (rw [hy773]; with_reducible exact H) | (have H2_ := (Option.bind_some _ _).symm.trans H; rw [hy773]; with_reducible exact H2_) | (have H2_ := (Option.bind_some _ _).symm.trans H; with_reducible exact H2_) | with_reducible exact H | (rw [hy773]; exact H) | exact H
                        have Ny773 := Aside0.mk hy773
                        clear hy773
                        by_cases c28 : y773.length < 5864062014805
                        · rw [if_pos c28] at H
                          have LMc28 := Aside0.mk c28
                          clear c28
                          obtain ⟨y776, hy776⟩ : ∃ y_ : List α, y_ = (y773 ++ [(rdOf default l0 x10_1)]) := ⟨_, rfl⟩
                          replace H : ((some (x3_1.drop (x6_2 : Int).toNat : List α)).bind fun y779 => (if y776.length + y779.length < 5864062014805 then (spec_voSorted.g0 bf k2 (y776 ++ y779) l0 (l0.length : Int) (wrap64 (x10_1 + 1))) else (none))) = some r := by first | (rw [hy776]; with_reducible exact H) | (have H2_ := (Option.bind_some _ _).symm.trans H; rw [hy776]; with_reducible exact H2_) | (have H2_ := (Option.bind_some _ _).symm.trans H; with_reducible exact H2_) | with_reducible exact H | (rw [hy776]; exact H) | exact H
                          have Ny776 := Aside0.mk hy776
                          clear hy776
                          have c29b0 := eq_true (of_decide_eq_true (by first | (with_reducible assumption) | assumption) : 0 ≤ x6_2)
                          have c30b0 := eq_true (of_decide_eq_true (by first | (with_reducible assumption) | assumption) : x6_2 ≤ (x3_1.length : Int))
                          obtain ⟨y779, hy779⟩ : ∃ y_ : List α, y_ = (x3_1.drop (x6_2 : Int).toNat) := ⟨_, rfl⟩
                          replace H : (if y776.length + y779.length < 5864062014805 then (spec_voSorted.g0 bf k2 (y776 ++ y779) l0 (l0.length : Int) (wrap64 (x10_1 + 1))) else (none)) = some r := by first | (rw [hy779]; with_reducible exact H) | (have H2_ := (Option.bind_some _ _).symm.trans H; rw [hy779]; with_reducible exact H2_) | (have H2_ := (Option.bind_some _ _).symm.trans H; with_reducible exact H2_) | with_reducible exact H | (rw [hy779]; exact H) | exact H
                          have Ny779 := Aside0.mk hy779
                          clear hy779
                          by_cases c31 : y776.length + y779.length < 5864062014805
                          · rw [if_pos c31] at H
                            have LMc31 := Aside0.mk c31
                            clear c31
                            obtain ⟨y783, hy783⟩ : ∃ y_ : List α, y_ = (y776 ++ y779) := ⟨_, rfl⟩
                            replace H : (spec_voSorted.g0 bf k2 y783 l0 (l0.length : Int) (wrap64 (x10_1 + 1))) = some r := by first | (rw [hy783]; with_reducible exact H) | (have H2_ := (Option.bind_some _ _).symm.trans H; rw [hy783]; with_reducible exact H2_) | (have H2_ := (Option.bind_some _ _).symm.trans H; with_reducible exact H2_) | with_reducible exact H | (rw [hy783]; exact H) | exact H
                            have Ny783 := Aside0.mk hy783
                            clear hy783
                            have H' := Aside0.mk H
                            clear H
                            obtain ⟨Ao32, co32, eo32⟩ := Kd.R_slice HO_3.out
                            subst eo32
                            go_wp2_with (first | ((with_reducible refine gate_dst (N := 28) rfl ?_); refine Kd.R_lit (Kd.scalar (fun x_ : α => Value.slice (sA x_) (sn x_) (sc x_)) (fun _ => rfl)) _ 40 ?hg (N := 28) ?hd (xs := ([] : List α)) (inner := []) (ok := fun _ => True) (okp := fun _ => True) ?hr ?hp (fun _ hk => hk) trivial (Below.refl _ _) (Nat.le_refl _) (by simp) ?_; (case hd => rfl); (case hg => rfl); (case hr => first | (go_simp; done) | (go_simp; rfl)); (case hp => exact (Reps.none _ _)); intro v767 w33 ho34 hb hg_ hnew_; clear hg_ hnew_; (first | rw [← Ny766.out] at ho34 | (simp only [Int.reduceToNat] at ho34; rw [← Ny766.out] at ho34)); have n0_ := Aside0.mk (Kd.R_elder' (by (with_reducible repeat (first | apply Kd.R_alloc | apply Kd.R_drewN | apply Kd.R_drew)); exact HO_3.out) (Kd.R_base ho34) hb); have n1_ := Aside0.mk (Kd.R_lower (Kd.R_new' ho34 (Kd.R_lt (by (with_reducible repeat (first | apply Kd.R_alloc | apply Kd.R_drewN | apply Kd.R_drew)); exact HO_3.out))) (below_size (by repeat (first | (with_reducible first | exact HB.out | apply below_alloc | apply pw_below_drewN | apply below_drew1) | exact HB.out)))); have n2_ := Aside0.mk (below_step (by repeat (first | (with_reducible first | exact HB.out | apply below_alloc | apply pw_below_drewN | apply below_drew1) | exact HB.out)) hb); clear HO_3; clear HB; have HO_3 := n0_; have HO768 := n1_; have HB := n2_; clear n0_ n1_ n2_; clear hb ho34; have q35 : (x6_2 : Int) ≤ ((x3_1.length : Int) : Int) := of_decide_eq_true (by first | (with_reducible assumption) | assumption); obtain ⟨i035, hi035, _, hsz35, _⟩ := info_parts info40; have hroom35 : x3_1.length ≤ co32 := (Kd.R_reads' HO_3.out).2.1; have hC35 : Kd.C (Kd.scalar (fun x_ : α => Value.slice (sA x_) (sn x_) (sc x_)) (fun _ => rfl)) _ Ao32 x3_1.length x3_1 := (Kd.R_reads' HO_3.out).2.2; have hcut35 := cut_to (P := Try.prog) 22 40 .i64 Try.underlying22 hi035 Ao32 x3_1.length co32 x6_2 (of_decide_eq_true (by first | (with_reducible assumption) | assumption)) q35 hroom35; have hr35 := Kd.C_take (m := (x6_2 : Int).toNat) hC35 (by omega); have hy35 : y769.length = (x6_2 : Int).toNat := (by rw [Ny769.out, List.length_take]; omega); rw [← Ny769.out] at hr35; rw [← hy35] at hcut35; have HR772 := Aside0.mk hr35; have HC772 := Aside0.mk (show y769.length ≤ co32 from by omega); clear hr35 hC35 hroom35 hi035 hsz35; have KY35 := Aside0.mk hy35; clear hy35; have KL35 := Aside0.mk (show (x6_2 : Int).toNat ≤ x3_1.length from by omega); replace q35 := eq_true q35) | ((with_reducible refine gate_builtin (b := .append) (xs := #[.tmp 28, .tmp 31]) rfl ?_); at_builtin; refine Kd.R_append_rows (Kd.scalar (fun x_ : α => Value.slice (sA x_) (sn x_) (sc x_)) (fun _ => rfl)) (w0 := w) w.heap.size rfl (.tmp 28) (.tmp 31) 22 40 (.slice none 0 0) 24 rfl Try.underlying22 info40 rfl (Nat.lt_succ_self 0) (by omega) v767 y766 y769 _ _ _ (fun k_ => some k_ ≠ (.slice Ao32 x3_1.length co32 : Value).ownBlock) (fun _ => False) rfl rfl ?aO ?aR (fun _ _ h => h) (fun _ h => h.elim) ?aF ?aB ?aS ?aL ?_; (case aR => repeat (first | exact (by repeat (first | (with_reducible exact HR772.out) | (with_reducible refine Kd.C_alloc ?_ _) | (with_reducible refine Kd.C_drewN ?_ _) | (with_reducible refine Kd.C_drew ?_) | exact HR772.out)) | (with_reducible refine Kd.C_alloc ?_ _) | (with_reducible refine Kd.C_drewN ?_ _) | (with_reducible refine Kd.C_drew ?_))); (case aB => exact (by repeat (first | (with_reducible first | exact HB.out | apply below_alloc | apply pw_below_drewN | apply below_drew1) | exact HB.out))); (case aF => exact (fun k_ hk => Kd.fresh' (Kd.R_lt (by (with_reducible repeat (first | apply Kd.R_alloc | apply Kd.R_drewN | apply Kd.R_drew)); exact HO_3.out)) k_ hk)); (case aO => exact (by (with_reducible repeat (first | apply Kd.R_alloc | apply Kd.R_drewN | apply Kd.R_drew)); exact Kd.R_mono HO768.out (fun _ hk => hk.2))); (case aS => exact (below_size (by repeat (first | (with_reducible first | exact HB.out | apply below_alloc | apply pw_below_drewN | apply below_drew1) | exact HB.out)))); (case aL => have := LMc27.out; omega); intro v774 w36 ho hb hg hat; rw [← Ny773.out] at ho; have n0_ := Aside0.mk (Kd.R_after (ok := (fun _ => True)) (by (with_reducible repeat (first | apply Kd.R_alloc | apply Kd.R_drewN | apply Kd.R_drew)); exact HO_3.out) hg hat); have n1_ := Aside0.mk (hb); have n2_ := Aside0.mk ((show Kd.C (Kd.scalar (fun x_ : α => Value.slice (sA x_) (sn x_) (sc x_)) (fun _ => rfl)) w36 Ao32 y769.length y769 from by rw [Ny769.out]; exact Kd.C_take (m := (x6_2 : Int).toNat) ((Kd.R_reads' (Kd.R_after (ok := (fun _ => True)) (by (with_reducible repeat (first | apply Kd.R_alloc | apply Kd.R_drewN | apply Kd.R_drew)); exact HO_3.out) hg hat)).2.2) KL35.out)); have n3_ := Aside0.mk (ho); clear HO_3; clear HB; clear HR772; clear HO768; have HO_3 := n0_; have HB := n1_; have HR772 := n2_; have HO775 := n3_; clear n0_ n1_ n2_ n3_; clear ho hb hg hat) | ((with_reducible refine gate_builtin (b := .append) (xs := #[.tmp 32, .tmp 34]) rfl ?_); at_builtin; refine Kd.R_append (Kd.scalar (fun x_ : α => Value.slice (sA x_) (sn x_) (sc x_)) (fun _ => rfl)) (w0 := w) w.heap.size rfl (.tmp 32) (.tmp 34) 22 40 (.slice none 0 0) 24 rfl Try.underlying22 info40 rfl (Nat.lt_succ_self 0) (by omega) v774 y773 (rdOf default l0 x10_1) [.slice (sA (rdOf default l0 x10_1)) (sn (rdOf default l0 x10_1)) (sc (rdOf default l0 x10_1))] (fun k_ => some k_ ≠ (.slice Ao32 x3_1.length co32 : Value).ownBlock) (fun _ => False) rfl rfl ?aP (fun _ hk => hk.elim) ?aF ?aO ?aB ?aS ?aL ?_; (case aP => exact rfl); (case aB => exact (by repeat (first | (with_reducible first | exact HB.out | apply below_alloc | apply pw_below_drewN | apply below_drew1) | exact HB.out))); (case aF => exact (fun k_ hk => Kd.fresh' (Kd.R_lt (by (with_reducible repeat (first | apply Kd.R_alloc | apply Kd.R_drewN | apply Kd.R_drew)); exact HO_3.out)) k_ hk)); (case aO => exact (by (with_reducible repeat (first | apply Kd.R_alloc | apply Kd.R_drewN | apply Kd.R_drew)); exact HO775.out)); (case aS => exact (below_size (by repeat (first | (with_reducible first | exact HB.out | apply below_alloc | apply pw_below_drewN | apply below_drew1) | exact HB.out)))); (case aL => have := LMc28.out; omega); intro v777 w37 ho hb hg hat; rw [← Ny776.out] at ho; have n0_ := Aside0.mk (Kd.R_after (ok := (fun _ => True)) (by (with_reducible repeat (first | apply Kd.R_alloc | apply Kd.R_drewN | apply Kd.R_drew)); exact HO_3.out) hg hat); have n1_ := Aside0.mk (hb); have n2_ := Aside0.mk ((show Kd.C (Kd.scalar (fun x_ : α => Value.slice (sA x_) (sn x_) (sc x_)) (fun _ => rfl)) w37 Ao32 y769.length y769 from by rw [Ny769.out]; exact Kd.C_take (m := (x6_2 : Int).toNat) ((Kd.R_reads' (Kd.R_after (ok := (fun _ => True)) (by (with_reducible repeat (first | apply Kd.R_alloc | apply Kd.R_drewN | apply Kd.R_drew)); exact HO_3.out) hg hat)).2.2) KL35.out)); have n3_ := Aside0.mk (ho); clear HO_3; clear HB; clear HR772; clear HO775; have HO_3 := n0_; have HB := n1_; have HR772 := n2_; have HO778 := n3_; clear n0_ n1_ n2_ n3_; clear ho hb hg hat; have q38 : (x6_2 : Int) ≤ ((x3_1.length : Int) : Int) := of_decide_eq_true (by first | (with_reducible assumption) | assumption); obtain ⟨i038, hi038, _, hsz38, _⟩ := info_parts info40; have hroom38 : x3_1.length ≤ co32 := (Kd.R_reads' HO_3.out).2.1; have hC38 : Kd.C (Kd.scalar (fun x_ : α => Value.slice (sA x_) (sn x_) (sc x_)) (fun _ => rfl)) _ Ao32 x3_1.length x3_1 := (Kd.R_reads' HO_3.out).2.2; have q038 : (0 : Int) ≤ (x6_2 : Int) := of_decide_eq_true (by first | (with_reducible assumption) | assumption); have hcut38 := cut_from (P := Try.prog) 22 40 .i64 Try.underlying22 hi038 1 hsz38 Ao32 x3_1.length co32 x6_2 q038 q38; have hr38 := Kd.C_drop (m := (x6_2 : Int).toNat) (c := co32) hC38 (by omega) hroom38; obtain ⟨A38, hA38⟩ : ∃ A1, A1 = (if co32 = (x6_2 : Int).toNat then Ao32 else (Ao32 : Option Addr).map (·.add ((x6_2 : Int).toNat * 1))) := ⟨_, rfl⟩; obtain ⟨c38, hc38⟩ : ∃ c1, c1 = co32 - (x6_2 : Int).toNat := ⟨_, rfl⟩; have hy38 : y779.length = x3_1.length - (x6_2 : Int).toNat := (by rw [Ny779.out, List.length_drop] <;> omega); rw [show (x3_1).drop (x6_2 : Int).toNat = y779 from Ny779.out.symm] at hr38; replace hr38 : Kd.C (Kd.scalar (fun x_ : α => Value.slice (sA x_) (sn x_) (sc x_)) (fun _ => rfl)) _ A38 y779.length y779 := (by rw [hA38]; exact hr38); rw [← hy38, ← hA38, ← hc38] at hcut38; have HR782 := Aside0.mk hr38; have HC782 := Aside0.mk (show y779.length ≤ c38 from by rw [hy38, hc38]; exact Nat.sub_le_sub_right hroom38 _); clear hr38 hC38 hroom38 hi038 hsz38 hc38; have KY38 := Aside0.mk hy38; have KA38 := Aside0.mk hA38; clear hy38 hA38; have KL38 := Aside0.mk (show (x6_2 : Int).toNat ≤ x3_1.length from by omega); replace q38 := eq_true q38) | ((with_reducible refine gate_builtin (b := .append) (xs := #[.tmp 36, .tmp 39]) rfl ?_); at_builtin; refine Kd.R_append_rows (Kd.scalar (fun x_ : α => Value.slice (sA x_) (sn x_) (sc x_)) (fun _ => rfl)) (w0 := w) w.heap.size rfl (.tmp 36) (.tmp 39) 22 40 (.slice none 0 0) 24 rfl Try.underlying22 info40 rfl (Nat.lt_succ_self 0) (by omega) v777 y776 y779 _ _ _ (fun k_ => some k_ ≠ (.slice Ao32 x3_1.length co32 : Value).ownBlock) (fun _ => False) rfl rfl ?aO ?aR (fun _ _ h => h) (fun _ h => h.elim) ?aF ?aB ?aS ?aL ?_; (case aR => repeat (first | exact (by repeat (first | (with_reducible exact HR782.out) | (with_reducible refine Kd.C_alloc ?_ _) | (with_reducible refine Kd.C_drewN ?_ _) | (with_reducible refine Kd.C_drew ?_) | exact HR782.out)) | (with_reducible refine Kd.C_alloc ?_ _) | (with_reducible refine Kd.C_drewN ?_ _) | (with_reducible refine Kd.C_drew ?_))); (case aB => exact (by repeat (first | (with_reducible first | exact HB.out | apply below_alloc | apply pw_below_drewN | apply below_drew1) | exact HB.out))); (case aF => exact (fun k_ hk => Kd.fresh' (Kd.R_lt (by (with_reducible repeat (first | apply Kd.R_alloc | apply Kd.R_drewN | apply Kd.R_drew)); exact HO_3.out)) k_ hk)); (case aO => exact (by (with_reducible repeat (first | apply Kd.R_alloc | apply Kd.R_drewN | apply Kd.R_drew)); exact HO778.out)); (case aS => exact (below_size (by repeat (first | (with_reducible first | exact HB.out | apply below_alloc | apply pw_below_drewN | apply below_drew1) | exact HB.out)))); (case aL => have := LMc31.out; omega); intro v784 w39 ho hb hg hat; rw [← Ny783.out] at ho; have n0_ := Aside0.mk (Kd.R_after (ok := (fun _ => True)) (by (with_reducible repeat (first | apply Kd.R_alloc | apply Kd.R_drewN | apply Kd.R_drew)); exact HO_3.out) hg hat); have n1_ := Aside0.mk (hb); have n2_ := Aside0.mk ((show Kd.C (Kd.scalar (fun x_ : α => Value.slice (sA x_) (sn x_) (sc x_)) (fun _ => rfl)) w39 Ao32 y769.length y769 from by rw [Ny769.out]; exact Kd.C_take (m := (x6_2 : Int).toNat) ((Kd.R_reads' (Kd.R_after (ok := (fun _ => True)) (by (with_reducible repeat (first | apply Kd.R_alloc | apply Kd.R_drewN | apply Kd.R_drew)); exact HO_3.out) hg hat)).2.2) KL35.out)); have n3_ := Aside0.mk ((show Kd.C (Kd.scalar (fun x_ : α => Value.slice (sA x_) (sn x_) (sc x_)) (fun _ => rfl)) w39 A38 y779.length y779 from by rw [Ny779.out, KA38.out]; exact Kd.C_drop (m := (x6_2 : Int).toNat) (c := co32) ((Kd.R_reads' (Kd.R_after (ok := (fun _ => True)) (by (with_reducible repeat (first | apply Kd.R_alloc | apply Kd.R_drewN | apply Kd.R_drew)); exact HO_3.out) hg hat)).2.2) KL38.out ((Kd.R_reads' (Kd.R_after (ok := (fun _ => True)) (by (with_reducible repeat (first | apply Kd.R_alloc | apply Kd.R_drewN | apply Kd.R_drew)); exact HO_3.out) hg hat)).2.1))); have n4_ := Aside0.mk (ho); clear HO_3; clear HB; clear HR772; clear HR782; clear HO778; have HO_3 := n0_; have HB := n1_; have HR772 := n2_; have HR782 := n3_; have HO785 := n4_; clear n0_ n1_ n2_ n3_ n4_; clear ho hb hg hat))
                            go_roundg k2
                            case measure => have := HK1.out; have := HK2.out; omega
                            case rel => exact ⟨(y783), (wrap64 (x10_1 + 1)), (by first | rfl | (simp; done) | (simp [*]; done)), H', ⟨by have := HK1.out; have := HK2.out; omega⟩, ⟨by (with_reducible repeat (first | apply Kd.R_alloc | apply Kd.R_drewN | apply Kd.R_drew)); exact Kd.R_mono HO785.out (fun _ hk => trivial)⟩, ⟨by repeat (first | (with_reducible first | exact HB.out | apply below_alloc | apply pw_below_drewN | apply below_drew1) | exact HB.out)⟩⟩
                          · rw [if_neg c31] at H
                            exact absurd H (by simp)
                        · rw [if_neg c28] at H
                          exact absurd H (by simp)
                      · rw [if_neg c27] at H
                        exact absurd H (by simp)
                    · rw [if_neg c26] at H
                      exact absurd H (by simp)
                  · rw [if_neg c25] at H
                    exact absurd H (by simp)
          · rw [if_neg c4] at H
            exact absurd H (by simp)
        · rw [if_neg c3] at H
          exact absurd H (by simp)
      · rw [if_neg c2] at H
        have c2b0 : decide (x10_1 < (l0.length : Int)) = false := decide_eq_false c2
        clear c2
        obtain rfl := Option.some.inj H
        go_wp2
        go_ret
        exact ⟨_, by first | rfl | (simp [errW_none, errW_some] <;> rfl) | (simp [*, errW_none, errW_some] <;> rfl), by (with_reducible repeat (first | apply Kd.R_alloc | apply Kd.R_drewN | apply Kd.R_drew)); exact HO_3.out, by repeat (first | (with_reducible first | exact HB.out | apply below_alloc | apply pw_below_drewN | apply below_drew1) | exact HB.out)⟩
/-- What the comparing of rows says. -/
def spec_voSorted.bf {α : Type} (row : α → List Int) (y x : α) : Option Bool := some (ltR row y x)
theorem spec_voSorted.g1_ev {α : Type} [Inhabited α] (row : α → List Int) (o : List α) (x : α) (l0 : List α) (i : Int) (R : List α) (ho : o.length ≤ 1000000) (h : Ev (fun k => spec_voSorted.g0 (spec_voSorted.bf row) k (insR row x o) l0 (l0.length : Int) (wrap64 (i + 1))) R) : Ev (fun k => spec_voSorted.g1 (spec_voSorted.bf row) k o x 0 l0 (l0.length : Int) i) R := by
  obtain ⟨h1, h2, h3, h4, h5⟩ := tw_spec (fun y => ltR row y x) default o
  have hins : insR row x o = ((([] : List α) ++ o.take (o.takeWhile (fun y => ltR row y x)).length) ++ [x]) ++ o.drop (o.takeWhile (fun y => ltR row y x)).length := by
    unfold insR
    rw [List.nil_append, List.append_assoc, List.singleton_append, ← h3, ← h4]
  rw [hins] at h
  generalize (o.takeWhile (fun y => ltR row y x)).length = T at h h1 h2 h5
  have key := Ev.down (G := fun j k => spec_voSorted.g1 (spec_voSorted.bf row) k o x (j : Int) l0 (l0.length : Int) i) (R := fun _ => R) T
    (by
      refine Ev.shift ?_
      simp only [spec_voSorted.g1]
      have ht : (o.take T).length ≤ T := by rw [List.length_take]; omega
      have hd : (o.drop T).length ≤ o.length := by rw [List.length_drop]; omega
      by_cases c : T < o.length
      · refine Ev.ite_pos (by omega) (Ev.ite_pos (by omega) ?_)
        refine Ev.bind (Ev.one (show spec_voSorted.bf row (rdOf default o (T : Int)) x = some false from by
          unfold spec_voSorted.bf rdOf
          rw [Int.toNat_natCast, h2 c])) ?_
        refine Ev.ite_neg (by decide) ?_
        refine Ev.bind (Ev.one rfl) (Ev.ite_pos (by omega) (Ev.bind (Ev.one rfl) ?_))
        rw [Int.toNat_natCast]
        refine Ev.ite_pos (by rw [List.length_nil]; omega) (Ev.bind (Ev.one rfl) (Ev.ite_pos (by rw [List.length_append, List.length_nil]; omega) (Ev.bind (Ev.one rfl) (Ev.bind (Ev.one rfl) (Ev.ite_pos ?_ h)))))
        rw [List.length_append, List.length_append, List.length_nil, List.length_singleton]
        omega
      · refine Ev.ite_neg (by omega) ?_
        refine Ev.bind (Ev.one rfl) (Ev.ite_pos (by omega) (Ev.ite_pos (by omega) (Ev.bind (Ev.one rfl) ?_)))
        rw [Int.toNat_natCast]
        refine Ev.ite_pos (by rw [List.length_nil]; omega) (Ev.bind (Ev.one rfl) (Ev.ite_pos (by rw [List.length_append, List.length_nil]; omega) (Ev.bind (Ev.one rfl) (Ev.bind (Ev.one rfl) (Ev.ite_pos ?_ h)))))
        rw [List.length_append, List.length_append, List.length_nil, List.length_singleton]
        omega)
    (fun j hj ih => by
      refine Ev.shift ?_
      simp only [spec_voSorted.g1]
      refine Ev.ite_pos (by omega) (Ev.ite_pos (by omega) ?_)
      refine Ev.bind (Ev.one (show spec_voSorted.bf row (rdOf default o (j : Int)) x = some true from by
        unfold spec_voSorted.bf rdOf
        rw [Int.toNat_natCast, h1 j hj])) ?_
      refine Ev.ite_pos rfl ?_
      rw [w1 hj (by omega)]
      exact ih)
  exact key 0 (Nat.zero_le _)
theorem spec_voSorted.gf_ev {α : Type} [Inhabited α] (row : α → List Int) (l0 : List α) (hl : l0.length ≤ 1000000) : Ev (fun k => spec_voSorted.gf (spec_voSorted.bf row) k l0) (istR row l0) := by
  unfold spec_voSorted.gf
  have key := Ev.down (G := fun i k => spec_voSorted.g0 (spec_voSorted.bf row) k (istR row (l0.take i)) l0 (l0.length : Int) (i : Int)) (R := fun _ => istR row l0) l0.length
    (by
      refine Ev.shift ?_
      simp only [spec_voSorted.g0]
      refine Ev.ite_neg (by omega) ?_
      rw [List.take_length]
      exact Ev.some)
    (fun i hi ih => by
      refine Ev.shift ?_
      simp only [spec_voSorted.g0]
      refine Ev.ite_pos (by omega) (Ev.ite_pos (by omega) (Ev.ite_pos (by omega) ?_))
      refine spec_voSorted.g1_ev row _ _ l0 _ _ ?_ ?_
      · rw [(istR_perm row (l0.take i)).length_eq, List.length_take]; omega
      · rw [w1 hi (by omega)]
        have e : istR row (l0.take (i + 1)) = insR row (l0.getD i default) (istR row (l0.take i)) := foldl_take (fun o x => insR row x o) [] l0 default i hi
        rw [e] at ih
        have e2 : rdOf default l0 (i : Int) = l0.getD i default := by unfold rdOf; rw [Int.toNat_natCast]
        rw [e2]
        exact ih)
  exact key 0 (Nat.zero_le _)
/-- The rows in order. -/
def spec_voSorted.f (k : Nat) (l0 : List (List Int)) : Option (List (List Int)) := if l0.length ≤ 1000000 ∧ ∀ x ∈ l0, ∀ y ∈ l0, spec_voBefore.f k x y = some (decide (lexc x y < 0)) then some (sorted l0) else none
theorem spec_voSorted.mono : ∀ a0 k, LeO (spec_voSorted.f k a0) (spec_voSorted.f (k + 1) a0) := by
  intro a0 k r hr
  unfold spec_voSorted.f at hr ⊢
  split at hr
  · rename_i hc
    rw [if_pos ⟨hc.1, fun x hx y hy => spec_voBefore.mono x y k _ (hc.2 x hx y hy)⟩]
    exact hr
  · exact absurd hr (by simp)
set_option maxHeartbeats 2000000 in
theorem spec_voSorted.calls (k : Nat) (P0_ : Nat → Prop) (u9000_ : Value) (l0 : List (List Int)) (r : List (List Int)) (w0 w : World) (hB : Below w0.heap.size w0 w) (ho0 : Kd.S (Kd.slice 3 (Kd.int .i64)) 40 w w0.heap.size P0_ u9000_ l0) (h : spec_voSorted.f k l0 = some r) :
    Calls Try.prog 143 #[u9000_] w fun e w' => ∃ v0_ : Value, e = .returned (v0_) ∧ Kd.S (Kd.slice 3 (Kd.int .i64)) 40 w' w0.heap.size (fun k_ => (P0_ k_ ∨ w.heap.size ≤ k_)) v0_ r ∧ Below w0.heap.size w0 w' ∧ Kept w w' (fun k_ => P0_ k_) := by
  unfold spec_voSorted.f at h
  split at h
  case isFalse => exact absurd h (by simp)
  rename_i hc
  obtain ⟨hlen, hcmp⟩ := hc
  obtain rfl := Option.some.inj h
  clear h
  obtain ⟨f, h0, inner, ho, hr⟩ := ho0
  rw [List.length_zipIdx] at ho
  obtain ⟨hil, hv⟩ := ho
  have hil : inner.length = l0.length := by have h1 : inner.length = l0.length * 1 := hil; omega
  have hM : ∀ (i : Nat) (hi : i < l0.length), ∃ A c, inner[i]'(by omega) = .slice A l0[i].length c ∧ Kd.R (Kd.int .i64) 3 w w0.heap.size (fun k => ((P0_ k ∧ some k ≠ u9000_.ownBlock) ∧ f k = i)) (.slice A l0[i].length c) l0[i] := fun i hi => by
    have h1 := hr.2 i (l0[i], i) (Kd.zip_at (List.getElem?_eq_getElem hi))
    have h2 : (inner.drop (i * 1)).take 1 = [inner[i]'(by omega)] := by rw [Nat.mul_one, List.drop_eq_getElem_cons (by omega), List.take_succ_cons, List.take_zero]
    obtain ⟨v', hv', hR⟩ := (show ∃ v', (inner.drop (i * 1)).take 1 = [v'] ∧ Kd.R (Kd.int .i64) 3 w w0.heap.size (fun k => ((P0_ k ∧ some k ≠ u9000_.ownBlock) ∧ f k = i)) v' l0[i] from h1)
    rw [h2] at hv'
    injection hv' with hv' _
    obtain ⟨A, c, e⟩ := Kd.R_slice hR
    subst e
    exact ⟨A, c, hv', hR⟩
  rcases Nat.eq_zero_or_pos l0.length with hn | hn
  · obtain rfl := List.eq_nil_of_length_eq_zero hn
    have hR0 : Kd.R (Kd.scalar (fun _ : Unit => Value.slice none 0 0) (fun _ => rfl)) 40 w w0.heap.size P0_ u9000_ ([] : List Unit) := ⟨h0, inner, ⟨by rw [hil]; rfl, hv⟩, by
      rw [List.eq_nil_of_length_eq_zero hil]
      exact Reps.none _ _⟩
    obtain ⟨A, c, rfl, hl, hC⟩ := Kd.R_reads hR0
    refine (spec_voSorted.callsG (α := Unit) (fun _ => none) (fun _ => 0) (fun _ => 0) (fun _ _ => none) 1 A c [] [] w (fun _ _ _ _ hz _ => absurd hz (by simp)) hC hl rfl).mono ?_
    rintro e w' ⟨v0, rfl, hR, hb⟩
    have e0 : sorted ([] : List (List Int)) = [] := by simp [sorted]
    rw [e0]
    obtain ⟨_, inner', ho', hr'⟩ := hR
    have hnil : inner' = [] := List.eq_nil_of_length_eq_zero (by have h1 : inner'.length = 0 * 1 := ho'.1; omega)
    subst hnil
    exact ⟨v0, rfl, ⟨fun _ => 0, fun k hk => .inr (own_base ho' k hk), [], own_weaken ho' hB.size, Reps.none _ _⟩, hB.trans (hb.mono hB.size), Kept.of_below hb _⟩
  -- the parts of each element's cell, by the element's index
  let sA : Fin l0.length → Option Addr := fun i => (hM i.1 i.2).choose
  let sn : Fin l0.length → Nat := fun i => l0[i.1].length
  let sc : Fin l0.length → Nat := fun i => (hM i.1 i.2).choose_spec.choose
  let row : Fin l0.length → List Int := fun i => l0[i.1]
  have cellE : ∀ (i : Fin l0.length), inner[i.1]'(by omega) = .slice (sA i) (sn i) (sc i) ∧ Kd.R (Kd.int .i64) 3 w w0.heap.size (fun k => ((P0_ k ∧ some k ≠ u9000_.ownBlock) ∧ f k = i.1)) (.slice (sA i) (sn i) (sc i)) (row i) := fun i => (hM i.1 i.2).choose_spec.choose_spec
  have snE : ∀ i, sn i = (row i).length := fun _ => rfl
  have rowE : ∀ i : Fin l0.length, row i = l0[i.1] := fun _ => rfl
  haveI : Inhabited (Fin l0.length) := ⟨⟨0, hn⟩⟩
  clear_value sA sn sc row
  have hdl : (List.finRange l0.length).length = l0.length := List.length_finRange
  have hrow : (List.finRange l0.length).map row = l0 := by
    apply List.ext_getElem
    · rw [List.length_map, hdl]
    · intro j h1 h2
      rw [List.getElem_map, rowE]
      congr 1
      simp
  have hperm := istR_perm row (List.finRange l0.length)
  have hsort := istR_rows row (List.finRange l0.length)
  rw [hrow] at hsort
  obtain ⟨K, hK⟩ := spec_voSorted.gf_ev row (List.finRange l0.length) (by rw [hdl]; exact hlen)
  have hK := hK K (Nat.le_refl K)
  have hinner : inner = encs (fun x_ : Fin l0.length => Value.slice (sA x_) (sn x_) (sc x_)) (List.finRange l0.length) := by
    apply List.ext_getElem
    · rw [encs_length, hdl, hil]
    · intro j h1 h2
      have hj : j < l0.length := by omega
      have e1 := (cellE ⟨j, hj⟩).1
      refine e1.trans ?_
      simp [encs]
  have hR0 : Kd.R (Kd.scalar (fun x_ : Fin l0.length => Value.slice (sA x_) (sn x_) (sc x_)) (fun _ => rfl)) 40 w w0.heap.size P0_ u9000_ (List.finRange l0.length) := Kd.R_of_own (by rw [hdl, ← hinner]; exact ⟨by rw [hil, Nat.mul_one], hv⟩) h0
  obtain ⟨A, c, hu, hl, hC⟩ := Kd.R_reads hR0
  generalize hrs : istR row (List.finRange l0.length) = rs at hperm hsort hK
  have hrl : rs.length = l0.length := hperm.length_eq.trans hdl
  have hnd : (rs.map (fun i => i.1)).Nodup := by
    refine ((hperm.map (fun i : Fin l0.length => i.1)).nodup_iff).2 ?_
    exact List.Pairwise.map _ (fun a b hab z => hab (Fin.ext z)) (List.nodup_finRange l0.length)
  rw [hu]
  refine (spec_voSorted.callsG sA sn sc (spec_voSorted.bf row) K A c (List.finRange l0.length) rs w ?_ hC hl hK).mono ?_
  · intro W x y b hb hW
    obtain ⟨hx1, hx2, hx3⟩ := Kd.R_reads' (Kd.R_below (cellE x).2 hW)
    obtain ⟨hy1, hy2, hy3⟩ := Kd.R_reads' (Kd.R_below (cellE y).2 hW)
    have hb2 : spec_voBefore.f k (row x) (row y) = some b := by
      rw [rowE, rowE, hcmp _ (List.getElem_mem _) _ (List.getElem_mem _)]
      have := hb
      unfold spec_voSorted.bf ltR at this
      rw [rowE, rowE] at this
      exact this
    rw [hx1, hy1]
    rw [hx1] at hx2
    rw [hy1] at hy2
    exact spec_voBefore.calls k (sA x) (sc x) (row x) (sA y) (sc y) (row y) b W hx3 hx2 hy3 hy2 hb2
  · rintro e w' ⟨v0, rfl, hR, hb⟩
    have ho' := Kd.own_of_R hR
    refine ⟨v0, rfl, ⟨fun q => (rs.map (fun i => i.1)).idxOf (f q), fun q hq => .inr (own_base ho' q hq), encs (fun x_ : Fin l0.length => Value.slice (sA x_) (sn x_) (sc x_)) rs, ?_, ?_⟩, hB.trans (hb.mono hB.size), Kept.of_below hb _⟩
    · rw [List.length_zipIdx, ← hsort, List.length_map]
      exact own_weaken ho' hB.size
    · refine ⟨by rw [List.length_zipIdx, ← hsort, List.length_map, encs_length]; show _ = _ * 1; omega, ?_⟩
      intro j p hj
      rw [← hsort, List.getElem?_zipIdx, Nat.zero_add] at hj
      obtain ⟨x, hx, rfl⟩ := Option.map_eq_some_iff.1 hj
      rw [List.getElem?_map] at hx
      obtain ⟨i, hi, rfl⟩ := Option.map_eq_some_iff.1 hx
      have hjl : j < rs.length := (List.getElem?_eq_some_iff.1 hi).1
      have hi2 : rs[j] = i := (List.getElem?_eq_some_iff.1 hi).2
      have hdr : ((encs (fun x_ : Fin l0.length => Value.slice (sA x_) (sn x_) (sc x_)) rs).drop (j * 1)).take 1 = [Value.slice (sA i) (sn i) (sc i)] := by
        rw [Nat.mul_one, List.drop_eq_getElem_cons (by rw [encs_length]; exact hjl), List.take_succ_cons, List.take_zero]
        congr 1
        simp [encs, hi2]
      have hR2 := Kd.R_below (Kd.R_bound (cellE i).2) hb
      refine ⟨_, hdr, Kd.R_mono hR2 (fun q hq => ⟨⟨.inl hq.1.1.1, fun z => ?_⟩, ?_⟩)⟩
      · have := own_base ho' q z.symm
        have := hq.2.2.1
        omega
      · show (rs.map (fun i => i.1)).idxOf (f q) = j
        have h3 := List.Nodup.idxOf_getElem hnd j (by rw [List.length_map]; exact hjl)
        rw [List.getElem_map, hi2] at h3
        rw [hq.1.2]
        exact h3


/-! ### spec_voLeast: function 107 -/
mutual
def spec_voLeast.l0:Nat → List Bool → List (List Int) → List Bool → Int → Int → Option ((List (List Int)))
 | 0,_,_,_,_,_=>none
 | k + 1,x0,x3,x9,x10,x11=>if x11 < x10 then (if 0 ≤ x11 then (if x11 < (x9.length:Int) then (if rdOf false x9 x11 = true then ((spec_voList.f k x11).bind fun t747=>(spec_voLeast.l1 k x0 x3 x11 true x9 x10 x11 t747 (t747.length:Int) 0)) else (spec_voLeast.l0 k x0 x3 x9 x10 (wrap64 (x11 + 1)))) else (none)) else (none)) else ((spec_voSorted.f k x3).bind fun t743=>(some t743))
def spec_voLeast.l1:Nat → List Bool → List (List Int) → Int → Bool → List Bool → Int → Int → List Int → Int → Int → Option ((List (List Int)))
 | 0,_,_,_,_,_,_,_,_,_,_=>none
 | k + 1,x0,x3,x4,x6,x9,x10,x11,x19,x20,x21=>if x21 < x20 then (if 0 ≤ x21 then (if x21 < (x19.length:Int) then (if x6 = true then (if 0 ≤ (rd x19 x21) then (if 0 ≤ (wrap64 (x4 - (shl .i64 1 (rd x19 x21)))) then (if (wrap64 (x4 - (shl .i64 1 (rd x19 x21)))) < (x0.length:Int) then (spec_voLeast.l1 k x0 x3 x4 (!(rdOf false x0 (wrap64 (x4 - (shl .i64 1 (rd x19 x21)))))) x9 x10 x11 x19 x20 (wrap64 (x21 + 1))) else (none)) else (none)) else (none)) else (spec_voLeast.l1 k x0 x3 x4 false x9 x10 x11 x19 x20 (wrap64 (x21 + 1)))) else (none)) else (none)) else (if x6 = true then ((spec_voList.f k x4).bind fun t752=>(if x3.length < 5864062014805 then (spec_voLeast.l0 k x0 (x3 ++ [t752]) x9 x10 (wrap64 (x11 + 1))) else (none))) else (spec_voLeast.l0 k x0 x3 x9 x10 (wrap64 (x11 + 1))))
end
def spec_voLeast.f (k:Nat) (l0:List Bool):Option ((List (List Int))):=spec_voLeast.l0 k l0 ([]:List (List Int)) l0 (l0.length:Int) 0
theorem spec_voLeast.mono_l:∀ k,(∀ y0 y1 y2 y3 y4,LeO (spec_voLeast.l0 k y0 y1 y2 y3 y4) (spec_voLeast.l0 (k + 1) y0 y1 y2 y3 y4)) ∧ (∀ y0 y1 y2 y3 y4 y5 y6 y7 y8 y9,LeO (spec_voLeast.l1 k y0 y1 y2 y3 y4 y5 y6 y7 y8 y9) (spec_voLeast.l1 (k + 1) y0 y1 y2 y3 y4 y5 y6 y7 y8 y9))
 | 0=>⟨fun _ _ _ _ _ r h=>by simp [spec_voLeast.l0] at h,fun _ _ _ _ _ _ _ _ _ _ r h=>by simp [spec_voLeast.l1] at h⟩
 | k + 1=>by
  obtain ⟨ih0,ih1⟩:=spec_voLeast.mono_l k;refine ⟨?_,?_⟩
  ·intro y0 y1 y2 y3 y4;unfold spec_voLeast.l0
   repeat' with_reducible first|exact ih0 _ _ _ _ _|exact ih1 _ _ _ _ _ _ _ _ _ _|exact spec_voList.mono _ _|exact spec_voSorted.mono _ _|exact LeO.refl _|exact LeO.none _|refine LeO.ite ?_ ?_|refine LeO.bind ?_ (fun _=>?_)
  ·intro y0 y1 y2 y3 y4 y5 y6 y7 y8 y9;unfold spec_voLeast.l1
   repeat' with_reducible first|exact ih0 _ _ _ _ _|exact ih1 _ _ _ _ _ _ _ _ _ _|exact spec_voList.mono _ _|exact spec_voSorted.mono _ _|exact LeO.refl _|exact LeO.none _|refine LeO.ite ?_ ?_|refine LeO.bind ?_ (fun _=>?_)
theorem spec_voLeast.mono:∀ a0 k,LeO (spec_voLeast.f k a0) (spec_voLeast.f (k + 1) a0):=by
 intro a0 k;obtain ⟨ih0,ih1⟩:=spec_voLeast.mono_l k;unfold spec_voLeast.f
 repeat' with_reducible first|exact ih0 _ _ _ _ _|exact ih1 _ _ _ _ _ _ _ _ _ _|exact spec_voList.mono _ _|exact spec_voSorted.mono _ _|exact LeO.refl _|exact LeO.none _|refine LeO.ite ?_ ?_|refine LeO.bind ?_ (fun _=>?_)
set_option maxHeartbeats 8000000 in
set_option maxRecDepth 100000 in
theorem spec_voLeast.calls (k:Nat) (A0:Option Addr) (c0:Nat) (l0:List Bool) (r:List (List Int)) (w:World) (hr0:Kd.C Kd.bool w A0 l0.length l0) (hc0:l0.length ≤ c0) (h:spec_voLeast.f k l0 = some r) :
  Calls Try.prog 107 #[.slice A0 l0.length c0] w fun e w'=>∃ v0_:Value,e = .returned (v0_) ∧ Kd.S (Kd.slice 3 (Kd.int .i64)) 40 w' w.heap.size (fun _=>True) v0_ r ∧ Below w.heap.size w w':=by
 have HR0:=Aside0.mk hr0;have HC0:=Aside0.mk hc0;clear hr0 hc0;have HB:=Aside0.mk (Below.refl w.heap.size w);have H:(spec_voLeast.l0 k l0 ([]:List (List Int)) l0 (l0.length:Int) 0) = some r:=h;clear h;have H':=Aside0.mk H;clear H;go_enter Try.func107,Try.ntmps107;go_wp2
 go_loopg [3,11] k (fun kq v3 v11 w'=>∃ (x3_1:List (List Int)) (x11_1:Int),v11 = .int .i64 x11_1 ∧ Aside0 (spec_voLeast.l0 kq l0 x3_1 l0 (l0.length:Int) x11_1 = some r) ∧ Aside0 (kq ≤ k) ∧ Aside0 (Kd.S (Kd.slice 3 (Kd.int .i64)) 40 w' w.heap.size (fun _=>True) v3 x3_1) ∧ Aside0 (Below w.heap.size w w'))
 case atStart=>exact ⟨(([]:List (List Int))),(0),(by first|rfl|(simp;done)|(simp [*];done)),H',⟨Nat.le_refl _⟩,⟨by first|exact Kd.S_nil _ _ _ _ _|exact Kd.N_nil _ _ _ _ _|exact Kd.V_nil _ _ _ _ _|exact Kd.Q_nil _ _ _ _ _|exact Kd.R_nil _ _ _ _ _⟩,⟨by repeat (first|(with_reducible first|exact HB.out|apply below_alloc|apply pw_below_drewN|apply below_drew1)|exact HB.out)⟩⟩
 case round =>
  clear H'
  try clear c1
  obtain ⟨x3_1,x11_1,rfl,HA,HK1,HO_3,HB⟩:=hrel
  cases gk with
  | zero=>exact absurd HA.out (by simp [spec_voLeast.l0])
  | succ k1 =>
   have H:=HA.out;clear HA;simp only [spec_voLeast.l0] at H;by_cases c2:x11_1 < (l0.length:Int)
   ·rw [if_pos c2] at H;have c2b0:decide (x11_1 < (l0.length:Int)) = true:=decide_eq_true c2;clear c2;by_cases c3:0 ≤ x11_1
    ·rw [if_pos c3] at H;have c3b0:decide (0 ≤ x11_1) = true:=decide_eq_true c3;clear c3;by_cases c4:x11_1 < (l0.length:Int)
     ·rw [if_pos c4] at H;have c4b0:decide (x11_1 < (l0.length:Int)) = true:=decide_eq_true c4;clear c4;obtain ⟨bq5,hbq5⟩:∃ b_:Bool,b_ = (rdOf false l0 x11_1):=⟨_,rfl⟩;replace H:(if bq5 = true then ((spec_voList.f k1 x11_1).bind fun t747=>(spec_voLeast.l1 k1 l0 x3_1 x11_1 true l0 (l0.length:Int) x11_1 t747 (t747.length:Int) 0)) else (spec_voLeast.l0 k1 l0 x3_1 l0 (l0.length:Int) (wrap64 (x11_1 + 1)))) = some r:=by rw [← hbq5] at H;exact H
      have Nbq5:=Aside0.mk hbq5;clear hbq5;by_cases c6:bq5 = true
      ·subst c6;have H1:((spec_voList.f k1 x11_1).bind fun t747=>(spec_voLeast.l1 k1 l0 x3_1 x11_1 true l0 (l0.length:Int) x11_1 t747 (t747.length:Int) 0)) = some r:=by rw [if_pos rfl] at H;exact H
       clear H;have H:=H1;clear H1;replace H:=Option.bind_eq_some_iff.mp H;obtain ⟨t747,A70,H⟩:=H;replace H:(spec_voLeast.l1 k1 l0 x3_1 x11_1 true l0 (l0.length:Int) x11_1 t747 (t747.length:Int) 0) = some r:=H;have A7:=Aside0.mk A70;clear A70;have H':=Aside0.mk H;clear H;have p746:0 ≤ (x11_1:Int):=of_decide_eq_true ab;have q746:x11_1 < (l0.length:Int):=of_decide_eq_true ab;obtain ⟨ad746,e746,hx746_0⟩:=Kd.at_bool HR0.out x11_1 p746 q746;(try rw [← Nbq5.out] at hx746_0)
       cases e746
       replace hx746_0:=(HB.out.cell (World.block_lt_of_cell? w _ hx746_0)).trans hx746_0;replace p746:=eq_true p746;replace q746:=eq_true q746;go_wp2_with (first|((with_reducible refine gate_callee (f:=65) rfl ?_);refine goesL_ (some 19) rfl rfl Try.func65 (by kernel_rfl) rfl #[.int .i64 x11_1] rfl mq ?_;(with_reducible refine (spec_voList.calls k1 x11_1 t747 _ A7.out).mono ?_);rintro e w8 ⟨v748,rfl,ho0,hb⟩;refine ⟨_,rfl,?_⟩;have n0_:=Aside0.mk (Kd.S_elder' (by (with_reducible repeat (first|apply Kd.S_alloc|apply Kd.S_drewN|apply Kd.S_drew));exact HO_3.out) (Kd.R_base ho0) hb);have n1_:=Aside0.mk (Kd.R_lower ho0 (below_size bw));have n2_:=Aside0.mk (below_step bw hb);clear HO_3;clear HB;have HO_3:=n0_;have HO749:=n1_;have HB:=n2_;clear n0_ n1_ n2_;(try clear hb);(try clear hb2);(try clear hk);(try clear hi);(try clear ho0);obtain ⟨Ao9,co9,eo9⟩:=Kd.R_slice HO749.out;subst eo9))
       go_loopg [6,21] k1 (fun kq v6 v21 w'=>∃ (x6_2:Bool) (x21_2:Int),v6 = .bool x6_2 ∧ v21 = .int .i64 x21_2 ∧ Aside0 (spec_voLeast.l1 kq l0 x3_1 x11_1 x6_2 l0 (l0.length:Int) x11_1 t747 (t747.length:Int) x21_2 = some r) ∧ Aside0 (kq ≤ k1) ∧ Aside0 (Kd.S (Kd.slice 3 (Kd.int .i64)) 40 w' w.heap.size (fun k_=>some k_ ≠ ((.slice Ao9 t747.length co9):Value).ownBlock) u3 x3_1) ∧ Aside0 (Kd.R (Kd.int .i64) 3 w' w.heap.size (fun _=>True) (.slice Ao9 t747.length co9) t747) ∧ Aside0 (Below w.heap.size w w'))
       case atStart=>exact ⟨(true),(0),(by first|rfl|(simp;done)|(simp [*];done)),(by first|rfl|(simp;done)|(simp [*];done)),H',⟨Nat.le_refl _⟩,⟨by (with_reducible repeat (first|apply Kd.S_alloc|apply Kd.S_drewN|apply Kd.S_drew));exact Kd.S_mono HO_3.out (fun _ hk=>hk.2)⟩,⟨by (with_reducible repeat (first|apply Kd.R_alloc|apply Kd.R_drewN|apply Kd.R_drew));exact HO749.out⟩,⟨by repeat (first|(with_reducible first|exact HB.out|apply below_alloc|apply pw_below_drewN|apply below_drew1)|exact HB.out)⟩⟩
       case round =>
        clear H'
        try clear c1
        try clear c2
        try clear c2b0
        try clear p2
        try clear c3
        try clear c3b0
        try clear c4
        try clear c4b0
        try clear q5
        try clear c6
        try clear p6
        try clear p7
        try clear q7
        try clear hx7
        try clear hx746_0
        try clear p746
        try clear q746
        obtain ⟨x6_2,x21_2,rfl,rfl,HA,HK2,HO_3,HO_19,HB⟩:=hrel
        cases gk with
        | zero=>exact absurd HA.out (by simp [spec_voLeast.l1])
        | succ k2 =>
         have H:=HA.out;clear HA;simp only [spec_voLeast.l1] at H;by_cases c10:x21_2 < (t747.length:Int)
         ·rw [if_pos c10] at H;have c10b0:decide (x21_2 < (t747.length:Int)) = true:=decide_eq_true c10;clear c10;by_cases c11:0 ≤ x21_2
          ·rw [if_pos c11] at H;have c11b0:decide (0 ≤ x21_2) = true:=decide_eq_true c11;clear c11;by_cases c12:x21_2 < (t747.length:Int)
           ·rw [if_pos c12] at H;have c12b0:decide (x21_2 < (t747.length:Int)) = true:=decide_eq_true c12;clear c12;by_cases c13:x6_2 = true
            ·subst c13;have H1:(if 0 ≤ (rd t747 x21_2) then (if 0 ≤ (wrap64 (x11_1 - (shl .i64 1 (rd t747 x21_2)))) then (if (wrap64 (x11_1 - (shl .i64 1 (rd t747 x21_2)))) < (l0.length:Int) then (spec_voLeast.l1 k2 l0 x3_1 x11_1 (!(rdOf false l0 (wrap64 (x11_1 - (shl .i64 1 (rd t747 x21_2)))))) l0 (l0.length:Int) x11_1 t747 (t747.length:Int) (wrap64 (x21_2 + 1))) else (none)) else (none)) else (none)) = some r:=by rw [if_pos rfl] at H;exact H
             clear H;have H:=H1;clear H1;by_cases c14:0 ≤ (rd t747 x21_2)
             ·rw [if_pos c14] at H;have c14b0:=eq_true c14;have c14b1:decide (0 ≤ (rd t747 x21_2)) = true:=decide_eq_true c14;clear c14;obtain ⟨ji15,hji15⟩:∃ j_:Int,(shl .i64 1 (rd t747 x21_2)) = j_:=⟨_,rfl⟩;replace H:(if 0 ≤ (wrap64 (x11_1 - (ji15))) then (if (wrap64 (x11_1 - (ji15))) < (l0.length:Int) then (spec_voLeast.l1 k2 l0 x3_1 x11_1 (!(rdOf false l0 (wrap64 (x11_1 - (ji15))))) l0 (l0.length:Int) x11_1 t747 (t747.length:Int) (wrap64 (x21_2 + 1))) else (none)) else (none)) = some r:=by first|(rw [hji15] at H;exact H)|(simp only [hji15] at H ⊢;exact H)
              have hji15_:(IntKind.i64.wrap (1 * 2 ^ min (rd t747 x21_2).toNat 64)) = ji15:=hji15;have hji15z:(rd t747 x21_2) ≤ 64 → (IntKind.i64.wrap (1 * 2 ^ (rd t747 x21_2).toNat)) = ji15:=shl_small hji15;have hji15u:(IntKind.i64.wrap (2 ^ min (rd t747 x21_2).toNat 64)) = ji15:=by have h_:=hji15_;rw [Int.one_mul] at h_;exact h_
              have hji15v:(rd t747 x21_2) ≤ 64 → (IntKind.i64.wrap (2 ^ (rd t747 x21_2).toNat)) = ji15:=fun hle_=>by have h_:=hji15z hle_;rw [Int.one_mul] at h_;exact h_
              have hji15y:(wrap64 (1 * 2 ^ min (rd t747 x21_2).toNat 64)) = ji15:=(i64_w _).symm.trans hji15_;have hji15x:(rd t747 x21_2) ≤ 64 → (wrap64 (1 * 2 ^ (rd t747 x21_2).toNat)) = ji15:=fun h_=>(i64_w _).symm.trans (hji15z h_)
              obtain ⟨ji16,hji16⟩:∃ j_:Int,(wrap64 (x11_1 - (ji15))) = j_:=⟨_,rfl⟩;replace H:(if 0 ≤ (ji16) then (if (ji16) < (l0.length:Int) then (spec_voLeast.l1 k2 l0 x3_1 x11_1 (!(rdOf false l0 (ji16))) l0 (l0.length:Int) x11_1 t747 (t747.length:Int) (wrap64 (x21_2 + 1))) else (none)) else (none)) = some r:=by first|(rw [hji16] at H;exact H)|(simp only [hji16] at H ⊢;exact H)
              have hji16w:(IntKind.i64.wrap (x11_1 - (ji15))) = ji16:=(i64_w _).trans hji16;by_cases c17:0 ≤ (ji16)
              ·rw [if_pos c17] at H;have c17b0:decide (0 ≤ (ji16)) = true:=decide_eq_true c17;clear c17;by_cases c18:(ji16) < (l0.length:Int)
               ·rw [if_pos c18] at H;have c18b0:decide ((ji16) < (l0.length:Int)) = true:=decide_eq_true c18;clear c18;have H':=Aside0.mk H;clear H;have p750:0 ≤ (x21_2:Int):=of_decide_eq_true ab;have q750:x21_2 < (t747.length:Int):=of_decide_eq_true ab;obtain ⟨ad750,e750,hx750_0⟩:=Kd.at_int (Kd.R_reads' HO_19.out).2.2 x21_2 p750 q750;cases e750
                replace p750:=eq_true p750;replace q750:=eq_true q750;have p751:0 ≤ ((ji16):Int):=of_decide_eq_true ab;have q751:(ji16) < (l0.length:Int):=of_decide_eq_true ab;obtain ⟨ad751,e751,hx751_0⟩:=Kd.at_bool HR0.out (ji16) p751 q751;(try rw [← Nbq5.out] at hx751_0)
                obtain rfl:ad746 = ad751:=(by injection e751);replace hx751_0:=(HB.out.cell (World.block_lt_of_cell? w _ hx751_0)).trans hx751_0;replace p751:=eq_true p751;replace q751:=eq_true q751;go_wp2
                go_roundg k2
                case measure=>have:=HK1.out;have:=HK2.out;omega
                case rel=>exact ⟨(!(rdOf false l0 (ji16))),(wrap64 (x21_2 + 1)),(by first|rfl|(simp;done)|(simp only [← hji16] <;> (first|rfl|simp))|(simp [*];done)),(by first|rfl|(simp;done)|(simp [*];done)),H',⟨by have:=HK1.out;have:=HK2.out;omega⟩,⟨by (with_reducible repeat (first|apply Kd.S_alloc|apply Kd.S_drewN|apply Kd.S_drew));exact HO_3.out⟩,⟨by (with_reducible repeat (first|apply Kd.R_alloc|apply Kd.R_drewN|apply Kd.R_drew));exact HO_19.out⟩,⟨by repeat (first|(with_reducible first|exact HB.out|apply below_alloc|apply pw_below_drewN|apply below_drew1)|exact HB.out)⟩⟩
               ·rw [if_neg c18] at H;exact absurd H (by simp)
              ·rw [if_neg c17] at H;exact absurd H (by simp)
             ·rw [if_neg c14] at H;exact absurd H (by simp)
            ·replace c13:=Bool.eq_false_iff.mpr c13;subst c13;have H1:(spec_voLeast.l1 k2 l0 x3_1 x11_1 false l0 (l0.length:Int) x11_1 t747 (t747.length:Int) (wrap64 (x21_2 + 1))) = some r:=by rw [if_neg (show ¬ (false = true) by decide)] at H;exact H
             clear H;have H:=H1;clear H1;have H':=Aside0.mk H;clear H;have p750:0 ≤ (x21_2:Int):=of_decide_eq_true ab;have q750:x21_2 < (t747.length:Int):=of_decide_eq_true ab;obtain ⟨ad750,e750,hx750_0⟩:=Kd.at_int (Kd.R_reads' HO_19.out).2.2 x21_2 p750 q750;cases e750
             replace p750:=eq_true p750;replace q750:=eq_true q750;go_wp2
             go_roundg k2
             case measure=>have:=HK1.out;have:=HK2.out;omega
             case rel=>exact ⟨(false),(wrap64 (x21_2 + 1)),(by first|rfl|(simp;done)|(simp [*];done)),(by first|rfl|(simp;done)|(simp [*];done)),H',⟨by have:=HK1.out;have:=HK2.out;omega⟩,⟨by (with_reducible repeat (first|apply Kd.S_alloc|apply Kd.S_drewN|apply Kd.S_drew));exact HO_3.out⟩,⟨by (with_reducible repeat (first|apply Kd.R_alloc|apply Kd.R_drewN|apply Kd.R_drew));exact HO_19.out⟩,⟨by repeat (first|(with_reducible first|exact HB.out|apply below_alloc|apply pw_below_drewN|apply below_drew1)|exact HB.out)⟩⟩
           ·rw [if_neg c12] at H;exact absurd H (by simp)
          ·rw [if_neg c11] at H;exact absurd H (by simp)
         ·rw [if_neg c10] at H;have c10b0:decide (x21_2 < (t747.length:Int)) = false:=decide_eq_false c10;clear c10;by_cases c19:x6_2 = true
          ·subst c19;have H1:((spec_voList.f k2 x11_1).bind fun t752=>(if x3_1.length < 5864062014805 then (spec_voLeast.l0 k2 l0 (x3_1 ++ [t752]) l0 (l0.length:Int) (wrap64 (x11_1 + 1))) else (none))) = some r:=by rw [if_pos rfl] at H;exact H
           clear H;have H:=H1;clear H1;replace H:=Option.bind_eq_some_iff.mp H;obtain ⟨t752,A200,H⟩:=H;replace H:(if x3_1.length < 5864062014805 then (spec_voLeast.l0 k2 l0 (x3_1 ++ [t752]) l0 (l0.length:Int) (wrap64 (x11_1 + 1))) else (none)) = some r:=H;have A20:=Aside0.mk A200;clear A200;by_cases c21:x3_1.length < 5864062014805
           ·rw [if_pos c21] at H;have LMc21:=Aside0.mk c21;clear c21;obtain ⟨y755,hy755⟩:∃ y_:List (List Int),y_ = (x3_1 ++ [t752]):=⟨_,rfl⟩;replace H:(spec_voLeast.l0 k2 l0 y755 l0 (l0.length:Int) (wrap64 (x11_1 + 1))) = some r:=by first|(rw [hy755];with_reducible exact H)|(have H2_:=(Option.bind_some _ _).symm.trans H;rw [hy755];with_reducible exact H2_)|(have H2_:=(Option.bind_some _ _).symm.trans H;with_reducible exact H2_)|with_reducible exact H|(rw [hy755];exact H)|exact H
            have Ny755:=Aside0.mk hy755;clear hy755;have H':=Aside0.mk H;clear H;go_wp2_with (first|((with_reducible refine gate_callee (f:=65) rfl ?_);refine goesL_ (some 40) rfl rfl Try.func65 (by kernel_rfl) rfl #[.int .i64 x11_1] rfl mq ?_;(with_reducible refine (spec_voList.calls k2 x11_1 t752 _ A20.out).mono ?_);rintro e w22 ⟨v753,rfl,ho0,hb⟩;refine ⟨_,rfl,?_⟩;have n0_:=Aside0.mk (Kd.S_elder' (by (with_reducible repeat (first|apply Kd.S_alloc|apply Kd.S_drewN|apply Kd.S_drew));exact HO_3.out) (Kd.R_base ho0) hb);have n1_:=Aside0.mk (Kd.R_elder' (by (with_reducible repeat (first|apply Kd.R_alloc|apply Kd.R_drewN|apply Kd.R_drew));exact HO_19.out) (Kd.R_base ho0) hb);have n2_:=Aside0.mk (Kd.R_lower (Kd.R_new' ho0 (Kd.R_lt (by (with_reducible repeat (first|apply Kd.R_alloc|apply Kd.R_drewN|apply Kd.R_drew));exact HO_19.out))) (below_size bw));have n3_:=Aside0.mk (below_step bw hb);clear HO_3;clear HO_19;clear HB;have HO_3:=n0_;have HO_19:=n1_;have HO754:=n2_;have HB:=n3_;clear n0_ n1_ n2_ n3_;(try clear hb);(try clear hb2);(try clear hk);(try clear hi);(try clear ho0);obtain ⟨Ao24,co24,eo24⟩:=Kd.R_slice HO754.out;subst eo24)|((with_reducible refine gate_builtin (b:=.append) (xs:=#[.tmp 38,.tmp 41]) rfl ?_);at_builtin;refine Kd.S_append (Kd.slice 3 (Kd.int .i64)) (w0:=w) w.heap.size rfl (.tmp 38) (.tmp 41) 22 40 (.slice none 0 0) 24 rfl Try.underlying22 info40 rfl (by decide) (by omega) u3 x3_1 t752 [.slice Ao24 t752.length co24] (fun k_=>some k_ ≠ (.slice Ao9 t747.length co9:Value).ownBlock) (fun k_=>some k_ = (.slice Ao24 t752.length co24:Value).ownBlock) rfl rfl ?aP (fun k_ hk_=>((Kd.R_mono (ok':=fun k_=>((fun k_=>some k_ ≠ (.slice Ao9 t747.length co9:Value).ownBlock)) k_ ∧ some k_ ≠ (u3:Value).ownBlock) (Kd.R_apart' (HO754.out) (Kd.S_typed HO_3.out) (by decide)) (fun k_ hk=>⟨hk.1.2,hk.2⟩))).1 k_ hk_.symm) ?aF ?aO ?aB ?aS ?aL ?_;(case aP=>exact Kd.M_row (Kd.R_mono (Kd.R_tight rfl (Kd.R_mono (ok':=fun k_=>((fun k_=>some k_ ≠ (.slice Ao9 t747.length co9:Value).ownBlock)) k_ ∧ some k_ ≠ (u3:Value).ownBlock) (Kd.R_apart' (HO754.out) (Kd.S_typed HO_3.out) (by decide)) (fun k_ hk=>⟨hk.1.2,hk.2⟩))) (fun _ h_=>h_)));(case aB=>exact bw);(case aF=>exact (fun k_ hk=>Kd.fresh' (Kd.R_lt (by (with_reducible repeat (first|apply Kd.R_alloc|apply Kd.R_drewN|apply Kd.R_drew));exact HO_19.out)) k_ hk));(case aO=>exact (by (with_reducible repeat (first|apply Kd.S_alloc|apply Kd.S_drewN|apply Kd.S_drew));exact Kd.S_mono HO_3.out (fun k_ hk=>⟨hk.1,fun e_=>hk.2 e_⟩)));(case aS=>exact (below_size bw));(case aL=>have:=LMc21.out;omega);intro v756 w23 ho hb hg hat;rw [← Ny755.out] at ho;have n0_:=Aside0.mk (Kd.R_over' (by (with_reducible repeat (first|apply Kd.R_alloc|apply Kd.R_drewN|apply Kd.R_drew));exact HO_19.out) (Kd.S_typed (by (with_reducible repeat (first|apply Kd.S_alloc|apply Kd.S_drewN|apply Kd.S_drew));exact HO_3.out)) (by decide) hg);have n1_:=Aside0.mk (hb);have n2_:=Aside0.mk (ho);clear HO_19;clear HB;clear HO_3;clear HO754;have HO_19:=n0_;have HB:=n1_;have HO757:=n2_;clear n0_ n1_ n2_;clear ho hb hg hat))
            go_roundg k2
            case measure=>have:=HK1.out;have:=HK2.out;omega
            case rel=>exact ⟨(y755),(wrap64 (x11_1 + 1)),(by first|rfl|(simp;done)|(simp [*];done)),H',⟨by have:=HK1.out;have:=HK2.out;omega⟩,⟨by (with_reducible repeat (first|apply Kd.S_alloc|apply Kd.S_drewN|apply Kd.S_drew));exact Kd.S_mono HO757.out (fun _ hk=>trivial)⟩,⟨by repeat (first|(with_reducible first|exact HB.out|apply below_alloc|apply pw_below_drewN|apply below_drew1)|exact HB.out)⟩⟩
           ·rw [if_neg c21] at H;exact absurd H (by simp)
          ·replace c19:=Bool.eq_false_iff.mpr c19;subst c19;have H1:(spec_voLeast.l0 k2 l0 x3_1 l0 (l0.length:Int) (wrap64 (x11_1 + 1))) = some r:=by rw [if_neg (show ¬ (false = true) by decide)] at H;exact H
           clear H;have H:=H1;clear H1;have H':=Aside0.mk H;clear H;go_wp2
           go_roundg k2
           case measure=>have:=HK1.out;have:=HK2.out;omega
           case rel=>exact ⟨(x3_1),(wrap64 (x11_1 + 1)),(by first|rfl|(simp;done)|(simp [*];done)),H',⟨by have:=HK1.out;have:=HK2.out;omega⟩,⟨by (with_reducible repeat (first|apply Kd.S_alloc|apply Kd.S_drewN|apply Kd.S_drew));exact Kd.S_mono HO_3.out (fun _ hk=>trivial)⟩,⟨by repeat (first|(with_reducible first|exact HB.out|apply below_alloc|apply pw_below_drewN|apply below_drew1)|exact HB.out)⟩⟩
      ·replace c6:=Bool.eq_false_iff.mpr c6;subst c6;have H1:(spec_voLeast.l0 k1 l0 x3_1 l0 (l0.length:Int) (wrap64 (x11_1 + 1))) = some r:=by rw [if_neg (show ¬ (false = true) by decide)] at H;exact H
       clear H;have H:=H1;clear H1;have H':=Aside0.mk H;clear H;have p746:0 ≤ (x11_1:Int):=of_decide_eq_true ab;have q746:x11_1 < (l0.length:Int):=of_decide_eq_true ab;obtain ⟨ad746,e746,hx746_0⟩:=Kd.at_bool HR0.out x11_1 p746 q746;(try rw [← Nbq5.out] at hx746_0)
       cases e746
       replace hx746_0:=(HB.out.cell (World.block_lt_of_cell? w _ hx746_0)).trans hx746_0;replace p746:=eq_true p746;replace q746:=eq_true q746;go_wp2
       go_roundg k1
       case measure=>have:=HK1.out;omega
       case rel=>exact ⟨(x3_1),(wrap64 (x11_1 + 1)),(by first|rfl|(simp;done)|(simp [*];done)),H',⟨by have:=HK1.out;omega⟩,⟨by (with_reducible repeat (first|apply Kd.S_alloc|apply Kd.S_drewN|apply Kd.S_drew));exact HO_3.out⟩,⟨by repeat (first|(with_reducible first|exact HB.out|apply below_alloc|apply pw_below_drewN|apply below_drew1)|exact HB.out)⟩⟩
     ·rw [if_neg c4] at H;exact absurd H (by simp)
    ·rw [if_neg c3] at H;exact absurd H (by simp)
   ·rw [if_neg c2] at H;have c2b0:decide (x11_1 < (l0.length:Int)) = false:=decide_eq_false c2;clear c2;replace H:=Option.bind_eq_some_iff.mp H;obtain ⟨t743,A250,H⟩:=H;replace H:(some t743) = some r:=H;have A25:=Aside0.mk A250;clear A250;obtain rfl:=Option.some.inj H;obtain ⟨Ao26,co26,eo26⟩:=Kd.S_slice HO_3.out;subst eo26;go_wp2_with (first|((with_reducible refine gate_callee (f:=143) rfl ?_);refine goesL_ (some 45) rfl rfl Try.func143 (by kernel_rfl) rfl #[.slice Ao26 x3_1.length co26] rfl mq ?_;(with_reducible refine (spec_voSorted.calls k1 (fun k_=>True) (.slice Ao26 x3_1.length co26) x3_1 t743 w _ ?side1 ?side2 A25.out).mono ?_);(case side1=>repeat (first|(with_reducible first|exact HB.out|apply below_alloc|apply pw_below_drewN|apply below_drew1)|exact HB.out));(case side2=>exact HO_3.out);rintro e w27 ⟨v744,rfl,ho0,hb,hkp⟩;refine ⟨_,rfl,?_⟩;have n0_:=Aside0.mk (Kd.S_mono (ok':=fun k_=>True) ho0 (fun k_ hk_=>trivial));have n1_:=Aside0.mk (hb);clear HB;clear HO_3;have HO745:=n0_;have HB:=n1_;clear n0_ n1_;(try clear hb);(try clear hkp);(try clear ho0)))
    go_ret
    exact ⟨_,by first|rfl|(simp [errW_none,errW_some] <;> rfl)|(simp [*,errW_none,errW_some] <;> rfl),by (with_reducible repeat (first|apply Kd.S_alloc|apply Kd.S_drewN|apply Kd.S_drew));exact HO745.out,by repeat (first|(with_reducible first|exact HB.out|apply below_alloc|apply pw_below_drewN|apply below_drew1)|exact HB.out)⟩


/-! ### spec_gmOf: function 66 -/
def spec_gmOf.f (k:Nat) (a0:Int) (l1:List Bool):Option (Int × (List (List Int))):=(spec_voLeast.f k l1).bind fun t759=>(some (a0,t759))
theorem spec_gmOf.mono:∀ a0 a1 k,LeO (spec_gmOf.f k a0 a1) (spec_gmOf.f (k + 1) a0 a1):=by
 intro a0 a1 k;unfold spec_gmOf.f
 repeat' with_reducible first|exact spec_voLeast.mono _ _|exact LeO.refl _|exact LeO.none _|refine LeO.ite ?_ ?_|refine LeO.bind ?_ (fun _=>?_)
set_option maxHeartbeats 8000000 in
set_option maxRecDepth 100000 in
theorem spec_gmOf.calls (k:Nat) (a0:Int) (A1:Option Addr) (c1:Nat) (l1:List Bool) (r1:Int) (r2:List (List Int)) (w:World) (hr1:Kd.C Kd.bool w A1 l1.length l1) (hc1:l1.length ≤ c1) (h:spec_gmOf.f k a0 l1 = some (r1,r2)) :
  Calls Try.prog 66 #[.int .i64 a0,.slice A1 l1.length c1] w fun e w'=>∃ v1_:Value,e = .returned (.agg #[.int .i64 r1,v1_]) ∧ Kd.S (Kd.slice 3 (Kd.int .i64)) 40 w' w.heap.size (fun _=>True) v1_ r2 ∧ Below w.heap.size w w':=by
 have hu28:=Try.underlying28;have HR1:=Aside0.mk hr1;have HC1:=Aside0.mk hc1;clear hr1 hc1;have HB:=Aside0.mk (Below.refl w.heap.size w);have H:((spec_voLeast.f k l1).bind fun t759=>(some (a0,t759))) = some (r1,r2):=h;clear h;replace H:=Option.bind_eq_some_iff.mp H;obtain ⟨t759,A30,H⟩:=H;replace H:(some (a0,t759)) = some (r1,r2):=H;have A3:=Aside0.mk A30;clear A30;simp only [Option.some.injEq,Prod.mk.injEq] at H;obtain ⟨rfl,rfl⟩:=H;go_enter Try.func66,Try.ntmps66;go_wp2_with (first|((with_reducible refine gate_dst (N:=4) rfl ?_);refine box_event ?hg (N:=4) ?hd (cs:=#[.int .i64 0,.slice none 0 0]) (t:=28) ?hr ?_;(case hd=>rfl);(case hg=>rfl);(case hr=>first|(go_simp;done)|(go_simp;rfl));intro gb758 hg w4 hbox hb;have n0_:=Aside0.mk (below_step bw hb);have n1_:=Aside0.mk (hbox);have n2_:=Aside0.mk ((by rw [hg];exact (below_size bw):w.heap.size ≤ gb758));have n3_:=Aside0.mk ((by rw [hg];exact (below_size bw):w.heap.size ≤ gb758));clear HB;have HB:=n0_;have BK758:=n1_;have GW758:=n2_;have GE758:=n3_;clear n0_ n1_ n2_ n3_;clear hb hbox hg)|((with_reducible refine gate_callee (f:=107) rfl ?_);refine goesL_ (some 7) rfl rfl Try.func107 (by kernel_rfl) rfl #[.slice A1 l1.length c1] rfl mq ?_;(with_reducible refine (spec_voLeast.calls k _ _ l1 t759 _ ?side1 ?side2 A3.out).mono ?_);(case side1=>repeat (first|exact (Kd.C_below HR1.out HB.out)|(with_reducible refine Kd.C_alloc ?_ _)|(with_reducible refine Kd.C_drewN ?_ _)|(with_reducible refine Kd.C_drew ?_)));(case side2=>exact HC1.out);rintro e w5 ⟨v760,rfl,ho0,hb⟩;refine ⟨_,rfl,?_⟩;have n0_:=Aside0.mk (Kd.S_lower ho0 (below_size bw));have n1_:=Aside0.mk (blk_below (g:=gb758) (o:=.cells #[.int .i64 0,.slice none 0 0] 28 (0,0)) bk hb);have n2_:=Aside0.mk (below_step bw hb);clear BK758;clear HB;have HO761:=n0_;have BK758:=n1_;have HB:=n2_;clear n0_ n1_ n2_;(try clear hb);(try clear hb2);(try clear hk);(try clear hi);(try clear ho0);obtain ⟨Ao6,co6,eo6⟩:=Kd.S_slice HO761.out;subst eo6;have hcz7_0:w5.cell? ⟨gb758,0,none⟩ = some (.int .i64 0):=(blk_cell BK758.out 0).trans rfl;have hcz7_1:w5.cell? ⟨gb758,1,none⟩ = some (.slice none 0 0):=(blk_cell BK758.out 1).trans rfl;have hfz7_0:=blk_frozen BK758.out 0;have hfz7_1:=blk_frozen BK758.out 1))
 refine bodyPost_ret (results_cell_row rfl _ _ gb758 28 #[.int .i64 a0,.slice Ao6 t759.length co6] (0,0) _ rfl (by (with_reducible repeat (first|refine blk_drewN ?_ _|refine blk_drew ?_|refine blk_alloc ?_ _));refine blk_put (cs:=#[.int .i64 a0,.slice none 0 0]) ?_ 1 _ rfl;(with_reducible repeat (first|refine blk_drewN ?_ _|refine blk_drew ?_|refine blk_alloc ?_ _));refine blk_put (cs:=#[.int .i64 0,.slice none 0 0]) ?_ 0 _ rfl;(with_reducible repeat (first|refine blk_drewN ?_ _|refine blk_drew ?_|refine blk_alloc ?_ _));exact BK758.out) Try.underlying28 rfl (by kernel_rfl)) rfl ?_;exact ⟨_,by first|rfl|(simp [errW_none,errW_some] <;> rfl)|(simp [*,errW_none,errW_some] <;> rfl),by (with_reducible repeat (first|apply Kd.S_alloc|apply Kd.S_drewN|apply Kd.S_drew));exact Kd.S_mono (Kd.S_far (p:=⟨gb758,1,none⟩) (Kd.S_far (p:=⟨gb758,0,none⟩) (Kd.S_types HO761.out BK758.out (by decide)) (fun _ hk=>hk.2) (.int .i64 a0)) (fun _ hk=>hk.2) (.slice Ao6 t759.length co6)) (fun _ hk=>trivial),by repeat (first|(with_reducible first|exact HB.out|apply below_alloc|apply pw_below_drewN|apply below_drew1|refine below_set ?_ GE758.out)|exact HB.out)⟩


/-! ### spec_HeadsGame: function 25 -/
mutual
def spec_HeadsGame.j0:Nat → Int → Bool → Int → List Int → Option (Int × (List (List Int)) × Bool)
 | 0,_,_,_,_=>none
 | k + 1,x1,x18,x763000,x763001=>if x18 = true then (some (0,([]:List (List Int)),false)) else ((spec_voWins.f k x763000 x763001).bind fun t766=>(spec_HeadsGame.l0 k x1 t766 (t766.length:Int) 0 x763000 x763001))
def spec_HeadsGame.l0:Nat → Int → List Bool → Int → Int → Int → List Int → Option (Int × (List (List Int)) × Bool)
 | 0,_,_,_,_,_,_=>none
 | k + 1,x1,x6,x23,x24,x763000,x763001=>if x24 < x23 then (if 0 ≤ x24 then (if x24 < (x6.length:Int) then (if rdOf false x6 x24 = true then ((spec_voList.f k x24).bind fun t770=>(spec_HeadsGame.l0 k x1 (x6.set (x24:Int).toNat (decide ((t770.length:Int) ≥ x1))) x23 (wrap64 (x24 + 1)) x763000 x763001)) else (spec_HeadsGame.l0 k x1 (x6.set (x24:Int).toNat false) x23 (wrap64 (x24 + 1)) x763000 x763001)) else (none)) else (none)) else ((spec_gmOf.f k (x763001.length:Int) x6).bind fun bt775=>(some (bt775.1,bt775.2,true)))
end
def spec_HeadsGame.f (k:Nat) (a0_0:Int) (l0_1:List Int) (a1:Int):Option (Int × (List (List Int)) × Bool):=(spec_voGood.f k a0_0 l0_1).bind fun t764=>(if t764 = true then ((spec_l1In.f a1 0 (l0_1.length:Int)).bind fun t765=>(spec_HeadsGame.j0 k a1 (!t765) a0_0 l0_1)) else (spec_HeadsGame.j0 k a1 true a0_0 l0_1))
theorem spec_HeadsGame.mono_l:∀ k,(∀ y0 y1 y2 y3,LeO (spec_HeadsGame.j0 k y0 y1 y2 y3) (spec_HeadsGame.j0 (k + 1) y0 y1 y2 y3)) ∧ (∀ y0 y1 y2 y3 y4 y5,LeO (spec_HeadsGame.l0 k y0 y1 y2 y3 y4 y5) (spec_HeadsGame.l0 (k + 1) y0 y1 y2 y3 y4 y5))
 | 0=>⟨fun _ _ _ _ r h=>by simp [spec_HeadsGame.j0] at h,fun _ _ _ _ _ _ r h=>by simp [spec_HeadsGame.l0] at h⟩
 | k + 1=>by
  obtain ⟨ih0,ih1⟩:=spec_HeadsGame.mono_l k;refine ⟨?_,?_⟩
  ·intro y0 y1 y2 y3;unfold spec_HeadsGame.j0
   repeat' with_reducible first|exact ih0 _ _ _ _|exact ih1 _ _ _ _ _ _|exact spec_gmOf.mono _ _ _|exact spec_voGood.mono _ _ _|exact spec_voList.mono _ _|exact spec_voWins.mono _ _ _|exact LeO.refl _|exact LeO.none _|refine LeO.ite ?_ ?_|refine LeO.bind ?_ (fun _=>?_)
  ·intro y0 y1 y2 y3 y4 y5;unfold spec_HeadsGame.l0
   repeat' with_reducible first|exact ih0 _ _ _ _|exact ih1 _ _ _ _ _ _|exact spec_gmOf.mono _ _ _|exact spec_voGood.mono _ _ _|exact spec_voList.mono _ _|exact spec_voWins.mono _ _ _|exact LeO.refl _|exact LeO.none _|refine LeO.ite ?_ ?_|refine LeO.bind ?_ (fun _=>?_)
theorem spec_HeadsGame.mono:∀ a0 a1 a2 k,LeO (spec_HeadsGame.f k a0 a1 a2) (spec_HeadsGame.f (k + 1) a0 a1 a2):=by
 intro a0 a1 a2 k;obtain ⟨ih0,ih1⟩:=spec_HeadsGame.mono_l k;unfold spec_HeadsGame.f
 repeat' with_reducible first|exact ih0 _ _ _ _|exact ih1 _ _ _ _ _ _|exact spec_gmOf.mono _ _ _|exact spec_voGood.mono _ _ _|exact spec_voList.mono _ _|exact spec_voWins.mono _ _ _|exact LeO.refl _|exact LeO.none _|refine LeO.ite ?_ ?_|refine LeO.bind ?_ (fun _=>?_)
set_option maxHeartbeats 8000000 in
set_option maxRecDepth 100000 in
theorem spec_HeadsGame.calls (k:Nat) (a0_0:Int) (A0_1:Option Addr) (c0_1:Nat) (l0_1:List Int) (a1:Int) (r1:Int) (r2:List (List Int)) (r3:Bool) (w:World) (hr0_1:Kd.C (Kd.int .i64) w A0_1 l0_1.length l0_1) (hc0_1:l0_1.length ≤ c0_1) (h:spec_HeadsGame.f k a0_0 l0_1 a1 = some (r1,r2,r3)) :
  Calls Try.prog 25 #[.agg #[.int .i64 a0_0,.slice A0_1 l0_1.length c0_1],.int .i64 a1] w fun e w'=>∃ v1_:Value,e = .returned (.tuple #[.agg #[.int .i64 r1,v1_],.bool r3]) ∧ Kd.S (Kd.slice 3 (Kd.int .i64)) 40 w' w.heap.size (fun _=>True) v1_ r2 ∧ Below w.heap.size w w':=by
 have hu46:=Try.underlying46;have hu28:=Try.underlying28;have HR0_1:=Aside0.mk hr0_1;have HC0_1:=Aside0.mk hc0_1;clear hr0_1 hc0_1;have HB:=Aside0.mk (Below.refl w.heap.size w);have H:((spec_voGood.f k a0_0 l0_1).bind fun t764=>(if t764 = true then ((spec_l1In.f a1 0 (l0_1.length:Int)).bind fun t765=>(spec_HeadsGame.j0 k a1 (!t765) a0_0 l0_1)) else (spec_HeadsGame.j0 k a1 true a0_0 l0_1))) = some (r1,r2,r3):=h;clear h;have HC3:=Aside0.mk H;clear H;go_enter Try.func25,Try.ntmps25;go_upto_region 1 with (first|((with_reducible refine gate_dst (N:=2) rfl ?_);(try (refine gate_guard (by rfl) ?_;dsimp only));refine box_event ?hg (N:=2) ?hd (cs:=#[.int .i64 a0_0,.slice A0_1 l0_1.length c0_1]) (t:=46) ?hr ?_;(case hd=>rfl);(case hg=>rfl);(case hr=>first|(go_simp;done)|(go_simp;rfl));intro gb762 hg w4 hbox hb;have n0_:=Aside0.mk (below_step bw hb);have n1_:=Aside0.mk (hbox);have n2_:=Aside0.mk ((by rw [hg];exact (below_size bw):w.heap.size ≤ gb762));have n3_:=Aside0.mk ((by rw [hg];exact (below_size bw):w.heap.size ≤ gb762));clear HB;have HB:=n0_;have BK762:=n1_;have GW762:=n2_;have GE762:=n3_;clear n0_ n1_ n2_ n3_;clear hb hbox hg)|((with_reducible refine gate_dst (N:=4) rfl ?_);(try (refine gate_guard (by rfl) ?_;dsimp only));refine box_event ?hg (N:=4) ?hd (cs:=#[.int .i64 0,.slice none 0 0]) (t:=28) ?hr ?_;(case hd=>rfl);(case hg=>rfl);(case hr=>first|(go_simp;done)|(go_simp;rfl));intro gb763 hg w5 hbox hb;have n0_:=Aside0.mk (blk_below (g:=gb762) (o:=.cells #[.int .i64 a0_0,.slice A0_1 l0_1.length c0_1] 46 (0,0)) bk hb);have n1_:=Aside0.mk (below_step bw hb);have n2_:=Aside0.mk (hbox);have n3_:=Aside0.mk ((by rw [hg];exact (below_size bw):w.heap.size ≤ gb763));have n4_:=Aside0.mk ((by rw [hg];exact (below_size bw):w.heap.size ≤ gb763));have n5_:=Aside0.mk ((by rw [hg];exact Nat.ne_of_lt (blk_lt (g:=gb762) (o:=.cells #[.int .i64 a0_0,.slice A0_1 l0_1.length c0_1] 46 (0,0)) bk):gb762 ≠ gb763));have n6_:=Aside0.mk ((by rw [hg];exact Nat.ne_of_gt (blk_lt (g:=gb762) (o:=.cells #[.int .i64 a0_0,.slice A0_1 l0_1.length c0_1] 46 (0,0)) bk):gb763 ≠ gb762));clear BK762;clear HB;have BK762:=n0_;have HB:=n1_;have BK763:=n2_;have GW763:=n3_;have GE763:=n4_;have NB762_763:=n5_;have NB763_762:=n6_;clear n0_ n1_ n2_ n3_ n4_ n5_ n6_;clear hb hbox hg))
 (try simp only [Act.put,sA,sZ,sS])
 go_cut [18] (fun v18 wc=>∃ (kq:Nat) (x18_2:Bool),v18 = .bool x18_2 ∧ Aside0 (spec_HeadsGame.j0 kq a1 x18_2 a0_0 l0_1 = some (r1,r2,r3)) ∧ Aside0 (kq ≤ k) ∧ Aside0 (wc.heap[gb762]? = some (.cells #[.int .i64 a0_0,(.slice A0_1 l0_1.length c0_1)] 46 (0,0))) ∧ Aside0 (wc.heap[gb763]? = some (.cells #[.int .i64 0,(.slice none 0 0)] 28 (0,0))) ∧ Aside0 (Below w.heap.size w wc))
 case first =>
  have H:=HC3.out;clear HC3;replace H:=Option.bind_eq_some_iff.mp H;obtain ⟨t764,A60,H⟩:=H;replace H:(if t764 = true then ((spec_l1In.f a1 0 (l0_1.length:Int)).bind fun t765=>(spec_HeadsGame.j0 k a1 (!t765) a0_0 l0_1)) else (spec_HeadsGame.j0 k a1 true a0_0 l0_1)) = some (r1,r2,r3):=H;have A6:=Aside0.mk A60;clear A60;by_cases c7:t764 = true
  ·subst c7;have H1:((spec_l1In.f a1 0 (l0_1.length:Int)).bind fun t765=>(spec_HeadsGame.j0 k a1 (!t765) a0_0 l0_1)) = some (r1,r2,r3):=by rw [if_pos rfl] at H;exact H
   clear H;have H:=H1;clear H1;replace H:=Option.bind_eq_some_iff.mp H;obtain ⟨t765,A80,H⟩:=H;replace H:(spec_HeadsGame.j0 k a1 (!t765) a0_0 l0_1) = some (r1,r2,r3):=H;have A8:=Aside0.mk A80;clear A80;have H':=Aside0.mk H;clear H;have hnb9:=NB762_763.out;have hnc9:=NB763_762.out;have hcz10_0:w5.cell? ⟨gb762,0,none⟩ = some (.int .i64 a0_0):=(blk_cell BK762.out 0).trans rfl;have hcz10_1:w5.cell? ⟨gb762,1,none⟩ = some (.slice A0_1 l0_1.length c0_1):=(blk_cell BK762.out 1).trans rfl;have hfz10_0:=blk_frozen BK762.out 0;have hfz10_1:=blk_frozen BK762.out 1;go_wp2_with (first|((with_reducible refine gate_callee (f:=63) rfl ?_);refine goesL_ (some 9) rfl rfl Try.func63 (by kernel_rfl) rfl #[.agg #[.int .i64 a0_0,.slice A0_1 l0_1.length c0_1]] rfl mq ?_;(with_reducible refine (spec_voGood.calls k a0_0 _ _ l0_1 true _ ?side1 ?side2 A6.out).mono ?_);(case side1=>repeat (first|exact (Kd.C_below HR0_1.out HB.out)|(with_reducible refine Kd.C_alloc ?_ _)|(with_reducible refine Kd.C_drewN ?_ _)|(with_reducible refine Kd.C_drew ?_)));(case side2=>exact HC0_1.out);rintro e w11 ⟨rfl,hb⟩;refine ⟨_,rfl,?_⟩;have n0_:=Aside0.mk (blk_below (g:=gb762) (o:=.cells #[.int .i64 a0_0,.slice A0_1 l0_1.length c0_1] 46 (0,0)) bk hb);have n1_:=Aside0.mk (blk_below (g:=gb763) (o:=.cells #[.int .i64 0,.slice none 0 0] 28 (0,0)) bk hb);have n2_:=Aside0.mk (below_step bw hb);clear BK762;clear BK763;clear HB;have BK762:=n0_;have BK763:=n1_;have HB:=n2_;clear n0_ n1_ n2_;(try clear hb);(try clear hb2);(try clear hk);(try clear hi);have hcz12_0:w11.cell? ⟨gb762,0,none⟩ = some (.int .i64 a0_0):=(blk_cell BK762.out 0).trans rfl;have hcz12_1:w11.cell? ⟨gb762,1,none⟩ = some (.slice A0_1 l0_1.length c0_1):=(blk_cell BK762.out 1).trans rfl;have hfz12_0:=blk_frozen BK762.out 0;have hfz12_1:=blk_frozen BK762.out 1)|(go_at_call 54;(with_reducible refine (spec_l1In.calls a1 0 (l0_1.length:Int) t765 _ A8.out).mono ?_);rintro e w' ⟨rfl,⟨nd,rfl⟩⟩))
   go_meet
   case rel=>exact ⟨_,(!t765),(by first|rfl|(simp;done)|(simp [*];done)),H',⟨by first|omega|exact Nat.le_refl _⟩,⟨by (with_reducible repeat (first|refine blk_drewN ?_ _|refine blk_drew ?_|refine blk_alloc ?_ _));exact BK762.out⟩,⟨by (with_reducible repeat (first|refine blk_drewN ?_ _|refine blk_drew ?_|refine blk_alloc ?_ _));exact BK763.out⟩,⟨by repeat (first|(with_reducible first|exact HB.out|apply below_alloc|apply pw_below_drewN|apply below_drew1|refine below_set ?_ GE762.out|refine below_set ?_ GE763.out)|exact HB.out)⟩⟩
  ·replace c7:=Bool.eq_false_iff.mpr c7;subst c7;have H1:(spec_HeadsGame.j0 k a1 true a0_0 l0_1) = some (r1,r2,r3):=by rw [if_neg (show ¬ (false = true) by decide)] at H;exact H
   clear H;have H:=H1;clear H1;have H':=Aside0.mk H;clear H;have hnb13:=NB762_763.out;have hnc13:=NB763_762.out;have hcz14_0:w5.cell? ⟨gb762,0,none⟩ = some (.int .i64 a0_0):=(blk_cell BK762.out 0).trans rfl;have hcz14_1:w5.cell? ⟨gb762,1,none⟩ = some (.slice A0_1 l0_1.length c0_1):=(blk_cell BK762.out 1).trans rfl;have hfz14_0:=blk_frozen BK762.out 0;have hfz14_1:=blk_frozen BK762.out 1;go_wp2_with (first|((with_reducible refine gate_callee (f:=63) rfl ?_);refine goesL_ (some 9) rfl rfl Try.func63 (by kernel_rfl) rfl #[.agg #[.int .i64 a0_0,.slice A0_1 l0_1.length c0_1]] rfl mq ?_;(with_reducible refine (spec_voGood.calls k a0_0 _ _ l0_1 false _ ?side1 ?side2 A6.out).mono ?_);(case side1=>repeat (first|exact (Kd.C_below HR0_1.out HB.out)|(with_reducible refine Kd.C_alloc ?_ _)|(with_reducible refine Kd.C_drewN ?_ _)|(with_reducible refine Kd.C_drew ?_)));(case side2=>exact HC0_1.out);rintro e w15 ⟨rfl,hb⟩;refine ⟨_,rfl,?_⟩;have n0_:=Aside0.mk (blk_below (g:=gb762) (o:=.cells #[.int .i64 a0_0,.slice A0_1 l0_1.length c0_1] 46 (0,0)) bk hb);have n1_:=Aside0.mk (blk_below (g:=gb763) (o:=.cells #[.int .i64 0,.slice none 0 0] 28 (0,0)) bk hb);have n2_:=Aside0.mk (below_step bw hb);clear BK762;clear BK763;clear HB;have BK762:=n0_;have BK763:=n1_;have HB:=n2_;clear n0_ n1_ n2_;(try clear hb);(try clear hb2);(try clear hk);(try clear hi)))
   go_meet
   case rel=>exact ⟨_,(true),(by first|rfl|(simp;done)|(simp [*];done)),H',⟨by first|omega|exact Nat.le_refl _⟩,⟨by (with_reducible repeat (first|refine blk_drewN ?_ _|refine blk_drew ?_|refine blk_alloc ?_ _));exact BK762.out⟩,⟨by (with_reducible repeat (first|refine blk_drewN ?_ _|refine blk_drew ?_|refine blk_alloc ?_ _));exact BK763.out⟩,⟨by repeat (first|(with_reducible first|exact HB.out|apply below_alloc|apply pw_below_drewN|apply below_drew1|refine below_set ?_ GE762.out|refine below_set ?_ GE763.out)|exact HB.out)⟩⟩
 case rest =>
  clear HC3
  try clear c1
  try clear c2
  try clear p2
  try clear c6
  try clear c7
  try clear c9
  try clear c13
  try clear hcz10_0
  try clear hcz10_1
  try clear hcz12_0
  try clear hcz12_1
  try clear hcz14_0
  try clear hcz14_1
  try clear hfz10_0
  try clear hfz10_1
  try clear hfz12_0
  try clear hfz12_1
  try clear hfz14_0
  try clear hfz14_1
  obtain ⟨kq,x18_2,rfl,HA,HJ2,BK762,BK763,HB⟩:=hcut
  cases kq with
  | zero=>exact absurd HA.out (by simp [spec_HeadsGame.j0])
  | succ kj2 =>
   have H:=HA.out;clear HA;simp only [spec_HeadsGame.j0] at H;by_cases c16:x18_2 = true
   ·subst c16;have H1:(some (0,([]:List (List Int)),false)) = some (r1,r2,r3):=by rw [if_pos rfl] at H;exact H
    clear H;have H:=H1;clear H1;simp only [Option.some.injEq,Prod.mk.injEq] at H;obtain ⟨rfl,rfl,rfl⟩:=H;have hnb17:=NB763_762.out;have hnc17:=NB762_763.out;have hcz18_0:wc.cell? ⟨gb763,0,none⟩ = some (.int .i64 0):=(blk_cell BK763.out 0).trans rfl;have hcz18_1:wc.cell? ⟨gb763,1,none⟩ = some (.slice none 0 0):=(blk_cell BK763.out 1).trans rfl;have hfz18_0:=blk_frozen BK763.out 0;have hfz18_1:=blk_frozen BK763.out 1;go_wp2
    refine bodyPost_ret (results_ct rfl _ _ gb763 28 #[.int .i64 0,.slice none 0 0] (0,0) _ rfl (by (with_reducible repeat (first|refine blk_drewN ?_ _|refine blk_drew ?_|refine blk_alloc ?_ _));refine blk_put (cs:=#[.int .i64 0,.slice none 0 0]) ?_ 1 _ rfl;(with_reducible repeat (first|refine blk_drewN ?_ _|refine blk_drew ?_|refine blk_alloc ?_ _));refine blk_put (cs:=#[.int .i64 0,.slice none 0 0]) ?_ 0 _ rfl;(with_reducible repeat (first|refine blk_drewN ?_ _|refine blk_drew ?_|refine blk_alloc ?_ _));exact BK763.out) Try.underlying28 rfl (by kernel_rfl)) rfl ?_;exact ⟨_,by first|rfl|(simp [errW_none,errW_some] <;> rfl)|(simp [*,errW_none,errW_some] <;> rfl),by first|exact Kd.S_nil _ _ _ _ _|exact Kd.N_nil _ _ _ _ _|exact Kd.V_nil _ _ _ _ _|exact Kd.Q_nil _ _ _ _ _|exact Kd.R_nil _ _ _ _ _,by repeat (first|(with_reducible first|exact HB.out|apply below_alloc|apply pw_below_drewN|apply below_drew1|refine below_set ?_ GE762.out|refine below_set ?_ GE763.out)|exact HB.out)⟩
   ·replace c16:=Bool.eq_false_iff.mpr c16;subst c16;have H1:((spec_voWins.f kj2 a0_0 l0_1).bind fun t766=>(spec_HeadsGame.l0 kj2 a1 t766 (t766.length:Int) 0 a0_0 l0_1)) = some (r1,r2,r3):=by rw [if_neg (show ¬ (false = true) by decide)] at H;exact H
    clear H;have H:=H1;clear H1;replace H:=Option.bind_eq_some_iff.mp H;obtain ⟨t766,A190,H⟩:=H;replace H:(spec_HeadsGame.l0 kj2 a1 t766 (t766.length:Int) 0 a0_0 l0_1) = some (r1,r2,r3):=H;have A19:=Aside0.mk A190;clear A190;have H':=Aside0.mk H;clear H;have hnb20:=NB762_763.out;have hnc20:=NB763_762.out;have hcz21_0:wc.cell? ⟨gb762,0,none⟩ = some (.int .i64 a0_0):=(blk_cell BK762.out 0).trans rfl;have hcz21_1:wc.cell? ⟨gb762,1,none⟩ = some (.slice A0_1 l0_1.length c0_1):=(blk_cell BK762.out 1).trans rfl;have hfz21_0:=blk_frozen BK762.out 0;have hfz21_1:=blk_frozen BK762.out 1;go_wp2_with (first|((with_reducible refine gate_callee (f:=64) rfl ?_);refine goesL_ (some 21) rfl rfl Try.func64 (by kernel_rfl) rfl #[.agg #[.int .i64 a0_0,.slice A0_1 l0_1.length c0_1]] rfl mq ?_;(with_reducible refine (spec_voWins.calls kj2 a0_0 _ _ l0_1 t766 _ ?side1 ?side2 A19.out).mono ?_);(case side1=>repeat (first|exact (Kd.C_below HR0_1.out HB.out)|(with_reducible refine Kd.C_alloc ?_ _)|(with_reducible refine Kd.C_drewN ?_ _)|(with_reducible refine Kd.C_drew ?_)));(case side2=>exact HC0_1.out);rintro e w22 ⟨v767,rfl,ho0,hb⟩;refine ⟨_,rfl,?_⟩;have n0_:=Aside0.mk (Kd.R_lower ho0 (below_size bw));have n1_:=Aside0.mk (blk_below (g:=gb762) (o:=.cells #[.int .i64 a0_0,.slice A0_1 l0_1.length c0_1] 46 (0,0)) bk hb);have n2_:=Aside0.mk (blk_below (g:=gb763) (o:=.cells #[.int .i64 0,.slice none 0 0] 28 (0,0)) bk hb);have n3_:=Aside0.mk (below_step bw hb);clear BK762;clear BK763;clear HB;have HO768:=n0_;have BK762:=n1_;have BK763:=n2_;have HB:=n3_;clear n0_ n1_ n2_ n3_;(try clear hb);(try clear hb2);(try clear hk);(try clear hi);(try clear ho0);obtain ⟨Ao23,co23,eo23⟩:=Kd.R_slice HO768.out;subst eo23))
    go_loopg [24] kj2 (fun kq v24 w'=>∃ (x6_2:List Bool) (x24_2:Int),v24 = .int .i64 x24_2 ∧ Aside0 (spec_HeadsGame.l0 kq a1 x6_2 (t766.length:Int) x24_2 a0_0 l0_1 = some (r1,r2,r3)) ∧ Aside0 (kq ≤ kj2) ∧ Aside0 (Kd.R Kd.bool 4 w' w.heap.size (fun _=>True) (.slice Ao23 t766.length co23) x6_2) ∧ Aside0 (w'.heap[gb762]? = some (.cells #[.int .i64 a0_0,(.slice A0_1 l0_1.length c0_1)] 46 (0,0))) ∧ Aside0 (w'.heap[gb763]? = some (.cells #[.int .i64 0,(.slice none 0 0)] 28 (0,0))) ∧ Aside0 (Below w.heap.size w w'))
    case atStart=>exact ⟨(t766),(0),(by first|rfl|(simp;done)|(simp [*];done)),H',⟨Nat.le_refl _⟩,⟨by (with_reducible repeat (first|apply Kd.R_alloc|apply Kd.R_drewN|apply Kd.R_drew));exact HO768.out⟩,⟨by (with_reducible repeat (first|refine blk_drewN ?_ _|refine blk_drew ?_|refine blk_alloc ?_ _));exact BK762.out⟩,⟨by (with_reducible repeat (first|refine blk_drewN ?_ _|refine blk_drew ?_|refine blk_alloc ?_ _));exact BK763.out⟩,⟨by repeat (first|(with_reducible first|exact HB.out|apply below_alloc|apply pw_below_drewN|apply below_drew1|refine below_set ?_ GE762.out|refine below_set ?_ GE763.out)|exact HB.out)⟩⟩
    case round =>
     clear H'
     try clear c1
     try clear c2
     try clear p2
     try clear c6
     try clear c7
     try clear c9
     try clear c13
     try clear c16
     try clear c17
     try clear c20
     try clear hcz10_0
     try clear hcz10_1
     try clear hcz12_0
     try clear hcz12_1
     try clear hcz14_0
     try clear hcz14_1
     try clear hcz18_0
     try clear hcz18_1
     try clear hcz21_0
     try clear hcz21_1
     try clear hfz10_0
     try clear hfz10_1
     try clear hfz12_0
     try clear hfz12_1
     try clear hfz14_0
     try clear hfz14_1
     try clear hfz18_0
     try clear hfz18_1
     try clear hfz21_0
     try clear hfz21_1
     try clear p2
     obtain ⟨x6_2,x24_2,rfl,HA,HK2,HO_6,BK762,BK763,HB⟩:=hrel;have hl6_2:=(Kd.R_reads' HO_6.out).1;rw [hl6_2] at HO_6;(try simp only [hl6_2])
     (try simp only [hl6_2] at BK762)
     (try simp only [hl6_2] at BK763)
     cases gk with
     | zero=>exact absurd HA.out (by simp [spec_HeadsGame.l0])
     | succ k2 =>
      have H:=HA.out;clear HA;simp only [spec_HeadsGame.l0] at H;by_cases c24:x24_2 < (t766.length:Int)
      ·rw [if_pos c24] at H;have c24b0:decide (x24_2 < (t766.length:Int)) = true:=decide_eq_true c24;(try simp only [hl6_2] at c24b0)
       clear c24;by_cases c25:0 ≤ x24_2
       ·rw [if_pos c25] at H;have c25b0:decide (0 ≤ x24_2) = true:=decide_eq_true c25;clear c25;by_cases c26:x24_2 < (x6_2.length:Int)
        ·rw [if_pos c26] at H;have c26b0:decide (x24_2 < (x6_2.length:Int)) = true:=decide_eq_true c26;(try simp only [hl6_2] at c26b0)
         clear c26;obtain ⟨bq27,hbq27⟩:∃ b_:Bool,b_ = (rdOf false x6_2 x24_2):=⟨_,rfl⟩;replace H:(if bq27 = true then ((spec_voList.f k2 x24_2).bind fun t770=>(spec_HeadsGame.l0 k2 a1 (x6_2.set (x24_2:Int).toNat (decide ((t770.length:Int) ≥ a1))) (t766.length:Int) (wrap64 (x24_2 + 1)) a0_0 l0_1)) else (spec_HeadsGame.l0 k2 a1 (x6_2.set (x24_2:Int).toNat false) (t766.length:Int) (wrap64 (x24_2 + 1)) a0_0 l0_1)) = some (r1,r2,r3):=by rw [← hbq27] at H;exact H
         have Nbq27:=Aside0.mk hbq27;clear hbq27;by_cases c28:bq27 = true
         ·subst c28;have H1:((spec_voList.f k2 x24_2).bind fun t770=>(spec_HeadsGame.l0 k2 a1 (x6_2.set (x24_2:Int).toNat (decide ((t770.length:Int) ≥ a1))) (t766.length:Int) (wrap64 (x24_2 + 1)) a0_0 l0_1)) = some (r1,r2,r3):=by rw [if_pos rfl] at H;exact H
          clear H;have H:=H1;clear H1;replace H:=Option.bind_eq_some_iff.mp H;obtain ⟨t770,A290,H⟩:=H;replace H:(spec_HeadsGame.l0 k2 a1 (x6_2.set (x24_2:Int).toNat (decide ((t770.length:Int) ≥ a1))) (t766.length:Int) (wrap64 (x24_2 + 1)) a0_0 l0_1) = some (r1,r2,r3):=H;have A29:=Aside0.mk A290;clear A290;obtain ⟨y773,hy773⟩:∃ y_:List Bool,y_ = (x6_2.set (x24_2:Int).toNat (decide ((t770.length:Int) ≥ a1))):=⟨_,rfl⟩;replace H:(spec_HeadsGame.l0 k2 a1 y773 (t766.length:Int) (wrap64 (x24_2 + 1)) a0_0 l0_1) = some (r1,r2,r3):=by first|(rw [hy773];with_reducible exact H)|(have H2_:=(Option.bind_some _ _).symm.trans H;rw [hy773];with_reducible exact H2_)|(have H2_:=(Option.bind_some _ _).symm.trans H;with_reducible exact H2_)|with_reducible exact H|(rw [hy773];exact H)|exact H
          have Ny773:=Aside0.mk hy773;clear hy773;have H':=Aside0.mk H;clear H;have p769:0 ≤ (x24_2:Int):=of_decide_eq_true ab;have q769:x24_2 < (x6_2.length:Int):=of_decide_eq_true ab;obtain ⟨ad769,e769,hx769_0⟩:=Kd.at_bool (Kd.R_reads' HO_6.out).2.2 x24_2 p769 q769;(try rw [← Nbq27.out] at hx769_0)
          cases e769
          replace p769:=eq_true p769;replace q769:=eq_true q769;go_wp2_with (first|(go_at_call 65;(with_reducible refine (spec_voList.calls k2 x24_2 t770 _ A29.out).mono ?_);rintro e w31 ⟨v771,rfl,ho0,hb⟩;have n0_:=Aside0.mk (Kd.R_below (by (with_reducible repeat (first|apply Kd.R_alloc|apply Kd.R_drewN|apply Kd.R_drew));exact HO_6.out) hb);have n1_:=Aside0.mk (Kd.R_lower ho0 (below_size bw));have n2_:=Aside0.mk (blk_below (g:=gb762) (o:=.cells #[.int .i64 a0_0,.slice A0_1 l0_1.length c0_1] 46 (0,0)) bk hb);have n3_:=Aside0.mk (blk_below (g:=gb763) (o:=.cells #[.int .i64 0,.slice none 0 0] 28 (0,0)) bk hb);have n4_:=Aside0.mk (below_step bw hb);clear HO_6;clear BK762;clear BK763;clear HB;have HO_6:=n0_;have HO772:=n1_;have BK762:=n2_;have BK763:=n3_;have HB:=n4_;clear n0_ n1_ n2_ n3_ n4_;(try clear hb);(try clear hb2);(try clear hk);(try clear hi);(try clear ho0);obtain ⟨Ao32,co32,eo32⟩:=Kd.R_slice HO772.out;subst eo32;have p30:0 ≤ (x24_2:Int):=of_decide_eq_true ab;have q30:(x24_2:Int) < ((x6_2.length:Int):Int):=of_decide_eq_true ab;obtain ⟨go30,co30,eo30,gb30,gl30,cl30,HG30⟩:=Kd.R_form HO_6.out (by omega);(first|cases eo30|(injection eo30 with ea_ en_ ec_;(first|subst ea_|(injection ea_ with ea_;subst ea_));subst ec_;clear en_));have GB30:=Aside0.mk gb30;have GG30:=Aside0.mk HG30;clear gb30 gl30 HG30;(first|simp only [add_plain] at hx769_0|skip);obtain ⟨hx30_0,hf30_0⟩:=Kd.R_celln false HO_6.out (x24_2:Int) p30 q30;replace p30:=eq_true p30;replace q30:=eq_true q30;obtain ⟨hy33_,hz33_⟩:=Kd.R_celln false HO_6.out (x24_2:Int) (of_decide_eq_true ab) (of_decide_eq_true ab);have HP33:=Kd.R_putg HO_6.out (x24_2:Int) (decide ((t770.length:Int) ≥ a1)))|((with_reducible refine gate_store (t:=4) (p:=40) rfl ?_);refine store_event (t:=4) (p:=40) (v:=?vo_w34) (w1:=(w31.setCell ⟨go30,(x24_2:Int).toNat,none⟩ (.bool (decide ((t770.length:Int) ≥ a1))))) ?hg ?ho ?hn ?hr ?_;(case ho=>rfl);(case hg=>rfl);(case hn=>rfl);(case hr=>first|(go_simp;done)|(go_simp;rfl));intro w34 hw;have hg:w31.grownBy w34 (some go30):=(by rw [hw];exact HP33.2);have hp_:Kd.R Kd.bool 4 w34 w.heap.size (fun _=>True) (.slice (some ⟨go30,0,none⟩) x6_2.length co23) y773:=(by rw [hw,Ny773.out];exact HP33.1);clear HP33;have n0_:=Aside0.mk (hp_);have n1_:=Aside0.mk (blk_grown (g:=gb762) (o:=.cells #[.int .i64 a0_0,.slice A0_1 l0_1.length c0_1] 46 (0,0)) bk hg (Kd.R_ne HO_6.out BK762.out (by decide)));have n2_:=Aside0.mk (blk_grown (g:=gb763) (o:=.cells #[.int .i64 0,.slice none 0 0] 28 (0,0)) bk hg (Kd.R_ne HO_6.out BK763.out (by decide)));have n3_:=Aside0.mk (Kd.R_over' (v:=(.slice (some ⟨go30,0,none⟩) x6_2.length co23)) (by (with_reducible repeat (first|apply Kd.R_alloc|apply Kd.R_drewN|apply Kd.R_drew));exact HO772.out) (Kd.R_typed HO_6.out) (by decide) hg);have n4_:=Aside0.mk ((by rw [hw];exact below_set (HB.out) GB30.out:Below w.heap.size w w34));clear HO_6;clear BK762;clear BK763;clear HO772;clear HB;have HO_6:=n0_;have BK762:=n1_;have BK763:=n2_;have HO772:=n3_;have HB:=n4_;clear n0_ n1_ n2_ n3_ n4_;clear hg hw hp_))
          (try simp only [← hl6_2])
          go_roundg k2
          case measure=>have:=HJ2.out;have:=HK2.out;omega
          case rel=>exact ⟨(y773),(wrap64 (x24_2 + 1)),(by first|rfl|(simp;done)|(simp [*];done)),H',⟨by have:=HJ2.out;have:=HK2.out;omega⟩,⟨by (try simp only [hl6_2]);(with_reducible repeat (first|apply Kd.R_alloc|apply Kd.R_drewN|apply Kd.R_drew));exact HO_6.out⟩,⟨by (try simp only [hl6_2]);(with_reducible repeat (first|refine blk_drewN ?_ _|refine blk_drew ?_|refine blk_alloc ?_ _));exact BK762.out⟩,⟨by (try simp only [hl6_2]);(with_reducible repeat (first|refine blk_drewN ?_ _|refine blk_drew ?_|refine blk_alloc ?_ _));exact BK763.out⟩,⟨by repeat (first|(with_reducible first|exact HB.out|apply below_alloc|apply pw_below_drewN|apply below_drew1|refine below_set ?_ GE762.out|refine below_set ?_ GE763.out)|exact HB.out)⟩⟩
         ·replace c28:=Bool.eq_false_iff.mpr c28;subst c28;have H1:(spec_HeadsGame.l0 k2 a1 (x6_2.set (x24_2:Int).toNat false) (t766.length:Int) (wrap64 (x24_2 + 1)) a0_0 l0_1) = some (r1,r2,r3):=by rw [if_neg (show ¬ (false = true) by decide)] at H;exact H
          clear H;have H:=H1;clear H1;obtain ⟨y774,hy774⟩:∃ y_:List Bool,y_ = (x6_2.set (x24_2:Int).toNat false):=⟨_,rfl⟩;replace H:(spec_HeadsGame.l0 k2 a1 y774 (t766.length:Int) (wrap64 (x24_2 + 1)) a0_0 l0_1) = some (r1,r2,r3):=by first|(rw [hy774];with_reducible exact H)|(have H2_:=(Option.bind_some _ _).symm.trans H;rw [hy774];with_reducible exact H2_)|(have H2_:=(Option.bind_some _ _).symm.trans H;with_reducible exact H2_)|with_reducible exact H|(rw [hy774];exact H)|exact H
          have Ny774:=Aside0.mk hy774;clear hy774;have H':=Aside0.mk H;clear H;have p769:0 ≤ (x24_2:Int):=of_decide_eq_true ab;have q769:x24_2 < (x6_2.length:Int):=of_decide_eq_true ab;obtain ⟨ad769,e769,hx769_0⟩:=Kd.at_bool (Kd.R_reads' HO_6.out).2.2 x24_2 p769 q769;(try rw [← Nbq27.out] at hx769_0)
          cases e769
          replace p769:=eq_true p769;replace q769:=eq_true q769;have p35:0 ≤ (x24_2:Int):=of_decide_eq_true ab;have q35:(x24_2:Int) < ((x6_2.length:Int):Int):=of_decide_eq_true ab;obtain ⟨go35,co35,eo35,gb35,gl35,cl35,HG35⟩:=Kd.R_form HO_6.out (by omega);(first|cases eo35|(injection eo35 with ea_ en_ ec_;(first|subst ea_|(injection ea_ with ea_;subst ea_));subst ec_;clear en_))
          have GB35:=Aside0.mk gb35;have GG35:=Aside0.mk HG35;clear gb35 gl35 HG35;(first|simp only [add_plain] at hx769_0|skip)
          obtain ⟨hx35_0,hf35_0⟩:=Kd.R_celln false HO_6.out (x24_2:Int) p35 q35;replace p35:=eq_true p35;replace q35:=eq_true q35;have HP36:=Kd.R_putg HO_6.out (x24_2:Int) false;go_wp2_with (first|((with_reducible refine gate_store (t:=4) (p:=40) rfl ?_);refine store_event (t:=4) (p:=40) (v:=?vo_w37) (w1:=(wr.setCell ⟨go35,(x24_2:Int).toNat,none⟩ (.bool false))) ?hg ?ho ?hn ?hr ?_;(case ho=>rfl);(case hg=>rfl);(case hn=>rfl);(case hr=>first|(go_simp;done)|(go_simp;rfl));intro w37 hw;have hg:wr.grownBy w37 (some go35):=(by rw [hw];exact HP36.2);have hp_:Kd.R Kd.bool 4 w37 w.heap.size (fun _=>True) (.slice (some ⟨go35,0,none⟩) x6_2.length co23) y774:=(by rw [hw,Ny774.out];exact HP36.1);clear HP36;have n0_:=Aside0.mk (hp_);have n1_:=Aside0.mk (blk_grown (g:=gb762) (o:=.cells #[.int .i64 a0_0,.slice A0_1 l0_1.length c0_1] 46 (0,0)) bk hg (Kd.R_ne HO_6.out BK762.out (by decide)));have n2_:=Aside0.mk (blk_grown (g:=gb763) (o:=.cells #[.int .i64 0,.slice none 0 0] 28 (0,0)) bk hg (Kd.R_ne HO_6.out BK763.out (by decide)));have n3_:=Aside0.mk ((by rw [hw];exact below_set (HB.out) GB35.out:Below w.heap.size w w37));clear HO_6;clear BK762;clear BK763;clear HB;have HO_6:=n0_;have BK762:=n1_;have BK763:=n2_;have HB:=n3_;clear n0_ n1_ n2_ n3_;clear hg hw hp_))
          (try simp only [← hl6_2])
          go_roundg k2
          case measure=>have:=HJ2.out;have:=HK2.out;omega
          case rel=>exact ⟨(y774),(wrap64 (x24_2 + 1)),(by first|rfl|(simp;done)|(simp [*];done)),H',⟨by have:=HJ2.out;have:=HK2.out;omega⟩,⟨by (try simp only [hl6_2]);(with_reducible repeat (first|apply Kd.R_alloc|apply Kd.R_drewN|apply Kd.R_drew));exact HO_6.out⟩,⟨by (try simp only [hl6_2]);(with_reducible repeat (first|refine blk_drewN ?_ _|refine blk_drew ?_|refine blk_alloc ?_ _));exact BK762.out⟩,⟨by (try simp only [hl6_2]);(with_reducible repeat (first|refine blk_drewN ?_ _|refine blk_drew ?_|refine blk_alloc ?_ _));exact BK763.out⟩,⟨by repeat (first|(with_reducible first|exact HB.out|apply below_alloc|apply pw_below_drewN|apply below_drew1|refine below_set ?_ GE762.out|refine below_set ?_ GE763.out)|exact HB.out)⟩⟩
        ·rw [if_neg c26] at H;exact absurd H (by simp)
       ·rw [if_neg c25] at H;exact absurd H (by simp)
      ·rw [if_neg c24] at H;have c24b0:decide (x24_2 < (t766.length:Int)) = false:=decide_eq_false c24;(try simp only [hl6_2] at c24b0)
       clear c24;replace H:=Option.bind_eq_some_iff.mp H;obtain ⟨⟨t775,t776⟩,A380,H⟩:=H;replace H:(some (t775,t776,true)) = some (r1,r2,r3):=H;have A38:=Aside0.mk A380;clear A380;simp only [Option.some.injEq,Prod.mk.injEq] at H;obtain ⟨rfl,rfl,rfl⟩:=H;have hnb39:=NB762_763.out;have hnc39:=NB763_762.out;have hcz40_0:wr.cell? ⟨gb762,0,none⟩ = some (.int .i64 a0_0):=(blk_cell BK762.out 0).trans rfl;have hcz40_1:wr.cell? ⟨gb762,1,none⟩ = some (.slice A0_1 l0_1.length c0_1):=(blk_cell BK762.out 1).trans rfl;have hfz40_0:=blk_frozen BK762.out 0;have hfz40_1:=blk_frozen BK762.out 1;go_wp2_with (first|((with_reducible refine gate_callee (f:=66) rfl ?_);refine goesL_ (some 46) rfl rfl Try.func66 (by kernel_rfl) rfl #[.int .i64 (l0_1.length:Int),.slice Ao23 x6_2.length co23] rfl mq ?_;(with_reducible refine (spec_gmOf.calls k2 (l0_1.length:Int) _ _ x6_2 t775 t776 _ ?side1 ?side2 A38.out).mono ?_);(case side1=>repeat (first|exact (Kd.R_reads' HO_6.out).2.2|(with_reducible refine Kd.C_alloc ?_ _)|(with_reducible refine Kd.C_drewN ?_ _)|(with_reducible refine Kd.C_drew ?_)));(case side2=>exact (Kd.R_reads' HO_6.out).2.1);rintro e w41 ⟨v777,rfl,ho0,hb⟩;refine ⟨_,rfl,?_⟩;have n0_:=Aside0.mk (Kd.R_below (by (with_reducible repeat (first|apply Kd.R_alloc|apply Kd.R_drewN|apply Kd.R_drew));exact HO_6.out) hb);have n1_:=Aside0.mk (Kd.S_lower ho0 (below_size bw));have n2_:=Aside0.mk (blk_below (g:=gb762) (o:=.cells #[.int .i64 a0_0,.slice A0_1 l0_1.length c0_1] 46 (0,0)) bk hb);have n3_:=Aside0.mk (blk_below (g:=gb763) (o:=.cells #[.int .i64 0,.slice none 0 0] 28 (0,0)) bk hb);have n4_:=Aside0.mk (below_step bw hb);clear HO_6;clear BK762;clear BK763;clear HB;have HO_6:=n0_;have HO778:=n1_;have BK762:=n2_;have BK763:=n3_;have HB:=n4_;clear n0_ n1_ n2_ n3_ n4_;(try clear hb);(try clear hb2);(try clear hk);(try clear hi);(try clear ho0);have hcz42_0:w41.cell? ⟨gb763,0,none⟩ = some (.int .i64 0):=(blk_cell BK763.out 0).trans rfl;have hcz42_1:w41.cell? ⟨gb763,1,none⟩ = some (.slice none 0 0):=(blk_cell BK763.out 1).trans rfl;have hfz42_0:=blk_frozen BK763.out 0;have hfz42_1:=blk_frozen BK763.out 1;obtain ⟨Ao43,co43,eo43⟩:=Kd.S_slice HO778.out;subst eo43))
       refine bodyPost_ret (results_ct rfl _ _ gb763 28 #[.int .i64 t775,.slice Ao43 t776.length co43] (0,0) _ rfl (by (with_reducible repeat (first|refine blk_drewN ?_ _|refine blk_drew ?_|refine blk_alloc ?_ _));refine blk_put (cs:=#[.int .i64 t775,.slice none 0 0]) ?_ 1 _ rfl;(with_reducible repeat (first|refine blk_drewN ?_ _|refine blk_drew ?_|refine blk_alloc ?_ _));refine blk_put (cs:=#[.int .i64 0,.slice none 0 0]) ?_ 0 _ rfl;(with_reducible repeat (first|refine blk_drewN ?_ _|refine blk_drew ?_|refine blk_alloc ?_ _));exact BK763.out) Try.underlying28 rfl (by kernel_rfl)) rfl ?_;exact ⟨_,by first|rfl|(simp [errW_none,errW_some] <;> rfl)|(simp [*,errW_none,errW_some] <;> rfl),by (with_reducible repeat (first|apply Kd.S_alloc|apply Kd.S_drewN|apply Kd.S_drew));exact Kd.S_mono (Kd.S_far (p:=⟨gb763,1,none⟩) (Kd.S_far (p:=⟨gb763,0,none⟩) (Kd.S_types HO778.out BK763.out (by decide)) (fun _ hk=>hk.2) (.int .i64 t775)) (fun _ hk=>hk.2) (.slice Ao43 t776.length co43)) (fun _ hk=>trivial),by repeat (first|(with_reducible first|exact HB.out|apply below_alloc|apply pw_below_drewN|apply below_drew1|refine below_set ?_ GE762.out|refine below_set ?_ GE763.out)|exact HB.out)⟩


/-! ### slices_SortFunc_LLint_Lint: function 165 -/
-- OWN 0 0
-- IMPORT Lexc
-- KIT Derived.Shelf.SlSortCmp.NoneTotal
open Go.Shelf in
def slices_SortFunc_LLint_Lint.ren : Ren := ⟨fun x => match x with
| 6 => 165 | 14 => 181 | 15 => 160 | 20 => 188 | 21 => 189 | 22 => 190 | 23 => 191 | 24 => 192 | 25 => 193 | 26 => 194 | 27 => 195 | 28 => 179 | 29 => 180 | 46 => 197 | 47 => 184 | 48 => 185 | 49 => 198 | 50 => 199 | 57 => 200 | _ => 0, fun x => match x with
| 0 => 0 | 3 => 3 | 4 => 4 | 5 => 5 | 9 => 9 | 22 => 22 | 24 => 40 | 25 => 124 | 39 => 114 | 45 => 150 | 46 => 151 | 50 => 35 | 53 => 133 | 55 => 135 | 66 => 157 | 70 => 161 | 76 => 168 | 77 => 169 | _ => 0, fun x => x⟩
theorem slices_SortFunc_LLint_Lint.lay : SlLaysF.n6 Try.prog slices_SortFunc_LLint_Lint.ren := ⟨
  by kernel_rfl,
  ⟨"slices.SortFunc[[][]int,[]int]", by decide, by kernel_rfl⟩,
  ⟨"slices.pdqsortCmpFunc[[]int]", by decide, by kernel_rfl⟩,
  by kernel_rfl,
  ⟨"slices.insertionSortCmpFunc[[]int]", by decide, by kernel_rfl⟩,
  ⟨"slices.heapSortCmpFunc[[]int]", by decide, by kernel_rfl⟩,
  ⟨"slices.breakPatternsCmpFunc[[]int]", by decide, by kernel_rfl⟩,
  ⟨"slices.choosePivotCmpFunc[[]int]", by decide, by kernel_rfl⟩,
  ⟨"slices.reverseRangeCmpFunc[[]int]", by decide, by kernel_rfl⟩,
  ⟨"slices.partialInsertionSortCmpFunc[[]int]", by decide, by kernel_rfl⟩,
  ⟨"slices.partitionEqualCmpFunc[[]int]", by decide, by kernel_rfl⟩,
  ⟨"slices.partitionCmpFunc[[]int]", by decide, by kernel_rfl⟩,
  by kernel_rfl,
  by kernel_rfl,
  ⟨"slices.siftDownCmpFunc[[]int]", by decide, by kernel_rfl⟩,
  by kernel_rfl,
  by kernel_rfl,
  ⟨"slices.medianAdjacentCmpFunc[[]int]", by decide, by kernel_rfl⟩,
  ⟨"slices.medianCmpFunc[[]int]", by decide, by kernel_rfl⟩,
  ⟨"slices.order2CmpFunc[[]int]", by decide, by kernel_rfl⟩,
  by kernel_rfl,
  fun w => by kernel_rfl,
  fun w => by kernel_rfl,
  fun w => by kernel_rfl,
  by kernel_rfl,
  fun w => by kernel_rfl,
  fun w => by kernel_rfl,
  fun w => by kernel_rfl,
  by kernel_rfl,
  fun w => by kernel_rfl,
  fun w => by kernel_rfl,
  fun w => by kernel_rfl,
  by kernel_rfl,
  fun w => by kernel_rfl,
  fun w => by kernel_rfl,
  fun w => by kernel_rfl,
  by kernel_rfl,
  fun w => by kernel_rfl,
  fun w => by kernel_rfl,
  fun w => by kernel_rfl,
  by kernel_rfl,
  fun w => by kernel_rfl,
  fun w => by kernel_rfl,
  fun w => by kernel_rfl,
  fun w => by kernel_rfl,
  fun w => by kernel_rfl,
  by kernel_rfl,
  fun w => by kernel_rfl,
  fun w => by kernel_rfl,
  fun w => by kernel_rfl,
  by kernel_rfl,
  fun w => by kernel_rfl,
  fun w => by kernel_rfl,
  fun w => by kernel_rfl,
  by kernel_rfl,
  fun w => by kernel_rfl,
  fun w => by kernel_rfl,
  fun w => by kernel_rfl,
  by kernel_rfl,
  fun w => by kernel_rfl,
  fun w => by kernel_rfl,
  fun w => by kernel_rfl,
  by kernel_rfl,
  fun w => by kernel_rfl,
  fun w => by kernel_rfl,
  fun w => by kernel_rfl,
  by kernel_rfl,
  fun w => by kernel_rfl,
  fun w => by kernel_rfl,
  fun w => by kernel_rfl,
  by kernel_rfl,
  fun w => by kernel_rfl,
  fun w => by kernel_rfl,
  fun w => by kernel_rfl,
  by kernel_rfl,
  fun w => by kernel_rfl,
  fun w => by kernel_rfl,
  fun w => by kernel_rfl,
  by kernel_rfl,
  fun w => by kernel_rfl,
  fun w => by kernel_rfl,
  fun w => by kernel_rfl,
  by kernel_rfl,
  fun w => by kernel_rfl,
  fun w => by kernel_rfl,
  fun w => by kernel_rfl,
  by kernel_rfl,
  fun w => by kernel_rfl,
  fun w => by kernel_rfl,
  fun w => by kernel_rfl⟩
/-- Under a function that is the lists' own order: the lists in order. -/
def slices_SortFunc_LLint_Lint.f (k : Nat) (l0 : List (List Int)) (a1 : (List Int → List Int → Option (Int))) : Option (List (List Int)) := if l0.length ≤ 1000000 ∧ ∀ x ∈ l0, ∀ y ∈ l0, a1 x y = some (lexc x y) then some (sorted l0) else none
theorem slices_SortFunc_LLint_Lint.mono : ∀ a0 a1 k, LeO (slices_SortFunc_LLint_Lint.f k a0 a1) (slices_SortFunc_LLint_Lint.f (k + 1) a0 a1) := fun _ _ _ => LeO.refl _
theorem slices_SortFunc_LLint_Lint.mono_p {p_ q_ : (List Int → List Int → Option (Int))} (h_ : ∀ x0_ x1_, LeO (p_ x0_ x1_) (q_ x0_ x1_)) : ∀ a0 k, LeO (slices_SortFunc_LLint_Lint.f k a0 p_) (slices_SortFunc_LLint_Lint.f k a0 q_) := by
  intro a0 k r hr
  unfold slices_SortFunc_LLint_Lint.f at hr ⊢
  split at hr
  · rename_i hc
    rw [if_pos ⟨hc.1, fun x hx y hy => h_ x y _ (hc.2 x hx y hy)⟩]
    exact hr
  · exact absurd hr (by simp)
open Go.Sort in
/-- What a sort of such a row leaves at its block, and elsewhere. -/
theorem slices_SortFunc_LLint_Lint.heap {α : Type} [Inhabited α] (enc : α → Value) (w : World) (g m : Nat) (d : Array α) (os : Array Obj) (cur : Array Value) (e : Nat) (hg : w.heap[g]? = some (.cells cur e (0, 0))) :
    (sortWorld enc w g 0 m d os).heap[g]? = some (.cells (putCells enc 0 d cur) e (0, 0)) ∧ (∀ k, k < w.heap.size → k ≠ g → (sortWorld enc w g 0 m d os).heap[k]? = w.heap[k]?) ∧ w.heap.size ≤ (sortWorld enc w g 0 m d os).heap.size := by
  have hlt : g < w.heap.size := blk_lt hg
  have e1 : ∀ k, k < w.heap.size → (sortWorld enc w g 0 m d os).heap[k]? = (w.heap.modify g (onCells (putCells enc 0 d)))[k]? := fun k hk => by
    show ((w.heap.modify g (onCells (putCells enc 0 d))) ++ os)[k]? = _
    rw [Array.getElem?_append_left (by rw [Array.size_modify]; exact hk)]
  refine ⟨?_, fun k hk hne => ?_, ?_⟩
  · rw [e1 g hlt, Array.getElem?_modify, if_pos rfl, hg]
    rfl
  · rw [e1 k hk, Array.getElem?_modify, if_neg (fun z => hne z.symm)]
  · show w.heap.size ≤ ((w.heap.modify g (onCells (putCells enc 0 d))) ++ os).size
    rw [Array.size_append, Array.size_modify]
    omega
open Go.Sort in
theorem slices_SortFunc_LLint_Lint.cells {α : Type} [Inhabited α] (enc : α → Value) (d : Array α) (cur : Array Value) (h : d.size ≤ cur.size) : (putCells enc 0 d cur).toList.take d.size = d.toList.map enc := by
  apply List.ext_getElem?
  intro j
  by_cases hj : j < d.size
  · rw [List.getElem?_take_of_lt hj, Array.getElem?_toList, List.getElem?_map, Array.getElem?_toList]
    unfold putCells
    rw [Array.getElem?_mapIdx, Array.getElem?_eq_getElem (by omega), Array.getElem?_eq_getElem hj, Option.map_some, Option.map_some, if_pos ⟨Nat.zero_le _, by omega⟩, Nat.sub_zero, getElem!_pos d j hj]
  · rw [List.getElem?_eq_none (by rw [List.length_take]; omega), List.getElem?_eq_none (by rw [List.length_map, Array.length_toList]; omega)]
set_option maxHeartbeats 2000000 in
theorem slices_SortFunc_LLint_Lint.calls (k : Nat) (P0_ : Nat → Prop) (u9000_ : Value) (l0 : List (List Int)) (a1 : (List Int → List Int → Option (Int))) (g1_ : Nat) (lb1_ : Array Value) (eg1_ : ∀ (args : Array Value) (w : World), (callFunc g1_ args).run Try.prog w = .ok (.enter g1_ args) w) (r : List (List Int)) (w0 w : World) (hB : Below w0.heap.size w0 w) (ho0 : Kd.S (Kd.slice 3 (Kd.int .i64)) 40 w w0.heap.size P0_ u9000_ l0) (hp1 : ∀ (W : World) (A0_ : Option Addr) (c0_ : Nat) (l0_ : List Int) (A1_ : Option Addr) (c1_ : Nat) (l1_ : List Int) (r0_ : Int), a1 l0_ l1_ = some r0_ → Kept w W (fun k_ => P0_ k_) → Kd.C (Kd.int .i64) W A0_ l0_.length l0_ → l0_.length ≤ c0_ → Kd.C (Kd.int .i64) W A1_ l1_.length l1_ → l1_.length ≤ c1_ → Calls Try.prog g1_ (#[.slice A0_ l0_.length c0_, .slice A1_ l1_.length c1_] ++ lb1_) W fun e w' => e = .returned (.int .i64 r0_) ∧ Drawn0 W w') (h : slices_SortFunc_LLint_Lint.f k l0 a1 = some r) :
    Calls Try.prog 165 #[u9000_, .func (.func g1_) #[] lb1_] w fun e w' => e = .returned (.tuple #[]) ∧ Kd.S (Kd.slice 3 (Kd.int .i64)) 40 w' w0.heap.size (fun k_ => P0_ k_) u9000_ r ∧ Below w0.heap.size w0 w' ∧ Kept w w' (fun k_ => P0_ k_) := by
  unfold slices_SortFunc_LLint_Lint.f at h
  split at h
  case isFalse => exact absurd h (by simp)
  rename_i hc
  obtain ⟨hlen, hcmp⟩ := hc
  obtain rfl := Option.some.inj h
  clear h
  obtain ⟨f, h0, inner, ho, hr⟩ := ho0
  rw [List.length_zipIdx] at ho
  rcases Nat.eq_zero_or_pos l0.length with hn | hn
  · obtain rfl := List.eq_nil_of_length_eq_zero hn
    obtain ⟨A, c, rfl⟩ : ∃ A c, u9000_ = .slice A 0 c := by
      rcases ho.2 with ⟨hv, _⟩ | ⟨g, cap, cur, hv, _⟩
      · exact ⟨_, _, hv⟩
      · exact ⟨_, _, hv⟩
    refine (AnyF.slices_SortFunc_none { slices_SortFunc_LLint_Lint.lay with } A c (.func (.func g1_) #[] lb1_) w).mono ?_
    rintro e w' ⟨rfl, rfl⟩
    have e : sorted ([] : List (List Int)) = [] := by simp [sorted]
    rw [e]
    exact ⟨rfl, ⟨f, h0, inner, ho, hr⟩, hB, Kept.refl _ _⟩
  · obtain ⟨hil, hv⟩ := ho
    have hil : inner.length = l0.length := by have h1 : inner.length = l0.length * 1 := hil; omega
    obtain ⟨g, cap, cur, rfl, hbase, hg, hcap, hmax, hcs, htk⟩ : ∃ g cap cur, u9000_ = .slice (some ⟨g, 0, none⟩) l0.length cap ∧ w0.heap.size ≤ g ∧ w.heap[g]? = some (.cells cur 40 (0, 0)) ∧ l0.length ≤ cap ∧ cap ≤ maxLen ∧ cur.size = cap * 1 ∧ cur.toList.take (l0.length * 1) = inner := by
      rcases hv with ⟨_, hz⟩ | hv
      · omega
      · exact hv
    have hPg : P0_ g := h0 g rfl
    have hglt : g < w.heap.size := blk_lt hg
    rw [Nat.mul_one] at htk hcs
    have hcell : ∀ i (hi : i < l0.length), inner[i]'(by omega) = cur[i]'(by omega) := fun i hi => by
      have : inner[i]? = cur.toList[i]? := by rw [← htk, List.getElem?_take_of_lt hi]
      rw [List.getElem?_eq_getElem (by omega), List.getElem?_eq_getElem (by rw [Array.length_toList]; omega)] at this
      exact Option.some.inj this
    have hM : ∀ (i : Nat) (hi : i < l0.length), ∃ v', inner[i]'(by omega) = v' ∧ Kd.R (Kd.int .i64) 3 w w0.heap.size (fun k => ((P0_ k ∧ some k ≠ some g) ∧ f k = i)) v' l0[i] := fun i hi => by
      have h1 := hr.2 i (l0[i], i) (Kd.zip_at (List.getElem?_eq_getElem hi))
      have h2 : (inner.drop (i * 1)).take 1 = [inner[i]'(by omega)] := by rw [Nat.mul_one, List.drop_eq_getElem_cons (by omega), List.take_succ_cons, List.take_zero]
      obtain ⟨v', hv', hR⟩ := (show ∃ v', (inner.drop (i * 1)).take 1 = [v'] ∧ Kd.R (Kd.int .i64) 3 w w0.heap.size (fun k => ((P0_ k ∧ some k ≠ some g) ∧ f k = i)) v' l0[i] from h1)
      rw [h2] at hv'
      injection hv' with hv' _
      exact ⟨v', hv', hR⟩
    haveI : Inhabited (Fin l0.length) := ⟨⟨0, hn⟩⟩
    let enc : Fin l0.length → Value := fun i => inner[i.1]'(by omega)
    have henc : ∀ i, enc i = inner[i.1]'(by omega) := fun _ => rfl
    have hlt : ∀ (i j : Fin l0.length), ltOf (fun (i j : Fin l0.length) => lexc l0[i.1] l0[j.1]) i j = decide (lexc l0[i.1] l0[j.1] < 0) := fun _ _ => rfl
    have hO : Go.Sort.SWO (ltOf (fun (i j : Fin l0.length) => lexc l0[i.1] l0[j.1])) := by
      refine ⟨fun x => ?_, fun x y z h1 h2 => ?_, fun x y z h1 h2 => ?_⟩
      · rw [hlt, lexc_refl]; rfl
      · rw [hlt] at h1 h2 ⊢
        have h1 := of_decide_eq_true h1
        have h2 := of_decide_eq_true h2
        have h3 := lexc_trans (a := l0[x.1]) (b := l0[y.1]) (c := l0[z.1]) (by omega) (by omega)
        refine decide_eq_true ?_
        rcases Int.lt_or_eq_of_le h3 with h4 | h4
        · exact h4
        · have e := lexc_zero h4
          have s := lexc_swap l0[x.1] l0[y.1]
          rw [e] at s h1
          omega
      · rw [hlt] at h1 h2 ⊢
        have h1 := of_decide_eq_false h1
        have h2 := of_decide_eq_false h2
        have s1 := lexc_swap l0[x.1] l0[y.1]
        have s2 := lexc_swap l0[y.1] l0[z.1]
        have s3 := lexc_swap l0[x.1] l0[z.1]
        have h3 := lexc_trans (a := l0[z.1]) (b := l0[y.1]) (c := l0[x.1]) (by omega) (by omega)
        exact decide_eq_false (by omega)
    have hd : (List.finRange l0.length).toArray.size = l0.length := by rw [List.size_toArray, List.length_finRange]
    have hdg : ∀ j, j < l0.length → ((List.finRange l0.length).toArray[j]!).1 = j := fun j hj => by
      rw [getElem!_pos _ j (by rw [hd]; exact hj)]
      simp
    have hone : OneCell enc := fun i => by
      obtain ⟨v', e, hR⟩ := hM i.1 i.2
      rw [henc, e]
      exact (Kd.R_val hR).2
    have lays := Any.slices_SortFunc slices_SortFunc_LLint_Lint.lay enc hone (fun i j => lexc l0[i.1] l0[j.1]) hO g1_ lb1_ g 0 cap (List.finRange l0.length).toArray w eg1_
      (by
        intro m os dk hs x y
        obtain ⟨hh1, hh2, hh3⟩ := slices_SortFunc_LLint_Lint.heap enc w g m dk os cur 40 hg
        have rd : ∀ i : Fin l0.length, ∃ A c, enc i = .slice A l0[i.1].length c ∧ l0[i.1].length ≤ c ∧ Kd.C (Kd.int .i64) (sortWorld enc w g 0 m dk os) A l0[i.1].length l0[i.1] := fun i => by
          obtain ⟨v', e, hR⟩ := hM i.1 i.2
          have hR2 := Kd.R_step (w1 := sortWorld enc w g 0 m dk os) hR (fun k hk hkl => hh2 k hkl (fun z => hk.1.2 (congrArg some z)))
          obtain ⟨A, c, hv, hl, hC⟩ := Kd.R_reads hR2
          exact ⟨A, c, by rw [henc, e, hv], hl, hC⟩
        obtain ⟨A0, c0, ex, hl0, hC0⟩ := rd x
        obtain ⟨A1, c1, ey, hl1, hC1⟩ := rd y
        rw [ex, ey]
        refine (hp1 (sortWorld enc w g 0 m dk os) A0 c0 l0[x.1] A1 c1 l0[y.1] _ (hcmp _ (List.getElem_mem _) _ (List.getElem_mem _)) ⟨hh3, fun k hk hne => hh2 k hk (fun z => hne (z ▸ hPg))⟩ hC0 hl0 hC1 hl1).mono ?_
        rintro e w' ⟨rfl, ⟨⟨q, hq⟩⟩⟩
        exact ⟨rfl, q, #[], by rw [hq, Go.Sort.grow_empty]⟩)
      (by
        intro j hj
        rw [hd] at hj
        refine ⟨?_, ?_⟩
        · rw [Nat.zero_add]
          have e1 : enc ((List.finRange l0.length).toArray[j]!) = cur[j]'(by omega) := by
            rw [henc, ← hcell j hj]
            congr 1
            exact hdg j hj
          rw [e1]
          have := blk_cell hg j
          rw [this, Array.getElem?_eq_getElem (by omega)]
        · exact blk_frozen hg _)
      hglt (by rw [hd]; omega)
    rw [hd] at lays
    refine lays.mono ?_
    rintro e w' ⟨rfl, d', m, os, hp, hs, rfl⟩
    obtain ⟨hps, _, hpp⟩ := hp
    rw [hd] at hps
    obtain ⟨hh1, hh2, hh3⟩ := slices_SortFunc_LLint_Lint.heap enc w g m d' os cur 40 hg
    have hpp2 : d'.toList.Perm (List.finRange l0.length) := by
      have e1 : d'.extract 0 l0.length = d' := by have h2 : d'.extract 0 d'.size = d' := Array.extract_size; rwa [hps] at h2
      have e2 : (List.finRange l0.length).toArray.extract 0 l0.length = (List.finRange l0.length).toArray := by
        have : (List.finRange l0.length).toArray.extract 0 (List.finRange l0.length).toArray.size = (List.finRange l0.length).toArray := Array.extract_size
        rwa [hd] at this
      rw [e1, e2] at hpp
      exact hpp
    have hres : d'.toList.map (fun i => l0[i.1]) = sorted l0 := by
      refine sorted_of ?_ ?_
      · refine (hpp2.map _).trans (List.Perm.of_eq ?_)
        apply List.ext_getElem
        · rw [List.length_map, List.length_finRange]
        · intro j h1 h2
          simp
      · rw [List.pairwise_map]
        refine List.pairwise_iff_getElem.2 (fun i j hi hj hij => ?_)
        rw [Array.length_toList] at hi hj
        have := hs i j (Nat.zero_le _) hij (by omega)
        rw [getElem!_pos d' j (by omega), getElem!_pos d' i (by omega), hlt] at this
        have := of_decide_eq_false this
        have s := lexc_swap l0[(d'[i]).1] l0[(d'[j]).1]
        exact decide_eq_true (by simp only [Array.getElem_toList]; omega)
    have hnd : (d'.toList.map (fun i => i.1)).Nodup := by
      refine ((hpp2.map (fun i : Fin l0.length => i.1)).nodup_iff).2 ?_
      have := List.nodup_finRange l0.length
      exact List.Pairwise.map _ (fun a b hab z => hab (Fin.ext z)) this
    have hdl : d'.toList.length = l0.length := by rw [Array.length_toList]; exact hps
    refine ⟨rfl, ⟨fun b => (d'.toList.map (fun i => i.1)).idxOf (f b), h0, d'.toList.map enc, ?_, ?_⟩, ?_, ?_⟩
    · rw [List.length_zipIdx, ← hres, List.length_map, hdl]
      refine ⟨by rw [List.length_map, hdl]; show l0.length = l0.length * 1; omega, .inr ⟨g, cap, _, rfl, hbase, hh1, hcap, hmax, ?_, ?_⟩⟩
      · show (Go.Sort.putCells enc 0 d' cur).size = cap * 1
        unfold Go.Sort.putCells
        rw [Array.size_mapIdx]; omega
      · show (Go.Sort.putCells enc 0 d' cur).toList.take (l0.length * 1) = _
        have := slices_SortFunc_LLint_Lint.cells enc d' cur (by omega)
        rw [hps] at this
        rw [Nat.mul_one]
        exact this
    · refine ⟨by rw [List.length_zipIdx, ← hres, List.length_map, List.length_map]; show _ = _ * 1; omega, ?_⟩
      intro j p hj
      rw [← hres, List.getElem?_zipIdx, Nat.zero_add] at hj
      obtain ⟨x, hx, rfl⟩ := Option.map_eq_some_iff.1 hj
      rw [List.getElem?_map] at hx
      obtain ⟨i, hi, rfl⟩ := Option.map_eq_some_iff.1 hx
      have hjl : j < d'.toList.length := (List.getElem?_eq_some_iff.1 hi).1
      have hi2 : d'.toList[j] = i := (List.getElem?_eq_some_iff.1 hi).2
      have hdr : ((d'.toList.map enc).drop (j * 1)).take 1 = [enc i] := by
        rw [Nat.mul_one, List.drop_eq_getElem_cons (by rw [List.length_map]; exact hjl), List.take_succ_cons, List.take_zero, List.getElem_map, hi2]
      show ∃ v', ((d'.toList.map enc).drop (j * 1)).take 1 = [v'] ∧ _
      obtain ⟨v', e, hR⟩ := hM i.1 i.2
      have hR2 := Kd.R_step (w1 := sortWorld enc w g 0 m d' os) hR (fun k hk hkl => hh2 k hkl (fun z => hk.1.2 (congrArg some z)))
      refine ⟨enc i, hdr, ?_⟩
      rw [henc, e]
      refine Kd.R_mono hR2 (fun k hk => ⟨hk.1, ?_⟩)
      show (d'.toList.map (fun i => i.1)).idxOf (f k) = j
      have h3 := List.Nodup.idxOf_getElem hnd j (by rw [List.length_map]; exact hjl)
      rw [List.getElem_map, hi2] at h3
      rw [hk.2]
      exact h3
    · refine ⟨?_, ?_, ?_, Nat.le_trans hB.size hh3, fun k hk => (hh2 k (Nat.lt_of_lt_of_le hk hB.size) (fun z => by omega)).trans (hB.block k hk)⟩
      · exact hB.os
      · exact hB.tape
      · exact hB.output
    · exact ⟨hh3, fun k hk hne => hh2 k hk (fun z => hne (z ▸ hPg))⟩


/-! ### impl_votes_sets: function 147 -/
def impl_votes_sets.l0:Nat → (Int → Option (Bool)) → List (List Int) → Int → Int → Option ((List (List Int)))
 | 0,_,_,_,_=>none
 | k + 1,x1,x5,x10,x11=>if x11 < x10 then ((x1 x11).bind fun t520=>(if t520 = true then ((impl_setOf.f k x11).bind fun t521=>(if x5.length < 5864062014805 then (impl_votes_sets.l0 k x1 (x5 ++ [t521]) x10 (wrap64 (x11 + 1))) else (none))) else (impl_votes_sets.l0 k x1 x5 x10 (wrap64 (x11 + 1))))) else ((slices_SortFunc_LLint_Lint.f k x5 (fun y0_ y1_=>slices_Compare_int_int.f k y0_ y1_)).bind fun t519=>(some t519))
def impl_votes_sets.f (k:Nat) (a0_0:Int) (l0_1:List Bool) (a1:(Int → Option (Bool))):Option ((List (List Int))):=impl_votes_sets.l0 k a1 (([]:List (List Int))) (l0_1.length:Int) 0
theorem impl_votes_sets.mono_l:∀ k,(∀ y0 y1 y2 y3,LeO (impl_votes_sets.l0 k y0 y1 y2 y3) (impl_votes_sets.l0 (k + 1) y0 y1 y2 y3))
 | 0=>fun _ _ _ _ r h=>by simp [impl_votes_sets.l0] at h
 | k + 1=>by
  have ih0:=impl_votes_sets.mono_l k
  ·intro y0 y1 y2 y3;unfold impl_votes_sets.l0
   repeat' with_reducible first|exact ih0 _ _ _ _|exact impl_setOf.mono _ _|exact slices_Compare_int_int.mono _ _ _|refine LeO.trans (slices_SortFunc_LLint_Lint.mono _ _ _) (slices_SortFunc_LLint_Lint.mono_p (fun _ _=>?_) _ _)|exact LeO.refl _|exact LeO.none _|refine LeO.ite ?_ ?_|refine LeO.bind ?_ (fun _=>?_)
theorem impl_votes_sets.mono:∀ a0 a1 a2 k,LeO (impl_votes_sets.f k a0 a1 a2) (impl_votes_sets.f (k + 1) a0 a1 a2):=by
 intro a0 a1 a2 k;have ih0:=impl_votes_sets.mono_l k;unfold impl_votes_sets.f
 repeat' with_reducible first|exact ih0 _ _ _ _|exact impl_setOf.mono _ _|exact slices_Compare_int_int.mono _ _ _|refine LeO.trans (slices_SortFunc_LLint_Lint.mono _ _ _) (slices_SortFunc_LLint_Lint.mono_p (fun _ _=>?_) _ _)|exact LeO.refl _|exact LeO.none _|refine LeO.ite ?_ ?_|refine LeO.bind ?_ (fun _=>?_)
theorem impl_votes_sets.monop_l {p_ q_:(Int → Option (Bool))} (h_:∀ x0_,LeO (p_ x0_) (q_ x0_)):∀ k,(∀ y1 y2 y3,LeO (impl_votes_sets.l0 k p_ y1 y2 y3) (impl_votes_sets.l0 k q_ y1 y2 y3))
 | 0=>fun _ _ _ r hz=>by simp [impl_votes_sets.l0] at hz
 | k + 1=>by
  have ih0:=impl_votes_sets.monop_l h_ k
  ·intro y0 y1 y2;unfold impl_votes_sets.l0
   repeat' with_reducible first|exact ih0 _ _ _|exact h_ _|exact LeO.refl _|refine LeO.ite ?_ ?_|refine LeO.bind ?_ (fun _=>?_)
theorem impl_votes_sets.mono_p {p_ q_:(Int → Option (Bool))} (h_:∀ x0_,LeO (p_ x0_) (q_ x0_)):∀ a0 a1 k,LeO (impl_votes_sets.f k a0 a1 p_) (impl_votes_sets.f k a0 a1 q_):=by
 intro a0 a1 k;have ih0:=impl_votes_sets.monop_l h_ k;unfold impl_votes_sets.f
 repeat' with_reducible first|exact ih0 _ _ _|exact h_ _|exact LeO.refl _|refine LeO.ite ?_ ?_|refine LeO.bind ?_ (fun _=>?_)
set_option maxHeartbeats 8000000 in
set_option maxRecDepth 100000 in
theorem impl_votes_sets.callsB (bd1_:Array Value) (k:Nat) (a0_0:Int) (A0_1:Option Addr) (c0_1:Nat) (l0_1:List Bool) (a1:(Int → Option (Bool))) (g1_:Nat) (lb1_:Array Value) (eg1_:∀ (args:Array Value) (w:World),(callFunc g1_ args).run Try.prog w = .ok (.enter g1_ args) w) (r:List (List Int)) (w:World) (hr0_1:Kd.C Kd.bool w A0_1 l0_1.length l0_1) (hc0_1:l0_1.length ≤ c0_1) (hp1:∀ (W:World) (b0_:Int) (r0_:Bool),a1 b0_ = some r0_ → Below w.heap.size w W → Calls Try.prog g1_ ((bd1_ ++ #[.int .i64 b0_]) ++ lb1_) W fun e w'=>e = .returned (.bool r0_) ∧ Below W.heap.size W w') (h:impl_votes_sets.f k a0_0 l0_1 a1 = some r) :
  Calls Try.prog 147 #[.agg #[.int .i64 a0_0,.slice A0_1 l0_1.length c0_1],.func (.func g1_) bd1_ lb1_] w fun e w'=>∃ v0_:Value,e = .returned (v0_) ∧ Kd.S (Kd.slice 3 (Kd.int .i64)) 40 w' w.heap.size (fun _=>True) v0_ r ∧ Below w.heap.size w w':=by
 have hu68:=Try.underlying68;have HR0_1:=Aside0.mk hr0_1;have HC0_1:=Aside0.mk hc0_1;clear hr0_1 hc0_1;have HP1:=Aside0.mk hp1;clear hp1;have HB:=Aside0.mk (Below.refl w.heap.size w);have H:(impl_votes_sets.l0 k a1 (([]:List (List Int))) (l0_1.length:Int) 0) = some r:=h;clear h;obtain ⟨y516,hy516⟩:∃ y_:List (List Int),y_ = (([]:List (List Int))):=⟨_,rfl⟩;replace H:(impl_votes_sets.l0 k a1 y516 (l0_1.length:Int) 0) = some r:=by first|(rw [hy516];with_reducible exact H)|(have H2_:=(Option.bind_some _ _).symm.trans H;rw [hy516];with_reducible exact H2_)|(have H2_:=(Option.bind_some _ _).symm.trans H;with_reducible exact H2_)|with_reducible exact H|(rw [hy516];exact H)|exact H
 have Ny516:=Aside0.mk hy516;clear hy516;have H':=Aside0.mk H;clear H;go_enter Try.func147,Try.ntmps147;go_wp2_with (first|((with_reducible refine gate_dst (N:=2) rfl ?_);refine box_event ?hg (N:=2) ?hd (cs:=#[.int .i64 a0_0,.slice A0_1 l0_1.length c0_1]) (t:=68) ?hr ?_;(case hd=>rfl);(case hg=>rfl);(case hr=>first|(go_simp;done)|(go_simp;rfl));intro gb515 hg w3 hbox hb;have n0_:=Aside0.mk (below_step bw hb);have n1_:=Aside0.mk (hbox);have n2_:=Aside0.mk ((by rw [hg];exact (below_size bw):w.heap.size ≤ gb515));have n3_:=Aside0.mk ((by rw [hg];exact (below_size bw):w.heap.size ≤ gb515));clear HB;have HB:=n0_;have BK515:=n1_;have GW515:=n2_;have GE515:=n3_;clear n0_ n1_ n2_ n3_;clear hb hbox hg)|((with_reducible refine gate_dst (N:=7) rfl ?_);refine Kd.S_lit (Kd.slice 3 (Kd.int .i64)) _ 40 ?hg (N:=7) ?hd (xs:=([]:List (List Int))) (inner:=[]) (ok:=fun _=>True) (okp:=fun _=>True) ?hr ?hp (fun _ hk=>hk) trivial (Below.refl _ _) (Nat.le_refl _) (by simp) ?_;(case hd=>rfl);(case hg=>rfl);(case hr=>first|(go_simp;done)|(go_simp;rfl));(case hp=>exact (Reps.none _ _));intro v517 w4 ho5 hb hg_ hnew_;clear hg_ hnew_;(first|rw [← Ny516.out] at ho5|(simp only [Int.reduceToNat] at ho5;rw [← Ny516.out] at ho5));have n0_:=Aside0.mk (Kd.S_lower ho5 (below_size bw));have n1_:=Aside0.mk (blk_below (g:=gb515) (o:=.cells #[.int .i64 a0_0,.slice A0_1 l0_1.length c0_1] 68 (0,0)) bk hb);have n2_:=Aside0.mk (below_step bw hb);clear BK515;clear HB;have HO518:=n0_;have BK515:=n1_;have HB:=n2_;clear n0_ n1_ n2_;clear hb ho5;have hcz6_0:w4.cell? ⟨gb515,0,none⟩ = some (.int .i64 a0_0):=(blk_cell BK515.out 0).trans rfl;have hcz6_1:w4.cell? ⟨gb515,1,none⟩ = some (.slice A0_1 l0_1.length c0_1):=(blk_cell BK515.out 1).trans rfl;have hfz6_0:=blk_frozen BK515.out 0;have hfz6_1:=blk_frozen BK515.out 1))
 go_loopg [5,11] k (fun kq v5 v11 w'=>∃ (x5_1:List (List Int)) (x11_1:Int),v11 = .int .i64 x11_1 ∧ Aside0 (impl_votes_sets.l0 kq a1 x5_1 (l0_1.length:Int) x11_1 = some r) ∧ Aside0 (kq ≤ k) ∧ Aside0 (Kd.S (Kd.slice 3 (Kd.int .i64)) 40 w' w.heap.size (fun _=>True) v5 x5_1) ∧ Aside0 (w'.heap[gb515]? = some (.cells #[.int .i64 a0_0,(.slice A0_1 l0_1.length c0_1)] 68 (0,0))) ∧ Aside0 (Below w.heap.size w w'))
 case atStart=>exact ⟨(y516),(0),(by first|rfl|(simp;done)|(simp [*];done)),H',⟨Nat.le_refl _⟩,⟨by (with_reducible repeat (first|apply Kd.S_alloc|apply Kd.S_drewN|apply Kd.S_drew));exact HO518.out⟩,⟨by (with_reducible repeat (first|refine blk_drewN ?_ _|refine blk_drew ?_|refine blk_alloc ?_ _));exact BK515.out⟩,⟨by repeat (first|(with_reducible first|exact HB.out|apply below_alloc|apply pw_below_drewN|apply below_drew1|refine below_set ?_ GE515.out)|exact HB.out)⟩⟩
 case round =>
  clear H'
  try clear c1
  try clear p1
  try clear p2
  try clear hcz6_0
  try clear hcz6_1
  try clear hfz6_0
  try clear hfz6_1
  obtain ⟨x5_1,x11_1,rfl,HA,HK1,HO_5,BK515,HB⟩:=hrel
  cases gk with
  | zero=>exact absurd HA.out (by simp [impl_votes_sets.l0])
  | succ k1 =>
   have H:=HA.out;clear HA;simp only [impl_votes_sets.l0] at H;by_cases c7:x11_1 < (l0_1.length:Int)
   ·rw [if_pos c7] at H;have c7b0:decide (x11_1 < (l0_1.length:Int)) = true:=decide_eq_true c7;clear c7;replace H:=Option.bind_eq_some_iff.mp H;obtain ⟨t520,A80,H⟩:=H;replace H:(if t520 = true then ((impl_setOf.f k1 x11_1).bind fun t521=>(if x5_1.length < 5864062014805 then (impl_votes_sets.l0 k1 a1 (x5_1 ++ [t521]) (l0_1.length:Int) (wrap64 (x11_1 + 1))) else (none))) else (impl_votes_sets.l0 k1 a1 x5_1 (l0_1.length:Int) (wrap64 (x11_1 + 1)))) = some r:=H;have A8:=Aside0.mk A80;clear A80;by_cases c9:t520 = true
    ·subst c9;have H1:((impl_setOf.f k1 x11_1).bind fun t521=>(if x5_1.length < 5864062014805 then (impl_votes_sets.l0 k1 a1 (x5_1 ++ [t521]) (l0_1.length:Int) (wrap64 (x11_1 + 1))) else (none))) = some r:=by rw [if_pos rfl] at H;exact H
     clear H;have H:=H1;clear H1;replace H:=Option.bind_eq_some_iff.mp H;obtain ⟨t521,A100,H⟩:=H;replace H:(if x5_1.length < 5864062014805 then (impl_votes_sets.l0 k1 a1 (x5_1 ++ [t521]) (l0_1.length:Int) (wrap64 (x11_1 + 1))) else (none)) = some r:=H;have A10:=Aside0.mk A100;clear A100;by_cases c11:x5_1.length < 5864062014805
     ·rw [if_pos c11] at H;have LMc11:=Aside0.mk c11;clear c11;obtain ⟨y524,hy524⟩:∃ y_:List (List Int),y_ = (x5_1 ++ [t521]):=⟨_,rfl⟩;replace H:(impl_votes_sets.l0 k1 a1 y524 (l0_1.length:Int) (wrap64 (x11_1 + 1))) = some r:=by first|(rw [hy524];with_reducible exact H)|(have H2_:=(Option.bind_some _ _).symm.trans H;rw [hy524];with_reducible exact H2_)|(have H2_:=(Option.bind_some _ _).symm.trans H;with_reducible exact H2_)|with_reducible exact H|(rw [hy524];exact H)|exact H
      have Ny524:=Aside0.mk hy524;clear hy524;have H':=Aside0.mk H;clear H;go_wp2_with (first|((with_reducible refine gate_fn (t:=14) rfl ?_);refine goesFB_ (some 16) rfl rfl eg1_ #[.int .i64 x11_1] rfl rfl mq ?_;(with_reducible refine (HP1.out _ x11_1 true A8.out ?side1).mono ?_);(case side1=>repeat (first|(with_reducible first|exact HB.out|apply below_alloc|apply pw_below_drewN|apply below_drew1|refine below_set ?_ GE515.out)|exact HB.out));rintro e w12 ⟨rfl,hb⟩;refine ⟨_,rfl,?_⟩;have n0_:=Aside0.mk (Kd.S_below (by (with_reducible repeat (first|apply Kd.S_alloc|apply Kd.S_drewN|apply Kd.S_drew));exact HO_5.out) hb);have n1_:=Aside0.mk (blk_below (g:=gb515) (o:=.cells #[.int .i64 a0_0,.slice A0_1 l0_1.length c0_1] 68 (0,0)) bk hb);have n2_:=Aside0.mk (below_step bw hb);clear HO_5;clear BK515;clear HB;have HO_5:=n0_;have BK515:=n1_;have HB:=n2_;clear n0_ n1_ n2_;(try clear hb);(try clear hb2);(try clear hk);(try clear hi))|((with_reducible refine gate_callee (f:=164) rfl ?_);refine goesL_ (some 19) rfl rfl Try.func164 (by kernel_rfl) rfl #[.int .i64 x11_1] rfl mq ?_;(with_reducible refine (impl_setOf.calls k1 x11_1 t521 _ A10.out).mono ?_);rintro e w13 ⟨v522,rfl,ho0,hb⟩;refine ⟨_,rfl,?_⟩;have n0_:=Aside0.mk (Kd.S_elder' (by (with_reducible repeat (first|apply Kd.S_alloc|apply Kd.S_drewN|apply Kd.S_drew));exact HO_5.out) (Kd.R_base ho0) hb);have n1_:=Aside0.mk (Kd.R_lower ho0 (below_size bw));have n2_:=Aside0.mk (blk_below (g:=gb515) (o:=.cells #[.int .i64 a0_0,.slice A0_1 l0_1.length c0_1] 68 (0,0)) bk hb);have n3_:=Aside0.mk (below_step bw hb);clear HO_5;clear BK515;clear HB;have HO_5:=n0_;have HO523:=n1_;have BK515:=n2_;have HB:=n3_;clear n0_ n1_ n2_ n3_;(try clear hb);(try clear hb2);(try clear hk);(try clear hi);(try clear ho0);obtain ⟨Ao15,co15,eo15⟩:=Kd.R_slice HO523.out;subst eo15)|((with_reducible refine gate_builtin (b:=.append) (xs:=#[.tmp 17,.tmp 20]) rfl ?_);at_builtin;refine Kd.S_append (Kd.slice 3 (Kd.int .i64)) (w0:=w) w.heap.size rfl (.tmp 17) (.tmp 20) 22 40 (.slice none 0 0) 24 rfl Try.underlying22 info40 rfl (by decide) (by omega) u5 x5_1 t521 [.slice Ao15 t521.length co15] (fun _=>True) (fun k_=>some k_ = (.slice Ao15 t521.length co15:Value).ownBlock) rfl rfl ?aP (fun k_ hk_=>((Kd.R_mono (ok':=fun k_=>((fun _=>True)) k_ ∧ some k_ ≠ (u5:Value).ownBlock) (Kd.R_apart' (HO523.out) (Kd.S_typed HO_5.out) (by decide)) (fun k_ hk=>⟨trivial,hk.2⟩))).1 k_ hk_.symm) ?aF ?aO ?aB ?aS ?aL ?_;(case aP=>exact Kd.M_row (Kd.R_mono (Kd.R_tight rfl (Kd.R_mono (ok':=fun k_=>((fun _=>True)) k_ ∧ some k_ ≠ (u5:Value).ownBlock) (Kd.R_apart' (HO523.out) (Kd.S_typed HO_5.out) (by decide)) (fun k_ hk=>⟨trivial,hk.2⟩))) (fun _ h_=>h_)));(case aB=>exact bw);(case aF=>exact (fun _ _=>trivial));(case aO=>exact (by (with_reducible repeat (first|apply Kd.S_alloc|apply Kd.S_drewN|apply Kd.S_drew));exact Kd.S_mono HO_5.out (fun k_ hk=>⟨trivial,fun e_=>hk.2 e_⟩)));(case aS=>exact (below_size bw));(case aL=>have:=LMc11.out;omega);intro v525 w14 ho hb hg hat;rw [← Ny524.out] at ho;have n0_:=Aside0.mk (blk_grown (g:=gb515) (o:=.cells #[.int .i64 a0_0,.slice A0_1 l0_1.length c0_1] 68 (0,0)) bk hg (Kd.S_ne HO_5.out BK515.out (by decide)));have n1_:=Aside0.mk (hb);have n2_:=Aside0.mk (ho);clear BK515;clear HB;clear HO_5;clear HO523;have BK515:=n0_;have HB:=n1_;have HO526:=n2_;clear n0_ n1_ n2_;clear ho hb hg hat))
      go_roundg k1
      case measure=>have:=HK1.out;omega
      case rel=>exact ⟨(y524),(wrap64 (x11_1 + 1)),(by first|rfl|(simp;done)|(simp [*];done)),H',⟨by have:=HK1.out;omega⟩,⟨by (with_reducible repeat (first|apply Kd.S_alloc|apply Kd.S_drewN|apply Kd.S_drew));exact HO526.out⟩,⟨by (with_reducible repeat (first|refine blk_drewN ?_ _|refine blk_drew ?_|refine blk_alloc ?_ _));exact BK515.out⟩,⟨by repeat (first|(with_reducible first|exact HB.out|apply below_alloc|apply pw_below_drewN|apply below_drew1|refine below_set ?_ GE515.out)|exact HB.out)⟩⟩
     ·rw [if_neg c11] at H;exact absurd H (by simp)
    ·replace c9:=Bool.eq_false_iff.mpr c9;subst c9;have H1:(impl_votes_sets.l0 k1 a1 x5_1 (l0_1.length:Int) (wrap64 (x11_1 + 1))) = some r:=by rw [if_neg (show ¬ (false = true) by decide)] at H;exact H
     clear H;have H:=H1;clear H1;have H':=Aside0.mk H;clear H;go_wp2_with (first|((with_reducible refine gate_fn (t:=14) rfl ?_);refine goesFB_ (some 16) rfl rfl eg1_ #[.int .i64 x11_1] rfl rfl mq ?_;(with_reducible refine (HP1.out _ x11_1 false A8.out ?side1).mono ?_);(case side1=>repeat (first|(with_reducible first|exact HB.out|apply below_alloc|apply pw_below_drewN|apply below_drew1|refine below_set ?_ GE515.out)|exact HB.out));rintro e w16 ⟨rfl,hb⟩;refine ⟨_,rfl,?_⟩;have n0_:=Aside0.mk (Kd.S_below (by (with_reducible repeat (first|apply Kd.S_alloc|apply Kd.S_drewN|apply Kd.S_drew));exact HO_5.out) hb);have n1_:=Aside0.mk (blk_below (g:=gb515) (o:=.cells #[.int .i64 a0_0,.slice A0_1 l0_1.length c0_1] 68 (0,0)) bk hb);have n2_:=Aside0.mk (below_step bw hb);clear HO_5;clear BK515;clear HB;have HO_5:=n0_;have BK515:=n1_;have HB:=n2_;clear n0_ n1_ n2_;(try clear hb);(try clear hb2);(try clear hk);(try clear hi)))
     go_roundg k1
     case measure=>have:=HK1.out;omega
     case rel=>exact ⟨(x5_1),(wrap64 (x11_1 + 1)),(by first|rfl|(simp;done)|(simp [*];done)),H',⟨by have:=HK1.out;omega⟩,⟨by (with_reducible repeat (first|apply Kd.S_alloc|apply Kd.S_drewN|apply Kd.S_drew));exact HO_5.out⟩,⟨by (with_reducible repeat (first|refine blk_drewN ?_ _|refine blk_drew ?_|refine blk_alloc ?_ _));exact BK515.out⟩,⟨by repeat (first|(with_reducible first|exact HB.out|apply below_alloc|apply pw_below_drewN|apply below_drew1|refine below_set ?_ GE515.out)|exact HB.out)⟩⟩
   ·rw [if_neg c7] at H;have c7b0:decide (x11_1 < (l0_1.length:Int)) = false:=decide_eq_false c7;clear c7;replace H:=Option.bind_eq_some_iff.mp H;obtain ⟨t519,A170,H⟩:=H;replace H:(some t519) = some r:=H;have A17:=Aside0.mk A170;clear A170;obtain rfl:=Option.some.inj H;obtain ⟨Ao18,co18,eo18⟩:=Kd.S_slice HO_5.out;subst eo18;go_wp2_with (first|((with_reducible refine gate_callee (f:=165) rfl ?_);refine goesL_ (some 24) rfl rfl Try.func165 (by kernel_rfl) rfl #[.slice Ao18 x5_1.length co18,.func (.func 128) #[] #[]] rfl mq ?_;(with_reducible refine (slices_SortFunc_LLint_Lint.calls k1 (fun k_=>(True ∧ k_ ≠ gb515)) (.slice Ao18 x5_1.length co18) x5_1 (fun y0_ y1_=>slices_Compare_int_int.f k1 y0_ y1_) 128 #[] slices_Compare_int_int.enters t519 w _ ?side1 ?side2 ?side3 A17.out).mono ?_);(case side1=>repeat (first|(with_reducible first|exact HB.out|apply below_alloc|apply pw_below_drewN|apply below_drew1|refine below_set ?_ GE515.out)|exact HB.out));(case side2=>exact (Kd.S_types HO_5.out BK515.out (by decide)));(case side3=>exact (fun W_ A0_ c0_ l0_ A1_ c1_ l1_ r0_ hx_ hb_ hr0_ hc0_ hr1_ hc1_=>(slices_Compare_int_int.calls k1 A0_ c0_ l0_ A1_ c1_ l1_  r0_ W_ hr0_ hc0_ hr1_ hc1_  hx_).mono (fun _ _ h_=>⟨h_.1,h_.2⟩)));rintro e w19 ⟨rfl,hy0,hb,hkp⟩;refine ⟨_,rfl,?_⟩;have n0_:=Aside0.mk (Kd.S_mono (ok':=fun k_=>k_ ≠ gb515) hy0 (fun k_ hk_=>hk_.2));have n1_:=Aside0.mk (blk_kept bk hkp (fun hs_=>(fun hp_=>(hp_.2) rfl) hs_));have n2_:=Aside0.mk (hb);clear HO_5;clear BK515;clear HB;have HO_5:=n0_;have BK515:=n1_;have HB:=n2_;clear n0_ n1_ n2_;(try clear hb);(try clear hkp);(try clear hy0)))
    go_ret
    exact ⟨_,by first|rfl|(simp [errW_none,errW_some] <;> rfl)|(simp [*,errW_none,errW_some] <;> rfl),by (with_reducible repeat (first|apply Kd.S_alloc|apply Kd.S_drewN|apply Kd.S_drew));exact Kd.S_mono HO_5.out (fun _ hk=>trivial),by repeat (first|(with_reducible first|exact HB.out|apply below_alloc|apply pw_below_drewN|apply below_drew1|refine below_set ?_ GE515.out)|exact HB.out)⟩
theorem impl_votes_sets.calls (k:Nat) (a0_0:Int) (A0_1:Option Addr) (c0_1:Nat) (l0_1:List Bool) (a1:(Int → Option (Bool))) (g1_:Nat) (lb1_:Array Value) (eg1_:∀ (args:Array Value) (w:World),(callFunc g1_ args).run Try.prog w = .ok (.enter g1_ args) w) (r:List (List Int)) (w:World) (hr0_1:Kd.C Kd.bool w A0_1 l0_1.length l0_1) (hc0_1:l0_1.length ≤ c0_1) (hp1:∀ (W:World) (b0_:Int) (r0_:Bool),a1 b0_ = some r0_ → Below w.heap.size w W → Calls Try.prog g1_ (#[.int .i64 b0_] ++ lb1_) W fun e w'=>e = .returned (.bool r0_) ∧ Below W.heap.size W w') (h:impl_votes_sets.f k a0_0 l0_1 a1 = some r) :
  Calls Try.prog 147 #[.agg #[.int .i64 a0_0,.slice A0_1 l0_1.length c0_1],.func (.func g1_) #[] lb1_] w fun e w'=>∃ v0_:Value,e = .returned (v0_) ∧ Kd.S (Kd.slice 3 (Kd.int .i64)) 40 w' w.heap.size (fun _=>True) v0_ r ∧ Below w.heap.size w w' :=
 impl_votes_sets.callsB #[] k a0_0 A0_1 c0_1 l0_1 a1 g1_ lb1_ eg1_ r w hr0_1 hc0_1 (fun W b0_ r0_ h1 h2=>by simpa using hp1 W b0_ r0_ h1 h2) h


/-! ### impl_votes_least: function 113 -/
-- IMPORT P_impl_votes_sets
-- IMPORT P_impl_votes_isLeast
def impl_votes_least.f (k : Nat) (a0_0 : Int) (l0_1 : List Bool) : Option (List (List Int)) := impl_votes_sets.f k a0_0 l0_1 (fun y0_ => impl_votes_isLeast.f k a0_0 l0_1 y0_)
theorem impl_votes_least.mono : ∀ a0 a1 k, LeO (impl_votes_least.f k a0 a1) (impl_votes_least.f (k + 1) a0 a1) := fun a0 a1 k => LeO.trans (impl_votes_sets.mono _ _ _ _) (impl_votes_sets.mono_p (fun x => impl_votes_isLeast.mono a0 a1 x k) _ _ _)
theorem impl_votes_least.en : ∀ (args : Array Value) (w : World), (callFunc 148 args).run Try.prog w = .ok (.enter 148 args) w := enters_of Try.func148 (by kernel_rfl) rfl
set_option maxHeartbeats 8000000 in
set_option maxRecDepth 100000 in
theorem impl_votes_least.calls (k : Nat) (a0_0 : Int) (A0_1 : Option Addr) (c0_1 : Nat) (l0_1 : List Bool) (r : List (List Int)) (w : World) (hr0_1 : Kd.C Kd.bool w A0_1 l0_1.length l0_1) (hc0_1 : l0_1.length ≤ c0_1) (h : impl_votes_least.f k a0_0 l0_1 = some r) :
    Calls Try.prog 113 #[.agg #[.int .i64 a0_0, .slice A0_1 l0_1.length c0_1]] w fun e w' => ∃ v0_ : Value, e = .returned (v0_) ∧ Kd.S (Kd.slice 3 (Kd.int .i64)) 40 w' w.heap.size (fun _ => True) v0_ r ∧ Below w.heap.size w w' := by
  have hu68 := Try.underlying68
  have HR0_1 := Aside0.mk hr0_1
  have HC0_1 := Aside0.mk hc0_1
  clear hr0_1 hc0_1
  have HB := Aside0.mk (Below.refl w.heap.size w)
  have H' := Aside0.mk (show impl_votes_sets.f k a0_0 l0_1 (fun y0_ => impl_votes_isLeast.f k a0_0 l0_1 y0_) = some r from h)
  clear h
  go_enter Try.func113, Try.ntmps113
  go_wp2_with (first | ((with_reducible refine gate_dst (N := 1) rfl ?_); refine box_event ?hg (N := 1) ?hd (cs := #[.int .i64 a0_0, .slice A0_1 l0_1.length c0_1]) (t := 68) ?hr ?_; (case hd => rfl); (case hg => rfl); (case hr => first | (go_simp; done) | (go_simp; rfl)); intro gb591 hg w3 hbox hb; have n0_ := Aside0.mk (below_step (by repeat (first | (with_reducible first | exact HB.out | apply below_alloc | apply pw_below_drewN | apply below_drew1) | exact HB.out)) hb); have n1_ := Aside0.mk (hbox); clear HB; have HB := n0_; have BK591 := n1_; clear n0_ n1_; clear hb hbox hg; have hcz6_0 : w3.cell? ⟨gb591, 0, none⟩ = some (.int .i64 a0_0) := (blk_cell BK591.out 0).trans rfl; have hcz6_1 : w3.cell? ⟨gb591, 1, none⟩ = some (.slice A0_1 l0_1.length c0_1) := (blk_cell BK591.out 1).trans rfl; have hfz6_0 := blk_frozen BK591.out 0; have hfz6_1 := blk_frozen BK591.out 1) | ((with_reducible refine gate_callee (f := 147) rfl ?_); refine goesL_ (some 6) rfl rfl Try.func147 (by kernel_rfl) rfl #[.agg #[.int .i64 a0_0, .slice A0_1 l0_1.length c0_1], .func (.func 148) #[.agg #[.int .i64 a0_0, .slice A0_1 l0_1.length c0_1]] #[]] rfl (by (try simp only [List.map_toArray, List.map_cons, List.map_nil]); first | done | rfl | (simp only [List.length_drop, List.length_take]; rfl)) ?_; (with_reducible refine (impl_votes_sets.callsB #[.agg #[.int .i64 a0_0, .slice A0_1 l0_1.length c0_1]] k a0_0 _ _ l0_1 (fun y0_ => impl_votes_isLeast.f k a0_0 l0_1 y0_) 148 #[] impl_votes_least.en r _ ?side1 ?side2 ?side3 H'.out).mono ?_); (case side1 => repeat (first | exact (Kd.C_below HR0_1.out HB.out) | (with_reducible refine Kd.C_alloc ?_ _) | (with_reducible refine Kd.C_drewN ?_ _) | (with_reducible refine Kd.C_drew ?_))); (case side2 => exact HC0_1.out); (case side3 => exact (fun W_ b0_ r0_ hx_ hb_ => (impl_votes_isLeast.calls k a0_0 A0_1 c0_1 l0_1 b0_ r0_ W_ (Kd.C_below HR0_1.out (below_step (by repeat (first | (with_reducible first | exact HB.out | apply below_alloc | apply pw_below_drewN | apply below_drew1) | exact HB.out)) hb_)) HC0_1.out hx_))); rintro e w6 ⟨v6, rfl, hy6, hb⟩; refine ⟨_, rfl, ?_⟩; have n0_ := Aside0.mk (Kd.S_lower hy6 (below_size (by repeat (first | (with_reducible first | exact HB.out | apply below_alloc | apply pw_below_drewN | apply below_drew1) | exact HB.out)))); have n1_ := Aside0.mk (below_step (by repeat (first | (with_reducible first | exact HB.out | apply below_alloc | apply pw_below_drewN | apply below_drew1) | exact HB.out)) hb); clear HB; have HO6 := n0_; have HB := n1_; clear n0_ n1_; clear hb hy6))
  go_ret
  exact ⟨_, by first | rfl | (simp [errW_none, errW_some] <;> rfl) | (simp [*, errW_none, errW_some] <;> rfl), by (with_reducible repeat (first | apply Kd.S_alloc | apply Kd.S_drewN | apply Kd.S_drew)); exact Kd.S_mono HO6.out (fun _ hk => trivial), by repeat (first | (with_reducible first | exact HB.out | apply below_alloc | apply pw_below_drewN | apply below_drew1) | exact HB.out)⟩


/-! ### impl_votes_game: function 74 -/
def impl_votes_game.f (k:Nat) (a0_0:Int) (l0_1:List Bool):Option (Int × (List (List Int))):=(impl_votes_least.f k a0_0 l0_1).bind fun t533=>(some (a0_0,t533))
theorem impl_votes_game.mono:∀ a0 a1 k,LeO (impl_votes_game.f k a0 a1) (impl_votes_game.f (k + 1) a0 a1):=by
 intro a0 a1 k;unfold impl_votes_game.f
 repeat' with_reducible first|exact impl_votes_least.mono _ _ _|exact LeO.refl _|exact LeO.none _|refine LeO.ite ?_ ?_|refine LeO.bind ?_ (fun _=>?_)
set_option maxHeartbeats 8000000 in
set_option maxRecDepth 100000 in
theorem impl_votes_game.calls (k:Nat) (a0_0:Int) (A0_1:Option Addr) (c0_1:Nat) (l0_1:List Bool) (r1:Int) (r2:List (List Int)) (w:World) (hr0_1:Kd.C Kd.bool w A0_1 l0_1.length l0_1) (hc0_1:l0_1.length ≤ c0_1) (h:impl_votes_game.f k a0_0 l0_1 = some (r1,r2)) :
  Calls Try.prog 74 #[.agg #[.int .i64 a0_0,.slice A0_1 l0_1.length c0_1]] w fun e w'=>∃ v1_:Value,e = .returned (.agg #[.int .i64 r1,v1_]) ∧ Kd.S (Kd.slice 3 (Kd.int .i64)) 40 w' w.heap.size (fun _=>True) v1_ r2 ∧ Below w.heap.size w w':=by
 have hu68:=Try.underlying68;have hu28:=Try.underlying28;have HR0_1:=Aside0.mk hr0_1;have HC0_1:=Aside0.mk hc0_1;clear hr0_1 hc0_1;have HB:=Aside0.mk (Below.refl w.heap.size w);have H:((impl_votes_least.f k a0_0 l0_1).bind fun t533=>(some (a0_0,t533))) = some (r1,r2):=h;clear h;replace H:=Option.bind_eq_some_iff.mp H;obtain ⟨t533,A20,H⟩:=H;replace H:(some (a0_0,t533)) = some (r1,r2):=H;have A2:=Aside0.mk A20;clear A20;simp only [Option.some.injEq,Prod.mk.injEq] at H;obtain ⟨rfl,rfl⟩:=H;go_enter Try.func74,Try.ntmps74
 try go_wp2_with (first|((with_reducible refine gate_dst (N:=1) rfl ?_);refine box_event ?hg (N:=1) ?hd (cs:=#[.int .i64 a0_0,.slice A0_1 l0_1.length c0_1]) (t:=68) ?hr ?_;(case hd=>rfl);(case hg=>rfl);(case hr=>first|(go_simp;done)|(go_simp;rfl));intro gb531 hg w3 hbox hb;have n0_:=Aside0.mk (below_step bw hb);have n1_:=Aside0.mk (hbox);have n2_:=Aside0.mk ((by rw [hg];exact (below_size bw):w.heap.size ≤ gb531));have n3_:=Aside0.mk ((by rw [hg];exact (below_size bw):w.heap.size ≤ gb531));clear HB;have HB:=n0_;have BK531:=n1_;have GW531:=n2_;have GE531:=n3_;clear n0_ n1_ n2_ n3_;clear hb hbox hg)|((with_reducible refine gate_dst (N:=2) rfl ?_);refine box_event ?hg (N:=2) ?hd (cs:=#[.int .i64 0,.slice none 0 0]) (t:=28) ?hr ?_;(case hd=>rfl);(case hg=>rfl);(case hr=>first|(go_simp;done)|(go_simp;rfl));intro gb532 hg w4 hbox hb;have n0_:=Aside0.mk (blk_below (g:=gb531) (o:=.cells #[.int .i64 a0_0,.slice A0_1 l0_1.length c0_1] 68 (0,0)) bk hb);have n1_:=Aside0.mk (below_step bw hb);have n2_:=Aside0.mk (hbox);have n3_:=Aside0.mk ((by rw [hg];exact (below_size bw):w.heap.size ≤ gb532));have n4_:=Aside0.mk ((by rw [hg];exact (below_size bw):w.heap.size ≤ gb532));have n5_:=Aside0.mk ((by rw [hg];exact Nat.ne_of_lt (blk_lt (g:=gb531) (o:=.cells #[.int .i64 a0_0,.slice A0_1 l0_1.length c0_1] 68 (0,0)) bk):gb531 ≠ gb532));have n6_:=Aside0.mk ((by rw [hg];exact Nat.ne_of_gt (blk_lt (g:=gb531) (o:=.cells #[.int .i64 a0_0,.slice A0_1 l0_1.length c0_1] 68 (0,0)) bk):gb532 ≠ gb531));clear BK531;clear HB;have BK531:=n0_;have HB:=n1_;have BK532:=n2_;have GW532:=n3_;have GE532:=n4_;have NB531_532:=n5_;have NB532_531:=n6_;clear n0_ n1_ n2_ n3_ n4_ n5_ n6_;clear hb hbox hg))
 have n0_:=Aside0.mk (blk_drew BK531.out);have n1_:=Aside0.mk (blk_drew BK532.out);have n2_:=Aside0.mk (below_drew1 HB.out);clear BK531;clear BK532;clear HB;have BK531:=n0_;have BK532:=n1_;have HB:=n2_;clear n0_ n1_ n2_;refine start_ (n:=6) (S:=fun w'=>w'.cell? ⟨gb531,0,none⟩ = some (.int .i64 a0_0) ∧ w'.cell? ⟨gb531,1,none⟩ = some (.slice A0_1 l0_1.length c0_1)) (ds:=[]) #[false,false,false,false,false,false] (by kernel_rfl) rfl rfl ⟨(blk_cell BK531.out 0).trans rfl,(blk_cell BK531.out 1).trans rfl⟩ (fun hHeld=>?_);generalize w4.drew = w5 at BK531 BK532 HB hHeld ⊢
 refine pure_ (i:=0) (N:=some 3) (v:=?_) (a':=?_) #[true,false,false,false,false,false] rfl rfl (by kernel_rfl) (fun _ _ _ h=>h) (Or.inl ⟨by rfl,?_⟩) ?_ ?_;rotate_left
 ·intro w';go_simp
  with_reducible rfl
 rotate_left
 ·simp only [Act.put,sA,sZ,sS,i64_w,i32_w];rfl
 refine take_ (i:=1) (N:=some 4) (v:=?_) (a':=?_) #[true,true,false,false,false,false] rfl rfl (by kernel_rfl) (fun _ _ _ h=>h) (Or.inl ⟨by rfl,?_⟩) hHeld ?_ ?_;rotate_left
 ·rintro w' ⟨s0,s1⟩
  go_simp
  with_reducible rfl
 rotate_left
 ·simp only [Act.put,sA,sZ,sS,i64_w,i32_w];rfl
 refine take_ (i:=2) (N:=some 5) (v:=?_) (a':=?_) #[true,true,true,false,false,false] rfl rfl (by kernel_rfl) (fun _ _ _ h=>h) (Or.inl ⟨by rfl,?_⟩) hHeld ?_ ?_;rotate_left
 ·rintro w' ⟨s0,s1⟩
  go_simp
  with_reducible rfl
 rotate_left
 ·simp only [Act.put,sA,sZ,sS,i64_w,i32_w];rfl
 refine one_ (i:=3) (N:=some 6) #[true,true,true,true,false,false] rfl rfl (by kernel_rfl) (by decide) (fun K hK=>?_);refine goes_ Try.func113 (by kernel_rfl) rfl #[.agg #[.int .i64 a0_0,.slice A0_1 l0_1.length c0_1]] (by rfl) rfl rfl mq ?_
 with_reducible refine (impl_votes_least.calls k a0_0 _ _ l0_1 t533 _ ?side1 ?side2 A2.out).mono ?_
 (case side1=>repeat (first|exact (Kd.C_below HR0_1.out HB.out)|(with_reducible refine Kd.C_alloc ?_ _)|(with_reducible refine Kd.C_drewN ?_ _)|(with_reducible refine Kd.C_drew ?_)))
 (case side2=>exact HC0_1.out)
 rintro e w6 ⟨v534,rfl,ho0,hb⟩
 refine ⟨_,rfl,?_⟩;have n0_:=Aside0.mk (Kd.S_lower ho0 (below_size bw));have n1_:=Aside0.mk (blk_below (g:=gb531) (o:=.cells #[.int .i64 a0_0,.slice A0_1 l0_1.length c0_1] 68 (0,0)) bk hb);have n2_:=Aside0.mk (blk_below (g:=gb532) (o:=.cells #[.int .i64 0,.slice none 0 0] 28 (0,0)) bk hb);have n3_:=Aside0.mk (below_step bw hb);clear BK531;clear BK532;clear HB;have HO535:=n0_;have BK531:=n1_;have BK532:=n2_;have HB:=n3_;clear n0_ n1_ n2_ n3_;(try clear hb)
 (try clear hb2)
 (try clear hk)
 (try clear hi)
 (try clear ho0)
 obtain ⟨Ao7,co7,eo7⟩:=Kd.S_slice HO535.out;(first|subst eo7|(injection eo7 with f1_ f2_ f3_;have f4_:=f1_.symm;have f5_:=f3_.symm;clear f1_ f2_ f3_;subst f4_;subst f5_))
 refine hK.out _ _ ⟨(blk_cell BK531.out 0).trans rfl,(blk_cell BK531.out 1).trans rfl⟩ (fun hHeld=>?_);clear hK K;refine norm_ (a':=?_) ?_ ?_;rotate_left
 ·show Act.put _ (some 6) _ = _;simp only [Act.put,sA,sZ,sS,i64_w,i32_w];rfl
 refine pure_ (i:=4) (N:=some 7) (v:=?_) (a':=?_) #[true,true,true,true,true,false] rfl rfl (by kernel_rfl) (fun _ _ _ h=>h) (Or.inl ⟨by rfl,?_⟩) ?_ ?_;rotate_left
 ·intro w';go_simp
  with_reducible rfl
 rotate_left
 ·simp only [Act.put,sA,sZ,sS,i64_w,i32_w];rfl
 refine one_ (i:=5) (N:=none) #[true,true,true,true,true,true] rfl rfl (by kernel_rfl) (by decide) (fun K hK=>?_);have hs8:w6.cell? ⟨gb532,0,none⟩ = some (.int .i64 0):=(blk_cell BK532.out 0).trans rfl;have hfs8:=blk_frozen BK532.out 0;have hns8_0:=NB531_532.out;have hms8_0:=NB532_531.out;have hs9:w6.cell? ⟨gb532,1,none⟩ = some (.slice none 0 0):=(blk_cell BK532.out 1).trans rfl;have hfs9:=blk_frozen BK532.out 1;have hns9_0:=NB531_532.out;have hms9_0:=NB532_531.out;refine skip_ (w1:=?_) (by rfl) rfl ?_ ?_;rotate_left
 ·go_simp
  rfl
 refine hK.out _ _ ⟨((cell_far (p:=⟨gb532,_,none⟩) NB531_532.out _).trans (((cell_far (p:=⟨gb532,_,none⟩) NB531_532.out _).trans (hHeld.1)))),((cell_far (p:=⟨gb532,_,none⟩) NB531_532.out _).trans (((cell_far (p:=⟨gb532,_,none⟩) NB531_532.out _).trans (hHeld.2))))⟩ (fun hHeld=>?_);clear hK K;refine done_ (by kernel_rfl) ?_
 try go_wp2
 refine bodyPost_ret (results_cell_row rfl _ _ gb532 28 #[.int .i64 a0_0,.slice Ao7 t533.length co7] (0,0) _ rfl (by (with_reducible repeat (first|refine blk_drewN ?_ _|refine blk_drew ?_|refine blk_alloc ?_ _));refine blk_put (cs:=#[.int .i64 a0_0,.slice none 0 0]) ?_ 1 _ rfl;(with_reducible repeat (first|refine blk_drewN ?_ _|refine blk_drew ?_|refine blk_alloc ?_ _));refine blk_put (cs:=#[.int .i64 0,.slice none 0 0]) ?_ 0 _ rfl;(with_reducible repeat (first|refine blk_drewN ?_ _|refine blk_drew ?_|refine blk_alloc ?_ _));exact BK532.out) Try.underlying28 rfl (by kernel_rfl)) rfl ?_;exact ⟨_,by first|rfl|(simp [errW_none,errW_some] <;> rfl)|(simp [*,errW_none,errW_some] <;> rfl),by (with_reducible repeat (first|apply Kd.S_alloc|apply Kd.S_drewN|apply Kd.S_drew));exact Kd.S_mono (Kd.S_far (p:=⟨gb532,1,none⟩) (Kd.S_far (p:=⟨gb532,0,none⟩) (Kd.S_types HO535.out BK532.out (by decide)) (fun _ hk=>hk.2) (.int .i64 a0_0)) (fun _ hk=>hk.2) (.slice Ao7 t533.length co7)) (fun _ hk=>trivial),by repeat (first|(with_reducible first|exact HB.out|apply below_alloc|apply pw_below_drewN|apply below_drew1|refine below_set ?_ GE531.out|refine below_set ?_ GE532.out)|exact HB.out)⟩


/-! ### impl_HeadsGame: function 27 -/
def impl_HeadsGame.j0:Nat → Bool → Int → List Int → Int → Option (Int × (List (List Int)) × Bool)
 | 0,_,_,_,_=>none
 | k + 1,x17,x805000,x805001,x806000=>if x17 = true then (some (0,([]:List (List Int)),false)) else ((impl_Committee_votes.f k x805000 x805001).bind fun bt809=>((impl_votesOf.f k bt809.1 (fun y0_=>impl_HeadsGame_1.f y0_ bt809.1 bt809.2 x806000)).bind fun bt814=>((impl_votes_game.f k bt814.1 bt814.2).bind fun bt818=>(some (bt818.1,bt818.2,true)))))
def impl_HeadsGame.f (k:Nat) (a0_0:Int) (l0_1:List Int) (a1:Int):Option (Int × (List (List Int)) × Bool):=(impl_IsCommittee.f k a0_0 l0_1).bind fun t807=>(if t807 = true then ((impl_within.f a1 0 (l0_1.length:Int)).bind fun t808=>(impl_HeadsGame.j0 k (!t808) a0_0 l0_1 a1)) else (impl_HeadsGame.j0 k true a0_0 l0_1 a1))
theorem impl_HeadsGame.mono_l:∀ k,(∀ y0 y1 y2 y3,LeO (impl_HeadsGame.j0 k y0 y1 y2 y3) (impl_HeadsGame.j0 (k + 1) y0 y1 y2 y3))
 | 0=>fun _ _ _ _ r h=>by simp [impl_HeadsGame.j0] at h
 | k + 1=>by
  have ih0:=impl_HeadsGame.mono_l k
  ·intro y0 y1 y2 y3;unfold impl_HeadsGame.j0
   repeat' with_reducible first|exact ih0 _ _ _ _|exact impl_Committee_votes.mono _ _ _|exact impl_IsCommittee.mono _ _ _|exact impl_votesOf.mono _ _ _|exact impl_votes_game.mono _ _ _|exact LeO.refl _|exact LeO.none _|refine LeO.trans (impl_votesOf.mono _ _ _) (impl_votesOf.mono_p (fun _=>?_) _ _)|refine LeO.ite ?_ ?_|refine LeO.bind ?_ (fun _=>?_)
theorem impl_HeadsGame.mono:∀ a0 a1 a2 k,LeO (impl_HeadsGame.f k a0 a1 a2) (impl_HeadsGame.f (k + 1) a0 a1 a2):=by
 intro a0 a1 a2 k;have ih0:=impl_HeadsGame.mono_l k;unfold impl_HeadsGame.f
 repeat' with_reducible first|exact ih0 _ _ _ _|exact impl_Committee_votes.mono _ _ _|exact impl_IsCommittee.mono _ _ _|exact impl_votesOf.mono _ _ _|exact impl_votes_game.mono _ _ _|exact LeO.refl _|exact LeO.none _|refine LeO.trans (impl_votesOf.mono _ _ _) (impl_votesOf.mono_p (fun _=>?_) _ _)|refine LeO.ite ?_ ?_|refine LeO.bind ?_ (fun _=>?_)
set_option maxHeartbeats 8000000 in
set_option maxRecDepth 100000 in
theorem impl_HeadsGame.calls (k:Nat) (a0_0:Int) (A0_1:Option Addr) (c0_1:Nat) (l0_1:List Int) (a1:Int) (r1:Int) (r2:List (List Int)) (r3:Bool) (w:World) (hr0_1:Kd.C (Kd.int .i64) w A0_1 l0_1.length l0_1) (hc0_1:l0_1.length ≤ c0_1) (h:impl_HeadsGame.f k a0_0 l0_1 a1 = some (r1,r2,r3)) :
  Calls Try.prog 27 #[.agg #[.int .i64 a0_0,.slice A0_1 l0_1.length c0_1],.int .i64 a1] w fun e w'=>∃ v1_:Value,e = .returned (.tuple #[.agg #[.int .i64 r1,v1_],.bool r3]) ∧ Kd.S (Kd.slice 3 (Kd.int .i64)) 40 w' w.heap.size (fun _=>True) v1_ r2 ∧ Below w.heap.size w w':=by
 have hmf:∀ (fn:Fn) (first cap:Array Value) (w:World),(Instr.makeFunc fn first cap).run Try.prog w = .ok (.func fn first cap) w:=fun _ _ _ _=>rfl
 have hu46:=Try.underlying46;have hu28:=Try.underlying28;have hu68:=Try.underlying68;have HR0_1:=Aside0.mk hr0_1;have HC0_1:=Aside0.mk hc0_1;clear hr0_1 hc0_1;have HB:=Aside0.mk (Below.refl w.heap.size w);have H:((impl_IsCommittee.f k a0_0 l0_1).bind fun t807=>(if t807 = true then ((impl_within.f a1 0 (l0_1.length:Int)).bind fun t808=>(impl_HeadsGame.j0 k (!t808) a0_0 l0_1 a1)) else (impl_HeadsGame.j0 k true a0_0 l0_1 a1))) = some (r1,r2,r3):=h;clear h;have HC3:=Aside0.mk H;clear H;go_enter Try.func27,Try.ntmps27;go_upto_region 1 with (first|((with_reducible refine gate_dst (N:=2) rfl ?_);(try (refine gate_guard (by rfl) ?_;dsimp only));refine box_event ?hg (N:=2) ?hd (cs:=#[.int .i64 a0_0,.slice A0_1 l0_1.length c0_1]) (t:=46) ?hr ?_;(case hd=>rfl);(case hg=>rfl);(case hr=>first|(go_simp;done)|(go_simp;rfl));intro gb804 hg w4 hbox hb;have n0_:=Aside0.mk (below_step bw hb);have n1_:=Aside0.mk (hbox);have n2_:=Aside0.mk ((by rw [hg];exact (below_size bw):w.heap.size ≤ gb804));have n3_:=Aside0.mk ((by rw [hg];exact (below_size bw):w.heap.size ≤ gb804));clear HB;have HB:=n0_;have BK804:=n1_;have GW804:=n2_;have GE804:=n3_;clear n0_ n1_ n2_ n3_;clear hb hbox hg)|((with_reducible refine gate_dst (N:=3) rfl ?_);(try (refine gate_guard (by rfl) ?_;dsimp only));refine box_event ?hg (N:=3) ?hd (cs:=#[.int .i64 a1]) (t:=3) ?hr ?_;(case hd=>rfl);(case hg=>rfl);(case hr=>first|(go_simp;done)|(go_simp;rfl));intro gb805 hg w5 hbox hb;have n0_:=Aside0.mk (blk_below (g:=gb804) (o:=.cells #[.int .i64 a0_0,.slice A0_1 l0_1.length c0_1] 46 (0,0)) bk hb);have n1_:=Aside0.mk (below_step bw hb);have n2_:=Aside0.mk (hbox);have n3_:=Aside0.mk ((by rw [hg];exact (below_size bw):w.heap.size ≤ gb805));have n4_:=Aside0.mk ((by rw [hg];exact (below_size bw):w.heap.size ≤ gb805));have n5_:=Aside0.mk ((by rw [hg];exact Nat.ne_of_lt (blk_lt (g:=gb804) (o:=.cells #[.int .i64 a0_0,.slice A0_1 l0_1.length c0_1] 46 (0,0)) bk):gb804 ≠ gb805));have n6_:=Aside0.mk ((by rw [hg];exact Nat.ne_of_gt (blk_lt (g:=gb804) (o:=.cells #[.int .i64 a0_0,.slice A0_1 l0_1.length c0_1] 46 (0,0)) bk):gb805 ≠ gb804));clear BK804;clear HB;have BK804:=n0_;have HB:=n1_;have BK805:=n2_;have GW805:=n3_;have GE805:=n4_;have NB804_805:=n5_;have NB805_804:=n6_;clear n0_ n1_ n2_ n3_ n4_ n5_ n6_;clear hb hbox hg)|((with_reducible refine gate_dst (N:=4) rfl ?_);(try (refine gate_guard (by rfl) ?_;dsimp only));refine box_event ?hg (N:=4) ?hd (cs:=#[.int .i64 0,.slice none 0 0]) (t:=28) ?hr ?_;(case hd=>rfl);(case hg=>rfl);(case hr=>first|(go_simp;done)|(go_simp;rfl));intro gb806 hg w6 hbox hb;have n0_:=Aside0.mk (blk_below (g:=gb804) (o:=.cells #[.int .i64 a0_0,.slice A0_1 l0_1.length c0_1] 46 (0,0)) bk hb);have n1_:=Aside0.mk (blk_below (g:=gb805) (o:=.cells #[.int .i64 a1] 3 (0,0)) bk hb);have n2_:=Aside0.mk (below_step bw hb);have n3_:=Aside0.mk (hbox);have n4_:=Aside0.mk ((by rw [hg];exact (below_size bw):w.heap.size ≤ gb806));have n5_:=Aside0.mk ((by rw [hg];exact (below_size bw):w.heap.size ≤ gb806));have n6_:=Aside0.mk ((by rw [hg];exact Nat.ne_of_lt (blk_lt (g:=gb804) (o:=.cells #[.int .i64 a0_0,.slice A0_1 l0_1.length c0_1] 46 (0,0)) bk):gb804 ≠ gb806));have n7_:=Aside0.mk ((by rw [hg];exact Nat.ne_of_gt (blk_lt (g:=gb804) (o:=.cells #[.int .i64 a0_0,.slice A0_1 l0_1.length c0_1] 46 (0,0)) bk):gb806 ≠ gb804));have n8_:=Aside0.mk ((by rw [hg];exact Nat.ne_of_lt (blk_lt (g:=gb805) (o:=.cells #[.int .i64 a1] 3 (0,0)) bk):gb805 ≠ gb806));have n9_:=Aside0.mk ((by rw [hg];exact Nat.ne_of_gt (blk_lt (g:=gb805) (o:=.cells #[.int .i64 a1] 3 (0,0)) bk):gb806 ≠ gb805));clear BK804;clear BK805;clear HB;have BK804:=n0_;have BK805:=n1_;have HB:=n2_;have BK806:=n3_;have GW806:=n4_;have GE806:=n5_;have NB804_806:=n6_;have NB806_804:=n7_;have NB805_806:=n8_;have NB806_805:=n9_;clear n0_ n1_ n2_ n3_ n4_ n5_ n6_ n7_ n8_ n9_;clear hb hbox hg))
 (try simp only [Act.put,sA,sZ,sS])
 go_cut [17] (fun v17 wc=>∃ (kq:Nat) (x17_2:Bool),v17 = .bool x17_2 ∧ Aside0 (impl_HeadsGame.j0 kq x17_2 a0_0 l0_1 a1 = some (r1,r2,r3)) ∧ Aside0 (kq ≤ k) ∧ Aside0 (wc.heap[gb804]? = some (.cells #[.int .i64 a0_0,(.slice A0_1 l0_1.length c0_1)] 46 (0,0))) ∧ Aside0 (wc.heap[gb805]? = some (.cells #[.int .i64 a1] 3 (0,0))) ∧ Aside0 (wc.heap[gb806]? = some (.cells #[.int .i64 0,(.slice none 0 0)] 28 (0,0))) ∧ Aside0 (Below w.heap.size w wc))
 case first =>
  have H:=HC3.out;clear HC3;replace H:=Option.bind_eq_some_iff.mp H;obtain ⟨t807,A70,H⟩:=H;replace H:(if t807 = true then ((impl_within.f a1 0 (l0_1.length:Int)).bind fun t808=>(impl_HeadsGame.j0 k (!t808) a0_0 l0_1 a1)) else (impl_HeadsGame.j0 k true a0_0 l0_1 a1)) = some (r1,r2,r3):=H;have A7:=Aside0.mk A70;clear A70;by_cases c8:t807 = true
  ·subst c8;have H1:((impl_within.f a1 0 (l0_1.length:Int)).bind fun t808=>(impl_HeadsGame.j0 k (!t808) a0_0 l0_1 a1)) = some (r1,r2,r3):=by rw [if_pos rfl] at H;exact H
   clear H;have H:=H1;clear H1;replace H:=Option.bind_eq_some_iff.mp H;obtain ⟨t808,A90,H⟩:=H;replace H:(impl_HeadsGame.j0 k (!t808) a0_0 l0_1 a1) = some (r1,r2,r3):=H;have A9:=Aside0.mk A90;clear A90;have H':=Aside0.mk H;clear H;have hnb10:=NB804_805.out;have hnc10:=NB805_804.out;have hnb11:=NB804_806.out;have hnc11:=NB806_804.out;have hcz12_0:w6.cell? ⟨gb804,0,none⟩ = some (.int .i64 a0_0):=(blk_cell BK804.out 0).trans rfl;have hcz12_1:w6.cell? ⟨gb804,1,none⟩ = some (.slice A0_1 l0_1.length c0_1):=(blk_cell BK804.out 1).trans rfl;have hfz12_0:=blk_frozen BK804.out 0;have hfz12_1:=blk_frozen BK804.out 1;go_wp2_with (first|((with_reducible refine gate_callee (f:=68) rfl ?_);refine goesL_ (some 8) rfl rfl Try.func68 (by kernel_rfl) rfl #[.agg #[.int .i64 a0_0,.slice A0_1 l0_1.length c0_1]] rfl mq ?_;(with_reducible refine (impl_IsCommittee.calls k a0_0 _ _ l0_1 true _ ?side1 ?side2 A7.out).mono ?_);(case side1=>repeat (first|exact (Kd.C_below HR0_1.out HB.out)|(with_reducible refine Kd.C_alloc ?_ _)|(with_reducible refine Kd.C_drewN ?_ _)|(with_reducible refine Kd.C_drew ?_)));(case side2=>exact HC0_1.out);rintro e w13 ⟨rfl,hb⟩;refine ⟨_,rfl,?_⟩;have n0_:=Aside0.mk (blk_below (g:=gb804) (o:=.cells #[.int .i64 a0_0,.slice A0_1 l0_1.length c0_1] 46 (0,0)) bk hb);have n1_:=Aside0.mk (blk_below (g:=gb805) (o:=.cells #[.int .i64 a1] 3 (0,0)) bk hb);have n2_:=Aside0.mk (blk_below (g:=gb806) (o:=.cells #[.int .i64 0,.slice none 0 0] 28 (0,0)) bk hb);have n3_:=Aside0.mk (below_step bw hb);clear BK804;clear BK805;clear BK806;clear HB;have BK804:=n0_;have BK805:=n1_;have BK806:=n2_;have HB:=n3_;clear n0_ n1_ n2_ n3_;(try clear hb);(try clear hb2);(try clear hk);(try clear hi);have hnb14:=NB805_806.out;have hnc14:=NB806_805.out;have hcz15_0:w13.cell? ⟨gb805,0,none⟩ = some (.int .i64 a1):=(blk_cell BK805.out 0).trans rfl;have hfz15_0:=blk_frozen BK805.out 0;have hcz16_0:w13.cell? ⟨gb804,0,none⟩ = some (.int .i64 a0_0):=(blk_cell BK804.out 0).trans rfl;have hcz16_1:w13.cell? ⟨gb804,1,none⟩ = some (.slice A0_1 l0_1.length c0_1):=(blk_cell BK804.out 1).trans rfl;have hfz16_0:=blk_frozen BK804.out 0;have hfz16_1:=blk_frozen BK804.out 1)|(go_at_call 69;(with_reducible refine (impl_within.calls a1 0 (l0_1.length:Int) t808 _ A9.out).mono ?_);rintro e w' ⟨rfl,⟨nd,rfl⟩⟩))
   go_meet
   case rel=>exact ⟨_,(!t808),(by first|rfl|(simp;done)|(simp [*];done)),H',⟨by first|omega|exact Nat.le_refl _⟩,⟨by (with_reducible repeat (first|refine blk_drewN ?_ _|refine blk_drew ?_|refine blk_alloc ?_ _));exact BK804.out⟩,⟨by (with_reducible repeat (first|refine blk_drewN ?_ _|refine blk_drew ?_|refine blk_alloc ?_ _));exact BK805.out⟩,⟨by (with_reducible repeat (first|refine blk_drewN ?_ _|refine blk_drew ?_|refine blk_alloc ?_ _));exact BK806.out⟩,⟨by repeat (first|(with_reducible first|exact HB.out|apply below_alloc|apply pw_below_drewN|apply below_drew1|refine below_set ?_ GE804.out|refine below_set ?_ GE805.out|refine below_set ?_ GE806.out)|exact HB.out)⟩⟩
  ·replace c8:=Bool.eq_false_iff.mpr c8;subst c8;have H1:(impl_HeadsGame.j0 k true a0_0 l0_1 a1) = some (r1,r2,r3):=by rw [if_neg (show ¬ (false = true) by decide)] at H;exact H
   clear H;have H:=H1;clear H1;have H':=Aside0.mk H;clear H;have hnb17:=NB804_805.out;have hnc17:=NB805_804.out;have hnb18:=NB804_806.out;have hnc18:=NB806_804.out;have hcz19_0:w6.cell? ⟨gb804,0,none⟩ = some (.int .i64 a0_0):=(blk_cell BK804.out 0).trans rfl;have hcz19_1:w6.cell? ⟨gb804,1,none⟩ = some (.slice A0_1 l0_1.length c0_1):=(blk_cell BK804.out 1).trans rfl;have hfz19_0:=blk_frozen BK804.out 0;have hfz19_1:=blk_frozen BK804.out 1;go_wp2_with (first|((with_reducible refine gate_callee (f:=68) rfl ?_);refine goesL_ (some 8) rfl rfl Try.func68 (by kernel_rfl) rfl #[.agg #[.int .i64 a0_0,.slice A0_1 l0_1.length c0_1]] rfl mq ?_;(with_reducible refine (impl_IsCommittee.calls k a0_0 _ _ l0_1 false _ ?side1 ?side2 A7.out).mono ?_);(case side1=>repeat (first|exact (Kd.C_below HR0_1.out HB.out)|(with_reducible refine Kd.C_alloc ?_ _)|(with_reducible refine Kd.C_drewN ?_ _)|(with_reducible refine Kd.C_drew ?_)));(case side2=>exact HC0_1.out);rintro e w20 ⟨rfl,hb⟩;refine ⟨_,rfl,?_⟩;have n0_:=Aside0.mk (blk_below (g:=gb804) (o:=.cells #[.int .i64 a0_0,.slice A0_1 l0_1.length c0_1] 46 (0,0)) bk hb);have n1_:=Aside0.mk (blk_below (g:=gb805) (o:=.cells #[.int .i64 a1] 3 (0,0)) bk hb);have n2_:=Aside0.mk (blk_below (g:=gb806) (o:=.cells #[.int .i64 0,.slice none 0 0] 28 (0,0)) bk hb);have n3_:=Aside0.mk (below_step bw hb);clear BK804;clear BK805;clear BK806;clear HB;have BK804:=n0_;have BK805:=n1_;have BK806:=n2_;have HB:=n3_;clear n0_ n1_ n2_ n3_;(try clear hb);(try clear hb2);(try clear hk);(try clear hi)))
   go_meet
   case rel=>exact ⟨_,(true),(by first|rfl|(simp;done)|(simp [*];done)),H',⟨by first|omega|exact Nat.le_refl _⟩,⟨by (with_reducible repeat (first|refine blk_drewN ?_ _|refine blk_drew ?_|refine blk_alloc ?_ _));exact BK804.out⟩,⟨by (with_reducible repeat (first|refine blk_drewN ?_ _|refine blk_drew ?_|refine blk_alloc ?_ _));exact BK805.out⟩,⟨by (with_reducible repeat (first|refine blk_drewN ?_ _|refine blk_drew ?_|refine blk_alloc ?_ _));exact BK806.out⟩,⟨by repeat (first|(with_reducible first|exact HB.out|apply below_alloc|apply pw_below_drewN|apply below_drew1|refine below_set ?_ GE804.out|refine below_set ?_ GE805.out|refine below_set ?_ GE806.out)|exact HB.out)⟩⟩
 case rest =>
  clear HC3
  try clear c1
  try clear c2
  try clear p2
  try clear c6
  try clear c8
  try clear c10
  try clear c11
  try clear c14
  try clear c17
  try clear c18
  try clear hcz12_0
  try clear hcz12_1
  try clear hcz15_0
  try clear hcz16_0
  try clear hcz16_1
  try clear hcz19_0
  try clear hcz19_1
  try clear hfz12_0
  try clear hfz12_1
  try clear hfz15_0
  try clear hfz16_0
  try clear hfz16_1
  try clear hfz19_0
  try clear hfz19_1
  obtain ⟨kq,x17_2,rfl,HA,HJ2,BK804,BK805,BK806,HB⟩:=hcut
  cases kq with
  | zero=>exact absurd HA.out (by simp [impl_HeadsGame.j0])
  | succ kj2 =>
   have H:=HA.out;clear HA;simp only [impl_HeadsGame.j0] at H;by_cases c21:x17_2 = true
   ·subst c21;have H1:(some (0,([]:List (List Int)),false)) = some (r1,r2,r3):=by rw [if_pos rfl] at H;exact H
    clear H;have H:=H1;clear H1;simp only [Option.some.injEq,Prod.mk.injEq] at H;obtain ⟨rfl,rfl,rfl⟩:=H;have hnb22:=NB806_804.out;have hnc22:=NB804_806.out;have hnb23:=NB806_805.out;have hnc23:=NB805_806.out;have hcz24_0:wc.cell? ⟨gb806,0,none⟩ = some (.int .i64 0):=(blk_cell BK806.out 0).trans rfl;have hcz24_1:wc.cell? ⟨gb806,1,none⟩ = some (.slice none 0 0):=(blk_cell BK806.out 1).trans rfl;have hfz24_0:=blk_frozen BK806.out 0;have hfz24_1:=blk_frozen BK806.out 1;go_wp2
    refine bodyPost_ret (results_ct rfl _ _ gb806 28 #[.int .i64 0,.slice none 0 0] (0,0) _ rfl (by (with_reducible repeat (first|refine blk_drewN ?_ _|refine blk_drew ?_|refine blk_alloc ?_ _));refine blk_put (cs:=#[.int .i64 0,.slice none 0 0]) ?_ 1 _ rfl;(with_reducible repeat (first|refine blk_drewN ?_ _|refine blk_drew ?_|refine blk_alloc ?_ _));refine blk_put (cs:=#[.int .i64 0,.slice none 0 0]) ?_ 0 _ rfl;(with_reducible repeat (first|refine blk_drewN ?_ _|refine blk_drew ?_|refine blk_alloc ?_ _));exact BK806.out) Try.underlying28 rfl (by kernel_rfl)) rfl ?_;exact ⟨_,by first|rfl|(simp [errW_none,errW_some] <;> rfl)|(simp [*,errW_none,errW_some] <;> rfl),by first|exact Kd.S_nil _ _ _ _ _|exact Kd.N_nil _ _ _ _ _|exact Kd.V_nil _ _ _ _ _|exact Kd.Q_nil _ _ _ _ _|exact Kd.R_nil _ _ _ _ _,by repeat (first|(with_reducible first|exact HB.out|apply below_alloc|apply pw_below_drewN|apply below_drew1|refine below_set ?_ GE804.out|refine below_set ?_ GE805.out|refine below_set ?_ GE806.out)|exact HB.out)⟩
   ·replace c21:=Bool.eq_false_iff.mpr c21;subst c21;have H1:((impl_Committee_votes.f kj2 a0_0 l0_1).bind fun bt809=>((impl_votesOf.f kj2 bt809.1 (fun y0_=>impl_HeadsGame_1.f y0_ bt809.1 bt809.2 a1)).bind fun bt814=>((impl_votes_game.f kj2 bt814.1 bt814.2).bind fun bt818=>(some (bt818.1,bt818.2,true))))) = some (r1,r2,r3):=by rw [if_neg (show ¬ (false = true) by decide)] at H;exact H
    clear H;have H:=H1;clear H1;replace H:=Option.bind_eq_some_iff.mp H;obtain ⟨⟨t809,t810⟩,A250,H⟩:=H;replace H:((impl_votesOf.f kj2 t809 (fun y0_=>impl_HeadsGame_1.f y0_ t809 t810 a1)).bind fun bt814=>((impl_votes_game.f kj2 bt814.1 bt814.2).bind fun bt818=>(some (bt818.1,bt818.2,true)))) = some (r1,r2,r3):=H;have A25:=Aside0.mk A250;clear A250;replace H:=Option.bind_eq_some_iff.mp H;obtain ⟨⟨t814,t815⟩,A260,H⟩:=H;replace H:((impl_votes_game.f kj2 t814 t815).bind fun bt818=>(some (bt818.1,bt818.2,true))) = some (r1,r2,r3):=H;have A26:=Aside0.mk A260;clear A260;replace H:=Option.bind_eq_some_iff.mp H;obtain ⟨⟨t818,t819⟩,A270,H⟩:=H;replace H:(some (t818,t819,true)) = some (r1,r2,r3):=H;have A27:=Aside0.mk A270;clear A270;simp only [Option.some.injEq,Prod.mk.injEq] at H;obtain ⟨rfl,rfl,rfl⟩:=H;have hnb28:=NB804_805.out;have hnc28:=NB805_804.out;have hnb29:=NB804_806.out;have hnc29:=NB806_804.out;have hcz30_0:wc.cell? ⟨gb804,0,none⟩ = some (.int .i64 a0_0):=(blk_cell BK804.out 0).trans rfl;have hcz30_1:wc.cell? ⟨gb804,1,none⟩ = some (.slice A0_1 l0_1.length c0_1):=(blk_cell BK804.out 1).trans rfl;have hfz30_0:=blk_frozen BK804.out 0;have hfz30_1:=blk_frozen BK804.out 1;go_wp2_with (first|((with_reducible refine gate_callee (f:=70) rfl ?_);refine goesL_ (some 20) rfl rfl Try.func70 (by kernel_rfl) rfl #[.agg #[.int .i64 a0_0,.slice A0_1 l0_1.length c0_1]] rfl mq ?_;(with_reducible refine (impl_Committee_votes.calls kj2 a0_0 _ _ l0_1 t809 t810 _ ?side1 ?side2 A25.out).mono ?_);(case side1=>repeat (first|exact (Kd.C_below HR0_1.out HB.out)|(with_reducible refine Kd.C_alloc ?_ _)|(with_reducible refine Kd.C_drewN ?_ _)|(with_reducible refine Kd.C_drew ?_)));(case side2=>exact HC0_1.out);rintro e w31 ⟨v811,rfl,ho0,hb⟩;refine ⟨_,rfl,?_⟩;have n0_:=Aside0.mk (Kd.R_lower ho0 (below_size bw));have n1_:=Aside0.mk (blk_below (g:=gb804) (o:=.cells #[.int .i64 a0_0,.slice A0_1 l0_1.length c0_1] 46 (0,0)) bk hb);have n2_:=Aside0.mk (blk_below (g:=gb805) (o:=.cells #[.int .i64 a1] 3 (0,0)) bk hb);have n3_:=Aside0.mk (blk_below (g:=gb806) (o:=.cells #[.int .i64 0,.slice none 0 0] 28 (0,0)) bk hb);have n4_:=Aside0.mk (below_step bw hb);clear BK804;clear BK805;clear BK806;clear HB;have HO812:=n0_;have BK804:=n1_;have BK805:=n2_;have BK806:=n3_;have HB:=n4_;clear n0_ n1_ n2_ n3_ n4_;(try clear hb);(try clear hb2);(try clear hk);(try clear hi);(try clear ho0))|((with_reducible refine gate_dst (N:=6) rfl ?_);(try (refine gate_guard (by rfl) ?_;dsimp only));refine box_event ?hg (N:=6) ?hd (cs:=#[.int .i64 0,.slice none 0 0]) (t:=68) ?hr ?_;(case hd=>rfl);(case hg=>rfl);(case hr=>first|(go_simp;done)|(go_simp;rfl));intro gb813 hg w32 hbox hb;have n0_:=Aside0.mk (Kd.R_below (by (with_reducible repeat (first|apply Kd.R_alloc|apply Kd.R_drewN|apply Kd.R_drew));exact HO812.out) hb);have n1_:=Aside0.mk (blk_below (g:=gb804) (o:=.cells #[.int .i64 a0_0,.slice A0_1 l0_1.length c0_1] 46 (0,0)) bk hb);have n2_:=Aside0.mk (blk_below (g:=gb805) (o:=.cells #[.int .i64 a1] 3 (0,0)) bk hb);have n3_:=Aside0.mk (blk_below (g:=gb806) (o:=.cells #[.int .i64 0,.slice none 0 0] 28 (0,0)) bk hb);have n4_:=Aside0.mk (below_step bw hb);have n5_:=Aside0.mk (hbox);have n6_:=Aside0.mk ((by rw [hg];exact (below_size bw):w.heap.size ≤ gb813));have n7_:=Aside0.mk ((by rw [hg];exact (below_size bw):w.heap.size ≤ gb813));have n8_:=Aside0.mk ((by rw [hg];exact Nat.ne_of_lt (blk_lt (g:=gb804) (o:=.cells #[.int .i64 a0_0,.slice A0_1 l0_1.length c0_1] 46 (0,0)) bk):gb804 ≠ gb813));have n9_:=Aside0.mk ((by rw [hg];exact Nat.ne_of_gt (blk_lt (g:=gb804) (o:=.cells #[.int .i64 a0_0,.slice A0_1 l0_1.length c0_1] 46 (0,0)) bk):gb813 ≠ gb804));have n10_:=Aside0.mk ((by rw [hg];exact Nat.ne_of_lt (blk_lt (g:=gb805) (o:=.cells #[.int .i64 a1] 3 (0,0)) bk):gb805 ≠ gb813));have n11_:=Aside0.mk ((by rw [hg];exact Nat.ne_of_gt (blk_lt (g:=gb805) (o:=.cells #[.int .i64 a1] 3 (0,0)) bk):gb813 ≠ gb805));have n12_:=Aside0.mk ((by rw [hg];exact Nat.ne_of_lt (blk_lt (g:=gb806) (o:=.cells #[.int .i64 0,.slice none 0 0] 28 (0,0)) bk):gb806 ≠ gb813));have n13_:=Aside0.mk ((by rw [hg];exact Nat.ne_of_gt (blk_lt (g:=gb806) (o:=.cells #[.int .i64 0,.slice none 0 0] 28 (0,0)) bk):gb813 ≠ gb806));clear HO812;clear BK804;clear BK805;clear BK806;clear HB;have HO812:=n0_;have BK804:=n1_;have BK805:=n2_;have BK806:=n3_;have HB:=n4_;have BK813:=n5_;have GW813:=n6_;have GE813:=n7_;have NB804_813:=n8_;have NB813_804:=n9_;have NB805_813:=n10_;have NB813_805:=n11_;have NB806_813:=n12_;have NB813_806:=n13_;clear n0_ n1_ n2_ n3_ n4_ n5_ n6_ n7_ n8_ n9_ n10_ n11_ n12_ n13_;clear hb hbox hg;have hnb33:=NB813_804.out;have hnc33:=NB804_813.out;have hnb34:=NB813_805.out;have hnc34:=NB805_813.out;have hnb35:=NB813_806.out;have hnc35:=NB806_813.out;have hcz36_0:w32.cell? ⟨gb813,0,none⟩ = some (.int .i64 0):=(blk_cell BK813.out 0).trans rfl;have hcz36_1:w32.cell? ⟨gb813,1,none⟩ = some (.slice none 0 0):=(blk_cell BK813.out 1).trans rfl;have hfz36_0:=blk_frozen BK813.out 0;have hfz36_1:=blk_frozen BK813.out 1;obtain ⟨Ao37,co37,eo37⟩:=Kd.R_slice HO812.out;subst eo37)|((with_reducible refine gate_callee (f:=71) rfl ?_);refine goesL_ (some 24) rfl rfl Try.func71 (by kernel_rfl) rfl #[.int .i64 t809,.func (.func 72) #[] #[.pointer (some ⟨gb813,0,none⟩),.pointer (some ⟨gb805,0,none⟩)]] rfl mq ?_;(with_reducible refine (impl_votesOf.calls kj2 t809 (fun y0_=>impl_HeadsGame_1.f y0_ t809 t810 a1) 72 #[.pointer (some ⟨gb813,0,none⟩),.pointer (some ⟨gb805,0,none⟩)] impl_HeadsGame_1.enters t814 t815 _ ?side1 A26.out).mono ?_);(case side1=>exact (fun W_ a0_ r0_ hx_ hb_ =>(impl_HeadsGame_1.calls a0_ gb813 t809 _ _ t810 gb805 a1 r0_ W_  (Kd.C_below (by refine (Kd.R_reads' (e:=4) (base:=w.heap.size) (ok:=fun k_=>True) (n:=t810.length) (c:=co37) ?_).2.2;exact (by (with_reducible repeat (first|apply Kd.R_alloc|apply Kd.R_drewN|apply Kd.R_drew));exact (Kd.R_mono (Kd.R_far (p:=⟨gb813,1,none⟩) (Kd.R_far (p:=⟨gb813,0,none⟩) (Kd.R_types HO812.out BK813.out (by decide)) (fun _ hk=>hk.2) (.int .i64 t809)) (fun _ hk=>hk.2) (.slice Ao37 t810.length co37)) (fun _ h_=>h_.1)))) hb_) (by exact (Kd.R_reads' HO812.out).2.1) (box_later (by (with_reducible repeat (first|refine blk_drewN ?_ _|refine blk_drew ?_|refine blk_alloc ?_ _));refine blk_put (cs:=#[.int .i64 t809,.slice none 0 0]) ?_ 1 _ rfl;(with_reducible repeat (first|refine blk_drewN ?_ _|refine blk_drew ?_|refine blk_alloc ?_ _));refine blk_put (cs:=#[.int .i64 0,.slice none 0 0]) ?_ 0 _ rfl;(with_reducible repeat (first|refine blk_drewN ?_ _|refine blk_drew ?_|refine blk_alloc ?_ _));exact BK813.out) hb_) (box_later (by (with_reducible repeat (first|refine blk_drewN ?_ _|refine blk_drew ?_|refine blk_alloc ?_ _));refine blk_far ?_ NB805_813.out _;(with_reducible repeat (first|refine blk_drewN ?_ _|refine blk_drew ?_|refine blk_alloc ?_ _));refine blk_far ?_ NB805_813.out _;(with_reducible repeat (first|refine blk_drewN ?_ _|refine blk_drew ?_|refine blk_alloc ?_ _));exact BK805.out) hb_) NB813_805.out hx_).mono (fun _ _ h_=>⟨h_.1,h_.2.below⟩)));rintro e w38 ⟨v816,rfl,ho0,hb⟩;refine ⟨_,rfl,?_⟩;have n0_:=Aside0.mk (Kd.R_elder' (by (with_reducible repeat (first|apply Kd.R_alloc|apply Kd.R_drewN|apply Kd.R_drew));exact (Kd.R_mono (Kd.R_far (p:=⟨gb813,1,none⟩) (Kd.R_far (p:=⟨gb813,0,none⟩) (Kd.R_types HO812.out BK813.out (by decide)) (fun _ hk=>hk.2) (.int .i64 t809)) (fun _ hk=>hk.2) (.slice Ao37 t810.length co37)) (fun _ h_=>h_.1))) (Kd.R_base ho0) hb);have n1_:=Aside0.mk (Kd.R_lower (Kd.R_new' ho0 (Kd.R_lt (by (with_reducible repeat (first|apply Kd.R_alloc|apply Kd.R_drewN|apply Kd.R_drew));exact (Kd.R_mono (Kd.R_far (p:=⟨gb813,1,none⟩) (Kd.R_far (p:=⟨gb813,0,none⟩) (Kd.R_types HO812.out BK813.out (by decide)) (fun _ hk=>hk.2) (.int .i64 t809)) (fun _ hk=>hk.2) (.slice Ao37 t810.length co37)) (fun _ h_=>h_.1))))) (below_size bw));have n2_:=Aside0.mk (blk_below (g:=gb804) (o:=.cells #[.int .i64 a0_0,.slice A0_1 l0_1.length c0_1] 46 (0,0)) (by (with_reducible repeat (first|refine blk_drewN ?_ _|refine blk_drew ?_|refine blk_alloc ?_ _));refine blk_far ?_ NB804_813.out _;(with_reducible repeat (first|refine blk_drewN ?_ _|refine blk_drew ?_|refine blk_alloc ?_ _));refine blk_far ?_ NB804_813.out _;(with_reducible repeat (first|refine blk_drewN ?_ _|refine blk_drew ?_|refine blk_alloc ?_ _));exact BK804.out) hb);have n3_:=Aside0.mk (blk_below (g:=gb805) (o:=.cells #[.int .i64 a1] 3 (0,0)) (by (with_reducible repeat (first|refine blk_drewN ?_ _|refine blk_drew ?_|refine blk_alloc ?_ _));refine blk_far ?_ NB805_813.out _;(with_reducible repeat (first|refine blk_drewN ?_ _|refine blk_drew ?_|refine blk_alloc ?_ _));refine blk_far ?_ NB805_813.out _;(with_reducible repeat (first|refine blk_drewN ?_ _|refine blk_drew ?_|refine blk_alloc ?_ _));exact BK805.out) hb);have n4_:=Aside0.mk (blk_below (g:=gb806) (o:=.cells #[.int .i64 0,.slice none 0 0] 28 (0,0)) (by (with_reducible repeat (first|refine blk_drewN ?_ _|refine blk_drew ?_|refine blk_alloc ?_ _));refine blk_far ?_ NB806_813.out _;(with_reducible repeat (first|refine blk_drewN ?_ _|refine blk_drew ?_|refine blk_alloc ?_ _));refine blk_far ?_ NB806_813.out _;(with_reducible repeat (first|refine blk_drewN ?_ _|refine blk_drew ?_|refine blk_alloc ?_ _));exact BK806.out) hb);have n5_:=Aside0.mk (blk_below (g:=gb813) (o:=.cells #[.int .i64 t809,.slice Ao37 t810.length co37] 68 (0,0)) (by (with_reducible repeat (first|refine blk_drewN ?_ _|refine blk_drew ?_|refine blk_alloc ?_ _));refine blk_put (cs:=#[.int .i64 t809,.slice none 0 0]) ?_ 1 _ rfl;(with_reducible repeat (first|refine blk_drewN ?_ _|refine blk_drew ?_|refine blk_alloc ?_ _));refine blk_put (cs:=#[.int .i64 0,.slice none 0 0]) ?_ 0 _ rfl;(with_reducible repeat (first|refine blk_drewN ?_ _|refine blk_drew ?_|refine blk_alloc ?_ _));exact BK813.out) hb);have n6_:=Aside0.mk (below_step bw hb);clear HO812;clear BK804;clear BK805;clear BK806;clear BK813;clear HB;have HO812:=n0_;have HO817:=n1_;have BK804:=n2_;have BK805:=n3_;have BK806:=n4_;have BK813:=n5_;have HB:=n6_;clear n0_ n1_ n2_ n3_ n4_ n5_ n6_;(try clear hb);(try clear hb2);(try clear hk);(try clear hi);(try clear ho0);obtain ⟨Ao39,co39,eo39⟩:=Kd.R_slice HO817.out;subst eo39)|((with_reducible refine gate_callee (f:=74) rfl ?_);refine goesL_ (some 25) rfl rfl Try.func74 (by kernel_rfl) rfl #[.agg #[.int .i64 t814,.slice Ao39 t815.length co39]] rfl mq ?_;(with_reducible refine (impl_votes_game.calls kj2 t814 _ _ t815 t818 t819 _ ?side1 ?side2 A27.out).mono ?_);(case side1=>repeat (first|exact (Kd.R_reads' HO817.out).2.2|(with_reducible refine Kd.C_alloc ?_ _)|(with_reducible refine Kd.C_drewN ?_ _)|(with_reducible refine Kd.C_drew ?_)));(case side2=>exact (Kd.R_reads' HO817.out).2.1);rintro e w40 ⟨v820,rfl,ho0,hb⟩;refine ⟨_,rfl,?_⟩;have n0_:=Aside0.mk (Kd.R_below (by (with_reducible repeat (first|apply Kd.R_alloc|apply Kd.R_drewN|apply Kd.R_drew));exact HO812.out) hb);have n1_:=Aside0.mk (Kd.R_below (by (with_reducible repeat (first|apply Kd.R_alloc|apply Kd.R_drewN|apply Kd.R_drew));exact HO817.out) hb);have n2_:=Aside0.mk (Kd.S_lower (Kd.S_newB ho0 (g:=gb805) (o:=.cells #[.int .i64 a1] 3 (0,0)) bk) (below_size bw));have n3_:=Aside0.mk (blk_below (g:=gb804) (o:=.cells #[.int .i64 a0_0,.slice A0_1 l0_1.length c0_1] 46 (0,0)) bk hb);have n4_:=Aside0.mk (blk_below (g:=gb805) (o:=.cells #[.int .i64 a1] 3 (0,0)) bk hb);have n5_:=Aside0.mk (blk_below (g:=gb806) (o:=.cells #[.int .i64 0,.slice none 0 0] 28 (0,0)) bk hb);have n6_:=Aside0.mk (blk_below (g:=gb813) (o:=.cells #[.int .i64 t809,.slice Ao37 t810.length co37] 68 (0,0)) bk hb);have n7_:=Aside0.mk (below_step bw hb);clear HO812;clear HO817;clear BK804;clear BK805;clear BK806;clear BK813;clear HB;have HO812:=n0_;have HO817:=n1_;have HO821:=n2_;have BK804:=n3_;have BK805:=n4_;have BK806:=n5_;have BK813:=n6_;have HB:=n7_;clear n0_ n1_ n2_ n3_ n4_ n5_ n6_ n7_;(try clear hb);(try clear hb2);(try clear hk);(try clear hi);(try clear ho0);have hnb41:=NB806_805.out;have hnc41:=NB805_806.out;have hcz42_0:w40.cell? ⟨gb806,0,none⟩ = some (.int .i64 0):=(blk_cell BK806.out 0).trans rfl;have hcz42_1:w40.cell? ⟨gb806,1,none⟩ = some (.slice none 0 0):=(blk_cell BK806.out 1).trans rfl;have hfz42_0:=blk_frozen BK806.out 0;have hfz42_1:=blk_frozen BK806.out 1;obtain ⟨Ao43,co43,eo43⟩:=Kd.S_slice HO821.out;subst eo43))
    refine bodyPost_ret (results_ct rfl _ _ gb806 28 #[.int .i64 t818,.slice Ao43 t819.length co43] (0,0) _ rfl (by (with_reducible repeat (first|refine blk_drewN ?_ _|refine blk_drew ?_|refine blk_alloc ?_ _));refine blk_put (cs:=#[.int .i64 t818,.slice none 0 0]) ?_ 1 _ rfl;(with_reducible repeat (first|refine blk_drewN ?_ _|refine blk_drew ?_|refine blk_alloc ?_ _));refine blk_put (cs:=#[.int .i64 0,.slice none 0 0]) ?_ 0 _ rfl;(with_reducible repeat (first|refine blk_drewN ?_ _|refine blk_drew ?_|refine blk_alloc ?_ _));exact BK806.out) Try.underlying28 rfl (by kernel_rfl)) rfl ?_;exact ⟨_,by first|rfl|(simp [errW_none,errW_some] <;> rfl)|(simp [*,errW_none,errW_some] <;> rfl),by (with_reducible repeat (first|apply Kd.S_alloc|apply Kd.S_drewN|apply Kd.S_drew));exact Kd.S_mono (Kd.S_far (p:=⟨gb806,1,none⟩) (Kd.S_far (p:=⟨gb806,0,none⟩) (Kd.S_types HO821.out BK806.out (by decide)) (fun _ hk=>hk.2) (.int .i64 t818)) (fun _ hk=>hk.2) (.slice Ao43 t819.length co43)) (fun _ hk=>trivial),by repeat (first|(with_reducible first|exact HB.out|apply below_alloc|apply pw_below_drewN|apply below_drew1|refine below_set ?_ GE804.out|refine below_set ?_ GE805.out|refine below_set ?_ GE806.out|refine below_set ?_ GE813.out)|exact HB.out)⟩

end Go.Proofs.Ytokelcedamegbaa.P
