/- Part 7 of the texts below the law FnExactCouncilGame. Printed by this session's driver over the kit's printer, but for the hand contracts and the plain laws. -/
import Derived.Test.YtokelcedamegbaaCCouncilGame1
import Derived.Test.YtokelcedamegbaaCCouncilGame4
import Derived.Test.YtokelcedamegbaaCCouncilGame5
import Derived.Test.YtokelcedamegbaaCCouncilGame6
set_option linter.unusedVariables false
set_option linter.unusedSimpArgs false
namespace Go.Proofs.Ytokelcedamegbaa.P
/-- The pure statement of FnExactCouncilGame. -/
def laws_FnExactCouncilGame.Pure : Prop := ∀ (a0_0 : Int) (l0_1 : List Int) (l1 : List (S_laws_Committee)), okI a0_0 → (okL okI) l0_1 → (okL ok_laws_Committee) l1 → ∃ k, laws_FnExactCouncilGame.f k a0_0 l0_1 l1 = some true
end Go.Proofs.Ytokelcedamegbaa.P

/- The least winning sets, in order. -/
namespace Go.Proofs.Ytokelcedamegbaa.P
open Go.RowKit Go.Proofs.YtokelcedamegbaaW.PrintWords Go.Proofs.YtokelcedamegbaaW.PrintLast Go.Proofs.YtokelcedamegbaaW.PrintMore
theorem andNot512 : ((List.range 512).all fun m => (List.range 9).all fun i => !(m.testBit i) || Go.bits .andNot .i64 (m : Int) ((2 ^ i : Nat) : Int) == ((m - 2 ^ i : Nat) : Int)) = true := by decide +kernel
theorem andNot_pow {m i : Nat} (h : m < 512) (hi : i < 9) (hb : m.testBit i = true) : Go.bits .andNot .i64 (m : Int) ((2 ^ i : Nat) : Int) = ((m - 2 ^ i : Nat) : Int) := by
  have h1 := andNot512
  rw [List.all_eq_true] at h1
  have h2 := h1 m (List.mem_range.2 h)
  rw [List.all_eq_true] at h2
  simpa [hb] using h2 i (List.mem_range.2 hi)
theorem pow_le_of_bit {m i : Nat} (h : m.testBit i = true) : 2 ^ i ≤ m := Nat.ge_two_pow_of_testBit h
theorem sub_pow {m b : Nat} (h : 2 ^ b ≤ m) (h5 : m < 512) : wrap64 ((m : Int) - ((2 ^ b : Nat) : Int)) = ((m - 2 ^ b : Nat) : Int) := by
  generalize 2 ^ b = q at h ⊢
  rw [w64 (by omega) (by omega)]; omega
/-- A set wins, but none that lacks one of it. -/
def lstP (w : List Bool) (m : Nat) (i : Nat) : Bool := !(m.testBit i && w.getD (m - 2 ^ i) false)
def lstB (w : List Bool) (n m : Nat) : Bool := w.getD m false && (List.range n).all (lstP w m)
theorem range_drop (n i : Nat) (h : i < n) : (List.range n).drop i = i :: (List.range n).drop (i + 1) := by
  rw [drop_getD (List.range n) 0 i (by rw [List.length_range]; exact h)]
  congr 1
  rw [List.getD_eq_getElem?_getD, List.getElem?_range h]
  rfl
theorem impl_votes_isLeast.ev (n : Nat) (w : List Bool) (m : Nat) (hw : w.length = 2 ^ n) (hn : n ≤ 9) (hm : m < 2 ^ n) : Ev (fun k => impl_votes_isLeast.f k (n : Int) w (m : Int)) (lstB w n m) := by
  have h9 : 2 ^ n ≤ 512 := pow_small (m := 9) hn
  unfold impl_votes_isLeast.f lstB
  refine Ev.ite_pos (by omega) (Ev.ite_pos (by omega) ?_)
  rw [rdB_nat]
  cases hwm : w.getD m false with
  | false => exact Ev.ite_neg (by decide) Ev.some
  | true =>
    refine Ev.ite_pos rfl ?_
    have key := Ev.down (G := fun i k => impl_votes_isLeast.l0 k (m : Int) (n : Int) (i : Int) (n : Int) w) (R := fun i => ((List.range n).drop i).all (lstP w m)) n
      (by refine Ev.shift ?_
          simp only [impl_votes_isLeast.l0]
          refine Ev.ite_neg (by omega) ?_
          rw [List.drop_eq_nil_of_le (by rw [List.length_range]; exact Nat.le_refl _)]
          exact Ev.some)
      (fun i hi ih => by
        refine Ev.shift ?_
        simp only [impl_votes_isLeast.l0]
        refine Ev.ite_pos (by omega) ?_
        rw [range_drop n i hi, List.all_cons]
        refine Ev.bind (Ev.one (impl_has.eq m i (by omega) (by omega))) ?_
        cases ht : m.testBit i with
        | false =>
          refine Ev.ite_neg (by decide) ?_
          rw [w1 hi (by omega)]
          have e : lstP w m i = true := by unfold lstP; rw [ht]; rfl
          rw [e, Bool.true_and]
          exact ih
        | true =>
          refine Ev.ite_pos rfl (Ev.ite_pos (by omega) ?_)
          rw [shl_one i (by omega), andNot_pow (by omega) (by omega) ht]
          have hlt : m - 2 ^ i < w.length := by rw [hw]; exact Nat.lt_of_le_of_lt (Nat.sub_le _ _) hm
          refine Ev.ite_pos (Int.natCast_nonneg _) (Ev.ite_pos (Int.ofNat_lt.2 hlt) ?_)
          rw [rdB_nat]
          have e : lstP w m i = !(w.getD (m - 2 ^ i) false) := by unfold lstP; rw [ht, Bool.true_and]
          rw [e]
          cases hv : w.getD (m - 2 ^ i) false with
          | true => exact Ev.ite_pos rfl Ev.some
          | false =>
            refine Ev.ite_neg (by decide) ?_
            rw [w1 hi (by omega)]
            exact ih)
    exact key 0 (Nat.zero_le _)
theorem impl_setOf.ev (m : Nat) (h : m < 512) : Ev (fun k => impl_setOf.f k (m : Int)) (sel 9 m.testBit) := by
  unfold impl_setOf.f
  have key := Ev.down (G := fun i k => impl_setOf.l0 k (m : Int) (sel i m.testBit) (i : Int)) (R := fun _ => sel 9 m.testBit) 9
    (by refine Ev.shift ?_
        have c0 : (0 : Int) ≤ ((9 : Nat) : Int) := by omega
        have e : m / 2 ^ 9 = 0 := Nat.div_eq_of_lt h
        have c : ¬ (((0 : Nat) : Int) > 0) := by omega
        simp only [impl_setOf.l0, c0, ↓reduceIte, shr_nat m 9 (by omega), e, c]
        exact Ev.some)
    (fun i hi ih => by
      refine Ev.shift ?_
      have c0 : (0 : Int) ≤ (i : Int) := by omega
      have c2 : (sel i m.testBit).length < 17592186044416 := by have := sel_len i m.testBit; omega
      have hlt2 : m / 2 ^ i < 2 ^ 63 := Nat.lt_of_le_of_lt (Nat.div_le_self _ _) (by omega)
      rw [sel_succ] at ih
      simp only [impl_setOf.l0, c0, ↓reduceIte, shr_nat m i (by omega), and_one _ hlt2, c2, w1 hi (by omega)]
      by_cases hz : m / 2 ^ i = 0
      · have c : ¬ (((m / 2 ^ i : Nat) : Int) > 0) := by rw [hz]; decide
        simp only [c, ↓reduceIte]
        refine Ev.eq Ev.some ?_
        have hlt : m < 2 ^ i := by
          rcases Nat.div_eq_zero_iff.1 hz with h | h
          · exact absurd h (by have := Nat.two_pow_pos i; omega)
          · exact h
        have := sel_more i (9 - i) m hlt
        rw [show i + (9 - i) = 9 by omega] at this
        exact this.symm
      · have c : (((m / 2 ^ i : Nat) : Int) > 0) := Int.natCast_pos.2 (Nat.pos_of_ne_zero hz)
        simp only [c, ↓reduceIte]
        cases hb : m.testBit i with
        | true =>
          rw [bit_nat, decide_eq_true_eq] at hb
          have c3 : ((m / 2 ^ i % 2 : Nat) : Int) = 1 := by omega
          rw [bit_nat, show decide (m / 2 ^ i % 2 = 1) = true from decide_eq_true hb, if_pos rfl] at ih
          simp only [c3, ↓reduceIte]
          exact ih
        | false =>
          rw [hb, if_neg (by decide), List.append_nil] at ih
          rw [bit_nat, decide_eq_false_iff_not] at hb
          have c3 : ¬ ((m / 2 ^ i % 2 : Nat) : Int) = 1 := by omega
          simp only [c3, ↓reduceIte]
          exact ih)
  exact key 0 (by omega)
/-- The sets that a function is true of, among the first so many; in order. -/
def setsTo (P : Nat → Bool) (i : Nat) : List (List Int) := ((List.range i).filter P).map fun m => sel 9 m.testBit
def setsR (P : Nat → Bool) (n : Nat) : List (List Int) := sorted (setsTo P (2 ^ n))
theorem setsTo_succ (P : Nat → Bool) (i : Nat) : setsTo P (i + 1) = setsTo P i ++ (if P i = true then [sel 9 i.testBit] else []) := by
  unfold setsTo
  rw [List.range_succ, List.filter_append, List.map_append]
  cases h : P i with
  | true => rw [List.filter_cons_of_pos h]; simp
  | false => rw [List.filter_cons_of_neg (by simp [h])]; simp
theorem setsTo_len (P : Nat → Bool) (i : Nat) : (setsTo P i).length ≤ i ∧ ∀ x ∈ setsTo P i, x.length ≤ 9 := by
  refine ⟨?_, fun x hx => ?_⟩
  · unfold setsTo
    rw [List.length_map]
    exact Nat.le_trans (List.length_filter_le _ _) (by rw [List.length_range]; exact Nat.le_refl _)
  · obtain ⟨m, _, rfl⟩ := List.mem_map.1 hx
    exact sel_len 9 _
theorem setsR_len (P : Nat → Bool) (n : Nat) : (setsR P n).length ≤ 2 ^ n ∧ ∀ x ∈ setsR P n, x.length ≤ 9 := by
  obtain ⟨h1, h2⟩ := setsTo_len P (2 ^ n)
  have hp := sorted_perm (setsTo P (2 ^ n))
  exact ⟨by unfold setsR; rw [hp.length_eq]; exact h1, fun x hx => h2 x (hp.mem_iff.1 hx)⟩
/-- What is told of all pairs stands from one round on. -/
theorem Ev.pairs {α β : Type} {p : Nat → α → α → Option β} {P : α → α → β} (l : List α) (h : ∀ x ∈ l, ∀ y ∈ l, Ev (fun k => p k x y) (P x y)) : ∃ K, ∀ k, K ≤ k → ∀ x ∈ l, ∀ y ∈ l, p k x y = Option.some (P x y) := by
  obtain ⟨K, hK⟩ := Ev.all (p := fun k (z : α × α) => p k z.1 z.2) (P := fun z => P z.1 z.2) (l.flatMap fun x => l.map fun y => (x, y)) (fun z hz => by
    obtain ⟨x, hx, hz⟩ := List.mem_flatMap.1 hz
    obtain ⟨y, hy, rfl⟩ := List.mem_map.1 hz
    exact h x hx y hy)
  exact ⟨K, fun k hk x hx y hy => hK k hk (x, y) (List.mem_flatMap.2 ⟨x, hx, List.mem_map.2 ⟨y, hy, rfl⟩⟩)⟩
theorem slices_SortFunc_LLint_Lint.ev (l : List (List Int)) (hl : l.length ≤ 1000000) (hx : ∀ x ∈ l, x.length ≤ 1000000) : Ev (fun k => slices_SortFunc_LLint_Lint.f k l (fun x y => slices_Compare_int_int.f k x y)) (sorted l) := by
  obtain ⟨K, hK⟩ := Ev.pairs (p := fun k x y => slices_Compare_int_int.f k x y) (P := lexc) l (fun x h _ _ => slices_Compare_int_int.ev x _ (by have := hx x h; omega))
  exact ⟨K, fun k hk => if_pos ⟨hl, hK k hk⟩⟩
theorem spec_voSorted.ev (l : List (List Int)) (hl : l.length ≤ 1000000) (hx : ∀ x ∈ l, x.length ≤ 1000000) : Ev (fun k => spec_voSorted.f k l) (sorted l) := by
  obtain ⟨K, hK⟩ := Ev.pairs (p := fun k x y => spec_voBefore.f k x y) (P := fun x y => decide (lexc x y < 0)) l (fun x h _ _ => spec_voBefore.ev x _ (by have := hx x h; omega))
  exact ⟨K, fun k hk => if_pos ⟨hl, hK k hk⟩⟩
theorem impl_votes_sets.ev (n : Nat) (w : List Bool) (hw : w.length = 2 ^ n) (hn : n ≤ 9) (p : Nat → Int → Option Bool) (P : Nat → Bool) (h : ∀ b : Nat, b < 2 ^ n → Ev (fun k => p k (b : Int)) (P b)) : Ev (fun k => impl_votes_sets.f k (n : Int) w (p k)) (setsR P n) := by
  have h9 : 2 ^ n ≤ 512 := pow_small (m := 9) hn
  unfold impl_votes_sets.f
  obtain ⟨K, hK⟩ := Ev.all (p := fun k (b : Nat) => p k (b : Int)) (P := P) (List.range (2 ^ n)) (fun b hb => h b (List.mem_range.1 hb))
  have hq : ∀ k, K ≤ k → ∀ b : Nat, b < 2 ^ n → p k (b : Int) = some (P b) := fun k hk b hb => hK k hk b (List.mem_range.2 hb)
  obtain ⟨hl1, hl2⟩ := setsTo_len P (2 ^ n)
  obtain ⟨K2, hK2⟩ := slices_SortFunc_LLint_Lint.ev (setsTo P (2 ^ n)) (by omega) (fun x hx => by have := hl2 x hx; omega)
  obtain ⟨K3, hK3⟩ := Ev.all (p := fun k (b : Nat) => impl_setOf.f k (b : Int)) (P := fun b => sel 9 b.testBit) (List.range (2 ^ n)) (fun b hb => impl_setOf.ev b (by have := List.mem_range.1 hb; omega))
  have hlen : (w.length : Int) = ((2 ^ n : Nat) : Int) := by rw [hw]
  have main : ∀ q : Int → Option Bool, (∀ b : Nat, b < 2 ^ n → q (b : Int) = some (P b)) → ∀ d i, i + d = 2 ^ n → ∀ k, K2 + K3 + d < k → impl_votes_sets.l0 k q (setsTo P i) ((2 ^ n : Nat) : Int) (i : Int) = some (setsR P n) := by
    intro q hq d
    induction d with
    | zero =>
      intro i hi k hk
      obtain ⟨k, rfl⟩ : ∃ j, k = j + 1 := ⟨k - 1, by omega⟩
      rw [impl_votes_sets.l0, if_neg (by omega), show i = 2 ^ n by omega, show slices_SortFunc_LLint_Lint.f k (setsTo P (2 ^ n)) (fun y0_ y1_ => slices_Compare_int_int.f k y0_ y1_) = some (sorted (setsTo P (2 ^ n))) from hK2 k (by omega)]
      rfl
    | succ d ih =>
      intro i hi k hk
      obtain ⟨k, rfl⟩ : ∃ j, k = j + 1 := ⟨k - 1, by omega⟩
      have hlt : i < 2 ^ n := by omega
      have ih := ih (i + 1) (by omega) k (by omega)
      rw [setsTo_succ] at ih
      rw [impl_votes_sets.l0, if_pos (by omega), hq i hlt, Option.bind_some, w1 hlt (by omega)]
      cases hP : P i with
      | true =>
        rw [hP, if_pos rfl] at ih
        have hl := (setsTo_len P i).1
        rw [if_pos rfl, hK3 k (by omega) i (List.mem_range.2 hlt), Option.bind_some, if_pos (by omega)]
        exact ih
      | false =>
        rw [hP, if_neg (by decide), List.append_nil] at ih
        rw [if_neg (by decide)]
        exact ih
  refine ⟨K + K2 + K3 + 2 ^ n + 1, fun k hk => ?_⟩
  rw [hlen]
  exact main (p k) (hq k (by omega)) (2 ^ n) 0 (by omega) k (by omega)
/-- The game's sets. -/
def gsets (w : List Bool) (n : Nat) : List (List Int) := setsR (lstB w n) n
theorem impl_votes_game.ev (n : Nat) (w : List Bool) (hw : w.length = 2 ^ n) (hn : n ≤ 9) : Ev (fun k => impl_votes_game.f k (n : Int) w) ((n : Int), gsets w n) := by
  unfold impl_votes_game.f impl_votes_least.f
  exact Ev.bind (impl_votes_sets.ev n w hw hn (fun k y => impl_votes_isLeast.f k (n : Int) w y) (lstB w n) (fun b hb => impl_votes_isLeast.ev n w b hw hn hb)) Ev.some
theorem sel_all_q (w : List Bool) (n m : Nat) (hn : n ≤ 9) (hm : m < 2 ^ n) : (sel 9 m.testBit).all (fun x => !(w.getD (m - 2 ^ x.toNat) false)) = (List.range n).all (lstP w m) := by
  have e := sel_more n (9 - n) m hm
  rw [show n + (9 - n) = 9 by omega] at e
  rw [e]
  unfold sel
  rw [List.all_map, List.all_filter]
  congr 1
  funext i
  simp only [Function.comp, Int.toNat_natCast, lstP, Bool.not_and]
theorem spec_voLeast.ev (n : Nat) (w : List Bool) (hw : w.length = 2 ^ n) (hn : n ≤ 9) : Ev (fun k => spec_voLeast.f k w) (gsets w n) := by
  have h9 : 2 ^ n ≤ 512 := pow_small (m := 9) hn
  unfold spec_voLeast.f
  obtain ⟨hl1, hl2⟩ := setsTo_len (lstB w n) (2 ^ n)
  have key := Ev.down (G := fun i k => spec_voLeast.l0 k w (setsTo (lstB w n) i) w (w.length : Int) (i : Int)) (R := fun _ => gsets w n) (2 ^ n)
    (by refine Ev.shift ?_
        simp only [spec_voLeast.l0]
        refine Ev.ite_neg (by omega) ?_
        exact Ev.bind (spec_voSorted.ev _ (by omega) (fun x hx => by have := hl2 x hx; omega)) Ev.some)
    (fun m hm ih => by
      refine Ev.shift ?_
      simp only [spec_voLeast.l0]
      refine Ev.ite_pos (by omega) (Ev.ite_pos (by omega) (Ev.ite_pos (by omega) ?_))
      rw [rdB_nat]
      rw [setsTo_succ] at ih
      unfold lstB at ih
      rw [show (lstB w n) = fun m => w.getD m false && (List.range n).all (lstP w m) from rfl]
      cases hwm : w.getD m false with
      | false =>
        rw [hwm, Bool.false_and, if_neg (by decide), List.append_nil] at ih
        refine Ev.ite_neg (by decide) ?_
        rw [w1 hm (by omega)]
        exact ih
      | true =>
        rw [hwm, Bool.true_and, ← sel_all_q w n m hn hm] at ih
        refine Ev.ite_pos rfl ?_
        refine Ev.bind (spec_voList.ev m (by omega)) ?_
        have sl := sel_len 9 m.testBit
        have sm : ∀ x ∈ sel 9 m.testBit, ∃ b : Nat, x = (b : Int) ∧ b < 9 ∧ m.testBit b = true := fun x hx => by
          unfold sel at hx
          obtain ⟨b, hb, rfl⟩ := List.mem_map.1 hx
          rw [List.mem_filter] at hb
          exact ⟨b, rfl, List.mem_range.1 hb.1, hb.2⟩
        have hlsz := (setsTo_len (fun m => w.getD m false && (List.range n).all (lstP w m)) m).1
        have voL := spec_voList.ev m (show m < 512 by omega)
        generalize sel 9 m.testBit = L at ih sl sm voL ⊢
        have key2 := Ev.down (G := fun i k => spec_voLeast.l1 k w (setsTo (fun m => w.getD m false && (List.range n).all (lstP w m)) m) (m : Int) ((L.take i).all (fun x => !(w.getD (m - 2 ^ x.toNat) false))) w (w.length : Int) (m : Int) L (L.length : Int) (i : Int)) (R := fun _ => gsets w n) L.length
          (by refine Ev.shift ?_
              simp only [spec_voLeast.l1]
              refine Ev.ite_neg (by omega) ?_
              rw [List.take_length]
              cases hq : L.all (fun x => !(w.getD (m - 2 ^ x.toNat) false)) with
              | true =>
                rw [hq, if_pos rfl] at ih
                refine Ev.ite_pos rfl (Ev.bind voL (Ev.ite_pos (by omega) ?_))
                rw [w1 hm (by omega)]
                exact ih
              | false =>
                rw [hq, if_neg (by decide), List.append_nil] at ih
                refine Ev.ite_neg (by decide) ?_
                rw [w1 hm (by omega)]
                exact ih)
          (fun i hi ih2 => by
            refine Ev.shift ?_
            simp only [spec_voLeast.l1]
            refine Ev.ite_pos (by omega) (Ev.ite_pos (by omega) (Ev.ite_pos (by omega) ?_))
            rw [w1 hi (by omega), rd_nat]
            rw [take_getD L 0 i hi, List.all_append] at ih2
            obtain ⟨b, eb, hb9, hbt⟩ := sm _ (getD_mem L 0 i hi)
            have hp := pow_le_of_bit hbt
            cases hq : (L.take i).all (fun x => !(w.getD (m - 2 ^ x.toNat) false)) with
            | false =>
              rw [hq, Bool.false_and] at ih2
              exact Ev.ite_neg (by decide) ih2
            | true =>
              rw [hq, Bool.true_and, List.all_cons, List.all_nil, Bool.and_true, eb, Int.toNat_natCast] at ih2
              refine Ev.ite_pos rfl ?_
              rw [eb, shl_one b (by omega)]
              have hlt : m - 2 ^ b < w.length := by rw [hw]; exact Nat.lt_of_le_of_lt (Nat.sub_le _ _) hm
              rw [sub_pow hp (by omega)]
              refine Ev.ite_pos (by omega) (Ev.ite_pos (Int.natCast_nonneg _) (Ev.ite_pos (Int.ofNat_lt.2 hlt) ?_))
              rw [rdB_nat]
              exact ih2)
        exact key2 0 (Nat.zero_le _))
  exact key 0 (Nat.zero_le _)
theorem spec_gmOf.ev (n : Nat) (w : List Bool) (hw : w.length = 2 ^ n) (hn : n ≤ 9) : Ev (fun k => spec_gmOf.f k (n : Int) w) ((n : Int), gsets w n) := by
  unfold spec_gmOf.f
  exact Ev.bind (spec_voLeast.ev n w hw hn) Ev.some
end Go.Proofs.Ytokelcedamegbaa.P

/- A game that is answered. -/
namespace Go.Proofs.Ytokelcedamegbaa.P
open Go.RowKit Go.Proofs.YtokelcedamegbaaW.PrintWords Go.Proofs.YtokelcedamegbaaW.PrintLast Go.Proofs.YtokelcedamegbaaW.PrintMore
def gres (c : Bool) (n : Nat) (w : List Bool) : Int × List (List Int) × Bool := if c = true then ((n : Int), gsets w n, true) else (0, [], false)
theorem gres_len (c : Bool) (n : Nat) (w : List Bool) (hn : c = true → n ≤ 9) : (gres c n w).2.1.length ≤ 512 ∧ ∀ x ∈ (gres c n w).2.1, x.length ≤ 9 := by
  unfold gres
  cases c with
  | false => simp
  | true =>
    have h9 : 2 ^ n ≤ 512 := pow_small (m := 9) (hn rfl)
    obtain ⟨h1, h2⟩ := setsR_len (lstB w n) n
    exact ⟨by simp only [↓reduceIte]; unfold gsets; omega, fun x hx => h2 x hx⟩
theorem totS_small (l : List (List Int)) (h1 : l.length ≤ 512) (h2 : ∀ x ∈ l, x.length ≤ 9) : totS l ≤ 1048576 * 1048576 := by
  have := totS_le l (fun x hx => by have := h2 x hx; omega)
  omega
theorem laws_heldGame.ev (n : Int) (l : List (List Int)) (a : Int) (h0 : 0 ≤ a) (h1 : a + totS l ≤ 4000000000000000000) (hm : l.length ≤ 1048576) (hx : ∀ x ∈ l, x.length ≤ 4000000000000000000) : Ev (fun k => laws_heldGame.f k n (msS a l) a) (a + totS l) := by
  unfold laws_heldGame.f
  have := totS_nn l
  exact Ev.bind (laws_heldIntSS.ev l a h0 h1 hm hx) (Ev.ite_neg (by omega) Ev.some)
end Go.Proofs.Ytokelcedamegbaa.P

/- The pure statement of FnExactCouncilGame. -/
namespace Go.Proofs.Ytokelcedamegbaa.P
open Go.RowKit Go.Proofs.YtokelcedamegbaaW.PrintWords Go.Proofs.YtokelcedamegbaaW.PrintLast Go.Proofs.YtokelcedamegbaaW.PrintMore
def coG (q : Int) (l : List Int) (xs : List S_impl_Committee) : Int × List (List Int) × Bool := gres (areCouncil q l xs) (heads xs).toNat (tab (heads xs).toNat (cow q l xs))
theorem impl_CouncilGame.ev (q : Int) (l : List Int) (xs : List S_impl_Committee) (hl : l.length ≤ 9223372036854775807) (hl' : xs.length ≤ 1048576) (hx : ∀ x ∈ xs, x.f1.length ≤ 9223372036854775807) :
    Ev (fun k => impl_CouncilGame.f k q l xs) (coG q l xs) := by
  unfold impl_CouncilGame.f coG gres
  refine Ev.bind (impl_AreCouncil.ev q l xs hl hl' hx) ?_
  cases h : areCouncil q l xs with
  | false => exact Ev.some
  | true =>
    obtain ⟨h1, h2, h3, h4⟩ := areCouncil_at h
    have hlen := isComm_len h1
    have hnn := heads_nn xs
    have hc : ((heads xs).toNat : Int) = heads xs := Int.toNat_of_nonneg hnn
    have iv := impl_councilVotes.ev q l xs h2 (isComm_mem h1) h3 h4 hlen.2
    have ig := impl_votes_game.ev (heads xs).toNat (tab (heads xs).toNat (cow q l xs)) (tab_len _ _) (by omega)
    rw [hc] at ig
    simp only [↓reduceIte]
    refine Ev.bind iv (Ev.bind ig ?_)
    rw [hc]
    exact Ev.some
theorem spec_CouncilGame.ev (q : Int) (l : List Int) (xs : List S_impl_Committee) (hl : l.length ≤ 9223372036854775807) (hl' : xs.length ≤ 1048576) (hx : ∀ x ∈ xs, x.f1.length ≤ 9223372036854775807) :
    Ev (fun k => spec_CouncilGame.f k q l xs) (coG q l xs) := by
  unfold spec_CouncilGame.f coG gres
  refine Ev.bind (spec_AreCouncil.ev q l xs hl hl' hx) ?_
  cases h : areCouncil q l xs with
  | false => exact Ev.some
  | true =>
    obtain ⟨h1, h2, h3, h4⟩ := areCouncil_at h
    have hlen := isComm_len h1
    have hnn := heads_nn xs
    have hc : ((heads xs).toNat : Int) = heads xs := Int.toNat_of_nonneg hnn
    have sm := spec_chMembers.ev xs hl' hx
    rw [if_pos h3] at sm
    have sg := spec_gmOf.ev (heads xs).toNat (tab (heads xs).toNat (cow q l xs)) (tab_len _ _) (by omega)
    rw [hc] at sg
    simp only [↓reduceIte]
    refine Ev.bind sm (Ev.bind (spec_chCouncil.ev q l xs h2 (isComm_mem h1) h3 h4 hlen.2) (Ev.bind sg ?_))
    rw [hc]
    exact Ev.some
theorem laws_FnExactCouncilGame_pure : laws_FnExactCouncilGame.Pure := by
  intro q l xs0 hq hl hxs
  apply Ev.rounds (r := true)
  unfold laws_FnExactCouncilGame.f
  refine Ev.bind0 (laws_szCommittee.eq q l 1048576 hl.1 (by omega) (by omega)) ?_
  by_cases h1 : (1048576 : Int) < l.length
  · simp only [h1, ↓reduceIte, show ((-1 : Int) < 0) from by omega]
    exact Ev.some
  · have c1 : ¬ ((1048576 : Int) - l.length < 0) := by omega
    simp only [h1, c1, ↓reduceIte]
    obtain ⟨r, hr, hle, hp⟩ := laws_szCommitteeS.ev xs0 (1048576 - l.length) hxs (by omega) (by omega)
    refine Ev.bind hr ?_
    by_cases h2 : r < 0
    · simp only [h2, ↓reduceIte]
      exact Ev.some
    · obtain ⟨hn, hx⟩ := hp (by omega)
      simp only [h2, ↓reduceIte]
      have hlen : (xs0.map conv).length ≤ 1048576 := by simp; omega
      have hx20 : ∀ x ∈ xs0.map conv, x.f1.length ≤ 1048576 := by
        intro x hx1
        obtain ⟨y, hy, rfl⟩ := List.mem_map.1 hx1
        exact hx y hy
      have hxx : ∀ x ∈ xs0.map conv, x.f1.length ≤ 9223372036854775807 := fun x h => by have := hx20 x h; omega
      have t1 := laws_toCommittee.ev q l (by omega)
      have t2 := laws_toCommitteeS.ev xs0 (by omega) hx
      have s1 := spec_CouncilGame.ev q l (xs0.map conv) (by omega) hlen hxx
      have i1 := impl_CouncilGame.ev q l (xs0.map conv) (by omega) hlen hxx
      have e1 := laws_eqCommittee.ev q l (by omega)
      have e2 := laws_eqCommitteeS.ev (xs0.map conv) (by omega) hxx
      have m0 := laws_markCommittee.ev q l 1 (by omega) (by omega) (by omega)
      obtain ⟨mr, mz, m1, hmr⟩ := laws_markCommitteeS.ev (xs0.map conv) (1 + (l.length : Int)) (by omega) (by omega) hlen hx20
      have hv := gres_len (areCouncil q l (xs0.map conv)) (heads (xs0.map conv)).toNat (tab (heads (xs0.map conv)).toNat (cow q l (xs0.map conv))) (fun h => by have := (areCouncil_at h).2.2.2; omega)
      change (coG q l (xs0.map conv)).2.1.length ≤ 512 ∧ ∀ x ∈ (coG q l (xs0.map conv)).2.1, x.length ≤ 9 at hv
      generalize coG q l (xs0.map conv) = v at s1 i1 hv
      obtain ⟨g, u, b⟩ := v
      simp only at hv
      have e3 := laws_eqGame.ev g u (by omega) (fun s hs => by have := hv.2 s hs; omega)
      have hu := totS_small u hv.1 hv.2
      have hun := totS_nn u
      have m2 := laws_markGame.ev g u 1 (by omega) (by omega) (by omega) (fun s hs => by have := hv.2 s hs; omega)
      have k2 := laws_heldGame.ev g u 1 (by omega) (by omega) (by omega) (fun s hs => by have := hv.2 s hs; omega)
      have cm : (mr < 0) = False := by simp only [eq_iff_iff, iff_false]; omega
      have ck : (1 + totS u < 0) = False := by simp only [eq_iff_iff, iff_false]; omega
      repeat (first | with_reducible refine Ev.bind t1 ?_ | with_reducible refine Ev.bind t2 ?_ | with_reducible refine Ev.bind s1 ?_ | with_reducible refine Ev.bind i1 ?_ | with_reducible refine Ev.bind e1 ?_ | with_reducible refine Ev.bind e2 ?_ | with_reducible refine Ev.bind e3 ?_ | with_reducible refine Ev.bind m0 ?_ | with_reducible refine Ev.bind m1 ?_ | with_reducible refine Ev.bind m2 ?_ | with_reducible refine Ev.bind k2 ?_ | with_reducible exact Ev.some | simp only [bne_self_eq_false, Bool.false_eq_true, ↓reduceIte, one_lt, one_lt2, Bool.not_true, Bool.not_false, List.length_nil])
      all_goals simp only [cm, ↓reduceIte]
      all_goals repeat (first | with_reducible refine Ev.bind t1 ?_ | with_reducible refine Ev.bind t2 ?_ | with_reducible refine Ev.bind s1 ?_ | with_reducible refine Ev.bind i1 ?_ | with_reducible refine Ev.bind e1 ?_ | with_reducible refine Ev.bind e2 ?_ | with_reducible refine Ev.bind e3 ?_ | with_reducible refine Ev.bind m0 ?_ | with_reducible refine Ev.bind m1 ?_ | with_reducible refine Ev.bind m2 ?_ | with_reducible refine Ev.bind k2 ?_ | with_reducible exact Ev.some | simp only [bne_self_eq_false, Bool.false_eq_true, ↓reduceIte, one_lt, one_lt2, Bool.not_true, Bool.not_false, List.length_nil])
      all_goals simp only [ck, ↓reduceIte]
      all_goals repeat (first | with_reducible refine Ev.bind t1 ?_ | with_reducible refine Ev.bind t2 ?_ | with_reducible refine Ev.bind s1 ?_ | with_reducible refine Ev.bind i1 ?_ | with_reducible refine Ev.bind e1 ?_ | with_reducible refine Ev.bind e2 ?_ | with_reducible refine Ev.bind e3 ?_ | with_reducible refine Ev.bind m0 ?_ | with_reducible refine Ev.bind m1 ?_ | with_reducible refine Ev.bind m2 ?_ | with_reducible refine Ev.bind k2 ?_ | with_reducible exact Ev.some | simp only [bne_self_eq_false, Bool.false_eq_true, ↓reduceIte, one_lt, one_lt2, Bool.not_true, Bool.not_false, List.length_nil])
      all_goals simp only [ck, ↓reduceIte]
      all_goals exact Ev.some
end Go.Proofs.Ytokelcedamegbaa.P
