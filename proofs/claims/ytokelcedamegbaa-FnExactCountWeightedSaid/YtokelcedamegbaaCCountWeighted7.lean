/- Part 7 of the texts below the law FnExactCountWeighted. Printed by this session's driver over the kit's printer, but for the hand contracts and the plain laws. -/
import Derived.Test.YtokelcedamegbaaCCountWeighted4
import Derived.Test.YtokelcedamegbaaCCountWeighted5
import Derived.Test.YtokelcedamegbaaCCountWeighted6
set_option linter.unusedVariables false
set_option linter.unusedSimpArgs false
namespace Go.Proofs.Ytokelcedamegbaa.P
def laws_FnExactCountWeighted.Pure : Prop := ∀ (a0 : Int), okI a0 → ∃ k, laws_FnExactCountWeighted.f k a0 = some true
end Go.Proofs.Ytokelcedamegbaa.P

/- The least winning sets, in order. -/
namespace Go.Proofs.Ytokelcedamegbaa.P
open Go.RowKit Go.Proofs.YtokelcedamegbaaW.PrintWords Go.Proofs.YtokelcedamegbaaW.PrintLast Go.Proofs.YtokelcedamegbaaW.PrintMore
theorem andNot512 : ((List.range 512).all fun m => (List.range 9).all fun i => !(m.testBit i) || Go.bits .andNot .i64 (m : Int) ((2 ^ i : Nat) : Int) == ((m - 2 ^ i : Nat) : Int)) = true := by decide +kernel
theorem andNot_pow {m i : Nat} (h : m < 512) (hi : i < 9) (hb : m.testBit i = true) : Go.bits .andNot .i64 (m : Int) ((2 ^ i : Nat) : Int) = ((m - 2 ^ i : Nat) : Int) := by
  have h1 := andNot512
  rw [List.all_eq_true] at h1
  have h2 := h1 m (List.mem_range.2 h)
  rw [List.all_eq_true] at h2
  simpa [hb] using h2 i (List.mem_range.2 hi)
theorem pow_le_of_bit {m i : Nat} (h : m.testBit i = true) : 2 ^ i ≤ m := Nat.ge_two_pow_of_testBit h
theorem sub_pow {m b : Nat} (h : 2 ^ b ≤ m) (h5 : m < 512) : wrap64 ((m : Int) - ((2 ^ b : Nat) : Int)) = ((m - 2 ^ b : Nat) : Int) := by
  generalize 2 ^ b = q at h ⊢
  rw [w64 (by omega) (by omega)]; omega
def lstP (w : List Bool) (m : Nat) (i : Nat) : Bool := !(m.testBit i && w.getD (m - 2 ^ i) false)
def lstB (w : List Bool) (n m : Nat) : Bool := w.getD m false && (List.range n).all (lstP w m)
theorem range_drop (n i : Nat) (h : i < n) : (List.range n).drop i = i :: (List.range n).drop (i + 1) := by
  rw [drop_getD (List.range n) 0 i (by rw [List.length_range]; exact h)]
  congr 1
  rw [List.getD_eq_getElem?_getD, List.getElem?_range h]
  rfl
theorem impl_votes_isLeast.ev (n : Nat) (w : List Bool) (m : Nat) (hw : w.length = 2 ^ n) (hn : n ≤ 9) (hm : m < 2 ^ n) : Ev (fun k => impl_votes_isLeast.f k (n : Int) w (m : Int)) (lstB w n m) := by
  have h9 : 2 ^ n ≤ 512 := pow_small (m := 9) hn
  unfold impl_votes_isLeast.f lstB
  refine Ev.ite_pos (by omega) (Ev.ite_pos (by omega) ?_)
  rw [rdB_nat]
  cases hwm : w.getD m false with
  | false => exact Ev.ite_neg (by decide) Ev.some
  | true =>
    refine Ev.ite_pos rfl ?_
    have key := Ev.down (G := fun i k => impl_votes_isLeast.l0 k (m : Int) (n : Int) (i : Int) (n : Int) w) (R := fun i => ((List.range n).drop i).all (lstP w m)) n
      (by refine Ev.shift ?_
          simp only [impl_votes_isLeast.l0]
          refine Ev.ite_neg (by omega) ?_
          rw [List.drop_eq_nil_of_le (by rw [List.length_range]; exact Nat.le_refl _)]
          exact Ev.some)
      (fun i hi ih => by
        refine Ev.shift ?_
        simp only [impl_votes_isLeast.l0]
        refine Ev.ite_pos (by omega) ?_
        rw [range_drop n i hi, List.all_cons]
        refine Ev.bind (Ev.one (impl_has.eq m i (by omega) (by omega))) ?_
        cases ht : m.testBit i with
        | false =>
          refine Ev.ite_neg (by decide) ?_
          rw [w1 hi (by omega)]
          have e : lstP w m i = true := by unfold lstP; rw [ht]; rfl
          rw [e, Bool.true_and]
          exact ih
        | true =>
          refine Ev.ite_pos rfl (Ev.ite_pos (by omega) ?_)
          rw [shl_one i (by omega), andNot_pow (by omega) (by omega) ht]
          have hlt : m - 2 ^ i < w.length := by rw [hw]; exact Nat.lt_of_le_of_lt (Nat.sub_le _ _) hm
          refine Ev.ite_pos (Int.natCast_nonneg _) (Ev.ite_pos (Int.ofNat_lt.2 hlt) ?_)
          rw [rdB_nat]
          have e : lstP w m i = !(w.getD (m - 2 ^ i) false) := by unfold lstP; rw [ht, Bool.true_and]
          rw [e]
          cases hv : w.getD (m - 2 ^ i) false with
          | true => exact Ev.ite_pos rfl Ev.some
          | false =>
            refine Ev.ite_neg (by decide) ?_
            rw [w1 hi (by omega)]
            exact ih)
    exact key 0 (Nat.zero_le _)
theorem impl_setOf.ev (m : Nat) (h : m < 512) : Ev (fun k => impl_setOf.f k (m : Int)) (sel 9 m.testBit) := by
  unfold impl_setOf.f
  have key := Ev.down (G := fun i k => impl_setOf.l0 k (m : Int) (sel i m.testBit) (i : Int)) (R := fun _ => sel 9 m.testBit) 9
    (by refine Ev.shift ?_
        have c0 : (0 : Int) ≤ ((9 : Nat) : Int) := by omega
        have e : m / 2 ^ 9 = 0 := Nat.div_eq_of_lt h
        have c : ¬ (((0 : Nat) : Int) > 0) := by omega
        simp only [impl_setOf.l0, c0, ↓reduceIte, shr_nat m 9 (by omega), e, c]
        exact Ev.some)
    (fun i hi ih => by
      refine Ev.shift ?_
      have c0 : (0 : Int) ≤ (i : Int) := by omega
      have c2 : (sel i m.testBit).length < 17592186044416 := by have := sel_len i m.testBit; omega
      have hlt2 : m / 2 ^ i < 2 ^ 63 := Nat.lt_of_le_of_lt (Nat.div_le_self _ _) (by omega)
      rw [sel_succ] at ih
      simp only [impl_setOf.l0, c0, ↓reduceIte, shr_nat m i (by omega), and_one _ hlt2, c2, w1 hi (by omega)]
      by_cases hz : m / 2 ^ i = 0
      · have c : ¬ (((m / 2 ^ i : Nat) : Int) > 0) := by rw [hz]; decide
        simp only [c, ↓reduceIte]
        refine Ev.eq Ev.some ?_
        have hlt : m < 2 ^ i := by
          rcases Nat.div_eq_zero_iff.1 hz with h | h
          · exact absurd h (by have := Nat.two_pow_pos i; omega)
          · exact h
        have := sel_more i (9 - i) m hlt
        rw [show i + (9 - i) = 9 by omega] at this
        exact this.symm
      · have c : (((m / 2 ^ i : Nat) : Int) > 0) := Int.natCast_pos.2 (Nat.pos_of_ne_zero hz)
        simp only [c, ↓reduceIte]
        cases hb : m.testBit i with
        | true =>
          rw [bit_nat, decide_eq_true_eq] at hb
          have c3 : ((m / 2 ^ i % 2 : Nat) : Int) = 1 := by omega
          rw [bit_nat, show decide (m / 2 ^ i % 2 = 1) = true from decide_eq_true hb, if_pos rfl] at ih
          simp only [c3, ↓reduceIte]
          exact ih
        | false =>
          rw [hb, if_neg (by decide), List.append_nil] at ih
          rw [bit_nat, decide_eq_false_iff_not] at hb
          have c3 : ¬ ((m / 2 ^ i % 2 : Nat) : Int) = 1 := by omega
          simp only [c3, ↓reduceIte]
          exact ih)
  exact key 0 (by omega)
def setsTo (P : Nat → Bool) (i : Nat) : List (List Int) := ((List.range i).filter P).map fun m => sel 9 m.testBit
def setsR (P : Nat → Bool) (n : Nat) : List (List Int) := sorted (setsTo P (2 ^ n))
theorem setsTo_succ (P : Nat → Bool) (i : Nat) : setsTo P (i + 1) = setsTo P i ++ (if P i = true then [sel 9 i.testBit] else []) := by
  unfold setsTo
  rw [List.range_succ, List.filter_append, List.map_append]
  cases h : P i with
  | true => rw [List.filter_cons_of_pos h]; simp
  | false => rw [List.filter_cons_of_neg (by simp [h])]; simp
theorem setsTo_len (P : Nat → Bool) (i : Nat) : (setsTo P i).length ≤ i ∧ ∀ x ∈ setsTo P i, x.length ≤ 9 := by
  refine ⟨?_, fun x hx => ?_⟩
  · unfold setsTo
    rw [List.length_map]
    exact Nat.le_trans (List.length_filter_le _ _) (by rw [List.length_range]; exact Nat.le_refl _)
  · obtain ⟨m, _, rfl⟩ := List.mem_map.1 hx
    exact sel_len 9 _
theorem setsR_len (P : Nat → Bool) (n : Nat) : (setsR P n).length ≤ 2 ^ n ∧ ∀ x ∈ setsR P n, x.length ≤ 9 := by
  obtain ⟨h1, h2⟩ := setsTo_len P (2 ^ n)
  have hp := sorted_perm (setsTo P (2 ^ n))
  exact ⟨by unfold setsR; rw [hp.length_eq]; exact h1, fun x hx => h2 x (hp.mem_iff.1 hx)⟩
theorem Ev.pairs {α β : Type} {p : Nat → α → α → Option β} {P : α → α → β} (l : List α) (h : ∀ x ∈ l, ∀ y ∈ l, Ev (fun k => p k x y) (P x y)) : ∃ K, ∀ k, K ≤ k → ∀ x ∈ l, ∀ y ∈ l, p k x y = Option.some (P x y) := by
  obtain ⟨K, hK⟩ := Ev.all (p := fun k (z : α × α) => p k z.1 z.2) (P := fun z => P z.1 z.2) (l.flatMap fun x => l.map fun y => (x, y)) (fun z hz => by
    obtain ⟨x, hx, hz⟩ := List.mem_flatMap.1 hz
    obtain ⟨y, hy, rfl⟩ := List.mem_map.1 hz
    exact h x hx y hy)
  exact ⟨K, fun k hk x hx y hy => hK k hk (x, y) (List.mem_flatMap.2 ⟨x, hx, List.mem_map.2 ⟨y, hy, rfl⟩⟩)⟩
theorem slices_SortFunc_LLint_Lint.ev (l : List (List Int)) (hl : l.length ≤ 1000000) (hx : ∀ x ∈ l, x.length ≤ 1000000) : Ev (fun k => slices_SortFunc_LLint_Lint.f k l (fun x y => slices_Compare_int_int.f k x y)) (sorted l) := by
  obtain ⟨K, hK⟩ := Ev.pairs (p := fun k x y => slices_Compare_int_int.f k x y) (P := lexc) l (fun x h _ _ => slices_Compare_int_int.ev x _ (by have := hx x h; omega))
  exact ⟨K, fun k hk => if_pos ⟨hl, hK k hk⟩⟩
theorem spec_voSorted.ev (l : List (List Int)) (hl : l.length ≤ 1000000) (hx : ∀ x ∈ l, x.length ≤ 1000000) : Ev (fun k => spec_voSorted.f k l) (sorted l) := by
  obtain ⟨K, hK⟩ := Ev.pairs (p := fun k x y => spec_voBefore.f k x y) (P := fun x y => decide (lexc x y < 0)) l (fun x h _ _ => spec_voBefore.ev x _ (by have := hx x h; omega))
  exact ⟨K, fun k hk => if_pos ⟨hl, hK k hk⟩⟩
theorem impl_votes_sets.ev (n : Nat) (w : List Bool) (hw : w.length = 2 ^ n) (hn : n ≤ 9) (p : Nat → Int → Option Bool) (P : Nat → Bool) (h : ∀ b : Nat, b < 2 ^ n → Ev (fun k => p k (b : Int)) (P b)) : Ev (fun k => impl_votes_sets.f k (n : Int) w (p k)) (setsR P n) := by
  have h9 : 2 ^ n ≤ 512 := pow_small (m := 9) hn
  unfold impl_votes_sets.f
  obtain ⟨K, hK⟩ := Ev.all (p := fun k (b : Nat) => p k (b : Int)) (P := P) (List.range (2 ^ n)) (fun b hb => h b (List.mem_range.1 hb))
  have hq : ∀ k, K ≤ k → ∀ b : Nat, b < 2 ^ n → p k (b : Int) = some (P b) := fun k hk b hb => hK k hk b (List.mem_range.2 hb)
  obtain ⟨hl1, hl2⟩ := setsTo_len P (2 ^ n)
  obtain ⟨K2, hK2⟩ := slices_SortFunc_LLint_Lint.ev (setsTo P (2 ^ n)) (by omega) (fun x hx => by have := hl2 x hx; omega)
  obtain ⟨K3, hK3⟩ := Ev.all (p := fun k (b : Nat) => impl_setOf.f k (b : Int)) (P := fun b => sel 9 b.testBit) (List.range (2 ^ n)) (fun b hb => impl_setOf.ev b (by have := List.mem_range.1 hb; omega))
  have hlen : (w.length : Int) = ((2 ^ n : Nat) : Int) := by rw [hw]
  have main : ∀ q : Int → Option Bool, (∀ b : Nat, b < 2 ^ n → q (b : Int) = some (P b)) → ∀ d i, i + d = 2 ^ n → ∀ k, K2 + K3 + d < k → impl_votes_sets.l0 k q (setsTo P i) ((2 ^ n : Nat) : Int) (i : Int) = some (setsR P n) := by
    intro q hq d
    induction d with
    | zero =>
      intro i hi k hk
      obtain ⟨k, rfl⟩ : ∃ j, k = j + 1 := ⟨k - 1, by omega⟩
      rw [impl_votes_sets.l0, if_neg (by omega), show i = 2 ^ n by omega, show slices_SortFunc_LLint_Lint.f k (setsTo P (2 ^ n)) (fun y0_ y1_ => slices_Compare_int_int.f k y0_ y1_) = some (sorted (setsTo P (2 ^ n))) from hK2 k (by omega)]
      rfl
    | succ d ih =>
      intro i hi k hk
      obtain ⟨k, rfl⟩ : ∃ j, k = j + 1 := ⟨k - 1, by omega⟩
      have hlt : i < 2 ^ n := by omega
      have ih := ih (i + 1) (by omega) k (by omega)
      rw [setsTo_succ] at ih
      rw [impl_votes_sets.l0, if_pos (by omega), hq i hlt, Option.bind_some, w1 hlt (by omega)]
      cases hP : P i with
      | true =>
        rw [hP, if_pos rfl] at ih
        have hl := (setsTo_len P i).1
        rw [if_pos rfl, hK3 k (by omega) i (List.mem_range.2 hlt), Option.bind_some, if_pos (by omega)]
        exact ih
      | false =>
        rw [hP, if_neg (by decide), List.append_nil] at ih
        rw [if_neg (by decide)]
        exact ih
  refine ⟨K + K2 + K3 + 2 ^ n + 1, fun k hk => ?_⟩
  rw [hlen]
  exact main (p k) (hq k (by omega)) (2 ^ n) 0 (by omega) k (by omega)
def gsets (w : List Bool) (n : Nat) : List (List Int) := setsR (lstB w n) n
theorem impl_votes_game.ev (n : Nat) (w : List Bool) (hw : w.length = 2 ^ n) (hn : n ≤ 9) : Ev (fun k => impl_votes_game.f k (n : Int) w) ((n : Int), gsets w n) := by
  unfold impl_votes_game.f impl_votes_least.f
  exact Ev.bind (impl_votes_sets.ev n w hw hn (fun k y => impl_votes_isLeast.f k (n : Int) w y) (lstB w n) (fun b hb => impl_votes_isLeast.ev n w b hw hn hb)) Ev.some
theorem sel_all_q (w : List Bool) (n m : Nat) (hn : n ≤ 9) (hm : m < 2 ^ n) : (sel 9 m.testBit).all (fun x => !(w.getD (m - 2 ^ x.toNat) false)) = (List.range n).all (lstP w m) := by
  have e := sel_more n (9 - n) m hm
  rw [show n + (9 - n) = 9 by omega] at e
  rw [e]
  unfold sel
  rw [List.all_map, List.all_filter]
  congr 1
  funext i
  simp only [Function.comp, Int.toNat_natCast, lstP, Bool.not_and]
theorem spec_voLeast.ev (n : Nat) (w : List Bool) (hw : w.length = 2 ^ n) (hn : n ≤ 9) : Ev (fun k => spec_voLeast.f k w) (gsets w n) := by
  have h9 : 2 ^ n ≤ 512 := pow_small (m := 9) hn
  unfold spec_voLeast.f
  obtain ⟨hl1, hl2⟩ := setsTo_len (lstB w n) (2 ^ n)
  have key := Ev.down (G := fun i k => spec_voLeast.l0 k w (setsTo (lstB w n) i) w (w.length : Int) (i : Int)) (R := fun _ => gsets w n) (2 ^ n)
    (by refine Ev.shift ?_
        simp only [spec_voLeast.l0]
        refine Ev.ite_neg (by omega) ?_
        exact Ev.bind (spec_voSorted.ev _ (by omega) (fun x hx => by have := hl2 x hx; omega)) Ev.some)
    (fun m hm ih => by
      refine Ev.shift ?_
      simp only [spec_voLeast.l0]
      refine Ev.ite_pos (by omega) (Ev.ite_pos (by omega) (Ev.ite_pos (by omega) ?_))
      rw [rdB_nat]
      rw [setsTo_succ] at ih
      unfold lstB at ih
      rw [show (lstB w n) = fun m => w.getD m false && (List.range n).all (lstP w m) from rfl]
      cases hwm : w.getD m false with
      | false =>
        rw [hwm, Bool.false_and, if_neg (by decide), List.append_nil] at ih
        refine Ev.ite_neg (by decide) ?_
        rw [w1 hm (by omega)]
        exact ih
      | true =>
        rw [hwm, Bool.true_and, ← sel_all_q w n m hn hm] at ih
        refine Ev.ite_pos rfl ?_
        refine Ev.bind (spec_voList.ev m (by omega)) ?_
        have sl := sel_len 9 m.testBit
        have sm : ∀ x ∈ sel 9 m.testBit, ∃ b : Nat, x = (b : Int) ∧ b < 9 ∧ m.testBit b = true := fun x hx => by
          unfold sel at hx
          obtain ⟨b, hb, rfl⟩ := List.mem_map.1 hx
          rw [List.mem_filter] at hb
          exact ⟨b, rfl, List.mem_range.1 hb.1, hb.2⟩
        have hlsz := (setsTo_len (fun m => w.getD m false && (List.range n).all (lstP w m)) m).1
        have voL := spec_voList.ev m (show m < 512 by omega)
        generalize sel 9 m.testBit = L at ih sl sm voL ⊢
        have key2 := Ev.down (G := fun i k => spec_voLeast.l1 k w (setsTo (fun m => w.getD m false && (List.range n).all (lstP w m)) m) (m : Int) ((L.take i).all (fun x => !(w.getD (m - 2 ^ x.toNat) false))) w (w.length : Int) (m : Int) L (L.length : Int) (i : Int)) (R := fun _ => gsets w n) L.length
          (by refine Ev.shift ?_
              simp only [spec_voLeast.l1]
              refine Ev.ite_neg (by omega) ?_
              rw [List.take_length]
              cases hq : L.all (fun x => !(w.getD (m - 2 ^ x.toNat) false)) with
              | true =>
                rw [hq, if_pos rfl] at ih
                refine Ev.ite_pos rfl (Ev.bind voL (Ev.ite_pos (by omega) ?_))
                rw [w1 hm (by omega)]
                exact ih
              | false =>
                rw [hq, if_neg (by decide), List.append_nil] at ih
                refine Ev.ite_neg (by decide) ?_
                rw [w1 hm (by omega)]
                exact ih)
          (fun i hi ih2 => by
            refine Ev.shift ?_
            simp only [spec_voLeast.l1]
            refine Ev.ite_pos (by omega) (Ev.ite_pos (by omega) (Ev.ite_pos (by omega) ?_))
            rw [w1 hi (by omega), rd_nat]
            rw [take_getD L 0 i hi, List.all_append] at ih2
            obtain ⟨b, eb, hb9, hbt⟩ := sm _ (getD_mem L 0 i hi)
            have hp := pow_le_of_bit hbt
            cases hq : (L.take i).all (fun x => !(w.getD (m - 2 ^ x.toNat) false)) with
            | false =>
              rw [hq, Bool.false_and] at ih2
              exact Ev.ite_neg (by decide) ih2
            | true =>
              rw [hq, Bool.true_and, List.all_cons, List.all_nil, Bool.and_true, eb, Int.toNat_natCast] at ih2
              refine Ev.ite_pos rfl ?_
              rw [eb, shl_one b (by omega)]
              have hlt : m - 2 ^ b < w.length := by rw [hw]; exact Nat.lt_of_le_of_lt (Nat.sub_le _ _) hm
              rw [sub_pow hp (by omega)]
              refine Ev.ite_pos (by omega) (Ev.ite_pos (Int.natCast_nonneg _) (Ev.ite_pos (Int.ofNat_lt.2 hlt) ?_))
              rw [rdB_nat]
              exact ih2)
        exact key2 0 (Nat.zero_le _))
  exact key 0 (Nat.zero_le _)
theorem spec_gmOf.ev (n : Nat) (w : List Bool) (hw : w.length = 2 ^ n) (hn : n ≤ 9) : Ev (fun k => spec_gmOf.f k (n : Int) w) ((n : Int), gsets w n) := by
  unfold spec_gmOf.f
  exact Ev.bind (spec_voLeast.ev n w hw hn) Ev.some
end Go.Proofs.Ytokelcedamegbaa.P

/- The first trade of two winning sets: whether there is one. -/
namespace Go.Proofs.Ytokelcedamegbaa.P
open Go.RowKit Go.Proofs.YtokelcedamegbaaW.PrintWords Go.Proofs.YtokelcedamegbaaW.PrintLast Go.Proofs.YtokelcedamegbaaW.PrintMore
def anyG (P : Nat → Bool) (n i : Nat) : Bool := (List.range' i (n - i)).any P
theorem anyG_end (P : Nat → Bool) (n : Nat) : anyG P n n = false := by simp [anyG]
theorem anyG_step (P : Nat → Bool) (n i : Nat) (h : i < n) : anyG P n i = (P i || anyG P n (i + 1)) := by
  unfold anyG
  rw [show n - i = (n - (i + 1)) + 1 by omega, List.range'_succ, List.any_cons]
theorem anyG_iff (P : Nat → Bool) (n i : Nat) : anyG P n i = true ↔ ∃ j, i ≤ j ∧ j < n ∧ P j = true := by
  unfold anyG
  rw [List.any_eq_true]
  constructor
  · rintro ⟨j, hj, h⟩
    rw [List.mem_range'_1] at hj
    exact ⟨j, hj.1, by omega, h⟩
  · rintro ⟨j, h1, h2, h3⟩
    exact ⟨j, by rw [List.mem_range'_1]; omega, h3⟩
theorem andNot_all : ((List.range 64).all fun a => (List.range 64).all fun b => Go.bits .andNot .i64 (a : Int) (b : Int) == ((a - (a &&& b) : Nat) : Int)) = true := by decide +kernel
theorem andNot64 {a b : Nat} (ha : a < 64) (hb : b < 64) : Go.bits .andNot .i64 (a : Int) (b : Int) = ((a - (a &&& b) : Nat) : Int) := by
  have q := andNot_all
  rw [List.all_eq_true] at q
  have q := q a (List.mem_range.2 ha)
  rw [List.all_eq_true] at q
  have q := q b (List.mem_range.2 hb)
  simpa using q
theorem and64 {a b : Nat} (ha : a < 64) : a &&& b < 64 := Nat.lt_of_le_of_lt Nat.and_le_left ha
theorem or64 {a b : Nat} (ha : a < 64) (hb : b < 64) : a ||| b < 64 := Nat.or_lt_two_pow (n := 6) ha hb
theorem andI {a b : Nat} (ha : a < 64) (hb : b < 64) : Go.bits .and .i64 (a : Int) (b : Int) = ((a &&& b : Nat) : Int) := and_nat a b (by omega) (by omega)
theorem orI {a b : Nat} (ha : a < 64) (hb : b < 64) : Go.bits .or .i64 (a : Int) (b : Int) = ((a ||| b : Nat) : Int) := or_nat a b (by omega) (by omega)
theorem WmI {x y u : Nat} (hx : x < 64) (hy : y < 64) (hu : u < 64) : Go.bits .or .i64 (Go.bits .and .i64 (x : Int) (y : Int)) (Go.bits .andNot .i64 (Go.bits .or .i64 (x : Int) (y : Int)) (u : Int)) = ((Wm x y u : Nat) : Int) := by
  rw [andI hx hy, orI hx hy, andNot64 (or64 hx hy) hu, orI (and64 hx) (Nat.lt_of_le_of_lt (Nat.sub_le _ _) (or64 hx hy))]
  rfl
def ordO (n : Nat) : List Nat := (setsR (fun _ => true) n).map bitsOf
def ints (O : List Nat) : List Int := O.map fun m : Nat => (m : Int)
theorem bits_sel_all : ((List.range 512).all fun m => bitsOf (sel 9 m.testBit) == m) = true := by decide +kernel
theorem bits_sel {m : Nat} (h : m < 512) : bitsOf (sel 9 m.testBit) = m := by
  have q := bits_sel_all
  rw [List.all_eq_true] at q
  simpa using q m (List.mem_range.2 h)
theorem setsTo_bits (P : Nat → Bool) (i : Nat) (h : i ≤ 512) : (setsTo P i).map bitsOf = (List.range i).filter P := by
  unfold setsTo
  rw [List.map_map]
  have e : ∀ m ∈ (List.range i).filter P, (bitsOf ∘ fun m => sel 9 m.testBit) m = m := fun m hm => bits_sel (by have := List.mem_range.1 (List.mem_filter.1 hm).1; omega)
  rw [List.map_congr_left e, List.map_id']
theorem ordO_perm (n : Nat) (hn : n ≤ 9) : (ordO n).Perm (List.range (2 ^ n)) := by
  have h9 : 2 ^ n ≤ 512 := pow_small (m := 9) hn
  unfold ordO setsR
  refine ((sorted_perm _).map bitsOf).trans (List.Perm.of_eq ?_)
  rw [setsTo_bits _ _ h9]
  exact List.filter_eq_self.2 (fun _ _ => rfl)
theorem impl_votes_ordered.ev (n : Nat) (w : List Bool) (hw : w.length = 2 ^ n) (hn : n ≤ 9) : Ev (fun k => impl_votes_ordered.f k (n : Int) w) (ints (ordO n)) := by
  have h9 : 2 ^ n ≤ 512 := pow_small (m := 9) hn
  unfold impl_votes_ordered.f
  refine Ev.bind (impl_votes_sets.ev n w hw hn (fun _ y => impl_votes_ordered_1.f y) (fun _ => true) (fun b hb => Ev.one rfl)) ?_
  obtain ⟨hl1, hl2⟩ := setsR_len (fun _ => true) n
  have hx : ∀ s ∈ setsR (fun _ => true) n, ∀ x ∈ s, 0 ≤ x ∧ x < 62 := fun s hs x hx => by
    have hs := (sorted_perm _).mem_iff.1 hs
    obtain ⟨m, _, rfl⟩ := List.mem_map.1 hs
    unfold sel at hx
    obtain ⟨b, hb, rfl⟩ := List.mem_map.1 hx
    have := List.mem_range.1 (List.mem_filter.1 hb).1
    omega
  unfold ints ordO
  generalize setsR (fun _ => true) n = S at hl1 hl2 hx ⊢
  have key := Ev.down (G := fun i k => impl_votes_ordered.l0 k (((S.take i).map bitsOf).map fun m : Nat => (m : Int)) S (S.length : Int) (i : Int)) (R := fun _ => (S.map bitsOf).map fun m : Nat => (m : Int)) S.length
    (by refine Ev.shift ?_
        simp only [impl_votes_ordered.l0]
        refine Ev.ite_neg (by omega) ?_
        rw [List.take_length]
        exact Ev.some)
    (fun i hi ih => by
      refine Ev.shift ?_
      simp only [impl_votes_ordered.l0]
      refine Ev.ite_pos (by omega) (Ev.ite_pos (by omega) (Ev.ite_pos (by omega) ?_))
      rw [rd_LI_nat]
      have hm := getD_mem S [] i hi
      refine Ev.bind (impl_maskOf.ev _ (by have := hl2 _ hm; omega) (hx _ hm)) ?_
      refine Ev.ite_pos (by rw [List.length_map, List.length_map, List.length_take]; omega) ?_
      rw [w1 hi (by omega)]
      rw [take_getD S [] i hi, List.map_append, List.map_append] at ih
      exact ih)
  exact key 0 (Nat.zero_le _)
theorem rd_ints (O : List Nat) (i : Nat) : rd (ints O) (i : Int) = ((O.getD i 0 : Nat) : Int) := by
  rw [rd_nat]
  unfold ints
  rw [List.getD_eq_getElem?_getD, List.getD_eq_getElem?_getD, List.getElem?_map]
  cases O[i]? <;> rfl
theorem ints_len (O : List Nat) : (ints O).length = O.length := by unfold ints; rw [List.length_map]
theorem ints_drop (O : List Nat) (i : Nat) : (ints O).drop i = ints (O.drop i) := by unfold ints; rw [List.map_drop]
theorem ints_has (O : List Nat) (m : Nat) : hasN (ints O) (m : Int) = true ↔ m ∈ O := by
  unfold hasN ints
  rw [List.any_eq_true]
  constructor
  · rintro ⟨x, hx, h⟩
    obtain ⟨a, ha, rfl⟩ := List.mem_map.1 hx
    have : m = a := by have := of_decide_eq_true h; omega
    rw [this]; exact ha
  · intro h
    exact ⟨(m : Int), List.mem_map.2 ⟨m, h, rfl⟩, by simp⟩
theorem impl_pairs.ev (x y u v : Nat) (hx : x < 512) (hy : y < 512) (hu : u < 512) (hv : v < 512) : Ev (fun k => impl_pairs.f k [(x : Int), (y : Int)] [(u : Int), (v : Int)]) ([sel 9 x.testBit, sel 9 y.testBit], [sel 9 u.testBit, sel 9 v.testBit]) := by
  have k1 : wrap64 (0 + 1) = 1 := by unfold wrap64; decide
  have k2 : wrap64 (1 + 1) = 2 := by unfold wrap64; decide
  unfold impl_pairs.f
  refine Ev.shift ?_
  simp only [impl_pairs.l0]
  refine Ev.ite_pos (show (0 : Int) < ((2 : Nat) : Int) by decide) (Ev.ite_pos (by decide) (Ev.ite_pos (show (0 : Int) < ((2 : Nat) : Int) by decide) ?_))
  refine Ev.bind (show Ev (fun k => impl_setOf.f k (rd [(x : Int), (y : Int)] 0)) (sel 9 x.testBit) from impl_setOf.ev x hx) (Ev.ite_pos (by simp) (Ev.ite_pos (show (0 : Int) < ((2 : Nat) : Int) by decide) ?_))
  refine Ev.bind (show Ev (fun k => impl_setOf.f k (rd [(u : Int), (v : Int)] 0)) (sel 9 u.testBit) from impl_setOf.ev u hu) (Ev.ite_pos (by simp) ?_)
  rw [k1]
  refine Ev.shift ?_
  simp only [impl_pairs.l0]
  refine Ev.ite_pos (show (1 : Int) < ((2 : Nat) : Int) by decide) (Ev.ite_pos (by decide) (Ev.ite_pos (show (1 : Int) < ((2 : Nat) : Int) by decide) ?_))
  refine Ev.bind (show Ev (fun k => impl_setOf.f k (rd [(x : Int), (y : Int)] 1)) (sel 9 y.testBit) from impl_setOf.ev y hy) (Ev.ite_pos (by simp) (Ev.ite_pos (show (1 : Int) < ((2 : Nat) : Int) by decide) ?_))
  refine Ev.bind (show Ev (fun k => impl_setOf.f k (rd [(u : Int), (v : Int)] 1)) (sel 9 v.testBit) from impl_setOf.ev v hv) (Ev.ite_pos (by simp) ?_)
  rw [k2]
  refine Ev.shift ?_
  simp only [impl_pairs.l0]
  refine Ev.ite_neg (show ¬ (2 : Int) < ((2 : Nat) : Int) by decide) ?_
  exact Ev.some
abbrev fT : Int → Int → Int → Int → Option Bool := fun y0_ y1_ y2_ y3_ => impl_votes_firstTrade_1.f y0_ y1_ y2_ y3_
def hitK (w : List Bool) (O : List Nat) (x y : Nat) (k : Nat) : Bool := !w.getD (O.getD k 0) false && (okU x y (O.getD k 0) && (!w.getD (Wm x y (O.getD k 0)) false && hasN (ints (O.drop k)) ((Wm x y (O.getD k 0) : Nat) : Int)))
theorem okU_ints {x y u : Nat} (hx : x < 64) (hy : y < 64) (hu : u < 64) : (Go.bits .and .i64 (u : Int) (Go.bits .and .i64 (x : Int) (y : Int)) = Go.bits .and .i64 (x : Int) (y : Int) ↔ u &&& (x &&& y) = x &&& y) ∧ ((Go.bits .andNot .i64 (u : Int) (Go.bits .or .i64 (x : Int) (y : Int)) != 0) = !decide (u - (u &&& (x ||| y)) = 0)) := by
  rw [andI hx hy, andI hu (and64 hx), orI hx hy, andNot64 hu (or64 hx hy)]
  refine ⟨by omega, ?_⟩
  by_cases h : u - (u &&& (x ||| y)) = 0
  · rw [h]; rfl
  · rw [decide_eq_false h]
    simp only [Bool.not_false, bne_iff_ne, ne_eq]
    omega
theorem ord_len2 {n : Nat} {O : List Nat} (hn : n ≤ 6) (hO : O.Perm (List.range (2 ^ n))) : O.length = 2 ^ n ∧ 2 ^ n ≤ 64 ∧ (∀ i, i < 2 ^ n → O.getD i 0 < 2 ^ n) := by
  have hl : O.length = 2 ^ n := by rw [hO.length_eq, List.length_range]
  refine ⟨hl, pow_small (m := 6) hn, fun i hi => ?_⟩
  exact List.mem_range.1 (hO.mem_iff.1 (getD_mem O 0 i (by omega)))
section
variable {n : Nat} {w : List Bool} {O : List Nat} (hw : w.length = 2 ^ n) (hn : n ≤ 6) (hO : O.Perm (List.range (2 ^ n)))
include hw hn hO
theorem two_l2 (x y : Nat) (hx : x < 2 ^ n) (hy : y < 2 ^ n) (x18 x26 x27 : Int) (x25 : List Int) (b : Bool)
    (hc : ∃ r1 r2, Ev (fun k => impl_votes_firstOfTwo.l1 k fT (ints O) (x : Int) (ints O) ((ints O).length : Int) x18 x25 x26 (wrap64 (x27 + 1)) (n : Int) w) (r1, r2, b)) :
    ∀ kk : Nat, kk ≤ 2 ^ n → ∃ r1 r2, Ev (fun k => impl_votes_firstOfTwo.l2 k fT (ints O) (x : Int) (y : Int) (ints O) ((ints O).length : Int) x18 x25 x26 x27 (ints O) ((ints O).length : Int) (kk : Int) (n : Int) w) (r1, r2, anyG (hitK w O x y) (2 ^ n) kk || b) := by
  obtain ⟨hl, h64, hm⟩ := ord_len2 hn hO
  have il : (ints O).length = 2 ^ n := by rw [ints_len, hl]
  refine back (P := fun kk : Nat => ∃ r1 r2, Ev (fun k => impl_votes_firstOfTwo.l2 k fT (ints O) (x : Int) (y : Int) (ints O) ((ints O).length : Int) x18 x25 x26 x27 (ints O) ((ints O).length : Int) (kk : Int) (n : Int) w) (r1, r2, anyG (hitK w O x y) (2 ^ n) kk || b)) (2 ^ n) ?_ ?_
  · obtain ⟨r1, r2, h⟩ := hc
    refine ⟨r1, r2, Ev.shift ?_⟩
    rw [anyG_end, Bool.false_or]
    simp only [impl_votes_firstOfTwo.l2]
    exact Ev.ite_neg (by omega) h
  · intro kk hk ⟨r1, r2, ih⟩
    have hu := hm kk hk
    rw [anyG_step _ _ _ hk]
    have hj : ∀ b2 : Bool, hitK w O x y kk = false → Ev (fun k => impl_votes_firstOfTwo.j4 k fT (ints O) (x : Int) (y : Int) (kk : Int) ((O.getD kk 0 : Nat) : Int) (ints O) ((ints O).length : Int) x18 x25 x26 x27 (ints O) ((ints O).length : Int) (kk : Int) true (n : Int) w) (r1, r2, (hitK w O x y kk || anyG (hitK w O x y) (2 ^ n) (kk + 1)) || b) := fun _ hf => by
      refine Ev.shift ?_
      simp only [impl_votes_firstOfTwo.j4]
      refine Ev.ite_pos (by trivial) ?_
      rw [w1 hk (by omega), hf, Bool.false_or]
      exact ih
    have start : ∀ R, (∀ (vu : w.getD (O.getD kk 0) false = true), Ev (fun k => impl_votes_firstOfTwo.j4 k fT (ints O) (x : Int) (y : Int) (kk : Int) ((O.getD kk 0 : Nat) : Int) (ints O) ((ints O).length : Int) x18 x25 x26 x27 (ints O) ((ints O).length : Int) (kk : Int) true (n : Int) w) R) →
        (∀ (vu : w.getD (O.getD kk 0) false = false), Ev (fun k => if (Go.bits .and .i64 ((O.getD kk 0 : Nat) : Int) (Go.bits .and .i64 (x : Int) (y : Int))) = (Go.bits .and .i64 (x : Int) (y : Int)) then (impl_votes_firstOfTwo.j4 k fT (ints O) (x : Int) (y : Int) (kk : Int) ((O.getD kk 0 : Nat) : Int) (ints O) ((ints O).length : Int) x18 x25 x26 x27 (ints O) ((ints O).length : Int) (kk : Int) ((Go.bits .andNot .i64 ((O.getD kk 0 : Nat) : Int) (Go.bits .or .i64 (x : Int) (y : Int))) != 0) (n : Int) w) else (impl_votes_firstOfTwo.j4 k fT (ints O) (x : Int) (y : Int) (kk : Int) ((O.getD kk 0 : Nat) : Int) (ints O) ((ints O).length : Int) x18 x25 x26 x27 (ints O) ((ints O).length : Int) (kk : Int) true (n : Int) w)) R) →
        Ev (fun k => impl_votes_firstOfTwo.l2 k fT (ints O) (x : Int) (y : Int) (ints O) ((ints O).length : Int) x18 x25 x26 x27 (ints O) ((ints O).length : Int) (kk : Int) (n : Int) w) R := fun R h1 h2 => by
      refine Ev.shift ?_
      simp only [impl_votes_firstOfTwo.l2]
      refine Ev.ite_pos (by omega) (Ev.ite_pos (by omega) (Ev.ite_pos (by omega) ?_))
      rw [rd_ints]
      refine Ev.ite_pos (by omega) (Ev.ite_pos (by omega) ?_)
      rw [rdB_nat]
      cases vu : w.getD (O.getD kk 0) false with
      | true => exact Ev.ite_pos (by trivial) (h1 vu)
      | false => exact Ev.ite_neg (by decide) (h2 vu)
    obtain ⟨ok1, ok2⟩ := okU_ints (x := x) (y := y) (u := O.getD kk 0) (by omega) (by omega) (by omega)
    by_cases hit : hitK w O x y kk = true
    · have hh := hit
      unfold hitK okU at hh
      simp only [Bool.and_eq_true, Bool.not_eq_true', decide_eq_true_eq] at hh
      obtain ⟨vu, ⟨c1, c2⟩, vw, hin⟩ := hh
      have hWlt : Wm x y (O.getD kk 0) < 2 ^ n := by
        unfold Wm
        exact Nat.or_lt_two_pow (Nat.lt_of_le_of_lt Nat.and_le_left hx) (Nat.lt_of_le_of_lt (Nat.sub_le _ _) (Nat.or_lt_two_pow hx hy))
      refine ⟨[sel 9 x.testBit, sel 9 y.testBit], [sel 9 (O.getD kk 0).testBit, sel 9 (Wm x y (O.getD kk 0)).testBit], start _ (fun z => absurd (z.symm.trans vu) (by decide)) (fun _ => ?_)⟩
      refine Ev.ite_pos (ok1.2 c1) ?_
      rw [ok2, decide_eq_true c2]
      refine Ev.shift ?_
      simp only [impl_votes_firstOfTwo.j4]
      refine Ev.ite_neg (by decide) ?_
      rw [WmI (by omega) (by omega) (by omega)]
      refine Ev.ite_pos (by omega) (Ev.ite_pos (by omega) ?_)
      rw [rdB_nat, vw]
      refine Ev.ite_neg (by decide) (Ev.ite_pos (by omega) (Ev.ite_pos (by omega) ?_))
      rw [Int.toNat_natCast, ints_drop]
      refine Ev.bind (slices_Contains_int_int.ev _ _ (by rw [ints_len, List.length_drop]; omega)) ?_
      rw [hin]
      refine Ev.ite_pos (by trivial) (Ev.bind (Ev.one rfl) (Ev.ite_pos (by trivial) ?_))
      refine Ev.bind (impl_pairs.ev x y _ _ (by omega) (by omega) (by omega) (by omega)) ?_
      rw [hit, Bool.true_or, Bool.true_or]
      exact Ev.some
    · have hf : hitK w O x y kk = false := by cases h : hitK w O x y kk with | true => exact absurd h hit | false => rfl
      refine ⟨r1, r2, start _ (fun _ => hj true hf) (fun vu => ?_)⟩
      by_cases c1 : O.getD kk 0 &&& (x &&& y) = x &&& y
      · refine Ev.ite_pos (ok1.2 c1) ?_
        rw [ok2]
        by_cases c2 : O.getD kk 0 - (O.getD kk 0 &&& (x ||| y)) = 0
        · rw [decide_eq_true c2]
          have hWlt : Wm x y (O.getD kk 0) < 2 ^ n := by
            unfold Wm
            exact Nat.or_lt_two_pow (Nat.lt_of_le_of_lt Nat.and_le_left hx) (Nat.lt_of_le_of_lt (Nat.sub_le _ _) (Nat.or_lt_two_pow hx hy))
          refine Ev.shift ?_
          simp only [impl_votes_firstOfTwo.j4]
          refine Ev.ite_neg (by decide) ?_
          rw [WmI (by omega) (by omega) (by omega)]
          refine Ev.ite_pos (by omega) (Ev.ite_pos (by omega) ?_)
          rw [rdB_nat]
          have go : Ev (fun k => impl_votes_firstOfTwo.l2 k fT (ints O) (x : Int) (y : Int) (ints O) ((ints O).length : Int) x18 x25 x26 x27 (ints O) ((ints O).length : Int) (wrap64 ((kk : Int) + 1)) (n : Int) w) (r1, r2, (hitK w O x y kk || anyG (hitK w O x y) (2 ^ n) (kk + 1)) || b) := by
            rw [w1 hk (by omega), hf, Bool.false_or]
            exact ih
          cases vw : w.getD (Wm x y (O.getD kk 0)) false with
          | true => exact Ev.ite_pos (by trivial) go
          | false =>
            refine Ev.ite_neg (by decide) (Ev.ite_pos (by omega) (Ev.ite_pos (by omega) ?_))
            rw [Int.toNat_natCast, ints_drop]
            refine Ev.bind (slices_Contains_int_int.ev _ _ (by rw [ints_len, List.length_drop]; omega)) ?_
            have hin : hasN (ints (O.drop kk)) ((Wm x y (O.getD kk 0) : Nat) : Int) = false := by
              unfold hitK okU at hf
              rw [vu, decide_eq_true c1, decide_eq_true c2, vw] at hf
              simpa using hf
            rw [hin]
            exact Ev.ite_neg (by decide) go
        · rw [decide_eq_false c2]
          exact hj true hf
      · exact Ev.ite_neg (fun z => c1 (ok1.1 z)) (hj true hf)
def hitJ (w : List Bool) (O : List Nat) (x : Nat) (Y : List Nat) (j : Nat) : Bool := (w.getD x false && w.getD (Y.getD j 0) false) && anyG (hitK w O x (Y.getD j 0)) O.length 0
theorem two_l1 (x : Nat) (hx : x < 2 ^ n) (x18 : Int) (Y : List Nat) (hY : ∀ i, i < Y.length → Y.getD i 0 < 2 ^ n) (hYl : Y.length ≤ 64) (b : Bool)
    (hc : ∃ r1 r2, Ev (fun k => impl_votes_firstOfTwo.l0 k fT (ints O) (ints O) ((ints O).length : Int) (wrap64 (x18 + 1)) (n : Int) w) (r1, r2, b)) :
    ∀ j : Nat, j ≤ Y.length → ∃ r1 r2, Ev (fun k => impl_votes_firstOfTwo.l1 k fT (ints O) (x : Int) (ints O) ((ints O).length : Int) x18 (ints Y) ((ints Y).length : Int) (j : Int) (n : Int) w) (r1, r2, anyG (hitJ w O x Y) Y.length j || b) := by
  obtain ⟨hl, h64, hm⟩ := ord_len2 hn hO
  have il : (ints Y).length = Y.length := ints_len Y
  refine back (P := fun j : Nat => ∃ r1 r2, Ev (fun k => impl_votes_firstOfTwo.l1 k fT (ints O) (x : Int) (ints O) ((ints O).length : Int) x18 (ints Y) ((ints Y).length : Int) (j : Int) (n : Int) w) (r1, r2, anyG (hitJ w O x Y) Y.length j || b)) Y.length ?_ ?_
  · obtain ⟨r1, r2, h⟩ := hc
    refine ⟨r1, r2, Ev.shift ?_⟩
    rw [anyG_end, Bool.false_or]
    simp only [impl_votes_firstOfTwo.l1]
    exact Ev.ite_neg (by omega) h
  · intro j hj ⟨r1, r2, ih⟩
    have hy := hY j hj
    rw [anyG_step _ _ _ hj]
    have ih' : ∃ r1 r2, Ev (fun k => impl_votes_firstOfTwo.l1 k fT (ints O) (x : Int) (ints O) ((ints O).length : Int) x18 (ints Y) ((ints Y).length : Int) (wrap64 ((j : Int) + 1)) (n : Int) w) (r1, r2, anyG (hitJ w O x Y) Y.length (j + 1) || b) := ⟨r1, r2, by rw [w1 hj (by omega)]; exact ih⟩
    have start : ∀ R, Ev (fun k => impl_votes_firstOfTwo.j2 k fT (ints O) (x : Int) ((Y.getD j 0 : Nat) : Int) (ints O) ((ints O).length : Int) x18 (ints Y) ((ints Y).length : Int) (j : Int) (!(w.getD x false && w.getD (Y.getD j 0) false)) (n : Int) w) R →
        Ev (fun k => impl_votes_firstOfTwo.l1 k fT (ints O) (x : Int) (ints O) ((ints O).length : Int) x18 (ints Y) ((ints Y).length : Int) (j : Int) (n : Int) w) R := fun R h => by
      refine Ev.shift ?_
      simp only [impl_votes_firstOfTwo.l1]
      refine Ev.ite_pos (by omega) (Ev.ite_pos (by omega) (Ev.ite_pos (by omega) (Ev.ite_pos (by omega) (Ev.ite_pos (by omega) ?_))))
      rw [rdB_nat, rd_ints]
      cases vx : w.getD x false with
      | true =>
        refine Ev.ite_pos (by trivial) (Ev.ite_pos (by omega) (Ev.ite_pos (by omega) ?_))
        rw [rdB_nat]
        rw [vx, Bool.true_and] at h
        exact h
      | false =>
        rw [vx, Bool.false_and, Bool.not_false] at h
        exact Ev.ite_neg (by decide) h
    cases vv : w.getD x false && w.getD (Y.getD j 0) false with
    | false =>
      obtain ⟨s1, s2, ih'⟩ := ih'
      refine ⟨s1, s2, start _ ?_⟩
      rw [vv, Bool.not_false]
      refine Ev.shift ?_
      simp only [impl_votes_firstOfTwo.j2]
      refine Ev.ite_pos (by trivial) ?_
      have e : hitJ w O x Y j = false := by unfold hitJ; rw [vv, Bool.false_and]
      rw [e, Bool.false_or]
      exact ih'
    | true =>
      obtain ⟨s1, s2, h⟩ := two_l2 hw hn hO x (Y.getD j 0) hx hy x18 ((ints Y).length : Int) (j : Int) (ints Y) _ ih' 0 (Nat.zero_le _)
      refine ⟨s1, s2, start _ ?_⟩
      rw [vv, Bool.not_true]
      refine Ev.shift ?_
      simp only [impl_votes_firstOfTwo.j2]
      refine Ev.ite_neg (by decide) ?_
      have e : hitJ w O x Y j = anyG (hitK w O x (Y.getD j 0)) (2 ^ n) 0 := by unfold hitJ; rw [vv, Bool.true_and, hl]
      rw [e, Bool.or_assoc]
      exact h
def hitI (w : List Bool) (O : List Nat) (i : Nat) : Bool := anyG (hitJ w O (O.getD i 0) (O.drop i)) (O.drop i).length 0
theorem two_l0 : ∀ i : Nat, i ≤ 2 ^ n → ∃ r1 r2, Ev (fun k => impl_votes_firstOfTwo.l0 k fT (ints O) (ints O) ((ints O).length : Int) (i : Int) (n : Int) w) (r1, r2, anyG (hitI w O) (2 ^ n) i) := by
  obtain ⟨hl, h64, hm⟩ := ord_len2 hn hO
  have il : (ints O).length = 2 ^ n := by rw [ints_len, hl]
  refine back (P := fun i : Nat => ∃ r1 r2, Ev (fun k => impl_votes_firstOfTwo.l0 k fT (ints O) (ints O) ((ints O).length : Int) (i : Int) (n : Int) w) (r1, r2, anyG (hitI w O) (2 ^ n) i)) (2 ^ n) ?_ ?_
  · refine ⟨[], [], Ev.shift ?_⟩
    rw [anyG_end]
    simp only [impl_votes_firstOfTwo.l0]
    exact Ev.ite_neg (by omega) Ev.some
  · intro i hi ⟨r1, r2, ih⟩
    rw [anyG_step _ _ _ hi]
    have hd : ∀ j, j < (O.drop i).length → (O.drop i).getD j 0 < 2 ^ n := fun j hj => by
      have := List.mem_of_mem_drop (getD_mem (O.drop i) 0 j hj)
      exact List.mem_range.1 (hO.mem_iff.1 this)
    obtain ⟨s1, s2, h⟩ := two_l1 hw hn hO (O.getD i 0) (hm i hi) (i : Int) (O.drop i) hd (by rw [List.length_drop]; omega) _ ⟨r1, r2, by rw [w1 hi (by omega)]; exact ih⟩ 0 (Nat.zero_le _)
    refine ⟨s1, s2, Ev.shift ?_⟩
    simp only [impl_votes_firstOfTwo.l0]
    refine Ev.ite_pos (by omega) (Ev.ite_pos (by omega) (Ev.ite_pos (by omega) (Ev.ite_pos (by omega) (Ev.bind (Ev.one rfl) ?_))))
    rw [Int.toNat_natCast, ints_drop, rd_ints]
    exact h
end
theorem found_iff {n : Nat} {w : List Bool} {O : List Nat} (hn : n ≤ 6) (hO : O.Perm (List.range (2 ^ n))) : anyG (hitI w O) (2 ^ n) 0 = true ↔ Trade w n := by
  obtain ⟨hl, h64, hm⟩ := ord_len2 hn hO
  have idx : ∀ m, m < 2 ^ n → ∃ i, i < 2 ^ n ∧ O.getD i 0 = m := fun m hm => by
    obtain ⟨i, hi, e⟩ := List.getElem_of_mem (hO.mem_iff.2 (List.mem_range.2 hm))
    exact ⟨i, by omega, by rw [List.getD_eq_getElem?_getD, List.getElem?_eq_getElem hi]; exact e⟩
  have dropg : ∀ i j, (O.drop i).getD j 0 = O.getD (i + j) 0 := fun i j => by rw [List.getD_eq_getElem?_getD, List.getD_eq_getElem?_getD, List.getElem?_drop]
  have dmem : ∀ i j, i ≤ j → j < 2 ^ n → O.getD j 0 ∈ O.drop i := fun i j h1 h2 => by
    have := getD_mem (O.drop i) 0 (j - i) (by rw [List.length_drop]; omega)
    rw [dropg, show i + (j - i) = j by omega] at this
    exact this
  constructor
  · intro h
    obtain ⟨i, _, hi, h⟩ := (anyG_iff _ _ _).1 h
    unfold hitI at h
    obtain ⟨j, _, hj, h⟩ := (anyG_iff _ _ _).1 h
    unfold hitJ at h
    rw [Bool.and_eq_true, Bool.and_eq_true] at h
    obtain ⟨⟨vx, vy⟩, h⟩ := h
    obtain ⟨k, _, hk, h⟩ := (anyG_iff _ _ _).1 h
    unfold hitK at h
    simp only [Bool.and_eq_true, Bool.not_eq_true'] at h
    obtain ⟨vu, hok, vw, _⟩ := h
    rw [dropg] at vy hok vw
    rw [List.length_drop] at hj
    exact ⟨_, _, _, hm i hi, hm (i + j) (by omega), hm k (by omega), hok, vx, vy, vu, vw⟩
  · rintro ⟨x, y, u, hx, hy, hu, hok, vx, vy, vu, vw⟩
    -- the lists' order may exchange the two of each
    have main : ∀ x y u, x < 2 ^ n → y < 2 ^ n → u < 2 ^ n → okU x y u = true → w.getD x false = true → w.getD y false = true → w.getD u false = false → w.getD (Wm x y u) false = false → ∀ i j k, i ≤ j → i < 2 ^ n → j < 2 ^ n → k < 2 ^ n → O.getD i 0 = x → O.getD j 0 = y → O.getD k 0 = u → Wm x y u ∈ O.drop k → anyG (hitI w O) (2 ^ n) 0 = true := by
      intro x y u hx hy hu hok vx vy vu vw i j k hij hi hj hk ei ej ek hin
      refine (anyG_iff _ _ _).2 ⟨i, Nat.zero_le _, hi, ?_⟩
      unfold hitI
      refine (anyG_iff _ _ _).2 ⟨j - i, Nat.zero_le _, by rw [List.length_drop]; omega, ?_⟩
      unfold hitJ
      rw [dropg, show i + (j - i) = j by omega, ei, ej, vx, vy, Bool.true_and, Bool.true_and]
      refine (anyG_iff _ _ _).2 ⟨k, Nat.zero_le _, by omega, ?_⟩
      unfold hitK
      rw [ek, vu, hok, vw, (ints_has _ _).2 hin]
      rfl
    obtain ⟨hWl, hWok, hWW⟩ := Wm_facts (x := x) (y := y) (u := u) (by omega) (by omega) (by omega) hok
    have hWlt : Wm x y u < 2 ^ n := by
      unfold Wm
      exact Nat.or_lt_two_pow (Nat.lt_of_le_of_lt Nat.and_le_left hx) (Nat.lt_of_le_of_lt (Nat.sub_le _ _) (Nat.or_lt_two_pow hx hy))
    obtain ⟨i, hi, ei⟩ := idx x hx
    obtain ⟨j, hj, ej⟩ := idx y hy
    obtain ⟨k, hk, ek⟩ := idx u hu
    obtain ⟨l, hl2, el⟩ := idx _ hWlt
    have hin : ∀ a b, a ≤ b → b < 2 ^ n → O.getD b 0 ∈ O.drop a := dmem
    rcases Nat.le_total i j with hij | hij
    · rcases Nat.le_total k l with hkl | hkl
      · exact main x y u hx hy hu hok vx vy vu vw i j k hij hi hj hk ei ej ek (by rw [← el]; exact dmem k l hkl hl2)
      · exact main x y (Wm x y u) hx hy hWlt hWok vx vy vw (by rw [hWW]; exact vu) i j l hij hi hj hl2 ei ej el (by rw [hWW, ← ek]; exact dmem l k hkl hk)
    · have e1 := Wm_swap x y u
      have e2 := Wm_swap x y (Wm x y u)
      rcases Nat.le_total k l with hkl | hkl
      · exact main y x u hy hx hu (by rw [← okU_swap]; exact hok) vy vx vu (by rw [← e1]; exact vw) j i k hij hj hi hk ej ei ek (by rw [← e1, ← el]; exact dmem k l hkl hl2)
      · exact main y x (Wm x y u) hy hx hWlt (by rw [← okU_swap]; exact hWok) vy vx vw (by rw [← e2, hWW]; exact vu) j i l hij hj hi hl2 ej ei el (by rw [← e2, hWW, ← ek]; exact dmem l k hkl hk)
theorem impl_votes_firstTrade.ev (n : Nat) (w : List Bool) (hw : w.length = 2 ^ n) (hn : n ≤ 6) : ∃ r1 r2 b, Ev (fun k => impl_votes_firstTrade.f k (n : Int) w) (r1, r2, b) ∧ (b = true ↔ Trade w n) := by
  have hO := ordO_perm n (by omega)
  obtain ⟨r1, r2, h⟩ := two_l0 hw hn hO 0 (Nat.zero_le _)
  refine ⟨r1, r2, _, ?_, found_iff hn hO⟩
  unfold impl_votes_firstTrade.f impl_votes_firstOfTwo.f
  exact Ev.bind (Ev.bind (impl_votes_ordered.ev n w hw (by omega)) h) Ev.some
end Go.Proofs.Ytokelcedamegbaa.P

/- All games of few members. -/
namespace Go.Proofs.Ytokelcedamegbaa.P
open Go.RowKit Go.Proofs.YtokelcedamegbaaW.PrintWords Go.Proofs.YtokelcedamegbaaW.PrintLast Go.Proofs.YtokelcedamegbaaW.PrintMore
theorem Ev.rises {α : Type} {g : Nat → Option α} (hm : ∀ k, LeO (g k) (g (k + 1))) {K : Nat} {r : α} (h : g K = Option.some r) : Ev g r := by
  refine ⟨K, fun k hk => ?_⟩
  induction hk with
  | refl => exact h
  | step _ ih => exact hm _ _ ih
def tbl : Nat → List Nat
  | 0 => [0, 1]
  | n + 1 => (tbl n).flatMap fun a => ((tbl n).filter fun b => a &&& b == a).map fun b => b * 2 ^ 2 ^ n + a
def nums (l : List Nat) : List Int := l.map fun m : Nat => (m : Int)
theorem nums_len (l : List Nat) : (nums l).length = l.length := by simp [nums]
theorem nums_get (l : List Nat) (i : Nat) : (nums l).getD i 0 = ((l.getD i 0 : Nat) : Int) := by
  simp only [nums, List.getD_eq_getElem?_getD, List.getElem?_map]
  cases l[i]? <;> rfl
theorem tables_1 : impl_tables.f 1000 1 = some (nums (tbl 1)) := by decide +kernel
theorem tables_2 : impl_tables.f 1000 2 = some (nums (tbl 2)) := by decide +kernel
theorem tables_3 : impl_tables.f 1000 3 = some (nums (tbl 3)) := by decide +kernel
theorem tables_4 : impl_tables.f 1000 4 = some (nums (tbl 4)) := by decide +kernel
theorem four {P : Nat → Prop} (h1 : P 1) (h2 : P 2) (h3 : P 3) (h4 : P 4) {n : Nat} (a : 1 ≤ n) (b : n ≤ 4) : P n := by
  rcases (show n = 1 ∨ n = 2 ∨ n = 3 ∨ n = 4 by omega) with rfl | rfl | rfl | rfl
  · exact h1
  · exact h2
  · exact h3
  · exact h4
theorem impl_tables.ev {n : Nat} (a : 1 ≤ n) (b : n ≤ 4) : Ev (fun k => impl_tables.f k (n : Int)) (nums (tbl n)) :=
  four (P := fun n => Ev (fun k => impl_tables.f k (n : Int)) (nums (tbl n))) (Ev.rises (fun k => impl_tables.mono _ k) tables_1) (Ev.rises (fun k => impl_tables.mono _ k) tables_2) (Ev.rises (fun k => impl_tables.mono _ k) tables_3) (Ev.rises (fun k => impl_tables.mono _ k) tables_4) a b
theorem tbl_facts {n : Nat} (a : 1 ≤ n) (b : n ≤ 4) : (tbl n).length ≤ 1000 ∧ ∀ t ∈ tbl n, t < 65536 := by
  have h : (decide ((tbl n).length ≤ 1000) && (tbl n).all (fun t => decide (t < 65536))) = true :=
    four (P := fun n => (decide ((tbl n).length ≤ 1000) && (tbl n).all (fun t => decide (t < 65536))) = true) (by decide +kernel) (by decide +kernel) (by decide +kernel) (by decide +kernel) a b
  rw [Bool.and_eq_true, decide_eq_true_eq, List.all_eq_true] at h
  exact ⟨h.1, fun t ht => of_decide_eq_true (h.2 t ht)⟩
def tabT (n t : Nat) : List Bool := tab n t.testBit
def okT (n t : Nat) : Bool := !t.testBit 0 && t.testBit (2 ^ n - 1)
def gW (n t b : Nat) : Bool := ((List.range (2 ^ n)).filter (lstB (tabT n t) n)).any fun m => decide (b &&& m = m)
theorem gwin_gsets (n t b : Nat) (hn : n ≤ 9) : gwin (gsets (tabT n t) n) b = gW n t b := by
  unfold gwin gsets setsR gW
  rw [(sorted_perm _).any_eq, ← setsTo_bits (lstB (tabT n t) n) (2 ^ n) (pow_small (m := 9) hn), List.any_map]
  rfl
def gameT (n t : Nat) : S_impl_Game := ⟨(n : Int), gsets (tabT n t) n⟩
def gamesT (n : Nat) (l : List Nat) : List S_impl_Game := (l.filter (okT n)).map (gameT n)
theorem gamesT_snoc (n : Nat) (l : List Nat) (t : Nat) : gamesT n (l ++ [t]) = gamesT n l ++ (if okT n t = true then [gameT n t] else []) := by
  unfold gamesT
  rw [List.filter_append, List.map_append]
  by_cases h : okT n t = true
  · rw [if_pos h, List.filter_cons, if_pos h]; rfl
  · rw [if_neg h, List.filter_cons, if_neg h]; rfl
theorem gsets_facts {n : Nat} (w : List Bool) (hn : n ≤ 9) : (gsets w n).length ≤ 512 ∧ ∀ s ∈ gsets w n, s.length ≤ 9 := by
  obtain ⟨h1, h2⟩ := setsTo_len (lstB w n) (2 ^ n)
  have h9 : 2 ^ n ≤ 512 := pow_small (m := 9) hn
  unfold gsets setsR
  refine ⟨by rw [(sorted_perm _).length_eq]; omega, fun s hs => h2 s ((sorted_perm _).mem_iff.1 hs)⟩
theorem slices_CompareFunc_LLint_LLint_int_int.ev (a b : List (List Int)) (ha : a.length ≤ 1000000) (hx : ∀ x ∈ a, x.length ≤ 1000000) : Ev (fun k => slices_CompareFunc_LLint_LLint_int_int.f k a b (fun x y => slices_Compare_int_int.f k x y)) (lexS a b) := by
  obtain ⟨K, hK⟩ := Ev.all (p := fun k (q : List Int × List Int) => slices_Compare_int_int.f k q.1 q.2) (P := fun q => lexc q.1 q.2) (a.flatMap fun x => b.map fun y => (x, y)) (fun q hq => by
    obtain ⟨x, hxa, hq⟩ := List.mem_flatMap.1 hq
    obtain ⟨y, _, rfl⟩ := List.mem_map.1 hq
    exact slices_Compare_int_int.ev x y (by have := hx x hxa; omega))
  refine ⟨K + a.length + 1, fun k hk => ?_⟩
  have hq : ∀ x ∈ a, ∀ y ∈ b, slices_Compare_int_int.f k x y = some (lexc x y) := fun x hxa y hyb => hK k (by omega) (x, y) (List.mem_flatMap.2 ⟨x, hxa, List.mem_map.2 ⟨y, hyb, rfl⟩⟩)
  unfold slices_CompareFunc_LLint_LLint_int_int.f
  have main : ∀ q : List Int → List Int → Option Int, (∀ x ∈ a, ∀ y ∈ b, q x y = some (lexc x y)) → ∀ d i, i + d = a.length → ∀ k, d < k → slices_CompareFunc_LLint_LLint_int_int.l0 k a b q a (a.length : Int) (i : Int) = some (lexS (a.drop i) (b.drop i)) := by
    intro q hq d
    induction d with
    | zero =>
      intro i hi k hk
      obtain ⟨k, rfl⟩ : ∃ j, k = j + 1 := ⟨k - 1, by omega⟩
      rw [slices_CompareFunc_LLint_LLint_int_int.l0, if_neg (by omega), List.drop_eq_nil_of_le (show a.length ≤ i by omega)]
      by_cases hb : (a.length : Int) < (b.length : Int)
      · rw [if_pos hb, drop_getD b [] i (by omega)]
        rfl
      · rw [if_neg hb, List.drop_eq_nil_of_le (show b.length ≤ i by omega)]
        rfl
    | succ d ih =>
      intro i hi k hk
      obtain ⟨k, rfl⟩ : ∃ j, k = j + 1 := ⟨k - 1, by omega⟩
      have hlt : i < a.length := by omega
      have ih := ih (i + 1) (by omega) k (by omega)
      rw [slices_CompareFunc_LLint_LLint_int_int.l0, if_pos (by omega), if_pos (by omega), if_pos (by omega), drop_getD a [] i hlt]
      by_cases hb : i < b.length
      · rw [if_neg (by omega), if_pos (by omega), drop_getD b [] i hb, lexS]
        have e1 : rd_LI a (i : Int) = a.getD i [] := rd_LI_nat a i
        have e2 : rd_LI b (i : Int) = b.getD i [] := rd_LI_nat b i
        rw [e1, e2, hq _ (getD_mem a [] i hlt) _ (getD_mem b [] i hb), Option.bind_some]
        by_cases hc : lexc (a.getD i []) (b.getD i []) = 0
        · rw [if_pos hc, if_pos hc, w1 hlt (by omega)]
          exact ih
        · rw [if_neg hc, if_neg hc]
      · rw [if_pos (by omega), List.drop_eq_nil_of_le (show b.length ≤ i by omega)]
        rfl
  exact main (fun x y => slices_Compare_int_int.f k x y) hq a.length 0 (by omega) k (by omega)
theorem impl_compareGames.ev (x y : S_impl_Game) (ha : x.f1.length ≤ 1000000) (hx : ∀ s ∈ x.f1, s.length ≤ 1000000) : Ev (fun k => impl_compareGames.f k x.f0 x.f1 y.f0 y.f1) (lexS x.f1 y.f1) := by
  unfold impl_compareGames.f
  exact Ev.bind (slices_CompareFunc_LLint_LLint_int_int.ev x.f1 y.f1 ha hx) Ev.some
theorem impl_allGames.ev {n : Nat} (a : 1 ≤ n) (b : n ≤ 4) : Ev (fun k => impl_allGames.f k (n : Int)) (gamesIn (gamesT n (tbl n))) := by
  obtain ⟨hl, ht⟩ := tbl_facts a b
  unfold impl_allGames.f
  refine Ev.bind (impl_tables.ev a b) ?_
  generalize tbl n = l at hl ht ⊢
  have hp : 2 ^ n ≤ 16 := pow_small (m := 4) b
  have hpos := Nat.two_pow_pos n
  have hgl : (gamesT n l).length ≤ 1000 := by
    unfold gamesT
    rw [List.length_map]
    exact Nat.le_trans (List.length_filter_le _ _) hl
  have hmem : ∀ x ∈ gamesT n l, x.f0 = (n : Int) ∧ x.f1.length ≤ 512 ∧ ∀ s ∈ x.f1, s.length ≤ 9 := by
    intro x hx
    obtain ⟨t, _, rfl⟩ := List.mem_map.1 hx
    exact ⟨rfl, gsets_facts _ (by omega)⟩
  have key := Ev.down (G := fun i k => impl_allGames.l0 k (n : Int) (gamesT n (l.take i)) (nums l) (l.length : Int) (i : Int)) (R := fun _ => gamesIn (gamesT n l)) l.length
    (by refine Ev.shift ?_
        simp only [impl_allGames.l0, Int.lt_irrefl, ↓reduceIte, List.take_length]
        refine Ev.bind ?_ Ev.some
        obtain ⟨K, hK⟩ := Ev.pairs (p := fun k (x y : S_impl_Game) => impl_compareGames.f k x.f0 x.f1 y.f0 y.f1) (P := fun x y => lexS x.f1 y.f1) (gamesT n l) (fun x h y _ => impl_compareGames.ev x y (by have := (hmem x h).2.1; omega) (fun s hs => by have := (hmem x h).2.2 s hs; omega))
        exact ⟨K, fun k hk => if_pos ⟨by omega, fun x hx y hy => by rw [(hmem x hx).1, (hmem y hy).1], hK k hk⟩⟩)
    (fun i hi ih => by
      refine Ev.shift ?_
      have c1 : (i : Int) < (l.length : Int) := by omega
      have c0 : (0 : Int) ≤ (i : Int) := by omega
      have htm := ht _ (getD_mem l 0 i hi)
      rw [take_getD l 0 i hi, gamesT_snoc] at ih
      simp only [impl_allGames.l0, nums_len, c1, c0, ↓reduceIte, rd_nat, nums_get, w1 hi (show l.length ≤ 9223372036854775807 by omega)]
      generalize l.getD i 0 = t at htm ih ⊢
      refine Ev.bind (impl_votesOf.ev n (by omega) (fun k y => impl_allGames_1.f y (t : Int)) t.testBit (fun b hb => by
        unfold impl_allGames_1.f
        refine Ev.bind (Ev.one (impl_has.eq t b (by omega) (by omega))) Ev.some)) ?_
      have tl := tab_len n t.testBit
      have z0 : (0 : Int) < ((tab n t.testBit).length : Int) := by rw [tl]; omega
      have g0 : (tab n t.testBit).getD 0 false = t.testBit 0 := tab_get _ _ _ hpos
      have g1 : (tab n t.testBit).getD (2 ^ n - 1) false = t.testBit (2 ^ n - 1) := tab_get _ _ _ (by omega)
      have r0 : rdOf false (tab n t.testBit) 0 = t.testBit 0 := by
        have := rdB_nat (tab n t.testBit) 0
        rw [g0] at this
        exact this
      simp only [z0, ↓reduceIte, r0]
      cases h0 : t.testBit 0 with
      | true =>
        have ho : okT n t = false := by unfold okT; rw [h0]; rfl
        rw [ho] at ih
        simp only [Bool.false_eq_true, ↓reduceIte, List.append_nil] at ih
        simp only [↓reduceIte]
        exact ih
      | false =>
        have hall : impl_votes_all.f (n : Int) (tab n t.testBit) = some ((2 ^ n - 1 : Nat) : Int) := by
          unfold impl_votes_all.f
          rw [if_pos (by omega), shl_one n (by omega), w64 (by omega) (by omega)]
          congr 1
          omega
        have q0 : (0 : Int) ≤ ((2 ^ n - 1 : Nat) : Int) := by omega
        have q1 : ((2 ^ n - 1 : Nat) : Int) < ((tab n t.testBit).length : Int) := by rw [tl]; omega
        simp only [Bool.false_eq_true, ↓reduceIte]
        refine Ev.bind (Ev.one hall) ?_
        simp only [q0, q1, ↓reduceIte, rdB_nat, g1]
        cases h1 : t.testBit (2 ^ n - 1) with
        | false =>
          have ho : okT n t = false := by unfold okT; rw [h0, h1]; rfl
          rw [ho] at ih
          simp only [Bool.false_eq_true, ↓reduceIte, List.append_nil] at ih
          simp only [Bool.false_eq_true, ↓reduceIte]
          exact ih
        | true =>
          have ho : okT n t = true := by unfold okT; rw [h0, h1]; rfl
          rw [ho] at ih
          simp only [↓reduceIte] at ih ⊢
          refine Ev.bind (impl_votes_game.ev n (tab n t.testBit) tl (by omega)) ?_
          have c2 : (gamesT n (l.take i)).length < 4398046511104 := by
            unfold gamesT
            rw [List.length_map]
            have := List.length_filter_le (okT n) (l.take i)
            rw [List.length_take] at this
            omega
          refine Ev.ite_pos c2 ?_
          exact ih)
  have k0 := key 0 (Nat.zero_le _)
  rw [nums_len]
  exact k0
end Go.Proofs.Ytokelcedamegbaa.P

/- The pure statement of FnExactCountWeighted. -/
namespace Go.Proofs.Ytokelcedamegbaa.P
open Go.RowKit Go.Proofs.YtokelcedamegbaaW.PrintWords Go.Proofs.YtokelcedamegbaaW.PrintLast Go.Proofs.YtokelcedamegbaaW.PrintMore
def weiT (n t : Nat) : Bool := complete (tab n (gW n t)) n
theorem sel9_isSet {n m : Nat} (a : 1 ≤ n) (b : n ≤ 4) (hm : m < 2 ^ n) : isSetN (sel 9 m.testBit) (n : Int) = true := by
  have h : ((List.range (2 ^ n)).all fun m => isSetN (sel 9 m.testBit) (n : Int)) = true :=
    four (P := fun n => ((List.range (2 ^ n)).all fun m => isSetN (sel 9 m.testBit) (n : Int)) = true) (by decide +kernel) (by decide +kernel) (by decide +kernel) (by decide +kernel) a b
  rw [List.all_eq_true] at h
  exact h m (List.mem_range.2 hm)
theorem impl_CountWeighted_1.ev {n : Nat} (a : 1 ≤ n) (b : n ≤ 4) (t : Nat) : Ev (fun k => impl_CountWeighted_1.f k (gameT n t).f0 (gameT n t).f1) (weiT n t) := by
  obtain ⟨h1, h2⟩ := gsets_facts (n := n) (tabT n t) (by omega)
  have hs : ∀ s ∈ gsets (tabT n t) n, isSetN s (n : Int) = true := by
    intro s hs
    have hs := (sorted_perm _).mem_iff.1 hs
    obtain ⟨m, hm, rfl⟩ := List.mem_map.1 hs
    exact sel9_isSet a b (List.mem_range.1 (List.mem_filter.1 hm).1)
  have eg : tab n (gwin (gsets (tabT n t) n)) = tab n (gW n t) := by
    congr 1
    funext b
    exact gwin_gsets n t b (by omega)
  unfold impl_CountWeighted_1.f
  refine Ev.bind (impl_Game_votes.ev n (gsets (tabT n t) n) (by omega) (by omega) (fun s hs => by have := h2 s hs; omega) hs) ?_
  obtain ⟨r1, r2, c, hb, hiff⟩ := impl_votes_firstTrade.ev n (tab n (gwin (gsets (tabT n t) n))) (tab_len _ _) (by omega)
  refine Ev.bind hb ?_
  have e : (!c) = weiT n t := by
    unfold weiT
    rw [← eg]
    have ti := trade_iff (tab n (gwin (gsets (tabT n t) n))) n (tab_len _ _) (by omega) (gwin_mono _ n)
    cases c with
    | true => rw [ti.1 (hiff.1 rfl)]; rfl
    | false =>
      cases hc : complete (tab n (gwin (gsets (tabT n t) n))) n with
      | true => rfl
      | false => exact absurd (hiff.2 (ti.2 hc)) (by decide)
  rw [← e]
  exact Ev.some
def cntT (n : Nat) : Nat := ((tbl n).filter (okT n)).countP (weiT n)
theorem impl_CountWeighted.ev {n : Nat} (a : 1 ≤ n) (b : n ≤ 4) : Ev (fun k => impl_CountWeighted.f k (n : Int)) ((cntT n : Int), true) := by
  have hin : inI 1 4 (n : Int) = true := by simp only [inI, Bool.and_eq_true, decide_eq_true_eq]; omega
  obtain ⟨hl, _⟩ := tbl_facts a b
  have hperm := gamesIn_perm (gamesT n (tbl n))
  have hgl : (gamesIn (gamesT n (tbl n))).length ≤ 1000 := by
    rw [hperm.length_eq]
    unfold gamesT
    rw [List.length_map]
    exact Nat.le_trans (List.length_filter_le _ _) hl
  obtain ⟨K, hK⟩ := Ev.all (p := fun k t => impl_CountWeighted_1.f k (gameT n t).f0 (gameT n t).f1) (P := weiT n) (tbl n) (fun t _ => impl_CountWeighted_1.ev a b t)
  obtain ⟨K2, hK2⟩ := impl_allGames.ev a b
  refine ⟨K + K2 + 2000, fun k hk => ?_⟩
  have hq : ∀ x ∈ gamesIn (gamesT n (tbl n)), ∃ t, t ∈ (tbl n).filter (okT n) ∧ x = gameT n t ∧ impl_CountWeighted_1.f k x.f0 x.f1 = some (weiT n t) := by
    intro x hx
    obtain ⟨t, ht, rfl⟩ := List.mem_map.1 (hperm.mem_iff.1 hx)
    exact ⟨t, ht, rfl, hK k (by omega) t (List.mem_filter.1 ht).1⟩
  -- what is counted, as a function of the game
  let W : S_impl_Game → Bool := fun x => match impl_CountWeighted_1.f k x.f0 x.f1 with | some c => c | none => false
  have hW : ∀ x ∈ gamesIn (gamesT n (tbl n)), impl_CountWeighted_1.f k x.f0 x.f1 = some (W x) := by
    intro x hx
    obtain ⟨t, _, _, h⟩ := hq x hx
    show _ = some (match impl_CountWeighted_1.f k x.f0 x.f1 with | some c => c | none => false)
    rw [h]
  have hcount : (gamesIn (gamesT n (tbl n))).countP W = cntT n := by
    rw [hperm.countP_eq]
    unfold gamesT cntT
    rw [List.countP_map]
    refine List.countP_congr (fun t ht => ?_)
    have h := hK k (by omega) t (List.mem_filter.1 ht).1
    show (match impl_CountWeighted_1.f k (gameT n t).f0 (gameT n t).f1 with | some c => c | none => false) = true ↔ _
    rw [h]
  show impl_CountWeighted.f k (n : Int) = _
  unfold impl_CountWeighted.f impl_countGames.f
  rw [impl_within.eq, hin, Option.bind_some, if_pos rfl, (show impl_allGames.f k (n : Int) = some (gamesIn (gamesT n (tbl n))) from hK2 k (by omega)), Option.bind_some]
  generalize gamesIn (gamesT n (tbl n)) = L at hgl hW hcount
  have main : ∀ q : Int → List (List Int) → Option Bool, (∀ x ∈ L, q x.f0 x.f1 = some (W x)) → ∀ d i, i + d = L.length → ∀ k, d < k → impl_countGames.l0 k q (((L.take i).countP W : Nat) : Int) L (L.length : Int) (i : Int) = some (((L.countP W : Nat) : Int), true) := by
    intro q hq d
    induction d with
    | zero =>
      intro i hi k hk
      obtain ⟨k, rfl⟩ : ∃ j, k = j + 1 := ⟨k - 1, by omega⟩
      rw [impl_countGames.l0, if_neg (by omega), List.take_of_length_le (by omega)]
    | succ d ih =>
      intro i hi k hk
      obtain ⟨k, rfl⟩ : ∃ j, k = j + 1 := ⟨k - 1, by omega⟩
      have hlt : i < L.length := by omega
      have ih := ih (i + 1) (by omega) k (by omega)
      have hx := hq _ (getD_mem L z_impl_Game i hlt)
      have hc : (L.take i).countP W ≤ 1000 := by
        have := List.countP_le_length (p := W) (l := L.take i)
        rw [List.length_take] at this
        omega
      rw [take_getD L z_impl_Game i hlt, List.countP_append, List.countP_cons, List.countP_nil] at ih
      have er : rd_impl_Game L (i : Int) = L.getD i z_impl_Game := by simp [rd_impl_Game]
      rw [impl_countGames.l0, if_pos (by omega), if_pos (by omega), if_pos (by omega), er, hx, Option.bind_some, w1 hlt (by omega)]
      cases hw : W (L.getD i z_impl_Game) with
      | true =>
        rw [hw, if_pos rfl] at ih
        rw [if_pos rfl, w64 (by omega) (by omega)]
        rw [show (((L.take i).countP W : Nat) : Int) + 1 = (((L.take i).countP W + (0 + 1) : Nat) : Int) by omega]
        exact ih
      | false =>
        rw [hw, if_neg (by decide)] at ih
        rw [if_neg (by decide)]
        exact ih
  have m0 := main (fun y0 y1 => impl_CountWeighted_1.f k y0 y1) hW L.length 0 (by omega) k (by omega)
  rw [hcount] at m0
  have m1 : impl_countGames.l0 k (fun y0 y1 => impl_CountWeighted_1.f k y0 y1) 0 L (L.length : Int) 0 = some ((cntT n : Int), true) := m0
  rw [m1]
  rfl
/-! #### the reference's count -/
def must (w : List Bool) (b : Nat) (l : List Int) : Bool := l.any fun x => w.getD (b - 2 ^ x.toNat) false
def wcN (n : Nat) : Nat → List Bool → Nat → Nat × List Bool
  | 0, w, b => (if (w.getD (b - 1) false && !w.getD 0 false && complete w n) = true then 1 else 0, w)
  | d + 1, w, b =>
    if must w b (sel 9 b.testBit) = true then wcN n d (w.set b true) (b + 1)
    else ((wcN n d (w.set b true) (b + 1)).1 + (wcN n d ((wcN n d (w.set b true) (b + 1)).2.set b false) (b + 1)).1, (wcN n d ((wcN n d (w.set b true) (b + 1)).2.set b false) (b + 1)).2)
theorem wcN_facts (n : Nat) : ∀ (d : Nat) (w : List Bool) (b : Nat), (wcN n d w b).2.length = w.length ∧ (wcN n d w b).1 ≤ 2 ^ d
  | 0, w, b => ⟨rfl, by unfold wcN; split <;> exact Nat.le_of_lt_succ (by show _ < 1 + 1; omega)⟩
  | d + 1, w, b => by
    obtain ⟨h1, h2⟩ := wcN_facts n d (w.set b true) (b + 1)
    obtain ⟨h3, h4⟩ := wcN_facts n d ((wcN n d (w.set b true) (b + 1)).2.set b false) (b + 1)
    rw [wcN]
    split
    · exact ⟨by rw [h1, List.length_set], by rw [Nat.pow_succ]; omega⟩
    · refine ⟨by rw [h3, List.length_set, h1, List.length_set], ?_⟩
      rw [Nat.pow_succ]
      show _ + _ ≤ _
      omega
theorem wsucc16 {b m : Nat} (h : b < m) (hm : m ≤ 16) : wrap64 ((b : Int) + 1) = ((b + 1 : Nat) : Int) := by rw [w64 (by omega) (by omega)]; omega
theorem wsub16 {b x m : Nat} (h : x ≤ b) (hb : b < m) (hm : m ≤ 16) : wrap64 ((b : Int) - ((x : Nat) : Int)) = ((b - x : Nat) : Int) := by rw [w64 (by omega) (by omega)]; omega
theorem wadd16 {x y m : Nat} (h : x ≤ m) (k : y ≤ m) (hm : m ≤ 65536) : wrap64 ((x : Int) + (y : Int)) = ((x + y : Nat) : Int) := by rw [w64 (by omega) (by omega)]; omega
theorem spec_weCount.ev {n : Nat} (a : 1 ≤ n) (h4 : n ≤ 4) : ∀ (d : Nat) (w : List Bool) (b : Nat), w.length = 2 ^ n → b + d = 2 ^ n → Ev (fun k => spec_weCount.f k w (b : Int) (n : Int)) (((wcN n d w b).1 : Int), (wcN n d w b).2)
  | 0, w, b, hw, hb => by
    have hp : 2 ^ n ≤ 16 := pow_small (m := 4) h4
    have hpos := Nat.two_pow_pos n
    refine Ev.shift ?_
    simp only [spec_weCount.f]
    refine Ev.ite_pos (by rw [hw]; omega) ?_
    have e1 : wrap64 ((b : Int) - 1) = ((b - 1 : Nat) : Int) := by rw [w64 (by omega) (by omega)]; omega
    rw [e1]
    refine Ev.ite_pos (by omega) (Ev.ite_pos (by omega) ?_)
    rw [rdB_nat]
    have r0 : rdOf false w 0 = w.getD 0 false := rdB_nat w 0
    rw [wcN, r0]
    cases h1 : w.getD (b - 1) false with
    | false => simp only [Bool.false_and, Bool.false_eq_true, ↓reduceIte]; exact Ev.some
    | true =>
      refine Ev.ite_pos rfl (Ev.ite_pos (by omega) ?_)
      cases h0 : w.getD 0 false with
      | true => simp only [Bool.not_true, Bool.and_false, Bool.false_and, Bool.false_eq_true, ↓reduceIte]; exact Ev.some
      | false =>
        refine Ev.ite_neg (by decide) ?_
        refine Ev.bind (spec_deComplete.ev n w hw (by omega)) ?_
        cases complete w n with
        | true => exact Ev.some
        | false => exact Ev.some
  | d + 1, w, b, hw, hb => by
    have hp : 2 ^ n ≤ 16 := pow_small (m := 4) h4
    have hpos := Nat.two_pow_pos n
    have hd : 2 ^ d ≤ 65536 := pow_small (m := 16) (by omega)
    obtain ⟨g1, g2⟩ := wcN_facts n d (w.set b true) (b + 1)
    obtain ⟨g3, g4⟩ := wcN_facts n d ((wcN n d (w.set b true) (b + 1)).2.set b false) (b + 1)
    rw [List.length_set] at g1
    have i1 := spec_weCount.ev a h4 d (w.set b true) (b + 1) (by rw [List.length_set]; exact hw) (by omega)
    have i2 := spec_weCount.ev a h4 d ((wcN n d (w.set b true) (b + 1)).2.set b false) (b + 1) (by rw [List.length_set, g1]; exact hw) (by omega)
    rw [wcN]
    generalize wcN n d (w.set b true) (b + 1) = R1 at i1 i2 g1 g2 g3 g4 ⊢
    generalize wcN n d (R1.2.set b false) (b + 1) = R2 at i2 g3 g4 ⊢
    have hbp : b < 2 ^ n := by omega
    refine Ev.shift ?_
    simp only [spec_weCount.f]
    refine Ev.ite_neg (by rw [hw]; omega) ?_
    refine Ev.bind (spec_voList.ev b (by omega)) ?_
    have hmem : ∀ x ∈ sel 9 b.testBit, ∃ i : Nat, x = (i : Int) ∧ i < 9 ∧ b.testBit i = true := by
      intro x hx
      obtain ⟨i, hi, rfl⟩ := List.mem_map.1 hx
      have h := List.mem_filter.1 hi
      exact ⟨i, rfl, List.mem_range.1 h.1, h.2⟩
    have hsl := sel_len 9 b.testBit
    generalize sel 9 b.testBit = L at hmem hsl ⊢
    -- behind the loop
    have fin : ∀ m : Bool, Ev (fun k => spec_weCount.l0 k w (b : Int) (n : Int) m L (L.length : Int) (L.length : Int)) (if m = true then (((R1.1 : Nat) : Int), R1.2) else (((R1.1 + R2.1 : Nat) : Int), R2.2)) := by
      intro m
      refine Ev.shift ?_
      simp only [spec_weCount.l0, Int.lt_irrefl, ↓reduceIte, Int.toNat_natCast, wsucc16 hbp hp]
      refine Ev.ite_pos (by omega) (Ev.ite_pos (by omega) ?_)
      refine Ev.bind i1 ?_
      cases m with
      | true => exact Ev.some
      | false =>
        simp only [Bool.false_eq_true, ↓reduceIte]
        refine Ev.bind i2 ?_
        rw [wadd16 g2 g4 hd]
        exact Ev.some
    have key := back (P := fun i => ∀ m : Bool, Ev (fun k => spec_weCount.l0 k w (b : Int) (n : Int) m L (L.length : Int) (i : Int)) (if (m || must w b (L.drop i)) = true then (((R1.1 : Nat) : Int), R1.2) else (((R1.1 + R2.1 : Nat) : Int), R2.2))) L.length
      (by intro m
          rw [List.drop_length, show must w b [] = false from rfl, Bool.or_false]
          exact fin m)
      (fun i hi ih m => by
        refine Ev.shift ?_
        have c1 : (i : Int) < (L.length : Int) := by omega
        have c0 : (0 : Int) ≤ (i : Int) := by omega
        simp only [spec_weCount.l0, c1, c0, ↓reduceIte, w1 hi (show L.length ≤ 9223372036854775807 by omega), rd_nat]
        obtain ⟨q, e, hq9, hqb⟩ := hmem _ (getD_mem L 0 i hi)
        have hle := pow_le_of_bit hqb
        have hq0 := Nat.two_pow_pos q
        have hdr : must w b (L.drop i) = (w.getD (b - 2 ^ q) false || must w b (L.drop (i + 1))) := by
          rw [drop_getD L 0 i hi, e]
          simp only [must, List.any_cons, Int.toNat_natCast]
        rw [hdr, e]
        cases m with
        | true =>
          simp only [Bool.true_or, ↓reduceIte]
          have := ih true
          simp only [Bool.true_or, ↓reduceIte] at this
          exact this
        | false =>
          rw [shl_one q (by omega), wsub16 hle hbp hp]
          simp only [Bool.false_eq_true, ↓reduceIte]
          refine Ev.ite_pos (by omega) (Ev.ite_pos (by omega) (Ev.ite_pos (by omega) ?_))
          rw [rdB_nat, Bool.false_or]
          exact ih _)
    have k0 := key 0 (Nat.zero_le _) false
    rw [Bool.false_or, List.drop_zero] at k0
    refine Ev.eq k0 ?_
    cases must w b L <;> rfl
theorem counts_1 : (wcN 1 (2 ^ 1) (List.replicate (2 ^ 1) false) 0).1 = cntT 1 := by decide +kernel
theorem counts_2 : (wcN 2 (2 ^ 2) (List.replicate (2 ^ 2) false) 0).1 = cntT 2 := by decide +kernel
theorem counts_3 : (wcN 3 (2 ^ 3) (List.replicate (2 ^ 3) false) 0).1 = cntT 3 := by decide +kernel
theorem counts_4a : (wcN 4 (2 ^ 4) (List.replicate (2 ^ 4) false) 0).1 = 148 := by decide +kernel
theorem counts_4b : cntT 4 = 148 := by decide +kernel
theorem counts_4 : (wcN 4 (2 ^ 4) (List.replicate (2 ^ 4) false) 0).1 = cntT 4 := counts_4a.trans counts_4b.symm
theorem spec_CountWeighted.ev {n : Nat} (a : 1 ≤ n) (b : n ≤ 4) : Ev (fun k => spec_CountWeighted.f k (n : Int)) ((cntT n : Int), true) := by
  have hin : inI 1 4 (n : Int) = true := by simp only [inI, Bool.and_eq_true, decide_eq_true_eq]; omega
  have hp : 2 ^ n ≤ 16 := pow_small (m := 4) b
  have hpos := Nat.two_pow_pos n
  have hc : (wcN n (2 ^ n) (List.replicate (2 ^ n) false) 0).1 = cntT n := four (P := fun n => (wcN n (2 ^ n) (List.replicate (2 ^ n) false) 0).1 = cntT n) counts_1 counts_2 counts_3 counts_4 a b
  have hev := spec_weCount.ev a b (2 ^ n) (List.replicate (2 ^ n) false) 0 List.length_replicate (by omega)
  rw [hc] at hev
  unfold spec_CountWeighted.f
  refine Ev.bind (Ev.one (spec_l1In.eq (n : Int) 1 4)) ?_
  rw [hin, shl_one n (by omega)]
  refine Ev.ite_pos rfl (Ev.ite_pos (by omega) (Ev.ite_pos (by omega) (Ev.ite_pos (by rw [Int.toNat_natCast]; omega) ?_)))
  rw [Int.toNat_natCast]
  exact Ev.bind hev Ev.some
theorem laws_FnExactCountWeighted_pure : laws_FnExactCountWeighted.Pure := by
  intro n _
  apply Ev.rounds (r := true)
  unfold laws_FnExactCountWeighted.f
  cases hin : inI 1 4 n with
  | true =>
    obtain ⟨m, rfl, a, b⟩ : ∃ m : Nat, n = (m : Int) ∧ 1 ≤ m ∧ m ≤ 4 := by
      simp only [inI, Bool.and_eq_true, decide_eq_true_eq] at hin
      exact ⟨n.toNat, by omega, by omega, by omega⟩
    refine Ev.bind (spec_CountWeighted.ev a b) (Ev.bind (impl_CountWeighted.ev a b) ?_)
    simp only [↓reduceIte, bne_self_eq_false, Bool.false_eq_true]
    exact Ev.some
  | false =>
    have s1 : Ev (fun k => spec_CountWeighted.f k n) (0, false) := by
      unfold spec_CountWeighted.f
      refine Ev.bind (Ev.one (spec_l1In.eq n 1 4)) ?_
      rw [hin]
      exact Ev.ite_neg (by decide) Ev.some
    have i1 : Ev (fun k => impl_CountWeighted.f k n) (0, false) := by
      unfold impl_CountWeighted.f
      refine Ev.bind (r := (0, false)) (a := (0, false)) ?_ Ev.some
      unfold impl_countGames.f
      refine Ev.bind (Ev.one (impl_within.eq n 1 4)) ?_
      rw [hin]
      exact Ev.ite_neg (by decide) Ev.some
    refine Ev.bind s1 (Ev.bind i1 ?_)
    simp only [↓reduceIte, bne_self_eq_false, Bool.false_eq_true]
    exact Ev.some
end Go.Proofs.Ytokelcedamegbaa.P
