/- Part 7 of the texts below the law FnExactStandsTrades. Printed by this session's driver over the kit's printer, but for the hand contracts and the plain laws. -/
import Derived.Test.YtokelcedamegbaaCStandsTrades4
import Derived.Test.YtokelcedamegbaaCStandsTrades5
import Derived.Test.YtokelcedamegbaaCStandsTrades6
set_option linter.unusedVariables false
set_option linter.unusedSimpArgs false
namespace Go.Proofs.Ytokelcedamegbaa.P
def laws_FnExactStandsTrades.Pure : Prop := ∀ (a0_0 : Int) (l0_1 : List (List Int)), okI a0_0 → (okL (okL okI)) l0_1 → ∃ k, laws_FnExactStandsTrades.f k a0_0 l0_1 = some true
end Go.Proofs.Ytokelcedamegbaa.P

/- The least winning sets, in order. -/
namespace Go.Proofs.Ytokelcedamegbaa.P
open Go.RowKit Go.Proofs.YtokelcedamegbaaW.PrintWords Go.Proofs.YtokelcedamegbaaW.PrintLast Go.Proofs.YtokelcedamegbaaW.PrintMore
theorem andNot512 : ((List.range 512).all fun m => (List.range 9).all fun i => !(m.testBit i) || Go.bits .andNot .i64 (m : Int) ((2 ^ i : Nat) : Int) == ((m - 2 ^ i : Nat) : Int)) = true := by decide +kernel
theorem andNot_pow {m i : Nat} (h : m < 512) (hi : i < 9) (hb : m.testBit i = true) : Go.bits .andNot .i64 (m : Int) ((2 ^ i : Nat) : Int) = ((m - 2 ^ i : Nat) : Int) := by
  have h1 := andNot512
  rw [List.all_eq_true] at h1
  have h2 := h1 m (List.mem_range.2 h)
  rw [List.all_eq_true] at h2
  simpa [hb] using h2 i (List.mem_range.2 hi)
theorem pow_le_of_bit {m i : Nat} (h : m.testBit i = true) : 2 ^ i ≤ m := Nat.ge_two_pow_of_testBit h
theorem sub_pow {m b : Nat} (h : 2 ^ b ≤ m) (h5 : m < 512) : wrap64 ((m : Int) - ((2 ^ b : Nat) : Int)) = ((m - 2 ^ b : Nat) : Int) := by
  generalize 2 ^ b = q at h ⊢
  rw [w64 (by omega) (by omega)]; omega
def lstP (w : List Bool) (m : Nat) (i : Nat) : Bool := !(m.testBit i && w.getD (m - 2 ^ i) false)
def lstB (w : List Bool) (n m : Nat) : Bool := w.getD m false && (List.range n).all (lstP w m)
theorem range_drop (n i : Nat) (h : i < n) : (List.range n).drop i = i :: (List.range n).drop (i + 1) := by
  rw [drop_getD (List.range n) 0 i (by rw [List.length_range]; exact h)]
  congr 1
  rw [List.getD_eq_getElem?_getD, List.getElem?_range h]
  rfl
theorem impl_votes_isLeast.ev (n : Nat) (w : List Bool) (m : Nat) (hw : w.length = 2 ^ n) (hn : n ≤ 9) (hm : m < 2 ^ n) : Ev (fun k => impl_votes_isLeast.f k (n : Int) w (m : Int)) (lstB w n m) := by
  have h9 : 2 ^ n ≤ 512 := pow_small (m := 9) hn
  unfold impl_votes_isLeast.f lstB
  refine Ev.ite_pos (by omega) (Ev.ite_pos (by omega) ?_)
  rw [rdB_nat]
  cases hwm : w.getD m false with
  | false => exact Ev.ite_neg (by decide) Ev.some
  | true =>
    refine Ev.ite_pos rfl ?_
    have key := Ev.down (G := fun i k => impl_votes_isLeast.l0 k (m : Int) (n : Int) (i : Int) (n : Int) w) (R := fun i => ((List.range n).drop i).all (lstP w m)) n
      (by refine Ev.shift ?_
          simp only [impl_votes_isLeast.l0]
          refine Ev.ite_neg (by omega) ?_
          rw [List.drop_eq_nil_of_le (by rw [List.length_range]; exact Nat.le_refl _)]
          exact Ev.some)
      (fun i hi ih => by
        refine Ev.shift ?_
        simp only [impl_votes_isLeast.l0]
        refine Ev.ite_pos (by omega) ?_
        rw [range_drop n i hi, List.all_cons]
        refine Ev.bind (Ev.one (impl_has.eq m i (by omega) (by omega))) ?_
        cases ht : m.testBit i with
        | false =>
          refine Ev.ite_neg (by decide) ?_
          rw [w1 hi (by omega)]
          have e : lstP w m i = true := by unfold lstP; rw [ht]; rfl
          rw [e, Bool.true_and]
          exact ih
        | true =>
          refine Ev.ite_pos rfl (Ev.ite_pos (by omega) ?_)
          rw [shl_one i (by omega), andNot_pow (by omega) (by omega) ht]
          have hlt : m - 2 ^ i < w.length := by rw [hw]; exact Nat.lt_of_le_of_lt (Nat.sub_le _ _) hm
          refine Ev.ite_pos (Int.natCast_nonneg _) (Ev.ite_pos (Int.ofNat_lt.2 hlt) ?_)
          rw [rdB_nat]
          have e : lstP w m i = !(w.getD (m - 2 ^ i) false) := by unfold lstP; rw [ht, Bool.true_and]
          rw [e]
          cases hv : w.getD (m - 2 ^ i) false with
          | true => exact Ev.ite_pos rfl Ev.some
          | false =>
            refine Ev.ite_neg (by decide) ?_
            rw [w1 hi (by omega)]
            exact ih)
    exact key 0 (Nat.zero_le _)
theorem impl_setOf.ev (m : Nat) (h : m < 512) : Ev (fun k => impl_setOf.f k (m : Int)) (sel 9 m.testBit) := by
  unfold impl_setOf.f
  have key := Ev.down (G := fun i k => impl_setOf.l0 k (m : Int) (sel i m.testBit) (i : Int)) (R := fun _ => sel 9 m.testBit) 9
    (by refine Ev.shift ?_
        have c0 : (0 : Int) ≤ ((9 : Nat) : Int) := by omega
        have e : m / 2 ^ 9 = 0 := Nat.div_eq_of_lt h
        have c : ¬ (((0 : Nat) : Int) > 0) := by omega
        simp only [impl_setOf.l0, c0, ↓reduceIte, shr_nat m 9 (by omega), e, c]
        exact Ev.some)
    (fun i hi ih => by
      refine Ev.shift ?_
      have c0 : (0 : Int) ≤ (i : Int) := by omega
      have c2 : (sel i m.testBit).length < 17592186044416 := by have := sel_len i m.testBit; omega
      have hlt2 : m / 2 ^ i < 2 ^ 63 := Nat.lt_of_le_of_lt (Nat.div_le_self _ _) (by omega)
      rw [sel_succ] at ih
      simp only [impl_setOf.l0, c0, ↓reduceIte, shr_nat m i (by omega), and_one _ hlt2, c2, w1 hi (by omega)]
      by_cases hz : m / 2 ^ i = 0
      · have c : ¬ (((m / 2 ^ i : Nat) : Int) > 0) := by rw [hz]; decide
        simp only [c, ↓reduceIte]
        refine Ev.eq Ev.some ?_
        have hlt : m < 2 ^ i := by
          rcases Nat.div_eq_zero_iff.1 hz with h | h
          · exact absurd h (by have := Nat.two_pow_pos i; omega)
          · exact h
        have := sel_more i (9 - i) m hlt
        rw [show i + (9 - i) = 9 by omega] at this
        exact this.symm
      · have c : (((m / 2 ^ i : Nat) : Int) > 0) := Int.natCast_pos.2 (Nat.pos_of_ne_zero hz)
        simp only [c, ↓reduceIte]
        cases hb : m.testBit i with
        | true =>
          rw [bit_nat, decide_eq_true_eq] at hb
          have c3 : ((m / 2 ^ i % 2 : Nat) : Int) = 1 := by omega
          rw [bit_nat, show decide (m / 2 ^ i % 2 = 1) = true from decide_eq_true hb, if_pos rfl] at ih
          simp only [c3, ↓reduceIte]
          exact ih
        | false =>
          rw [hb, if_neg (by decide), List.append_nil] at ih
          rw [bit_nat, decide_eq_false_iff_not] at hb
          have c3 : ¬ ((m / 2 ^ i % 2 : Nat) : Int) = 1 := by omega
          simp only [c3, ↓reduceIte]
          exact ih)
  exact key 0 (by omega)
def setsTo (P : Nat → Bool) (i : Nat) : List (List Int) := ((List.range i).filter P).map fun m => sel 9 m.testBit
def setsR (P : Nat → Bool) (n : Nat) : List (List Int) := sorted (setsTo P (2 ^ n))
theorem setsTo_succ (P : Nat → Bool) (i : Nat) : setsTo P (i + 1) = setsTo P i ++ (if P i = true then [sel 9 i.testBit] else []) := by
  unfold setsTo
  rw [List.range_succ, List.filter_append, List.map_append]
  cases h : P i with
  | true => rw [List.filter_cons_of_pos h]; simp
  | false => rw [List.filter_cons_of_neg (by simp [h])]; simp
theorem setsTo_len (P : Nat → Bool) (i : Nat) : (setsTo P i).length ≤ i ∧ ∀ x ∈ setsTo P i, x.length ≤ 9 := by
  refine ⟨?_, fun x hx => ?_⟩
  · unfold setsTo
    rw [List.length_map]
    exact Nat.le_trans (List.length_filter_le _ _) (by rw [List.length_range]; exact Nat.le_refl _)
  · obtain ⟨m, _, rfl⟩ := List.mem_map.1 hx
    exact sel_len 9 _
theorem setsR_len (P : Nat → Bool) (n : Nat) : (setsR P n).length ≤ 2 ^ n ∧ ∀ x ∈ setsR P n, x.length ≤ 9 := by
  obtain ⟨h1, h2⟩ := setsTo_len P (2 ^ n)
  have hp := sorted_perm (setsTo P (2 ^ n))
  exact ⟨by unfold setsR; rw [hp.length_eq]; exact h1, fun x hx => h2 x (hp.mem_iff.1 hx)⟩
theorem Ev.pairs {α β : Type} {p : Nat → α → α → Option β} {P : α → α → β} (l : List α) (h : ∀ x ∈ l, ∀ y ∈ l, Ev (fun k => p k x y) (P x y)) : ∃ K, ∀ k, K ≤ k → ∀ x ∈ l, ∀ y ∈ l, p k x y = Option.some (P x y) := by
  obtain ⟨K, hK⟩ := Ev.all (p := fun k (z : α × α) => p k z.1 z.2) (P := fun z => P z.1 z.2) (l.flatMap fun x => l.map fun y => (x, y)) (fun z hz => by
    obtain ⟨x, hx, hz⟩ := List.mem_flatMap.1 hz
    obtain ⟨y, hy, rfl⟩ := List.mem_map.1 hz
    exact h x hx y hy)
  exact ⟨K, fun k hk x hx y hy => hK k hk (x, y) (List.mem_flatMap.2 ⟨x, hx, List.mem_map.2 ⟨y, hy, rfl⟩⟩)⟩
theorem slices_SortFunc_LLint_Lint.ev (l : List (List Int)) (hl : l.length ≤ 1000000) (hx : ∀ x ∈ l, x.length ≤ 1000000) : Ev (fun k => slices_SortFunc_LLint_Lint.f k l (fun x y => slices_Compare_int_int.f k x y)) (sorted l) := by
  obtain ⟨K, hK⟩ := Ev.pairs (p := fun k x y => slices_Compare_int_int.f k x y) (P := lexc) l (fun x h _ _ => slices_Compare_int_int.ev x _ (by have := hx x h; omega))
  exact ⟨K, fun k hk => if_pos ⟨hl, hK k hk⟩⟩
theorem spec_voSorted.ev (l : List (List Int)) (hl : l.length ≤ 1000000) (hx : ∀ x ∈ l, x.length ≤ 1000000) : Ev (fun k => spec_voSorted.f k l) (sorted l) := by
  obtain ⟨K, hK⟩ := Ev.pairs (p := fun k x y => spec_voBefore.f k x y) (P := fun x y => decide (lexc x y < 0)) l (fun x h _ _ => spec_voBefore.ev x _ (by have := hx x h; omega))
  exact ⟨K, fun k hk => if_pos ⟨hl, hK k hk⟩⟩
theorem impl_votes_sets.ev (n : Nat) (w : List Bool) (hw : w.length = 2 ^ n) (hn : n ≤ 9) (p : Nat → Int → Option Bool) (P : Nat → Bool) (h : ∀ b : Nat, b < 2 ^ n → Ev (fun k => p k (b : Int)) (P b)) : Ev (fun k => impl_votes_sets.f k (n : Int) w (p k)) (setsR P n) := by
  have h9 : 2 ^ n ≤ 512 := pow_small (m := 9) hn
  unfold impl_votes_sets.f
  obtain ⟨K, hK⟩ := Ev.all (p := fun k (b : Nat) => p k (b : Int)) (P := P) (List.range (2 ^ n)) (fun b hb => h b (List.mem_range.1 hb))
  have hq : ∀ k, K ≤ k → ∀ b : Nat, b < 2 ^ n → p k (b : Int) = some (P b) := fun k hk b hb => hK k hk b (List.mem_range.2 hb)
  obtain ⟨hl1, hl2⟩ := setsTo_len P (2 ^ n)
  obtain ⟨K2, hK2⟩ := slices_SortFunc_LLint_Lint.ev (setsTo P (2 ^ n)) (by omega) (fun x hx => by have := hl2 x hx; omega)
  obtain ⟨K3, hK3⟩ := Ev.all (p := fun k (b : Nat) => impl_setOf.f k (b : Int)) (P := fun b => sel 9 b.testBit) (List.range (2 ^ n)) (fun b hb => impl_setOf.ev b (by have := List.mem_range.1 hb; omega))
  have hlen : (w.length : Int) = ((2 ^ n : Nat) : Int) := by rw [hw]
  have main : ∀ q : Int → Option Bool, (∀ b : Nat, b < 2 ^ n → q (b : Int) = some (P b)) → ∀ d i, i + d = 2 ^ n → ∀ k, K2 + K3 + d < k → impl_votes_sets.l0 k q (setsTo P i) ((2 ^ n : Nat) : Int) (i : Int) = some (setsR P n) := by
    intro q hq d
    induction d with
    | zero =>
      intro i hi k hk
      obtain ⟨k, rfl⟩ : ∃ j, k = j + 1 := ⟨k - 1, by omega⟩
      rw [impl_votes_sets.l0, if_neg (by omega), show i = 2 ^ n by omega, show slices_SortFunc_LLint_Lint.f k (setsTo P (2 ^ n)) (fun y0_ y1_ => slices_Compare_int_int.f k y0_ y1_) = some (sorted (setsTo P (2 ^ n))) from hK2 k (by omega)]
      rfl
    | succ d ih =>
      intro i hi k hk
      obtain ⟨k, rfl⟩ : ∃ j, k = j + 1 := ⟨k - 1, by omega⟩
      have hlt : i < 2 ^ n := by omega
      have ih := ih (i + 1) (by omega) k (by omega)
      rw [setsTo_succ] at ih
      rw [impl_votes_sets.l0, if_pos (by omega), hq i hlt, Option.bind_some, w1 hlt (by omega)]
      cases hP : P i with
      | true =>
        rw [hP, if_pos rfl] at ih
        have hl := (setsTo_len P i).1
        rw [if_pos rfl, hK3 k (by omega) i (List.mem_range.2 hlt), Option.bind_some, if_pos (by omega)]
        exact ih
      | false =>
        rw [hP, if_neg (by decide), List.append_nil] at ih
        rw [if_neg (by decide)]
        exact ih
  refine ⟨K + K2 + K3 + 2 ^ n + 1, fun k hk => ?_⟩
  rw [hlen]
  exact main (p k) (hq k (by omega)) (2 ^ n) 0 (by omega) k (by omega)
def gsets (w : List Bool) (n : Nat) : List (List Int) := setsR (lstB w n) n
theorem impl_votes_game.ev (n : Nat) (w : List Bool) (hw : w.length = 2 ^ n) (hn : n ≤ 9) : Ev (fun k => impl_votes_game.f k (n : Int) w) ((n : Int), gsets w n) := by
  unfold impl_votes_game.f impl_votes_least.f
  exact Ev.bind (impl_votes_sets.ev n w hw hn (fun k y => impl_votes_isLeast.f k (n : Int) w y) (lstB w n) (fun b hb => impl_votes_isLeast.ev n w b hw hn hb)) Ev.some
theorem sel_all_q (w : List Bool) (n m : Nat) (hn : n ≤ 9) (hm : m < 2 ^ n) : (sel 9 m.testBit).all (fun x => !(w.getD (m - 2 ^ x.toNat) false)) = (List.range n).all (lstP w m) := by
  have e := sel_more n (9 - n) m hm
  rw [show n + (9 - n) = 9 by omega] at e
  rw [e]
  unfold sel
  rw [List.all_map, List.all_filter]
  congr 1
  funext i
  simp only [Function.comp, Int.toNat_natCast, lstP, Bool.not_and]
theorem spec_voLeast.ev (n : Nat) (w : List Bool) (hw : w.length = 2 ^ n) (hn : n ≤ 9) : Ev (fun k => spec_voLeast.f k w) (gsets w n) := by
  have h9 : 2 ^ n ≤ 512 := pow_small (m := 9) hn
  unfold spec_voLeast.f
  obtain ⟨hl1, hl2⟩ := setsTo_len (lstB w n) (2 ^ n)
  have key := Ev.down (G := fun i k => spec_voLeast.l0 k w (setsTo (lstB w n) i) w (w.length : Int) (i : Int)) (R := fun _ => gsets w n) (2 ^ n)
    (by refine Ev.shift ?_
        simp only [spec_voLeast.l0]
        refine Ev.ite_neg (by omega) ?_
        exact Ev.bind (spec_voSorted.ev _ (by omega) (fun x hx => by have := hl2 x hx; omega)) Ev.some)
    (fun m hm ih => by
      refine Ev.shift ?_
      simp only [spec_voLeast.l0]
      refine Ev.ite_pos (by omega) (Ev.ite_pos (by omega) (Ev.ite_pos (by omega) ?_))
      rw [rdB_nat]
      rw [setsTo_succ] at ih
      unfold lstB at ih
      rw [show (lstB w n) = fun m => w.getD m false && (List.range n).all (lstP w m) from rfl]
      cases hwm : w.getD m false with
      | false =>
        rw [hwm, Bool.false_and, if_neg (by decide), List.append_nil] at ih
        refine Ev.ite_neg (by decide) ?_
        rw [w1 hm (by omega)]
        exact ih
      | true =>
        rw [hwm, Bool.true_and, ← sel_all_q w n m hn hm] at ih
        refine Ev.ite_pos rfl ?_
        refine Ev.bind (spec_voList.ev m (by omega)) ?_
        have sl := sel_len 9 m.testBit
        have sm : ∀ x ∈ sel 9 m.testBit, ∃ b : Nat, x = (b : Int) ∧ b < 9 ∧ m.testBit b = true := fun x hx => by
          unfold sel at hx
          obtain ⟨b, hb, rfl⟩ := List.mem_map.1 hx
          rw [List.mem_filter] at hb
          exact ⟨b, rfl, List.mem_range.1 hb.1, hb.2⟩
        have hlsz := (setsTo_len (fun m => w.getD m false && (List.range n).all (lstP w m)) m).1
        have voL := spec_voList.ev m (show m < 512 by omega)
        generalize sel 9 m.testBit = L at ih sl sm voL ⊢
        have key2 := Ev.down (G := fun i k => spec_voLeast.l1 k w (setsTo (fun m => w.getD m false && (List.range n).all (lstP w m)) m) (m : Int) ((L.take i).all (fun x => !(w.getD (m - 2 ^ x.toNat) false))) w (w.length : Int) (m : Int) L (L.length : Int) (i : Int)) (R := fun _ => gsets w n) L.length
          (by refine Ev.shift ?_
              simp only [spec_voLeast.l1]
              refine Ev.ite_neg (by omega) ?_
              rw [List.take_length]
              cases hq : L.all (fun x => !(w.getD (m - 2 ^ x.toNat) false)) with
              | true =>
                rw [hq, if_pos rfl] at ih
                refine Ev.ite_pos rfl (Ev.bind voL (Ev.ite_pos (by omega) ?_))
                rw [w1 hm (by omega)]
                exact ih
              | false =>
                rw [hq, if_neg (by decide), List.append_nil] at ih
                refine Ev.ite_neg (by decide) ?_
                rw [w1 hm (by omega)]
                exact ih)
          (fun i hi ih2 => by
            refine Ev.shift ?_
            simp only [spec_voLeast.l1]
            refine Ev.ite_pos (by omega) (Ev.ite_pos (by omega) (Ev.ite_pos (by omega) ?_))
            rw [w1 hi (by omega), rd_nat]
            rw [take_getD L 0 i hi, List.all_append] at ih2
            obtain ⟨b, eb, hb9, hbt⟩ := sm _ (getD_mem L 0 i hi)
            have hp := pow_le_of_bit hbt
            cases hq : (L.take i).all (fun x => !(w.getD (m - 2 ^ x.toNat) false)) with
            | false =>
              rw [hq, Bool.false_and] at ih2
              exact Ev.ite_neg (by decide) ih2
            | true =>
              rw [hq, Bool.true_and, List.all_cons, List.all_nil, Bool.and_true, eb, Int.toNat_natCast] at ih2
              refine Ev.ite_pos rfl ?_
              rw [eb, shl_one b (by omega)]
              have hlt : m - 2 ^ b < w.length := by rw [hw]; exact Nat.lt_of_le_of_lt (Nat.sub_le _ _) hm
              rw [sub_pow hp (by omega)]
              refine Ev.ite_pos (by omega) (Ev.ite_pos (Int.natCast_nonneg _) (Ev.ite_pos (Int.ofNat_lt.2 hlt) ?_))
              rw [rdB_nat]
              exact ih2)
        exact key2 0 (Nat.zero_le _))
  exact key 0 (Nat.zero_le _)
theorem spec_gmOf.ev (n : Nat) (w : List Bool) (hw : w.length = 2 ^ n) (hn : n ≤ 9) : Ev (fun k => spec_gmOf.f k (n : Int) w) ((n : Int), gsets w n) := by
  unfold spec_gmOf.f
  exact Ev.bind (spec_voLeast.ev n w hw hn) Ev.some
end Go.Proofs.Ytokelcedamegbaa.P

/- The first trade of two winning sets: whether there is one. -/
namespace Go.Proofs.Ytokelcedamegbaa.P
open Go.RowKit Go.Proofs.YtokelcedamegbaaW.PrintWords Go.Proofs.YtokelcedamegbaaW.PrintLast Go.Proofs.YtokelcedamegbaaW.PrintMore
def anyG (P : Nat → Bool) (n i : Nat) : Bool := (List.range' i (n - i)).any P
theorem anyG_end (P : Nat → Bool) (n : Nat) : anyG P n n = false := by simp [anyG]
theorem anyG_step (P : Nat → Bool) (n i : Nat) (h : i < n) : anyG P n i = (P i || anyG P n (i + 1)) := by
  unfold anyG
  rw [show n - i = (n - (i + 1)) + 1 by omega, List.range'_succ, List.any_cons]
theorem anyG_iff (P : Nat → Bool) (n i : Nat) : anyG P n i = true ↔ ∃ j, i ≤ j ∧ j < n ∧ P j = true := by
  unfold anyG
  rw [List.any_eq_true]
  constructor
  · rintro ⟨j, hj, h⟩
    rw [List.mem_range'_1] at hj
    exact ⟨j, hj.1, by omega, h⟩
  · rintro ⟨j, h1, h2, h3⟩
    exact ⟨j, by rw [List.mem_range'_1]; omega, h3⟩
theorem andNot_all : ((List.range 64).all fun a => (List.range 64).all fun b => Go.bits .andNot .i64 (a : Int) (b : Int) == ((a - (a &&& b) : Nat) : Int)) = true := by decide +kernel
theorem andNot64 {a b : Nat} (ha : a < 64) (hb : b < 64) : Go.bits .andNot .i64 (a : Int) (b : Int) = ((a - (a &&& b) : Nat) : Int) := by
  have q := andNot_all
  rw [List.all_eq_true] at q
  have q := q a (List.mem_range.2 ha)
  rw [List.all_eq_true] at q
  have q := q b (List.mem_range.2 hb)
  simpa using q
theorem and64 {a b : Nat} (ha : a < 64) : a &&& b < 64 := Nat.lt_of_le_of_lt Nat.and_le_left ha
theorem or64 {a b : Nat} (ha : a < 64) (hb : b < 64) : a ||| b < 64 := Nat.or_lt_two_pow (n := 6) ha hb
theorem andI {a b : Nat} (ha : a < 64) (hb : b < 64) : Go.bits .and .i64 (a : Int) (b : Int) = ((a &&& b : Nat) : Int) := and_nat a b (by omega) (by omega)
theorem orI {a b : Nat} (ha : a < 64) (hb : b < 64) : Go.bits .or .i64 (a : Int) (b : Int) = ((a ||| b : Nat) : Int) := or_nat a b (by omega) (by omega)
theorem WmI {x y u : Nat} (hx : x < 64) (hy : y < 64) (hu : u < 64) : Go.bits .or .i64 (Go.bits .and .i64 (x : Int) (y : Int)) (Go.bits .andNot .i64 (Go.bits .or .i64 (x : Int) (y : Int)) (u : Int)) = ((Wm x y u : Nat) : Int) := by
  rw [andI hx hy, orI hx hy, andNot64 (or64 hx hy) hu, orI (and64 hx) (Nat.lt_of_le_of_lt (Nat.sub_le _ _) (or64 hx hy))]
  rfl
def ordO (n : Nat) : List Nat := (setsR (fun _ => true) n).map bitsOf
def ints (O : List Nat) : List Int := O.map fun m : Nat => (m : Int)
theorem bits_sel_all : ((List.range 512).all fun m => bitsOf (sel 9 m.testBit) == m) = true := by decide +kernel
theorem bits_sel {m : Nat} (h : m < 512) : bitsOf (sel 9 m.testBit) = m := by
  have q := bits_sel_all
  rw [List.all_eq_true] at q
  simpa using q m (List.mem_range.2 h)
theorem setsTo_bits (P : Nat → Bool) (i : Nat) (h : i ≤ 512) : (setsTo P i).map bitsOf = (List.range i).filter P := by
  unfold setsTo
  rw [List.map_map]
  have e : ∀ m ∈ (List.range i).filter P, (bitsOf ∘ fun m => sel 9 m.testBit) m = m := fun m hm => bits_sel (by have := List.mem_range.1 (List.mem_filter.1 hm).1; omega)
  rw [List.map_congr_left e, List.map_id']
theorem ordO_perm (n : Nat) (hn : n ≤ 9) : (ordO n).Perm (List.range (2 ^ n)) := by
  have h9 : 2 ^ n ≤ 512 := pow_small (m := 9) hn
  unfold ordO setsR
  refine ((sorted_perm _).map bitsOf).trans (List.Perm.of_eq ?_)
  rw [setsTo_bits _ _ h9]
  exact List.filter_eq_self.2 (fun _ _ => rfl)
theorem impl_votes_ordered.ev (n : Nat) (w : List Bool) (hw : w.length = 2 ^ n) (hn : n ≤ 9) : Ev (fun k => impl_votes_ordered.f k (n : Int) w) (ints (ordO n)) := by
  have h9 : 2 ^ n ≤ 512 := pow_small (m := 9) hn
  unfold impl_votes_ordered.f
  refine Ev.bind (impl_votes_sets.ev n w hw hn (fun _ y => impl_votes_ordered_1.f y) (fun _ => true) (fun b hb => Ev.one rfl)) ?_
  obtain ⟨hl1, hl2⟩ := setsR_len (fun _ => true) n
  have hx : ∀ s ∈ setsR (fun _ => true) n, ∀ x ∈ s, 0 ≤ x ∧ x < 62 := fun s hs x hx => by
    have hs := (sorted_perm _).mem_iff.1 hs
    obtain ⟨m, _, rfl⟩ := List.mem_map.1 hs
    unfold sel at hx
    obtain ⟨b, hb, rfl⟩ := List.mem_map.1 hx
    have := List.mem_range.1 (List.mem_filter.1 hb).1
    omega
  unfold ints ordO
  generalize setsR (fun _ => true) n = S at hl1 hl2 hx ⊢
  have key := Ev.down (G := fun i k => impl_votes_ordered.l0 k (((S.take i).map bitsOf).map fun m : Nat => (m : Int)) S (S.length : Int) (i : Int)) (R := fun _ => (S.map bitsOf).map fun m : Nat => (m : Int)) S.length
    (by refine Ev.shift ?_
        simp only [impl_votes_ordered.l0]
        refine Ev.ite_neg (by omega) ?_
        rw [List.take_length]
        exact Ev.some)
    (fun i hi ih => by
      refine Ev.shift ?_
      simp only [impl_votes_ordered.l0]
      refine Ev.ite_pos (by omega) (Ev.ite_pos (by omega) (Ev.ite_pos (by omega) ?_))
      rw [rd_LI_nat]
      have hm := getD_mem S [] i hi
      refine Ev.bind (impl_maskOf.ev _ (by have := hl2 _ hm; omega) (hx _ hm)) ?_
      refine Ev.ite_pos (by rw [List.length_map, List.length_map, List.length_take]; omega) ?_
      rw [w1 hi (by omega)]
      rw [take_getD S [] i hi, List.map_append, List.map_append] at ih
      exact ih)
  exact key 0 (Nat.zero_le _)
theorem rd_ints (O : List Nat) (i : Nat) : rd (ints O) (i : Int) = ((O.getD i 0 : Nat) : Int) := by
  rw [rd_nat]
  unfold ints
  rw [List.getD_eq_getElem?_getD, List.getD_eq_getElem?_getD, List.getElem?_map]
  cases O[i]? <;> rfl
theorem ints_len (O : List Nat) : (ints O).length = O.length := by unfold ints; rw [List.length_map]
theorem ints_drop (O : List Nat) (i : Nat) : (ints O).drop i = ints (O.drop i) := by unfold ints; rw [List.map_drop]
theorem ints_has (O : List Nat) (m : Nat) : hasN (ints O) (m : Int) = true ↔ m ∈ O := by
  unfold hasN ints
  rw [List.any_eq_true]
  constructor
  · rintro ⟨x, hx, h⟩
    obtain ⟨a, ha, rfl⟩ := List.mem_map.1 hx
    have : m = a := by have := of_decide_eq_true h; omega
    rw [this]; exact ha
  · intro h
    exact ⟨(m : Int), List.mem_map.2 ⟨m, h, rfl⟩, by simp⟩
theorem impl_pairs.ev (x y u v : Nat) (hx : x < 512) (hy : y < 512) (hu : u < 512) (hv : v < 512) : Ev (fun k => impl_pairs.f k [(x : Int), (y : Int)] [(u : Int), (v : Int)]) ([sel 9 x.testBit, sel 9 y.testBit], [sel 9 u.testBit, sel 9 v.testBit]) := by
  have k1 : wrap64 (0 + 1) = 1 := by unfold wrap64; decide
  have k2 : wrap64 (1 + 1) = 2 := by unfold wrap64; decide
  unfold impl_pairs.f
  refine Ev.shift ?_
  simp only [impl_pairs.l0]
  refine Ev.ite_pos (show (0 : Int) < ((2 : Nat) : Int) by decide) (Ev.ite_pos (by decide) (Ev.ite_pos (show (0 : Int) < ((2 : Nat) : Int) by decide) ?_))
  refine Ev.bind (show Ev (fun k => impl_setOf.f k (rd [(x : Int), (y : Int)] 0)) (sel 9 x.testBit) from impl_setOf.ev x hx) (Ev.ite_pos (by simp) (Ev.ite_pos (show (0 : Int) < ((2 : Nat) : Int) by decide) ?_))
  refine Ev.bind (show Ev (fun k => impl_setOf.f k (rd [(u : Int), (v : Int)] 0)) (sel 9 u.testBit) from impl_setOf.ev u hu) (Ev.ite_pos (by simp) ?_)
  rw [k1]
  refine Ev.shift ?_
  simp only [impl_pairs.l0]
  refine Ev.ite_pos (show (1 : Int) < ((2 : Nat) : Int) by decide) (Ev.ite_pos (by decide) (Ev.ite_pos (show (1 : Int) < ((2 : Nat) : Int) by decide) ?_))
  refine Ev.bind (show Ev (fun k => impl_setOf.f k (rd [(x : Int), (y : Int)] 1)) (sel 9 y.testBit) from impl_setOf.ev y hy) (Ev.ite_pos (by simp) (Ev.ite_pos (show (1 : Int) < ((2 : Nat) : Int) by decide) ?_))
  refine Ev.bind (show Ev (fun k => impl_setOf.f k (rd [(u : Int), (v : Int)] 1)) (sel 9 v.testBit) from impl_setOf.ev v hv) (Ev.ite_pos (by simp) ?_)
  rw [k2]
  refine Ev.shift ?_
  simp only [impl_pairs.l0]
  refine Ev.ite_neg (show ¬ (2 : Int) < ((2 : Nat) : Int) by decide) ?_
  exact Ev.some
abbrev fT : Int → Int → Int → Int → Option Bool := fun y0_ y1_ y2_ y3_ => impl_votes_firstTrade_1.f y0_ y1_ y2_ y3_
def hitK (w : List Bool) (O : List Nat) (x y : Nat) (k : Nat) : Bool := !w.getD (O.getD k 0) false && (okU x y (O.getD k 0) && (!w.getD (Wm x y (O.getD k 0)) false && hasN (ints (O.drop k)) ((Wm x y (O.getD k 0) : Nat) : Int)))
theorem okU_ints {x y u : Nat} (hx : x < 64) (hy : y < 64) (hu : u < 64) : (Go.bits .and .i64 (u : Int) (Go.bits .and .i64 (x : Int) (y : Int)) = Go.bits .and .i64 (x : Int) (y : Int) ↔ u &&& (x &&& y) = x &&& y) ∧ ((Go.bits .andNot .i64 (u : Int) (Go.bits .or .i64 (x : Int) (y : Int)) != 0) = !decide (u - (u &&& (x ||| y)) = 0)) := by
  rw [andI hx hy, andI hu (and64 hx), orI hx hy, andNot64 hu (or64 hx hy)]
  refine ⟨by omega, ?_⟩
  by_cases h : u - (u &&& (x ||| y)) = 0
  · rw [h]; rfl
  · rw [decide_eq_false h]
    simp only [Bool.not_false, bne_iff_ne, ne_eq]
    omega
theorem ord_len2 {n : Nat} {O : List Nat} (hn : n ≤ 6) (hO : O.Perm (List.range (2 ^ n))) : O.length = 2 ^ n ∧ 2 ^ n ≤ 64 ∧ (∀ i, i < 2 ^ n → O.getD i 0 < 2 ^ n) := by
  have hl : O.length = 2 ^ n := by rw [hO.length_eq, List.length_range]
  refine ⟨hl, pow_small (m := 6) hn, fun i hi => ?_⟩
  exact List.mem_range.1 (hO.mem_iff.1 (getD_mem O 0 i (by omega)))
section
variable {n : Nat} {w : List Bool} {O : List Nat} (hw : w.length = 2 ^ n) (hn : n ≤ 6) (hO : O.Perm (List.range (2 ^ n)))
include hw hn hO
theorem two_l2 (x y : Nat) (hx : x < 2 ^ n) (hy : y < 2 ^ n) (x18 x26 x27 : Int) (x25 : List Int) (b : Bool)
    (hc : ∃ r1 r2, Ev (fun k => impl_votes_firstOfTwo.l1 k fT (ints O) (x : Int) (ints O) ((ints O).length : Int) x18 x25 x26 (wrap64 (x27 + 1)) (n : Int) w) (r1, r2, b)) :
    ∀ kk : Nat, kk ≤ 2 ^ n → ∃ r1 r2, Ev (fun k => impl_votes_firstOfTwo.l2 k fT (ints O) (x : Int) (y : Int) (ints O) ((ints O).length : Int) x18 x25 x26 x27 (ints O) ((ints O).length : Int) (kk : Int) (n : Int) w) (r1, r2, anyG (hitK w O x y) (2 ^ n) kk || b) := by
  obtain ⟨hl, h64, hm⟩ := ord_len2 hn hO
  have il : (ints O).length = 2 ^ n := by rw [ints_len, hl]
  refine back (P := fun kk : Nat => ∃ r1 r2, Ev (fun k => impl_votes_firstOfTwo.l2 k fT (ints O) (x : Int) (y : Int) (ints O) ((ints O).length : Int) x18 x25 x26 x27 (ints O) ((ints O).length : Int) (kk : Int) (n : Int) w) (r1, r2, anyG (hitK w O x y) (2 ^ n) kk || b)) (2 ^ n) ?_ ?_
  · obtain ⟨r1, r2, h⟩ := hc
    refine ⟨r1, r2, Ev.shift ?_⟩
    rw [anyG_end, Bool.false_or]
    simp only [impl_votes_firstOfTwo.l2]
    exact Ev.ite_neg (by omega) h
  · intro kk hk ⟨r1, r2, ih⟩
    have hu := hm kk hk
    rw [anyG_step _ _ _ hk]
    have hj : ∀ b2 : Bool, hitK w O x y kk = false → Ev (fun k => impl_votes_firstOfTwo.j4 k fT (ints O) (x : Int) (y : Int) (kk : Int) ((O.getD kk 0 : Nat) : Int) (ints O) ((ints O).length : Int) x18 x25 x26 x27 (ints O) ((ints O).length : Int) (kk : Int) true (n : Int) w) (r1, r2, (hitK w O x y kk || anyG (hitK w O x y) (2 ^ n) (kk + 1)) || b) := fun _ hf => by
      refine Ev.shift ?_
      simp only [impl_votes_firstOfTwo.j4]
      refine Ev.ite_pos (by trivial) ?_
      rw [w1 hk (by omega), hf, Bool.false_or]
      exact ih
    have start : ∀ R, (∀ (vu : w.getD (O.getD kk 0) false = true), Ev (fun k => impl_votes_firstOfTwo.j4 k fT (ints O) (x : Int) (y : Int) (kk : Int) ((O.getD kk 0 : Nat) : Int) (ints O) ((ints O).length : Int) x18 x25 x26 x27 (ints O) ((ints O).length : Int) (kk : Int) true (n : Int) w) R) →
        (∀ (vu : w.getD (O.getD kk 0) false = false), Ev (fun k => if (Go.bits .and .i64 ((O.getD kk 0 : Nat) : Int) (Go.bits .and .i64 (x : Int) (y : Int))) = (Go.bits .and .i64 (x : Int) (y : Int)) then (impl_votes_firstOfTwo.j4 k fT (ints O) (x : Int) (y : Int) (kk : Int) ((O.getD kk 0 : Nat) : Int) (ints O) ((ints O).length : Int) x18 x25 x26 x27 (ints O) ((ints O).length : Int) (kk : Int) ((Go.bits .andNot .i64 ((O.getD kk 0 : Nat) : Int) (Go.bits .or .i64 (x : Int) (y : Int))) != 0) (n : Int) w) else (impl_votes_firstOfTwo.j4 k fT (ints O) (x : Int) (y : Int) (kk : Int) ((O.getD kk 0 : Nat) : Int) (ints O) ((ints O).length : Int) x18 x25 x26 x27 (ints O) ((ints O).length : Int) (kk : Int) true (n : Int) w)) R) →
        Ev (fun k => impl_votes_firstOfTwo.l2 k fT (ints O) (x : Int) (y : Int) (ints O) ((ints O).length : Int) x18 x25 x26 x27 (ints O) ((ints O).length : Int) (kk : Int) (n : Int) w) R := fun R h1 h2 => by
      refine Ev.shift ?_
      simp only [impl_votes_firstOfTwo.l2]
      refine Ev.ite_pos (by omega) (Ev.ite_pos (by omega) (Ev.ite_pos (by omega) ?_))
      rw [rd_ints]
      refine Ev.ite_pos (by omega) (Ev.ite_pos (by omega) ?_)
      rw [rdB_nat]
      cases vu : w.getD (O.getD kk 0) false with
      | true => exact Ev.ite_pos (by trivial) (h1 vu)
      | false => exact Ev.ite_neg (by decide) (h2 vu)
    obtain ⟨ok1, ok2⟩ := okU_ints (x := x) (y := y) (u := O.getD kk 0) (by omega) (by omega) (by omega)
    by_cases hit : hitK w O x y kk = true
    · have hh := hit
      unfold hitK okU at hh
      simp only [Bool.and_eq_true, Bool.not_eq_true', decide_eq_true_eq] at hh
      obtain ⟨vu, ⟨c1, c2⟩, vw, hin⟩ := hh
      have hWlt : Wm x y (O.getD kk 0) < 2 ^ n := by
        unfold Wm
        exact Nat.or_lt_two_pow (Nat.lt_of_le_of_lt Nat.and_le_left hx) (Nat.lt_of_le_of_lt (Nat.sub_le _ _) (Nat.or_lt_two_pow hx hy))
      refine ⟨[sel 9 x.testBit, sel 9 y.testBit], [sel 9 (O.getD kk 0).testBit, sel 9 (Wm x y (O.getD kk 0)).testBit], start _ (fun z => absurd (z.symm.trans vu) (by decide)) (fun _ => ?_)⟩
      refine Ev.ite_pos (ok1.2 c1) ?_
      rw [ok2, decide_eq_true c2]
      refine Ev.shift ?_
      simp only [impl_votes_firstOfTwo.j4]
      refine Ev.ite_neg (by decide) ?_
      rw [WmI (by omega) (by omega) (by omega)]
      refine Ev.ite_pos (by omega) (Ev.ite_pos (by omega) ?_)
      rw [rdB_nat, vw]
      refine Ev.ite_neg (by decide) (Ev.ite_pos (by omega) (Ev.ite_pos (by omega) ?_))
      rw [Int.toNat_natCast, ints_drop]
      refine Ev.bind (slices_Contains_int_int.ev _ _ (by rw [ints_len, List.length_drop]; omega)) ?_
      rw [hin]
      refine Ev.ite_pos (by trivial) (Ev.bind (Ev.one rfl) (Ev.ite_pos (by trivial) ?_))
      refine Ev.bind (impl_pairs.ev x y _ _ (by omega) (by omega) (by omega) (by omega)) ?_
      rw [hit, Bool.true_or, Bool.true_or]
      exact Ev.some
    · have hf : hitK w O x y kk = false := by cases h : hitK w O x y kk with | true => exact absurd h hit | false => rfl
      refine ⟨r1, r2, start _ (fun _ => hj true hf) (fun vu => ?_)⟩
      by_cases c1 : O.getD kk 0 &&& (x &&& y) = x &&& y
      · refine Ev.ite_pos (ok1.2 c1) ?_
        rw [ok2]
        by_cases c2 : O.getD kk 0 - (O.getD kk 0 &&& (x ||| y)) = 0
        · rw [decide_eq_true c2]
          have hWlt : Wm x y (O.getD kk 0) < 2 ^ n := by
            unfold Wm
            exact Nat.or_lt_two_pow (Nat.lt_of_le_of_lt Nat.and_le_left hx) (Nat.lt_of_le_of_lt (Nat.sub_le _ _) (Nat.or_lt_two_pow hx hy))
          refine Ev.shift ?_
          simp only [impl_votes_firstOfTwo.j4]
          refine Ev.ite_neg (by decide) ?_
          rw [WmI (by omega) (by omega) (by omega)]
          refine Ev.ite_pos (by omega) (Ev.ite_pos (by omega) ?_)
          rw [rdB_nat]
          have go : Ev (fun k => impl_votes_firstOfTwo.l2 k fT (ints O) (x : Int) (y : Int) (ints O) ((ints O).length : Int) x18 x25 x26 x27 (ints O) ((ints O).length : Int) (wrap64 ((kk : Int) + 1)) (n : Int) w) (r1, r2, (hitK w O x y kk || anyG (hitK w O x y) (2 ^ n) (kk + 1)) || b) := by
            rw [w1 hk (by omega), hf, Bool.false_or]
            exact ih
          cases vw : w.getD (Wm x y (O.getD kk 0)) false with
          | true => exact Ev.ite_pos (by trivial) go
          | false =>
            refine Ev.ite_neg (by decide) (Ev.ite_pos (by omega) (Ev.ite_pos (by omega) ?_))
            rw [Int.toNat_natCast, ints_drop]
            refine Ev.bind (slices_Contains_int_int.ev _ _ (by rw [ints_len, List.length_drop]; omega)) ?_
            have hin : hasN (ints (O.drop kk)) ((Wm x y (O.getD kk 0) : Nat) : Int) = false := by
              unfold hitK okU at hf
              rw [vu, decide_eq_true c1, decide_eq_true c2, vw] at hf
              simpa using hf
            rw [hin]
            exact Ev.ite_neg (by decide) go
        · rw [decide_eq_false c2]
          exact hj true hf
      · exact Ev.ite_neg (fun z => c1 (ok1.1 z)) (hj true hf)
def hitJ (w : List Bool) (O : List Nat) (x : Nat) (Y : List Nat) (j : Nat) : Bool := (w.getD x false && w.getD (Y.getD j 0) false) && anyG (hitK w O x (Y.getD j 0)) O.length 0
theorem two_l1 (x : Nat) (hx : x < 2 ^ n) (x18 : Int) (Y : List Nat) (hY : ∀ i, i < Y.length → Y.getD i 0 < 2 ^ n) (hYl : Y.length ≤ 64) (b : Bool)
    (hc : ∃ r1 r2, Ev (fun k => impl_votes_firstOfTwo.l0 k fT (ints O) (ints O) ((ints O).length : Int) (wrap64 (x18 + 1)) (n : Int) w) (r1, r2, b)) :
    ∀ j : Nat, j ≤ Y.length → ∃ r1 r2, Ev (fun k => impl_votes_firstOfTwo.l1 k fT (ints O) (x : Int) (ints O) ((ints O).length : Int) x18 (ints Y) ((ints Y).length : Int) (j : Int) (n : Int) w) (r1, r2, anyG (hitJ w O x Y) Y.length j || b) := by
  obtain ⟨hl, h64, hm⟩ := ord_len2 hn hO
  have il : (ints Y).length = Y.length := ints_len Y
  refine back (P := fun j : Nat => ∃ r1 r2, Ev (fun k => impl_votes_firstOfTwo.l1 k fT (ints O) (x : Int) (ints O) ((ints O).length : Int) x18 (ints Y) ((ints Y).length : Int) (j : Int) (n : Int) w) (r1, r2, anyG (hitJ w O x Y) Y.length j || b)) Y.length ?_ ?_
  · obtain ⟨r1, r2, h⟩ := hc
    refine ⟨r1, r2, Ev.shift ?_⟩
    rw [anyG_end, Bool.false_or]
    simp only [impl_votes_firstOfTwo.l1]
    exact Ev.ite_neg (by omega) h
  · intro j hj ⟨r1, r2, ih⟩
    have hy := hY j hj
    rw [anyG_step _ _ _ hj]
    have ih' : ∃ r1 r2, Ev (fun k => impl_votes_firstOfTwo.l1 k fT (ints O) (x : Int) (ints O) ((ints O).length : Int) x18 (ints Y) ((ints Y).length : Int) (wrap64 ((j : Int) + 1)) (n : Int) w) (r1, r2, anyG (hitJ w O x Y) Y.length (j + 1) || b) := ⟨r1, r2, by rw [w1 hj (by omega)]; exact ih⟩
    have start : ∀ R, Ev (fun k => impl_votes_firstOfTwo.j2 k fT (ints O) (x : Int) ((Y.getD j 0 : Nat) : Int) (ints O) ((ints O).length : Int) x18 (ints Y) ((ints Y).length : Int) (j : Int) (!(w.getD x false && w.getD (Y.getD j 0) false)) (n : Int) w) R →
        Ev (fun k => impl_votes_firstOfTwo.l1 k fT (ints O) (x : Int) (ints O) ((ints O).length : Int) x18 (ints Y) ((ints Y).length : Int) (j : Int) (n : Int) w) R := fun R h => by
      refine Ev.shift ?_
      simp only [impl_votes_firstOfTwo.l1]
      refine Ev.ite_pos (by omega) (Ev.ite_pos (by omega) (Ev.ite_pos (by omega) (Ev.ite_pos (by omega) (Ev.ite_pos (by omega) ?_))))
      rw [rdB_nat, rd_ints]
      cases vx : w.getD x false with
      | true =>
        refine Ev.ite_pos (by trivial) (Ev.ite_pos (by omega) (Ev.ite_pos (by omega) ?_))
        rw [rdB_nat]
        rw [vx, Bool.true_and] at h
        exact h
      | false =>
        rw [vx, Bool.false_and, Bool.not_false] at h
        exact Ev.ite_neg (by decide) h
    cases vv : w.getD x false && w.getD (Y.getD j 0) false with
    | false =>
      obtain ⟨s1, s2, ih'⟩ := ih'
      refine ⟨s1, s2, start _ ?_⟩
      rw [vv, Bool.not_false]
      refine Ev.shift ?_
      simp only [impl_votes_firstOfTwo.j2]
      refine Ev.ite_pos (by trivial) ?_
      have e : hitJ w O x Y j = false := by unfold hitJ; rw [vv, Bool.false_and]
      rw [e, Bool.false_or]
      exact ih'
    | true =>
      obtain ⟨s1, s2, h⟩ := two_l2 hw hn hO x (Y.getD j 0) hx hy x18 ((ints Y).length : Int) (j : Int) (ints Y) _ ih' 0 (Nat.zero_le _)
      refine ⟨s1, s2, start _ ?_⟩
      rw [vv, Bool.not_true]
      refine Ev.shift ?_
      simp only [impl_votes_firstOfTwo.j2]
      refine Ev.ite_neg (by decide) ?_
      have e : hitJ w O x Y j = anyG (hitK w O x (Y.getD j 0)) (2 ^ n) 0 := by unfold hitJ; rw [vv, Bool.true_and, hl]
      rw [e, Bool.or_assoc]
      exact h
def hitI (w : List Bool) (O : List Nat) (i : Nat) : Bool := anyG (hitJ w O (O.getD i 0) (O.drop i)) (O.drop i).length 0
theorem two_l0 : ∀ i : Nat, i ≤ 2 ^ n → ∃ r1 r2, Ev (fun k => impl_votes_firstOfTwo.l0 k fT (ints O) (ints O) ((ints O).length : Int) (i : Int) (n : Int) w) (r1, r2, anyG (hitI w O) (2 ^ n) i) := by
  obtain ⟨hl, h64, hm⟩ := ord_len2 hn hO
  have il : (ints O).length = 2 ^ n := by rw [ints_len, hl]
  refine back (P := fun i : Nat => ∃ r1 r2, Ev (fun k => impl_votes_firstOfTwo.l0 k fT (ints O) (ints O) ((ints O).length : Int) (i : Int) (n : Int) w) (r1, r2, anyG (hitI w O) (2 ^ n) i)) (2 ^ n) ?_ ?_
  · refine ⟨[], [], Ev.shift ?_⟩
    rw [anyG_end]
    simp only [impl_votes_firstOfTwo.l0]
    exact Ev.ite_neg (by omega) Ev.some
  · intro i hi ⟨r1, r2, ih⟩
    rw [anyG_step _ _ _ hi]
    have hd : ∀ j, j < (O.drop i).length → (O.drop i).getD j 0 < 2 ^ n := fun j hj => by
      have := List.mem_of_mem_drop (getD_mem (O.drop i) 0 j hj)
      exact List.mem_range.1 (hO.mem_iff.1 this)
    obtain ⟨s1, s2, h⟩ := two_l1 hw hn hO (O.getD i 0) (hm i hi) (i : Int) (O.drop i) hd (by rw [List.length_drop]; omega) _ ⟨r1, r2, by rw [w1 hi (by omega)]; exact ih⟩ 0 (Nat.zero_le _)
    refine ⟨s1, s2, Ev.shift ?_⟩
    simp only [impl_votes_firstOfTwo.l0]
    refine Ev.ite_pos (by omega) (Ev.ite_pos (by omega) (Ev.ite_pos (by omega) (Ev.ite_pos (by omega) (Ev.bind (Ev.one rfl) ?_))))
    rw [Int.toNat_natCast, ints_drop, rd_ints]
    exact h
end
theorem found_iff {n : Nat} {w : List Bool} {O : List Nat} (hn : n ≤ 6) (hO : O.Perm (List.range (2 ^ n))) : anyG (hitI w O) (2 ^ n) 0 = true ↔ Trade w n := by
  obtain ⟨hl, h64, hm⟩ := ord_len2 hn hO
  have idx : ∀ m, m < 2 ^ n → ∃ i, i < 2 ^ n ∧ O.getD i 0 = m := fun m hm => by
    obtain ⟨i, hi, e⟩ := List.getElem_of_mem (hO.mem_iff.2 (List.mem_range.2 hm))
    exact ⟨i, by omega, by rw [List.getD_eq_getElem?_getD, List.getElem?_eq_getElem hi]; exact e⟩
  have dropg : ∀ i j, (O.drop i).getD j 0 = O.getD (i + j) 0 := fun i j => by rw [List.getD_eq_getElem?_getD, List.getD_eq_getElem?_getD, List.getElem?_drop]
  have dmem : ∀ i j, i ≤ j → j < 2 ^ n → O.getD j 0 ∈ O.drop i := fun i j h1 h2 => by
    have := getD_mem (O.drop i) 0 (j - i) (by rw [List.length_drop]; omega)
    rw [dropg, show i + (j - i) = j by omega] at this
    exact this
  constructor
  · intro h
    obtain ⟨i, _, hi, h⟩ := (anyG_iff _ _ _).1 h
    unfold hitI at h
    obtain ⟨j, _, hj, h⟩ := (anyG_iff _ _ _).1 h
    unfold hitJ at h
    rw [Bool.and_eq_true, Bool.and_eq_true] at h
    obtain ⟨⟨vx, vy⟩, h⟩ := h
    obtain ⟨k, _, hk, h⟩ := (anyG_iff _ _ _).1 h
    unfold hitK at h
    simp only [Bool.and_eq_true, Bool.not_eq_true'] at h
    obtain ⟨vu, hok, vw, _⟩ := h
    rw [dropg] at vy hok vw
    rw [List.length_drop] at hj
    exact ⟨_, _, _, hm i hi, hm (i + j) (by omega), hm k (by omega), hok, vx, vy, vu, vw⟩
  · rintro ⟨x, y, u, hx, hy, hu, hok, vx, vy, vu, vw⟩
    -- the lists' order may exchange the two of each
    have main : ∀ x y u, x < 2 ^ n → y < 2 ^ n → u < 2 ^ n → okU x y u = true → w.getD x false = true → w.getD y false = true → w.getD u false = false → w.getD (Wm x y u) false = false → ∀ i j k, i ≤ j → i < 2 ^ n → j < 2 ^ n → k < 2 ^ n → O.getD i 0 = x → O.getD j 0 = y → O.getD k 0 = u → Wm x y u ∈ O.drop k → anyG (hitI w O) (2 ^ n) 0 = true := by
      intro x y u hx hy hu hok vx vy vu vw i j k hij hi hj hk ei ej ek hin
      refine (anyG_iff _ _ _).2 ⟨i, Nat.zero_le _, hi, ?_⟩
      unfold hitI
      refine (anyG_iff _ _ _).2 ⟨j - i, Nat.zero_le _, by rw [List.length_drop]; omega, ?_⟩
      unfold hitJ
      rw [dropg, show i + (j - i) = j by omega, ei, ej, vx, vy, Bool.true_and, Bool.true_and]
      refine (anyG_iff _ _ _).2 ⟨k, Nat.zero_le _, by omega, ?_⟩
      unfold hitK
      rw [ek, vu, hok, vw, (ints_has _ _).2 hin]
      rfl
    obtain ⟨hWl, hWok, hWW⟩ := Wm_facts (x := x) (y := y) (u := u) (by omega) (by omega) (by omega) hok
    have hWlt : Wm x y u < 2 ^ n := by
      unfold Wm
      exact Nat.or_lt_two_pow (Nat.lt_of_le_of_lt Nat.and_le_left hx) (Nat.lt_of_le_of_lt (Nat.sub_le _ _) (Nat.or_lt_two_pow hx hy))
    obtain ⟨i, hi, ei⟩ := idx x hx
    obtain ⟨j, hj, ej⟩ := idx y hy
    obtain ⟨k, hk, ek⟩ := idx u hu
    obtain ⟨l, hl2, el⟩ := idx _ hWlt
    have hin : ∀ a b, a ≤ b → b < 2 ^ n → O.getD b 0 ∈ O.drop a := dmem
    rcases Nat.le_total i j with hij | hij
    · rcases Nat.le_total k l with hkl | hkl
      · exact main x y u hx hy hu hok vx vy vu vw i j k hij hi hj hk ei ej ek (by rw [← el]; exact dmem k l hkl hl2)
      · exact main x y (Wm x y u) hx hy hWlt hWok vx vy vw (by rw [hWW]; exact vu) i j l hij hi hj hl2 ei ej el (by rw [hWW, ← ek]; exact dmem l k hkl hk)
    · have e1 := Wm_swap x y u
      have e2 := Wm_swap x y (Wm x y u)
      rcases Nat.le_total k l with hkl | hkl
      · exact main y x u hy hx hu (by rw [← okU_swap]; exact hok) vy vx vu (by rw [← e1]; exact vw) j i k hij hj hi hk ej ei ek (by rw [← e1, ← el]; exact dmem k l hkl hl2)
      · exact main y x (Wm x y u) hy hx hWlt (by rw [← okU_swap]; exact hWok) vy vx vw (by rw [← e2, hWW]; exact vu) j i l hij hj hi hl2 ej ei el (by rw [← e2, hWW, ← ek]; exact dmem l k hkl hk)
theorem impl_votes_firstTrade.ev (n : Nat) (w : List Bool) (hw : w.length = 2 ^ n) (hn : n ≤ 6) : ∃ r1 r2 b, Ev (fun k => impl_votes_firstTrade.f k (n : Int) w) (r1, r2, b) ∧ (b = true ↔ Trade w n) := by
  have hO := ordO_perm n (by omega)
  obtain ⟨r1, r2, h⟩ := two_l0 hw hn hO 0 (Nat.zero_le _)
  refine ⟨r1, r2, _, ?_, found_iff hn hO⟩
  unfold impl_votes_firstTrade.f impl_votes_firstOfTwo.f
  exact Ev.bind (Ev.bind (impl_votes_ordered.ev n w hw (by omega)) h) Ev.some
end Go.Proofs.Ytokelcedamegbaa.P

/- The reference's first trade: whether there is one. -/
namespace Go.Proofs.Ytokelcedamegbaa.P
open Go.RowKit Go.Proofs.YtokelcedamegbaaW.PrintWords Go.Proofs.YtokelcedamegbaaW.PrintLast Go.Proofs.YtokelcedamegbaaW.PrintMore
theorem wM {s p : Nat} {b : Nat} (hs : s ≤ 100000) (hp : p ≤ 4096) : wrap64 ((s : Int) + wrap64 (Int.tmod (b : Int) 2 * (p : Int))) = ((s + (b % 2) * p : Nat) : Int) := by
  rw [tmod_two]
  have h2 : b % 2 < 2 := Nat.mod_lt _ (by omega)
  rcases (show b % 2 = 0 ∨ b % 2 = 1 by omega) with h | h
  · rw [h, show wrap64 (((0 : Nat) : Int) * (p : Int)) = 0 by rw [show ((0 : Nat) : Int) * (p : Int) = 0 by simp, w64 (by omega) (by omega)], w64 (by omega) (by omega)]
    simp
  · rw [h, show wrap64 (((1 : Nat) : Int) * (p : Int)) = (p : Int) by rw [show ((1 : Nat) : Int) * (p : Int) = (p : Int) by simp, w64 (by omega) (by omega)], w64 (by omega) (by omega)]
    simp
theorem wD (b : Nat) (h : b < 64) : wrap64 (Int.tdiv (b : Int) 2) = ((b / 2 : Nat) : Int) := by
  have e : Int.tdiv (b : Int) 2 = ((b / 2 : Nat) : Int) := by rw [Int.tdiv_eq_ediv_of_nonneg (by omega)]; omega
  rw [e, w64 (by omega) (by omega)]
theorem w4 {p : Nat} (h : p ≤ 4096) : wrap64 ((p : Int) * 4) = ((p * 4 : Nat) : Int) := by rw [w64 (by omega) (by omega)]; omega
theorem spec_deSpread.l1_ev (L : List Int) (N i R : Int) : ∀ (d b s p : Nat), b < 2 ^ d → d ≤ 6 → p * 4 ^ d ≤ 4096 → s + d * 4096 ≤ 100000 → Ev (fun k => spec_deSpread.l0 k ((s + p * spN d b : Nat) : Int) L N (wrap64 (i + 1))) R → Ev (fun k => spec_deSpread.l1 k (s : Int) (b : Int) (p : Int) L N i) R := by
  intro d
  induction d with
  | zero =>
    intro b s p hb _ _ _ h
    have : b = 0 := by rw [Nat.pow_zero] at hb; omega
    subst this
    refine Ev.shift ?_
    simp only [spec_deSpread.l1]
    refine Ev.ite_neg (by omega) ?_
    exact h
  | succ d ih =>
    intro b s p hb hd hp hs h
    have hp0 : p ≤ 4096 := Nat.le_trans (Nat.le_mul_of_pos_right p (Nat.pow_pos (show 0 < 4 by omega))) hp
    have h64 : b < 64 := Nat.lt_of_lt_of_le hb (pow_small (m := 6) hd)
    have hm : b % 2 < 2 := Nat.mod_lt _ (by omega)
    have hmp : b % 2 * p ≤ 4096 := by
      rcases (show b % 2 = 0 ∨ b % 2 = 1 by omega) with h | h
      · rw [h]; omega
      · rw [h]; omega
    refine Ev.shift ?_
    simp only [spec_deSpread.l1]
    by_cases h0 : b = 0
    · subst h0
      have e : ∀ d, spN d 0 = 0 := by
        intro d
        induction d with
        | zero => rfl
        | succ d ih => rw [spN, Nat.zero_div, ih]
      rw [e, Nat.mul_zero, Nat.add_zero] at h
      exact Ev.ite_neg (by omega) h
    · refine Ev.ite_pos (by omega) ?_
      rw [wM (by omega) hp0, wD b h64, w4 hp0]
      refine ih (b / 2) (s + b % 2 * p) (p * 4) ?_ (by omega) ?_ (by omega) ?_
      · rw [Nat.pow_succ] at hb; omega
      · rw [Nat.pow_succ] at hp
        rw [Nat.mul_assoc, Nat.mul_comm 4]
        exact hp
      · have e : s + b % 2 * p + p * 4 * spN d (b / 2) = s + p * spN (d + 1) b := by
          rw [spN, Nat.mul_add, Nat.mul_comm p (b % 2), Nat.mul_assoc, Nat.add_assoc]
        rw [e]
        exact h
theorem sp_le {b : Nat} : sp b ≤ 1365 := by
  unfold sp
  simp only [spN]
  omega
theorem spec_deSpread.ev (x y : Nat) (hx : x < 64) (hy : y < 64) : Ev (fun k => spec_deSpread.f k [(x : Int), (y : Int)]) ((sp x + sp y : Nat) : Int) := by
  have k1 : wrap64 (0 + 1) = 1 := by unfold wrap64; decide
  have k2 : wrap64 (1 + 1) = 2 := by unfold wrap64; decide
  have sx := @sp_le x
  unfold spec_deSpread.f
  refine Ev.shift ?_
  simp only [spec_deSpread.l0]
  refine Ev.ite_pos (show (0 : Int) < ((2 : Nat) : Int) by decide) (Ev.ite_pos (by decide) (Ev.ite_pos (show (0 : Int) < ((2 : Nat) : Int) by decide) ?_))
  refine spec_deSpread.l1_ev _ _ 0 _ 6 x 0 1 hx (by omega) (by decide) (by decide) ?_
  rw [k1]
  refine Ev.shift ?_
  simp only [spec_deSpread.l0]
  refine Ev.ite_pos (show (1 : Int) < ((2 : Nat) : Int) by decide) (Ev.ite_pos (by decide) (Ev.ite_pos (show (1 : Int) < ((2 : Nat) : Int) by decide) ?_))
  refine spec_deSpread.l1_ev _ _ 1 _ 6 y _ 1 hy (by omega) (by decide) (by unfold sp at sx; omega) ?_
  rw [k2]
  refine Ev.shift ?_
  simp only [spec_deSpread.l0]
  refine Ev.ite_neg (show ¬ (2 : Int) < ((2 : Nat) : Int) by decide) ?_
  refine Ev.eq Ev.some ?_
  unfold sp
  rw [Nat.zero_add, Nat.one_mul, Nat.one_mul]
def wlist (w : List Bool) (n : Nat) (b : Bool) : List Nat := (setsR (fun m => w.getD m false == b) n).map bitsOf
theorem wlist_mem (w : List Bool) (n : Nat) (b : Bool) (hn : n ≤ 9) (m : Nat) : m ∈ wlist w n b ↔ m < 2 ^ n ∧ w.getD m false = b := by
  have h9 : 2 ^ n ≤ 512 := pow_small (m := 9) hn
  unfold wlist setsR
  rw [((sorted_perm _).map bitsOf).mem_iff, setsTo_bits _ _ h9, List.mem_filter, List.mem_range, beq_iff_eq]
theorem spec_deSorted.ev (n : Nat) (w : List Bool) (b : Bool) (hw : w.length = 2 ^ n) (hn : n ≤ 9) : Ev (fun k => spec_deSorted.f k w b) (ints (wlist w n b)) := by
  have h9 : 2 ^ n ≤ 512 := pow_small (m := 9) hn
  unfold spec_deSorted.f
  obtain ⟨hl1, hl2⟩ := setsTo_len (fun m => w.getD m false == b) (2 ^ n)
  obtain ⟨hr1, hr2⟩ := setsR_len (fun m => w.getD m false == b) n
  have hx : ∀ s ∈ setsR (fun m => w.getD m false == b) n, ∀ x ∈ s, 0 ≤ x ∧ x < 62 := fun s hs x hx => by
    have hs := (sorted_perm _).mem_iff.1 hs
    obtain ⟨m, _, rfl⟩ := List.mem_map.1 hs
    unfold sel at hx
    obtain ⟨c, hc, rfl⟩ := List.mem_map.1 hx
    have := List.mem_range.1 (List.mem_filter.1 hc).1
    omega
  have key := Ev.down (G := fun i k => spec_deSorted.l0 k b (setsTo (fun m => w.getD m false == b) i) w (w.length : Int) (i : Int)) (R := fun _ => ints (wlist w n b)) (2 ^ n)
    (by refine Ev.shift ?_
        simp only [spec_deSorted.l0]
        refine Ev.ite_neg (by omega) ?_
        refine Ev.bind (spec_voSorted.ev _ (by omega) (fun x hx => by have := hl2 x hx; omega)) ?_
        unfold wlist
        change Ev (fun k => spec_deSorted.l1 k [] (setsR (fun m => w.getD m false == b) n) ((setsR (fun m => w.getD m false == b) n).length : Int) 0) _
        generalize setsR (fun m => w.getD m false == b) n = S at hr1 hr2 hx ⊢
        have key := Ev.down (G := fun i k => spec_deSorted.l1 k (ints ((S.take i).map bitsOf)) S (S.length : Int) (i : Int)) (R := fun _ => ints (S.map bitsOf)) S.length
          (by refine Ev.shift ?_
              simp only [spec_deSorted.l1]
              refine Ev.ite_neg (by omega) ?_
              rw [List.take_length]
              exact Ev.some)
          (fun i hi ih => by
            refine Ev.shift ?_
            simp only [spec_deSorted.l1]
            refine Ev.ite_pos (by omega) (Ev.ite_pos (by omega) (Ev.ite_pos (by omega) ?_))
            rw [rd_LI_nat]
            have hm := getD_mem S [] i hi
            refine Ev.bind (spec_voBits.ev _ (by have := hr2 _ hm; omega) (hx _ hm)) ?_
            refine Ev.ite_pos (by rw [ints_len, List.length_map, List.length_take]; omega) ?_
            rw [w1 hi (by omega)]
            unfold ints at ih ⊢
            rw [take_getD S [] i hi, List.map_append, List.map_append] at ih
            exact ih)
        exact key 0 (Nat.zero_le _))
    (fun m hm ih => by
      refine Ev.shift ?_
      simp only [spec_deSorted.l0]
      refine Ev.ite_pos (by omega) (Ev.ite_pos (by omega) (Ev.ite_pos (by omega) ?_))
      rw [rdB_nat, w1 hm (by omega)]
      rw [setsTo_succ] at ih
      cases hq : (w.getD m false == b) with
      | true =>
        rw [hq, if_pos rfl] at ih
        have hl := (setsTo_len (fun m => w.getD m false == b) m).1
        exact Ev.ite_pos (by trivial) (Ev.bind (spec_voList.ev m (by omega)) (Ev.ite_pos (by omega) ih))
      | false =>
        rw [hq, if_neg (by decide), List.append_nil] at ih
        exact Ev.ite_neg (by decide) ih)
  exact key 0 (Nat.zero_le _)
theorem spec_deTrade.ev (x y u v : Nat) (hx : x < 512) (hy : y < 512) (hu : u < 512) (hv : v < 512) : Ev (fun k => spec_deTrade.f k [(x : Int), (y : Int)] [(u : Int), (v : Int)]) (sorted [sel 9 x.testBit, sel 9 y.testBit], sorted [sel 9 u.testBit, sel 9 v.testBit]) := by
  have k1 : wrap64 (0 + 1) = 1 := by unfold wrap64; decide
  have k2 : wrap64 (1 + 1) = 2 := by unfold wrap64; decide
  have s9 : ∀ a b : Nat, ∀ s ∈ [sel 9 a.testBit, sel 9 b.testBit], s.length ≤ 1000000 := fun a b s hs => by
    have h1 := sel_len 9 a.testBit
    have h2 := sel_len 9 b.testBit
    simp only [List.mem_cons, List.not_mem_nil, or_false] at hs
    rcases hs with rfl | rfl <;> omega
  unfold spec_deTrade.f
  refine Ev.shift ?_
  simp only [spec_deTrade.l0]
  refine Ev.ite_pos (show (0 : Int) < ((2 : Nat) : Int) by decide) (Ev.ite_pos (by decide) (Ev.ite_pos (show (0 : Int) < ((2 : Nat) : Int) by decide) ?_))
  refine Ev.bind (show Ev (fun k => spec_voList.f k (rd [(x : Int), (y : Int)] 0)) (sel 9 x.testBit) from spec_voList.ev x hx) (Ev.ite_pos (by simp) ?_)
  rw [k1]
  refine Ev.shift ?_
  simp only [spec_deTrade.l0]
  refine Ev.ite_pos (show (1 : Int) < ((2 : Nat) : Int) by decide) (Ev.ite_pos (by decide) (Ev.ite_pos (show (1 : Int) < ((2 : Nat) : Int) by decide) ?_))
  refine Ev.bind (show Ev (fun k => spec_voList.f k (rd [(x : Int), (y : Int)] 1)) (sel 9 y.testBit) from spec_voList.ev y hy) (Ev.ite_pos (by simp) ?_)
  rw [k2]
  refine Ev.shift ?_
  simp only [spec_deTrade.l0]
  refine Ev.ite_neg (show ¬ (2 : Int) < ((2 : Nat) : Int) by decide) ?_
  refine Ev.shift ?_
  simp only [spec_deTrade.l1]
  refine Ev.ite_pos (show (0 : Int) < ((2 : Nat) : Int) by decide) (Ev.ite_pos (by decide) (Ev.ite_pos (show (0 : Int) < ((2 : Nat) : Int) by decide) ?_))
  refine Ev.bind (show Ev (fun k => spec_voList.f k (rd [(u : Int), (v : Int)] 0)) (sel 9 u.testBit) from spec_voList.ev u hu) (Ev.ite_pos (by simp) ?_)
  rw [k1]
  refine Ev.shift ?_
  simp only [spec_deTrade.l1]
  refine Ev.ite_pos (show (1 : Int) < ((2 : Nat) : Int) by decide) (Ev.ite_pos (by decide) (Ev.ite_pos (show (1 : Int) < ((2 : Nat) : Int) by decide) ?_))
  refine Ev.bind (show Ev (fun k => spec_voList.f k (rd [(u : Int), (v : Int)] 1)) (sel 9 v.testBit) from spec_voList.ev v hv) (Ev.ite_pos (by simp) ?_)
  rw [k2]
  refine Ev.shift ?_
  simp only [spec_deTrade.l1]
  refine Ev.ite_neg (show ¬ (2 : Int) < ((2 : Nat) : Int) by decide) ?_
  exact Ev.bind (spec_voSorted.ev [sel 9 x.testBit, sel 9 y.testBit] (by simp) (s9 x y)) (Ev.bind (spec_voSorted.ev [sel 9 u.testBit, sel 9 v.testBit] (by simp) (s9 u v)) Ev.some)
theorem lt_of_mem {Y : List Nat} {B : Nat} (h : ∀ m ∈ Y, m < B) : ∀ i, i < Y.length → Y.getD i 0 < B := fun i hi => h _ (getD_mem Y 0 i hi)
theorem two_l3 (W Z Y : List Nat) (a b c : Nat) (ha : a < 64) (hb : b < 64) (hc : c < 64) (hY : ∀ m ∈ Y, m < 64) (hYl : Y.length ≤ 64) (x19 x28 x38 : List Int) (x20 x21 x29 x30 x39 x40 : Int) (fl : Bool)
    (h : ∃ r1 r2, Ev (fun k => spec_deTwo.l2 k (ints W) (ints Z) (a : Int) (b : Int) ((sp a + sp b : Nat) : Int) x19 x20 x21 x28 x29 x30 x38 x39 (wrap64 (x40 + 1))) (r1, r2, fl)) :
    ∀ j : Nat, j ≤ Y.length → ∃ r1 r2, Ev (fun k => spec_deTwo.l3 k (ints W) (ints Z) (a : Int) (b : Int) ((sp a + sp b : Nat) : Int) (c : Int) x19 x20 x21 x28 x29 x30 x38 x39 x40 (ints Y) ((ints Y).length : Int) (j : Int)) (r1, r2, anyG (fun j => decide (sp c + sp (Y.getD j 0) = sp a + sp b)) Y.length j || fl) := by
  have il : (ints Y).length = Y.length := ints_len Y
  refine back (P := fun j : Nat => ∃ r1 r2, Ev (fun k => spec_deTwo.l3 k (ints W) (ints Z) (a : Int) (b : Int) ((sp a + sp b : Nat) : Int) (c : Int) x19 x20 x21 x28 x29 x30 x38 x39 x40 (ints Y) ((ints Y).length : Int) (j : Int)) (r1, r2, anyG (fun j => decide (sp c + sp (Y.getD j 0) = sp a + sp b)) Y.length j || fl)) Y.length ?_ ?_
  · obtain ⟨r1, r2, h⟩ := h
    refine ⟨r1, r2, Ev.shift ?_⟩
    rw [anyG_end, Bool.false_or]
    simp only [spec_deTwo.l3]
    exact Ev.ite_neg (by omega) h
  · intro j hj ⟨r1, r2, ih⟩
    have hd := lt_of_mem hY j hj
    rw [anyG_step _ _ _ hj]
    have start : ∀ R, Ev (fun k => if ((sp c + sp (Y.getD j 0) : Nat) : Int) = ((sp a + sp b : Nat) : Int) then ((spec_deTrade.f k [(a : Int), (b : Int)] [(c : Int), ((Y.getD j 0 : Nat) : Int)]).bind fun bt1123 => (some (bt1123.1, bt1123.2, true))) else (spec_deTwo.l3 k (ints W) (ints Z) (a : Int) (b : Int) ((sp a + sp b : Nat) : Int) (c : Int) x19 x20 x21 x28 x29 x30 x38 x39 x40 (ints Y) ((ints Y).length : Int) (wrap64 ((j : Int) + 1)))) R →
        Ev (fun k => spec_deTwo.l3 k (ints W) (ints Z) (a : Int) (b : Int) ((sp a + sp b : Nat) : Int) (c : Int) x19 x20 x21 x28 x29 x30 x38 x39 x40 (ints Y) ((ints Y).length : Int) (j : Int)) R := fun R h => by
      refine Ev.shift ?_
      simp only [spec_deTwo.l3]
      refine Ev.ite_pos (by omega) (Ev.ite_pos (by omega) (Ev.ite_pos (by omega) ?_))
      rw [rd_ints]
      exact Ev.bind (spec_deSpread.ev c _ hc hd) h
    by_cases e : sp c + sp (Y.getD j 0) = sp a + sp b
    · refine ⟨_, _, start (sorted [sel 9 a.testBit, sel 9 b.testBit], sorted [sel 9 c.testBit, sel 9 (Y.getD j 0).testBit], _) ?_⟩
      refine Ev.ite_pos (by omega) (Ev.bind (spec_deTrade.ev a b c _ (by omega) (by omega) (by omega) (by omega)) ?_)
      rw [decide_eq_true e, Bool.true_or, Bool.true_or]
      exact Ev.some
    · refine ⟨r1, r2, start _ (Ev.ite_neg (by omega) ?_)⟩
      rw [decide_eq_false e, Bool.false_or, w1 hj (by omega)]
      exact ih
def hit2 (Z : List Nat) (a b : Nat) (k : Nat) : Bool := anyG (fun j => decide (sp (Z.getD k 0) + sp ((Z.drop k).getD j 0) = sp a + sp b)) (Z.drop k).length 0
theorem two_l2s (W Z : List Nat) (a b : Nat) (ha : a < 64) (hb : b < 64) (hZ : ∀ m ∈ Z, m < 64) (hZl : Z.length ≤ 64) (x19 x28 : List Int) (x20 x21 x29 x30 : Int) (fl : Bool)
    (h : ∃ r1 r2, Ev (fun k => spec_deTwo.l1 k (ints W) (ints Z) (a : Int) x19 x20 x21 x28 x29 (wrap64 (x30 + 1))) (r1, r2, fl)) :
    ∀ i : Nat, i ≤ Z.length → ∃ r1 r2, Ev (fun k => spec_deTwo.l2 k (ints W) (ints Z) (a : Int) (b : Int) ((sp a + sp b : Nat) : Int) x19 x20 x21 x28 x29 x30 (ints Z) ((ints Z).length : Int) (i : Int)) (r1, r2, anyG (hit2 Z a b) Z.length i || fl) := by
  have il : (ints Z).length = Z.length := ints_len Z
  refine back (P := fun i : Nat => ∃ r1 r2, Ev (fun k => spec_deTwo.l2 k (ints W) (ints Z) (a : Int) (b : Int) ((sp a + sp b : Nat) : Int) x19 x20 x21 x28 x29 x30 (ints Z) ((ints Z).length : Int) (i : Int)) (r1, r2, anyG (hit2 Z a b) Z.length i || fl)) Z.length ?_ ?_
  · obtain ⟨r1, r2, h⟩ := h
    refine ⟨r1, r2, Ev.shift ?_⟩
    rw [anyG_end, Bool.false_or]
    simp only [spec_deTwo.l2]
    exact Ev.ite_neg (by omega) h
  · intro i hi ⟨r1, r2, ih⟩
    rw [anyG_step _ _ _ hi, Bool.or_assoc]
    obtain ⟨s1, s2, h⟩ := two_l3 W Z (Z.drop i) a b (Z.getD i 0) ha hb (lt_of_mem hZ i hi) (fun m hm => hZ m (List.mem_of_mem_drop hm)) (by rw [List.length_drop]; omega) x19 x28 (ints Z) x20 x21 x29 x30 ((ints Z).length : Int) (i : Int) _ ⟨r1, r2, by rw [w1 hi (by omega)]; exact ih⟩ 0 (Nat.zero_le _)
    refine ⟨s1, s2, Ev.shift ?_⟩
    simp only [spec_deTwo.l2]
    refine Ev.ite_pos (by omega) (Ev.ite_pos (by omega) (Ev.ite_pos (by omega) (Ev.ite_pos (by omega) (Ev.bind (Ev.one rfl) ?_))))
    rw [Int.toNat_natCast, ints_drop, rd_ints]
    exact h
def hit1 (Z Y : List Nat) (a : Nat) (j : Nat) : Bool := anyG (hit2 Z a (Y.getD j 0)) Z.length 0
theorem two_l1s (W Z Y : List Nat) (a : Nat) (ha : a < 64) (hZ : ∀ m ∈ Z, m < 64) (hZl : Z.length ≤ 64) (hY : ∀ m ∈ Y, m < 64) (hYl : Y.length ≤ 64) (x19 : List Int) (x20 x21 : Int) (fl : Bool)
    (h : ∃ r1 r2, Ev (fun k => spec_deTwo.l0 k (ints W) (ints Z) x19 x20 (wrap64 (x21 + 1))) (r1, r2, fl)) :
    ∀ j : Nat, j ≤ Y.length → ∃ r1 r2, Ev (fun k => spec_deTwo.l1 k (ints W) (ints Z) (a : Int) x19 x20 x21 (ints Y) ((ints Y).length : Int) (j : Int)) (r1, r2, anyG (hit1 Z Y a) Y.length j || fl) := by
  have il : (ints Y).length = Y.length := ints_len Y
  refine back (P := fun j : Nat => ∃ r1 r2, Ev (fun k => spec_deTwo.l1 k (ints W) (ints Z) (a : Int) x19 x20 x21 (ints Y) ((ints Y).length : Int) (j : Int)) (r1, r2, anyG (hit1 Z Y a) Y.length j || fl)) Y.length ?_ ?_
  · obtain ⟨r1, r2, h⟩ := h
    refine ⟨r1, r2, Ev.shift ?_⟩
    rw [anyG_end, Bool.false_or]
    simp only [spec_deTwo.l1]
    exact Ev.ite_neg (by omega) h
  · intro j hj ⟨r1, r2, ih⟩
    rw [anyG_step _ _ _ hj, Bool.or_assoc]
    obtain ⟨s1, s2, h⟩ := two_l2s W Z a (Y.getD j 0) ha (lt_of_mem hY j hj) hZ hZl x19 (ints Y) x20 x21 ((ints Y).length : Int) (j : Int) _ ⟨r1, r2, by rw [w1 hj (by omega)]; exact ih⟩ 0 (Nat.zero_le _)
    refine ⟨s1, s2, Ev.shift ?_⟩
    simp only [spec_deTwo.l1]
    refine Ev.ite_pos (by omega) (Ev.ite_pos (by omega) (Ev.ite_pos (by omega) ?_))
    rw [rd_ints]
    exact Ev.bind (spec_deSpread.ev a _ ha (lt_of_mem hY j hj)) h
def hit0 (W Z : List Nat) (i : Nat) : Bool := anyG (hit1 Z (W.drop i) (W.getD i 0)) (W.drop i).length 0
theorem two_l0s (W Z : List Nat) (hZ : ∀ m ∈ Z, m < 64) (hZl : Z.length ≤ 64) (hW : ∀ m ∈ W, m < 64) (hWl : W.length ≤ 64) :
    ∀ i : Nat, i ≤ W.length → ∃ r1 r2, Ev (fun k => spec_deTwo.l0 k (ints W) (ints Z) (ints W) ((ints W).length : Int) (i : Int)) (r1, r2, anyG (hit0 W Z) W.length i) := by
  have il : (ints W).length = W.length := ints_len W
  refine back (P := fun i : Nat => ∃ r1 r2, Ev (fun k => spec_deTwo.l0 k (ints W) (ints Z) (ints W) ((ints W).length : Int) (i : Int)) (r1, r2, anyG (hit0 W Z) W.length i)) W.length ?_ ?_
  · refine ⟨[], [], Ev.shift ?_⟩
    rw [anyG_end]
    simp only [spec_deTwo.l0]
    exact Ev.ite_neg (by omega) Ev.some
  · intro i hi ⟨r1, r2, ih⟩
    rw [anyG_step _ _ _ hi]
    obtain ⟨s1, s2, h⟩ := two_l1s W Z (W.drop i) (W.getD i 0) (lt_of_mem hW i hi) hZ hZl (fun m hm => hW m (List.mem_of_mem_drop hm)) (by rw [List.length_drop]; omega) (ints W) ((ints W).length : Int) (i : Int) _ ⟨r1, r2, by rw [w1 hi (by omega)]; exact ih⟩ 0 (Nat.zero_le _)
    refine ⟨s1, s2, Ev.shift ?_⟩
    simp only [spec_deTwo.l0]
    refine Ev.ite_pos (by omega) (Ev.ite_pos (by omega) (Ev.ite_pos (by omega) (Ev.ite_pos (by omega) (Ev.bind (Ev.one rfl) ?_))))
    rw [Int.toNat_natCast, ints_drop, rd_ints]
    exact h
theorem pairs_iff (L : List Nat) (F : Nat → Nat → Prop) (hF : ∀ a b, F a b → F b a) : (∃ i, i < L.length ∧ ∃ j, j < (L.drop i).length ∧ F (L.getD i 0) ((L.drop i).getD j 0)) ↔ ∃ a ∈ L, ∃ b ∈ L, F a b := by
  have dropg : ∀ i j, (L.drop i).getD j 0 = L.getD (i + j) 0 := fun i j => by rw [List.getD_eq_getElem?_getD, List.getD_eq_getElem?_getD, List.getElem?_drop]
  have idx : ∀ m ∈ L, ∃ i, i < L.length ∧ L.getD i 0 = m := fun m hm => by
    obtain ⟨i, hi, e⟩ := List.getElem_of_mem hm
    exact ⟨i, hi, by rw [List.getD_eq_getElem?_getD, List.getElem?_eq_getElem hi]; exact e⟩
  constructor
  · rintro ⟨i, hi, j, hj, h⟩
    exact ⟨_, getD_mem L 0 i hi, _, List.mem_of_mem_drop (getD_mem _ 0 j hj), h⟩
  · rintro ⟨a, ha, b, hb, h⟩
    obtain ⟨i, hi, ei⟩ := idx a ha
    obtain ⟨j, hj, ej⟩ := idx b hb
    rcases Nat.le_total i j with hij | hij
    · exact ⟨i, hi, j - i, by rw [List.length_drop]; omega, by rw [dropg, show i + (j - i) = j by omega, ei, ej]; exact h⟩
    · exact ⟨j, hj, i - j, by rw [List.length_drop]; omega, by rw [dropg, show j + (i - j) = i by omega, ei, ej]; exact hF _ _ h⟩
theorem found_iff2 (n : Nat) (w : List Bool) (hn : n ≤ 6) : anyG (hit0 (wlist w n true) (wlist w n false)) (wlist w n true).length 0 = true ↔ Trade w n := by
  have h64 : 2 ^ n ≤ 64 := pow_small (m := 6) hn
  have mw := wlist_mem w n true (by omega)
  have ml := wlist_mem w n false (by omega)
  generalize wlist w n true = W at mw ⊢
  generalize wlist w n false = Z at ml ⊢
  have inner : ∀ a b, anyG (hit2 Z a b) Z.length 0 = true ↔ ∃ c ∈ Z, ∃ d ∈ Z, sp c + sp d = sp a + sp b := fun a b => by
    rw [anyG_iff, ← pairs_iff Z (fun c d => sp c + sp d = sp a + sp b) (fun _ _ h => by omega)]
    constructor
    · rintro ⟨i, _, hi, h⟩
      unfold hit2 at h
      obtain ⟨j, _, hj, h⟩ := (anyG_iff _ _ _).1 h
      exact ⟨i, hi, j, hj, of_decide_eq_true h⟩
    · rintro ⟨i, hi, j, hj, h⟩
      exact ⟨i, Nat.zero_le _, hi, (anyG_iff _ _ _).2 ⟨j, Nat.zero_le _, hj, decide_eq_true h⟩⟩
  have outer : anyG (hit0 W Z) W.length 0 = true ↔ ∃ a ∈ W, ∃ b ∈ W, ∃ c ∈ Z, ∃ d ∈ Z, sp c + sp d = sp a + sp b := by
    rw [anyG_iff, ← pairs_iff W (fun a b => ∃ c ∈ Z, ∃ d ∈ Z, sp c + sp d = sp a + sp b) (fun _ _ ⟨c, hc, d, hd, h⟩ => ⟨c, hc, d, hd, by omega⟩)]
    constructor
    · rintro ⟨i, _, hi, h⟩
      unfold hit0 at h
      obtain ⟨j, _, hj, h⟩ := (anyG_iff _ _ _).1 h
      exact ⟨i, hi, j, hj, (inner _ _).1 h⟩
    · rintro ⟨i, hi, j, hj, h⟩
      exact ⟨i, Nat.zero_le _, hi, (anyG_iff _ _ _).2 ⟨j, Nat.zero_le _, hj, (inner _ _).2 h⟩⟩
  rw [outer]
  constructor
  · rintro ⟨a, ha, b, hb, c, hc, d, hd, h⟩
    obtain ⟨a1, a2⟩ := (mw a).1 ha
    obtain ⟨b1, b2⟩ := (mw b).1 hb
    obtain ⟨c1, c2⟩ := (ml c).1 hc
    obtain ⟨d1, d2⟩ := (ml d).1 hd
    obtain ⟨h1, h2⟩ := sum_to (x := a) (y := b) (u := c) (v := d) (by omega) (by omega) (by omega) (by omega) h
    exact ⟨a, b, c, a1, b1, c1, h1, a2, b2, c2, by rw [← h2]; exact d2⟩
  · rintro ⟨x, y, u, hx, hy, hu, hok, vx, vy, vu, vw⟩
    have hWlt : Wm x y u < 2 ^ n := by
      unfold Wm
      exact Nat.or_lt_two_pow (Nat.lt_of_le_of_lt Nat.and_le_left hx) (Nat.lt_of_le_of_lt (Nat.sub_le _ _) (Nat.or_lt_two_pow hx hy))
    exact ⟨x, (mw x).2 ⟨hx, vx⟩, y, (mw y).2 ⟨hy, vy⟩, u, (ml u).2 ⟨hu, vu⟩, _, (ml _).2 ⟨hWlt, vw⟩, (sum_of (by omega) (by omega) (by omega) hok).symm⟩
theorem spec_deTwo.ev (n : Nat) (w : List Bool) (hw : w.length = 2 ^ n) (hn : n ≤ 6) : ∃ r1 r2 b, Ev (fun k => spec_deTwo.f k w) (r1, r2, b) ∧ (b = true ↔ Trade w n) := by
  have h64 : 2 ^ n ≤ 64 := pow_small (m := 6) hn
  have len : ∀ b, (wlist w n b).length ≤ 64 := fun b => by
    unfold wlist
    rw [List.length_map]
    have := (setsR_len (fun m => w.getD m false == b) n).1
    omega
  have mem : ∀ b, ∀ m ∈ wlist w n b, m < 64 := fun b m hm => by
    have := ((wlist_mem w n b (by omega) m).1 hm).1
    omega
  obtain ⟨r1, r2, h⟩ := two_l0s (wlist w n true) (wlist w n false) (mem false) (len false) (mem true) (len true) 0 (Nat.zero_le _)
  refine ⟨r1, r2, _, ?_, found_iff2 n w hn⟩
  unfold spec_deTwo.f
  exact Ev.bind (spec_deSorted.ev n w true hw (by omega)) (Ev.bind (spec_deSorted.ev n w false hw (by omega)) h)
end Go.Proofs.Ytokelcedamegbaa.P

/- The pure statement of FnExactStandsTrades. -/
namespace Go.Proofs.Ytokelcedamegbaa.P
open Go.RowKit Go.Proofs.YtokelcedamegbaaW.PrintWords Go.Proofs.YtokelcedamegbaaW.PrintLast Go.Proofs.YtokelcedamegbaaW.PrintMore
open Classical in
noncomputable def standsR (n : Int) (ws : List (List Int)) : Bool × Bool := if (isGame n ws && decide (n ≤ 6)) = true then (!decide (Trade (tab n.toNat (gwin ws)) n.toNat), true) else (false, false)
theorem impl_isTradedGame.ev (n : Int) (ws : List (List Int)) (hl : ws.length ≤ 1048576) (hx : ∀ s ∈ ws, s.length ≤ 1048576) : Ev (fun k => impl_isTradedGame.f k n ws) (isGame n ws && decide (n ≤ 6)) := by
  unfold impl_isTradedGame.f
  refine Ev.bind (impl_IsGame.ev n ws hl hx) ?_
  cases h : isGame n ws with
  | false => rw [Bool.false_and]; exact Ev.ite_neg (by decide) Ev.some
  | true => rw [Bool.true_and]; exact Ev.ite_pos (by trivial) Ev.some
open Classical in
theorem not_trade {w : List Bool} {n : Nat} {b : Bool} (h : b = true ↔ Trade w n) : (!decide (Trade w n)) = !b := by
  congr 1
  cases b with
  | true => exact decide_eq_true (h.1 rfl)
  | false => exact decide_eq_false (fun z => absurd (h.2 z) (by decide))
theorem impl_StandsTrades.ev (n : Int) (ws : List (List Int)) (hl : ws.length ≤ 1048576) (hx : ∀ s ∈ ws, s.length ≤ 1048576) : Ev (fun k => impl_StandsTrades.f k n ws) (standsR n ws) := by
  have tg := impl_isTradedGame.ev n ws hl hx
  unfold impl_StandsTrades.f impl_FirstTrade.f standsR
  cases h : isGame n ws && decide (n ≤ 6) with
  | false =>
    rw [h] at tg
    refine Ev.bind (Ev.bind tg (Ev.ite_neg (by decide) Ev.some)) ?_
    refine Ev.ite_neg (by decide) (Ev.bind tg (Ev.bind tg ?_))
    rw [if_neg (by decide)]
    exact Ev.some
  | true =>
    rw [h] at tg
    rw [Bool.and_eq_true, decide_eq_true_eq] at h
    obtain ⟨m, rfl, _, hm9, _, hs, _⟩ := isGame_at h.1
    rw [Int.toNat_natCast, if_pos rfl]
    obtain ⟨r1, r2, b, hb, hiff⟩ := impl_votes_firstTrade.ev m (tab m (gwin ws)) (tab_len _ _) (by omega)
    refine Ev.bind (Ev.bind tg (Ev.ite_pos (by trivial) (Ev.bind (impl_Game_votes.ev m ws hm9 hl hx (fun s h => (hs s h).2)) (Ev.bind hb Ev.some)))) ?_
    rw [not_trade hiff]
    cases b with
    | true => exact Ev.ite_pos (by trivial) (Ev.bind tg Ev.some)
    | false => exact Ev.ite_neg (show ¬ (false = true) by decide) (Ev.bind tg (Ev.bind tg Ev.some))
theorem spec_StandsTrades.ev (n : Int) (ws : List (List Int)) (hl : ws.length ≤ 1048576) (hx : ∀ s ∈ ws, s.length ≤ 1048576) : Ev (fun k => spec_StandsTrades.f k n ws) (standsR n ws) := by
  unfold spec_StandsTrades.f standsR
  refine Ev.bind (spec_gmGood.ev n ws hl hx) ?_
  cases h : isGame n ws with
  | false =>
    refine Ev.ite_neg (by decide) (Ev.shift ?_)
    simp only [spec_StandsTrades.j0]
    rw [Bool.false_and, if_neg (by decide)]
    exact Ev.ite_pos (by trivial) Ev.some
  | true =>
    obtain ⟨m, rfl, _, hm9, _, hs, _⟩ := isGame_at h
    refine Ev.ite_pos (by trivial) (Ev.shift ?_)
    simp only [spec_StandsTrades.j0]
    rw [Bool.true_and, Int.toNat_natCast]
    by_cases h6 : (m : Int) ≤ 6
    · rw [decide_eq_false (show ¬ (m : Int) > 6 by omega), decide_eq_true h6, if_pos rfl]
      obtain ⟨r1, r2, b, hb, hiff⟩ := spec_deTwo.ev m (tab m (gwin ws)) (tab_len _ _) (by omega)
      refine Ev.ite_neg (by decide) (Ev.bind (spec_gmAll.ev m ws hm9 hl hx (fun s h => (hs s h).2)) (Ev.bind hb ?_))
      rw [not_trade hiff]
      exact Ev.some
    · rw [decide_eq_true (show (m : Int) > 6 by omega), decide_eq_false h6, if_neg (by decide)]
      exact Ev.ite_pos (by trivial) Ev.some
theorem laws_FnExactStandsTrades_pure : laws_FnExactStandsTrades.Pure := by
  intro n ws hn0 hws
  apply Ev.rounds (r := true)
  unfold laws_FnExactStandsTrades.f
  obtain ⟨r, hr, hp⟩ := laws_szGame.ev n ws 1048576 hws (by omega) (by omega)
  refine Ev.bind hr ?_
  by_cases h2 : r < 0
  · simp only [h2, ↓reduceIte]
    exact Ev.some
  · obtain ⟨hn, hx⟩ := hp (by omega)
    have hl : ws.length ≤ 1048576 := by omega
    simp only [h2, ↓reduceIte]
    have t1 := laws_toGame.ev n ws hl hx
    have s1 := spec_StandsTrades.ev n ws hl hx
    have i1 := impl_StandsTrades.ev n ws hl hx
    have e1 := laws_eqGame.ev n ws (by omega) (fun s hs => by have := hx s hs; omega)
    generalize standsR n ws = v at s1 i1
    obtain ⟨u, b⟩ := v
    repeat (first | with_reducible refine Ev.bind t1 ?_ | with_reducible refine Ev.bind s1 ?_ | with_reducible refine Ev.bind i1 ?_ | with_reducible refine Ev.bind e1 ?_ | with_reducible exact Ev.some | simp only [bne_self_eq_false, Bool.false_eq_true, ↓reduceIte, one_lt, one_lt2, Bool.not_true, Bool.not_false, List.length_nil])
end Go.Proofs.Ytokelcedamegbaa.P
