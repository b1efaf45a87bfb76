/- Part 7 of the texts below the law FnCouncilsWinOfAll. Printed by this session's driver over the kit's printer, but for the hand contracts and the plain laws. -/
import Derived.Test.YtidkafljeldokaaGreatCFnCouncilsWinOfAll1
import Derived.Test.YtidkafljeldokaaGreatCFnCouncilsWinOfAll2
import Derived.Test.YtidkafljeldokaaGreatCFnCouncilsWinOfAll3
import Derived.Test.YtidkafljeldokaaGreatCFnCouncilsWinOfAll4
import Derived.Test.YtidkafljeldokaaGreatCFnCouncilsWinOfAll5
import Derived.Test.YtidkafljeldokaaGreatCFnCouncilsWinOfAll6
set_option linter.unusedVariables false
set_option linter.unusedSimpArgs false
namespace Go.Proofs.YtidkafljeldokaaGreat.P
def laws_FnCouncilsWinOfAll.Pure : Prop := ∀ (a0_0 : Int) (l0_1 : List Int) (l1 : List (S_impl_Committee)) (a2_0 : Int) (l2_1 : List Int) (l3 : List (S_impl_Committee)) (l4 : List (List Int)) (l5 : List (S_impl_Committee)) (a6 : Int) (l7 : List (S_impl_Committee)) (a8_0 : Int) (l8_1 : List Int), okI a0_0 → (okL okI) l0_1 → (okL ok_impl_Committee) l1 → okI a2_0 → (okL okI) l2_1 → (okL ok_impl_Committee) l3 → (okL (okL okI)) l4 → (okL ok_impl_Committee) l5 → okI a6 → (okL ok_impl_Committee) l7 → okI a8_0 → (okL okI) l8_1 → ∃ k, laws_FnCouncilsWinOfAll.f k a0_0 l0_1 l1 a2_0 l2_1 l3 l4 l5 a6 l7 a8_0 l8_1 = some true
end Go.Proofs.YtidkafljeldokaaGreat.P

/- The least winning sets, in order. -/
namespace Go.Proofs.YtidkafljeldokaaGreat.P
open Go.RowKit Go.Proofs.YtidkafljeldokaaGreatW.PrintWords Go.Proofs.YtidkafljeldokaaGreatW.PrintLast Go.Proofs.YtidkafljeldokaaGreatW.PrintMore
theorem andNot512 : ((List.range 512).all fun m => (List.range 9).all fun i => !(m.testBit i) || Go.bits .andNot .i64 (m : Int) ((2 ^ i : Nat) : Int) == ((m - 2 ^ i : Nat) : Int)) = true := by decide +kernel
theorem andNot_pow {m i : Nat} (h : m < 512) (hi : i < 9) (hb : m.testBit i = true) : Go.bits .andNot .i64 (m : Int) ((2 ^ i : Nat) : Int) = ((m - 2 ^ i : Nat) : Int) := by
  have h1 := andNot512
  rw [List.all_eq_true] at h1
  have h2 := h1 m (List.mem_range.2 h)
  rw [List.all_eq_true] at h2
  simpa [hb] using h2 i (List.mem_range.2 hi)
theorem pow_le_of_bit {m i : Nat} (h : m.testBit i = true) : 2 ^ i ≤ m := Nat.ge_two_pow_of_testBit h
theorem sub_pow {m b : Nat} (h : 2 ^ b ≤ m) (h5 : m < 512) : wrap64 ((m : Int) - ((2 ^ b : Nat) : Int)) = ((m - 2 ^ b : Nat) : Int) := by
  generalize 2 ^ b = q at h ⊢
  rw [w64 (by omega) (by omega)]; omega
def lstP (w : List Bool) (m : Nat) (i : Nat) : Bool := !(m.testBit i && w.getD (m - 2 ^ i) false)
def lstB (w : List Bool) (n m : Nat) : Bool := w.getD m false && (List.range n).all (lstP w m)
theorem range_drop (n i : Nat) (h : i < n) : (List.range n).drop i = i :: (List.range n).drop (i + 1) := by
  rw [drop_getD (List.range n) 0 i (by rw [List.length_range]; exact h)]
  congr 1
  rw [List.getD_eq_getElem?_getD, List.getElem?_range h]
  rfl
theorem impl_votes_isLeast.ev (n : Nat) (w : List Bool) (m : Nat) (hw : w.length = 2 ^ n) (hn : n ≤ 9) (hm : m < 2 ^ n) : Ev (fun k => impl_votes_isLeast.f k (n : Int) w (m : Int)) (lstB w n m) := by
  have h9 : 2 ^ n ≤ 512 := pow_small (m := 9) hn
  unfold impl_votes_isLeast.f lstB
  refine Ev.ite_pos (by omega) (Ev.ite_pos (by omega) ?_)
  rw [rdB_nat]
  cases hwm : w.getD m false with
  | false => exact Ev.ite_neg (by decide) Ev.some
  | true =>
    refine Ev.ite_pos rfl ?_
    have key := Ev.down (G := fun i k => impl_votes_isLeast.l0 k (m : Int) (n : Int) (i : Int) (n : Int) w) (R := fun i => ((List.range n).drop i).all (lstP w m)) n
      (by refine Ev.shift ?_
          simp only [impl_votes_isLeast.l0]
          refine Ev.ite_neg (by omega) ?_
          rw [List.drop_eq_nil_of_le (by rw [List.length_range]; exact Nat.le_refl _)]
          exact Ev.some)
      (fun i hi ih => by
        refine Ev.shift ?_
        simp only [impl_votes_isLeast.l0]
        refine Ev.ite_pos (by omega) ?_
        rw [range_drop n i hi, List.all_cons]
        refine Ev.bind (Ev.one (impl_has.eq m i (by omega) (by omega))) ?_
        cases ht : m.testBit i with
        | false =>
          refine Ev.ite_neg (by decide) ?_
          rw [w1 hi (by omega)]
          have e : lstP w m i = true := by unfold lstP; rw [ht]; rfl
          rw [e, Bool.true_and]
          exact ih
        | true =>
          refine Ev.ite_pos rfl (Ev.ite_pos (by omega) ?_)
          rw [shl_one i (by omega), andNot_pow (by omega) (by omega) ht]
          have hlt : m - 2 ^ i < w.length := by rw [hw]; exact Nat.lt_of_le_of_lt (Nat.sub_le _ _) hm
          refine Ev.ite_pos (Int.natCast_nonneg _) (Ev.ite_pos (Int.ofNat_lt.2 hlt) ?_)
          rw [rdB_nat]
          have e : lstP w m i = !(w.getD (m - 2 ^ i) false) := by unfold lstP; rw [ht, Bool.true_and]
          rw [e]
          cases hv : w.getD (m - 2 ^ i) false with
          | true => exact Ev.ite_pos rfl Ev.some
          | false =>
            refine Ev.ite_neg (by decide) ?_
            rw [w1 hi (by omega)]
            exact ih)
    exact key 0 (Nat.zero_le _)
theorem impl_setOf.ev (m : Nat) (h : m < 512) : Ev (fun k => impl_setOf.f k (m : Int)) (sel 9 m.testBit) := by
  unfold impl_setOf.f
  have key := Ev.down (G := fun i k => impl_setOf.l0 k (m : Int) (sel i m.testBit) (i : Int)) (R := fun _ => sel 9 m.testBit) 9
    (by refine Ev.shift ?_
        have c0 : (0 : Int) ≤ ((9 : Nat) : Int) := by omega
        have e : m / 2 ^ 9 = 0 := Nat.div_eq_of_lt h
        have c : ¬ (((0 : Nat) : Int) > 0) := by omega
        simp only [impl_setOf.l0, c0, ↓reduceIte, shr_nat m 9 (by omega), e, c]
        exact Ev.some)
    (fun i hi ih => by
      refine Ev.shift ?_
      have c0 : (0 : Int) ≤ (i : Int) := by omega
      have c2 : (sel i m.testBit).length < 17592186044416 := by have := sel_len i m.testBit; omega
      have hlt2 : m / 2 ^ i < 2 ^ 63 := Nat.lt_of_le_of_lt (Nat.div_le_self _ _) (by omega)
      rw [sel_succ] at ih
      simp only [impl_setOf.l0, c0, ↓reduceIte, shr_nat m i (by omega), and_one _ hlt2, c2, w1 hi (by omega)]
      by_cases hz : m / 2 ^ i = 0
      · have c : ¬ (((m / 2 ^ i : Nat) : Int) > 0) := by rw [hz]; decide
        simp only [c, ↓reduceIte]
        refine Ev.eq Ev.some ?_
        have hlt : m < 2 ^ i := by
          rcases Nat.div_eq_zero_iff.1 hz with h | h
          · exact absurd h (by have := Nat.two_pow_pos i; omega)
          · exact h
        have := sel_more i (9 - i) m hlt
        rw [show i + (9 - i) = 9 by omega] at this
        exact this.symm
      · have c : (((m / 2 ^ i : Nat) : Int) > 0) := Int.natCast_pos.2 (Nat.pos_of_ne_zero hz)
        simp only [c, ↓reduceIte]
        cases hb : m.testBit i with
        | true =>
          rw [bit_nat, decide_eq_true_eq] at hb
          have c3 : ((m / 2 ^ i % 2 : Nat) : Int) = 1 := by omega
          rw [bit_nat, show decide (m / 2 ^ i % 2 = 1) = true from decide_eq_true hb, if_pos rfl] at ih
          simp only [c3, ↓reduceIte]
          exact ih
        | false =>
          rw [hb, if_neg (by decide), List.append_nil] at ih
          rw [bit_nat, decide_eq_false_iff_not] at hb
          have c3 : ¬ ((m / 2 ^ i % 2 : Nat) : Int) = 1 := by omega
          simp only [c3, ↓reduceIte]
          exact ih)
  exact key 0 (by omega)
def setsTo (P : Nat → Bool) (i : Nat) : List (List Int) := ((List.range i).filter P).map fun m => sel 9 m.testBit
def setsR (P : Nat → Bool) (n : Nat) : List (List Int) := sorted (setsTo P (2 ^ n))
theorem setsTo_succ (P : Nat → Bool) (i : Nat) : setsTo P (i + 1) = setsTo P i ++ (if P i = true then [sel 9 i.testBit] else []) := by
  unfold setsTo
  rw [List.range_succ, List.filter_append, List.map_append]
  cases h : P i with
  | true => rw [List.filter_cons_of_pos h]; simp
  | false => rw [List.filter_cons_of_neg (by simp [h])]; simp
theorem setsTo_len (P : Nat → Bool) (i : Nat) : (setsTo P i).length ≤ i ∧ ∀ x ∈ setsTo P i, x.length ≤ 9 := by
  refine ⟨?_, fun x hx => ?_⟩
  · unfold setsTo
    rw [List.length_map]
    exact Nat.le_trans (List.length_filter_le _ _) (by rw [List.length_range]; exact Nat.le_refl _)
  · obtain ⟨m, _, rfl⟩ := List.mem_map.1 hx
    exact sel_len 9 _
theorem setsR_len (P : Nat → Bool) (n : Nat) : (setsR P n).length ≤ 2 ^ n ∧ ∀ x ∈ setsR P n, x.length ≤ 9 := by
  obtain ⟨h1, h2⟩ := setsTo_len P (2 ^ n)
  have hp := sorted_perm (setsTo P (2 ^ n))
  exact ⟨by unfold setsR; rw [hp.length_eq]; exact h1, fun x hx => h2 x (hp.mem_iff.1 hx)⟩
theorem Ev.pairs {α β : Type} {p : Nat → α → α → Option β} {P : α → α → β} (l : List α) (h : ∀ x ∈ l, ∀ y ∈ l, Ev (fun k => p k x y) (P x y)) : ∃ K, ∀ k, K ≤ k → ∀ x ∈ l, ∀ y ∈ l, p k x y = Option.some (P x y) := by
  obtain ⟨K, hK⟩ := Ev.all (p := fun k (z : α × α) => p k z.1 z.2) (P := fun z => P z.1 z.2) (l.flatMap fun x => l.map fun y => (x, y)) (fun z hz => by
    obtain ⟨x, hx, hz⟩ := List.mem_flatMap.1 hz
    obtain ⟨y, hy, rfl⟩ := List.mem_map.1 hz
    exact h x hx y hy)
  exact ⟨K, fun k hk x hx y hy => hK k hk (x, y) (List.mem_flatMap.2 ⟨x, hx, List.mem_map.2 ⟨y, hy, rfl⟩⟩)⟩
theorem slices_SortFunc_LLint_Lint.ev (l : List (List Int)) (hl : l.length ≤ 1000000) (hx : ∀ x ∈ l, x.length ≤ 1000000) : Ev (fun k => slices_SortFunc_LLint_Lint.f k l (fun x y => slices_Compare_int_int.f k x y)) (sorted l) := by
  obtain ⟨K, hK⟩ := Ev.pairs (p := fun k x y => slices_Compare_int_int.f k x y) (P := lexc) l (fun x h _ _ => slices_Compare_int_int.ev x _ (by have := hx x h; omega))
  exact ⟨K, fun k hk => if_pos ⟨hl, hK k hk⟩⟩
theorem spec_voSorted.ev (l : List (List Int)) (hl : l.length ≤ 1000000) (hx : ∀ x ∈ l, x.length ≤ 1000000) : Ev (fun k => spec_voSorted.f k l) (sorted l) := by
  obtain ⟨K, hK⟩ := Ev.pairs (p := fun k x y => spec_voBefore.f k x y) (P := fun x y => decide (lexc x y < 0)) l (fun x h _ _ => spec_voBefore.ev x _ (by have := hx x h; omega))
  exact ⟨K, fun k hk => if_pos ⟨hl, hK k hk⟩⟩
theorem impl_votes_sets.ev (n : Nat) (w : List Bool) (hw : w.length = 2 ^ n) (hn : n ≤ 9) (p : Nat → Int → Option Bool) (P : Nat → Bool) (h : ∀ b : Nat, b < 2 ^ n → Ev (fun k => p k (b : Int)) (P b)) : Ev (fun k => impl_votes_sets.f k (n : Int) w (p k)) (setsR P n) := by
  have h9 : 2 ^ n ≤ 512 := pow_small (m := 9) hn
  unfold impl_votes_sets.f
  obtain ⟨K, hK⟩ := Ev.all (p := fun k (b : Nat) => p k (b : Int)) (P := P) (List.range (2 ^ n)) (fun b hb => h b (List.mem_range.1 hb))
  have hq : ∀ k, K ≤ k → ∀ b : Nat, b < 2 ^ n → p k (b : Int) = some (P b) := fun k hk b hb => hK k hk b (List.mem_range.2 hb)
  obtain ⟨hl1, hl2⟩ := setsTo_len P (2 ^ n)
  obtain ⟨K2, hK2⟩ := slices_SortFunc_LLint_Lint.ev (setsTo P (2 ^ n)) (by omega) (fun x hx => by have := hl2 x hx; omega)
  obtain ⟨K3, hK3⟩ := Ev.all (p := fun k (b : Nat) => impl_setOf.f k (b : Int)) (P := fun b => sel 9 b.testBit) (List.range (2 ^ n)) (fun b hb => impl_setOf.ev b (by have := List.mem_range.1 hb; omega))
  have hlen : (w.length : Int) = ((2 ^ n : Nat) : Int) := by rw [hw]
  have main : ∀ q : Int → Option Bool, (∀ b : Nat, b < 2 ^ n → q (b : Int) = some (P b)) → ∀ d i, i + d = 2 ^ n → ∀ k, K2 + K3 + d < k → impl_votes_sets.l0 k q (setsTo P i) ((2 ^ n : Nat) : Int) (i : Int) = some (setsR P n) := by
    intro q hq d
    induction d with
    | zero =>
      intro i hi k hk
      obtain ⟨k, rfl⟩ : ∃ j, k = j + 1 := ⟨k - 1, by omega⟩
      rw [impl_votes_sets.l0, if_neg (by omega), show i = 2 ^ n by omega, show slices_SortFunc_LLint_Lint.f k (setsTo P (2 ^ n)) (fun y0_ y1_ => slices_Compare_int_int.f k y0_ y1_) = some (sorted (setsTo P (2 ^ n))) from hK2 k (by omega)]
      rfl
    | succ d ih =>
      intro i hi k hk
      obtain ⟨k, rfl⟩ : ∃ j, k = j + 1 := ⟨k - 1, by omega⟩
      have hlt : i < 2 ^ n := by omega
      have ih := ih (i + 1) (by omega) k (by omega)
      rw [setsTo_succ] at ih
      rw [impl_votes_sets.l0, if_pos (by omega), hq i hlt, Option.bind_some, w1 hlt (by omega)]
      cases hP : P i with
      | true =>
        rw [hP, if_pos rfl] at ih
        have hl := (setsTo_len P i).1
        rw [if_pos rfl, hK3 k (by omega) i (List.mem_range.2 hlt), Option.bind_some, if_pos (by omega)]
        exact ih
      | false =>
        rw [hP, if_neg (by decide), List.append_nil] at ih
        rw [if_neg (by decide)]
        exact ih
  refine ⟨K + K2 + K3 + 2 ^ n + 1, fun k hk => ?_⟩
  rw [hlen]
  exact main (p k) (hq k (by omega)) (2 ^ n) 0 (by omega) k (by omega)
def gsets (w : List Bool) (n : Nat) : List (List Int) := setsR (lstB w n) n
theorem impl_votes_game.ev (n : Nat) (w : List Bool) (hw : w.length = 2 ^ n) (hn : n ≤ 9) : Ev (fun k => impl_votes_game.f k (n : Int) w) ((n : Int), gsets w n) := by
  unfold impl_votes_game.f impl_votes_least.f
  exact Ev.bind (impl_votes_sets.ev n w hw hn (fun k y => impl_votes_isLeast.f k (n : Int) w y) (lstB w n) (fun b hb => impl_votes_isLeast.ev n w b hw hn hb)) Ev.some
theorem sel_all_q (w : List Bool) (n m : Nat) (hn : n ≤ 9) (hm : m < 2 ^ n) : (sel 9 m.testBit).all (fun x => !(w.getD (m - 2 ^ x.toNat) false)) = (List.range n).all (lstP w m) := by
  have e := sel_more n (9 - n) m hm
  rw [show n + (9 - n) = 9 by omega] at e
  rw [e]
  unfold sel
  rw [List.all_map, List.all_filter]
  congr 1
  funext i
  simp only [Function.comp, Int.toNat_natCast, lstP, Bool.not_and]
theorem spec_voLeast.ev (n : Nat) (w : List Bool) (hw : w.length = 2 ^ n) (hn : n ≤ 9) : Ev (fun k => spec_voLeast.f k w) (gsets w n) := by
  have h9 : 2 ^ n ≤ 512 := pow_small (m := 9) hn
  unfold spec_voLeast.f
  obtain ⟨hl1, hl2⟩ := setsTo_len (lstB w n) (2 ^ n)
  have key := Ev.down (G := fun i k => spec_voLeast.l0 k w (setsTo (lstB w n) i) w (w.length : Int) (i : Int)) (R := fun _ => gsets w n) (2 ^ n)
    (by refine Ev.shift ?_
        simp only [spec_voLeast.l0]
        refine Ev.ite_neg (by omega) ?_
        exact Ev.bind (spec_voSorted.ev _ (by omega) (fun x hx => by have := hl2 x hx; omega)) Ev.some)
    (fun m hm ih => by
      refine Ev.shift ?_
      simp only [spec_voLeast.l0]
      refine Ev.ite_pos (by omega) (Ev.ite_pos (by omega) (Ev.ite_pos (by omega) ?_))
      rw [rdB_nat]
      rw [setsTo_succ] at ih
      unfold lstB at ih
      rw [show (lstB w n) = fun m => w.getD m false && (List.range n).all (lstP w m) from rfl]
      cases hwm : w.getD m false with
      | false =>
        rw [hwm, Bool.false_and, if_neg (by decide), List.append_nil] at ih
        refine Ev.ite_neg (by decide) ?_
        rw [w1 hm (by omega)]
        exact ih
      | true =>
        rw [hwm, Bool.true_and, ← sel_all_q w n m hn hm] at ih
        refine Ev.ite_pos rfl ?_
        refine Ev.bind (spec_voList.ev m (by omega)) ?_
        have sl := sel_len 9 m.testBit
        have sm : ∀ x ∈ sel 9 m.testBit, ∃ b : Nat, x = (b : Int) ∧ b < 9 ∧ m.testBit b = true := fun x hx => by
          unfold sel at hx
          obtain ⟨b, hb, rfl⟩ := List.mem_map.1 hx
          rw [List.mem_filter] at hb
          exact ⟨b, rfl, List.mem_range.1 hb.1, hb.2⟩
        have hlsz := (setsTo_len (fun m => w.getD m false && (List.range n).all (lstP w m)) m).1
        have voL := spec_voList.ev m (show m < 512 by omega)
        generalize sel 9 m.testBit = L at ih sl sm voL ⊢
        have key2 := Ev.down (G := fun i k => spec_voLeast.l1 k w (setsTo (fun m => w.getD m false && (List.range n).all (lstP w m)) m) (m : Int) ((L.take i).all (fun x => !(w.getD (m - 2 ^ x.toNat) false))) w (w.length : Int) (m : Int) L (L.length : Int) (i : Int)) (R := fun _ => gsets w n) L.length
          (by refine Ev.shift ?_
              simp only [spec_voLeast.l1]
              refine Ev.ite_neg (by omega) ?_
              rw [List.take_length]
              cases hq : L.all (fun x => !(w.getD (m - 2 ^ x.toNat) false)) with
              | true =>
                rw [hq, if_pos rfl] at ih
                refine Ev.ite_pos rfl (Ev.bind voL (Ev.ite_pos (by omega) ?_))
                rw [w1 hm (by omega)]
                exact ih
              | false =>
                rw [hq, if_neg (by decide), List.append_nil] at ih
                refine Ev.ite_neg (by decide) ?_
                rw [w1 hm (by omega)]
                exact ih)
          (fun i hi ih2 => by
            refine Ev.shift ?_
            simp only [spec_voLeast.l1]
            refine Ev.ite_pos (by omega) (Ev.ite_pos (by omega) (Ev.ite_pos (by omega) ?_))
            rw [w1 hi (by omega), rd_nat]
            rw [take_getD L 0 i hi, List.all_append] at ih2
            obtain ⟨b, eb, hb9, hbt⟩ := sm _ (getD_mem L 0 i hi)
            have hp := pow_le_of_bit hbt
            cases hq : (L.take i).all (fun x => !(w.getD (m - 2 ^ x.toNat) false)) with
            | false =>
              rw [hq, Bool.false_and] at ih2
              exact Ev.ite_neg (by decide) ih2
            | true =>
              rw [hq, Bool.true_and, List.all_cons, List.all_nil, Bool.and_true, eb, Int.toNat_natCast] at ih2
              refine Ev.ite_pos rfl ?_
              rw [eb, shl_one b (by omega)]
              have hlt : m - 2 ^ b < w.length := by rw [hw]; exact Nat.lt_of_le_of_lt (Nat.sub_le _ _) hm
              rw [sub_pow hp (by omega)]
              refine Ev.ite_pos (by omega) (Ev.ite_pos (Int.natCast_nonneg _) (Ev.ite_pos (Int.ofNat_lt.2 hlt) ?_))
              rw [rdB_nat]
              exact ih2)
        exact key2 0 (Nat.zero_le _))
  exact key 0 (Nat.zero_le _)
theorem spec_gmOf.ev (n : Nat) (w : List Bool) (hw : w.length = 2 ^ n) (hn : n ≤ 9) : Ev (fun k => spec_gmOf.f k (n : Int) w) ((n : Int), gsets w n) := by
  unfold spec_gmOf.f
  exact Ev.bind (spec_voLeast.ev n w hw hn) Ev.some
end Go.Proofs.YtidkafljeldokaaGreat.P

/- A set's members and its bits. -/
namespace Go.Proofs.YtidkafljeldokaaGreat.P
open Go.RowKit Go.Proofs.YtidkafljeldokaaGreatW.PrintWords Go.Proofs.YtidkafljeldokaaGreatW.PrintLast Go.Proofs.YtidkafljeldokaaGreatW.PrintMore
theorem bits_sel_all : ((List.range 512).all fun m => bitsOf (sel 9 m.testBit) == m) = true := by decide +kernel
theorem bits_sel {m : Nat} (h : m < 512) : bitsOf (sel 9 m.testBit) = m := by
  have q := bits_sel_all
  rw [List.all_eq_true] at q
  simpa using q m (List.mem_range.2 h)
theorem setsTo_bits (P : Nat → Bool) (i : Nat) (h : i ≤ 512) : (setsTo P i).map bitsOf = (List.range i).filter P := by
  unfold setsTo
  rw [List.map_map]
  have e : ∀ m ∈ (List.range i).filter P, (bitsOf ∘ fun m => sel 9 m.testBit) m = m := fun m hm => bits_sel (by have := List.mem_range.1 (List.mem_filter.1 hm).1; omega)
  rw [List.map_congr_left e, List.map_id']
end Go.Proofs.YtidkafljeldokaaGreat.P

/- The game of a table: it is a game, and it wins as the table does. -/
namespace Go.Proofs.YtidkafljeldokaaGreat.P
open Go.RowKit Go.Proofs.YtidkafljeldokaaGreatW.PrintWords Go.Proofs.YtidkafljeldokaaGreatW.PrintLast Go.Proofs.YtidkafljeldokaaGreatW.PrintMore
def monoT (n : Nat) (P : Nat → Bool) : Prop := ∀ b i, b < 2 ^ n → i < n → b.testBit i = false → P b = true → P (b + 2 ^ i) = true
def sub (a b : Nat) : Prop := ∀ j, a.testBit j = true → b.testBit j = true
theorem take_bit {b i : Nat} (h : b.testBit i = true) : ∃ c, c + 2 ^ i = b ∧ c.testBit i = false := by
  have e : (b ^^^ 2 ^ i).testBit i = false := by rw [Nat.testBit_xor, h, Nat.testBit_two_pow_self]; rfl
  refine ⟨b ^^^ 2 ^ i, ?_, e⟩
  rw [← or_pow e]
  apply Nat.eq_of_testBit_eq
  intro j
  rw [Nat.testBit_or, Nat.testBit_xor, Nat.testBit_two_pow]
  by_cases hj : i = j
  · subst hj; simp [h]
  · simp [hj]
theorem bit_in {b n i : Nat} (hb : b < 2 ^ n) (h : b.testBit i = true) : i < n := by
  rcases Nat.lt_or_ge i n with h1 | h1
  · exact h1
  · rw [Nat.testBit_lt_two_pow (Nat.lt_of_lt_of_le hb (pow_small h1))] at h
    cases h
theorem and_sub {a b : Nat} : (b &&& a = a) ↔ sub a b := by
  constructor
  · intro h j hj
    have := congrArg (fun x => Nat.testBit x j) h
    simp only [Nat.testBit_and, hj, Bool.and_true] at this
    exact this
  · intro h
    apply Nat.eq_of_testBit_eq
    intro j
    rw [Nat.testBit_and]
    cases hj : a.testBit j with
    | false => rw [Bool.and_false]
    | true => rw [h j hj]; rfl
theorem sub_ne {a b : Nat} (h : sub a b) (hne : a ≠ b) : ∃ i c, b.testBit i = true ∧ a.testBit i = false ∧ c + 2 ^ i = b ∧ c.testBit i = false ∧ sub a c := by
  obtain ⟨i, hi⟩ : ∃ i, ¬ a.testBit i = b.testBit i := by
    apply Classical.byContradiction
    intro hc
    exact hne (Nat.eq_of_testBit_eq fun i => Classical.byContradiction fun h1 => hc ⟨i, h1⟩)
  have hb : b.testBit i = true := by
    cases hbi : b.testBit i with
    | true => rfl
    | false =>
      cases hai : a.testBit i with
      | true => have := h i hai; rw [hbi] at this; cases this
      | false => exact absurd (hai.trans hbi.symm) hi
  have ha : a.testBit i = false := by
    cases hai : a.testBit i with
    | false => rfl
    | true => exact absurd (hai.trans hb.symm) hi
  obtain ⟨c, e, hc⟩ := take_bit hb
  refine ⟨i, c, hb, ha, e, hc, fun j hj => ?_⟩
  have h1 := h j hj
  rw [← e, bit_with c i j hc] at h1
  simp only [Bool.or_eq_true, decide_eq_true_eq] at h1
  rcases h1 with h1 | h1
  · exact h1
  · subst h1; rw [ha] at hj; cases hj
theorem pow_pos2 (i : Nat) : 0 < 2 ^ i := Nat.two_pow_pos i
theorem monoT.le {n : Nat} {P : Nat → Bool} (h : monoT n P) : ∀ b, b < 2 ^ n → ∀ a, sub a b → P a = true → P b = true := by
  intro b
  induction b using Nat.strongRecOn with
  | ind b ih =>
    intro hb a hs ha
    by_cases e : a = b
    · exact e ▸ ha
    · obtain ⟨i, c, h1, h2, h3, h4, h5⟩ := sub_ne hs e
      have hp := pow_pos2 i
      have := ih c (by omega) (by omega) a h5 ha
      rw [← h3]
      exact h c i (by omega) (bit_in hb h1) h4 this
theorem lstB_iff {n m : Nat} {P : Nat → Bool} (hm : m < 2 ^ n) : lstB (tab n P) n m = true ↔ (P m = true ∧ ∀ c i, c + 2 ^ i = m → c.testBit i = false → P c = false) := by
  unfold lstB
  rw [tab_get n P m hm, Bool.and_eq_true, List.all_eq_true]
  constructor
  · rintro ⟨h1, h2⟩
    refine ⟨h1, fun c i e hc => ?_⟩
    have hb : m.testBit i = true := by rw [← e, bit_with c i i hc]; simp
    have h3 := h2 i (List.mem_range.2 (bit_in hm hb))
    have hp := pow_pos2 i
    unfold lstP at h3
    rw [hb, Bool.true_and, show m - 2 ^ i = c by omega, tab_get n P c (by omega)] at h3
    simpa using h3
  · rintro ⟨h1, h2⟩
    refine ⟨h1, fun i hi => ?_⟩
    unfold lstP
    cases hb : m.testBit i with
    | false => rfl
    | true =>
      obtain ⟨c, e, hc⟩ := take_bit hb
      have hp := pow_pos2 i
      rw [Bool.true_and, show m - 2 ^ i = c by omega, tab_get n P c (by omega), h2 c i e hc]
      rfl
theorem least_in {n : Nat} {P : Nat → Bool} : ∀ b, b < 2 ^ n → P b = true → ∃ m, m < 2 ^ n ∧ sub m b ∧ lstB (tab n P) n m = true := by
  intro b
  induction b using Nat.strongRecOn with
  | ind b ih =>
    intro hb hP
    by_cases hl : lstB (tab n P) n b = true
    · exact ⟨b, hb, fun _ h => h, hl⟩
    · rw [lstB_iff hb] at hl
      obtain ⟨c, i, e, hc, hPc⟩ : ∃ c i, c + 2 ^ i = b ∧ c.testBit i = false ∧ P c = true := by
        apply Classical.byContradiction
        intro hn
        refine hl ⟨hP, fun c i e hc => ?_⟩
        cases hx : P c with
        | false => rfl
        | true => exact absurd ⟨c, i, e, hc, hx⟩ hn
      have hp := pow_pos2 i
      obtain ⟨m, h1, h2, h3⟩ := ih c (by omega) (by omega) hPc
      refine ⟨m, h1, fun j hj => ?_, h3⟩
      rw [← e, bit_with c i j hc, h2 j hj]
      rfl
theorem least_apart {n : Nat} {P : Nat → Bool} (hm : monoT n P) {a b : Nat} (ha : a < 2 ^ n) (hb : b < 2 ^ n) (h1 : lstB (tab n P) n a = true) (h2 : lstB (tab n P) n b = true) (hne : a ≠ b) : ¬ sub a b := by
  intro hs
  obtain ⟨i, c, h3, h4, h5, h6, h7⟩ := sub_ne hs hne
  have hp := pow_pos2 i
  have := hm.le c (by omega) a h7 ((lstB_iff ha).1 h1).1
  rw [((lstB_iff hb).1 h2).2 c i h5 h6] at this
  cases this
theorem gwin_any (w : List Bool) (n b : Nat) (hn : n ≤ 9) : gwin (gsets w n) b = ((List.range (2 ^ n)).filter (lstB w n)).any fun m => decide (b &&& m = m) := by
  unfold gwin gsets setsR
  rw [(sorted_perm _).any_eq, ← setsTo_bits (lstB w n) (2 ^ n) (pow_small (m := 9) hn), List.any_map]
  rfl
theorem gwin_made {n : Nat} {P : Nat → Bool} (hn : n ≤ 9) (hm : monoT n P) {b : Nat} (hb : b < 2 ^ n) : gwin (gsets (tab n P) n) b = P b := by
  rw [gwin_any _ _ _ hn, Bool.eq_iff_iff, List.any_eq_true]
  constructor
  · rintro ⟨m, h1, h2⟩
    rw [List.mem_filter, List.mem_range] at h1
    rw [decide_eq_true_eq, and_sub] at h2
    exact hm.le b hb m h2 ((lstB_iff h1.1).1 h1.2).1
  · intro h
    obtain ⟨m, h1, h2, h3⟩ := least_in b hb h
    exact ⟨m, List.mem_filter.2 ⟨List.mem_range.2 h1, h3⟩, decide_eq_true (and_sub.2 h2)⟩
theorem made_tab {n : Nat} {P : Nat → Bool} (hn : n ≤ 9) (hm : monoT n P) : tab n (gwin (gsets (tab n P) n)) = tab n P :=
  List.map_congr_left fun _ hb => gwin_made hn hm (List.mem_range.1 hb)
theorem gsets_mem {w : List Bool} {n : Nat} {s : List Int} : s ∈ gsets w n ↔ ∃ m, m < 2 ^ n ∧ lstB w n m = true ∧ s = sel 9 m.testBit := by
  unfold gsets setsR setsTo
  rw [(sorted_perm _).mem_iff, List.mem_map]
  constructor
  · rintro ⟨m, h1, rfl⟩
    rw [List.mem_filter, List.mem_range] at h1
    exact ⟨m, h1.1, h1.2, rfl⟩
  · rintro ⟨m, h1, h2, rfl⟩
    exact ⟨m, List.mem_filter.2 ⟨List.mem_range.2 h1, h2⟩, rfl⟩
theorem set_all : ((List.range 10).all fun n => (List.range (2 ^ n)).all fun m => isSetN (sel 9 m.testBit) (n : Int)) = true := by decide +kernel
theorem set_sel {n m : Nat} (hn : n ≤ 9) (hm : m < 2 ^ n) : isSetN (sel 9 m.testBit) (n : Int) = true := by
  have q := set_all
  rw [List.all_eq_true] at q
  have q := q n (List.mem_range.2 (by omega))
  rw [List.all_eq_true] at q
  exact q m (List.mem_range.2 hm)
theorem gsets_nodup {w : List Bool} {n : Nat} (hn : n ≤ 9) : (gsets w n).Nodup := by
  unfold gsets setsR
  rw [(sorted_perm _).nodup_iff]
  have h : ((setsTo (lstB w n) (2 ^ n)).map bitsOf).Nodup := by
    rw [setsTo_bits _ _ (pow_small (m := 9) hn)]
    exact List.nodup_range.filter _
  exact (List.pairwise_map.1 h).imp fun h e => h (congrArg bitsOf e)
theorem getD_at {α : Type} (l : List α) (d : α) (i : Nat) (h : i < l.length) : l.getD i d = l[i] := by rw [List.getD_eq_getElem?_getD, List.getElem?_eq_getElem h]; rfl
theorem made_game {n : Nat} {P : Nat → Bool} (h1 : 1 ≤ n) (hn : n ≤ 9) (hm : monoT n P) (hz : P 0 = false) (hf : P (2 ^ n - 1) = true) : isGame (n : Int) (gsets (tab n P) n) = true := by
  have hp := pow_pos2 n
  have h512 : 2 ^ n ≤ 512 := pow_small (m := 9) hn
  have nd := gsets_nodup (w := tab n P) hn
  have pr : (gsets (tab n P) n).Pairwise (fun a b => lexL a b = true) := sorted_pair _
  have hmem : ∀ s ∈ gsets (tab n P) n, ∃ m, m < 2 ^ n ∧ lstB (tab n P) n m = true ∧ s = sel 9 m.testBit := fun s hs => gsets_mem.1 hs
  have hne : gsets (tab n P) n ≠ [] := by
    obtain ⟨m, a1, a2, a3⟩ := least_in (n := n) (P := P) (2 ^ n - 1) (by omega) hf
    intro e
    have := gsets_mem.2 ⟨m, a1, a3, rfl⟩
    rw [e] at this
    cases this
  generalize gsets (tab n P) n = G at *
  rw [isGame, Bool.and_eq_true, Bool.and_eq_true, Bool.and_eq_true]
  refine ⟨⟨⟨?_, decide_eq_true hne⟩, ?_⟩, ?_⟩
  · simp only [inI, Bool.and_eq_true, decide_eq_true_eq]; omega
  · rw [List.all_eq_true]
    intro s hs
    obtain ⟨m, a1, a2, rfl⟩ := hmem s hs
    rw [setG, Bool.and_eq_true, decide_eq_true_eq]
    refine ⟨fun e => ?_, set_sel hn a1⟩
    have hb := bits_sel (m := m) (by omega)
    rw [e] at hb
    have : m = 0 := hb.symm
    rw [this, lstB_iff hp, hz] at a2
    exact absurd a2.1 (by decide)
  · rw [allF_iff]
    intro i hi
    have ei := getD_at G [] i hi
    obtain ⟨m, a1, a2, a3⟩ := hmem G[i] (List.getElem_mem hi)
    rw [Bool.and_eq_true]
    constructor
    · unfold risesAt
      by_cases h0 : i = 0
      · simp [h0]
      · rw [Bool.or_eq_true, decide_eq_true_eq]
        right
        have e1 := getD_at G [] (i - 1) (by omega)
        rw [ei, e1]
        have hle : lexc G[i - 1] G[i] ≤ 0 := of_decide_eq_true ((List.pairwise_iff_getElem.1 pr) (i - 1) i (by omega) hi (by omega))
        have hn0 : ¬ lexc G[i - 1] G[i] = 0 := fun e => (List.pairwise_iff_getElem.1 nd) (i - 1) i (by omega) hi (by omega) (lexc_zero e)
        omega
    · rw [freeAt, allF_iff]
      intro k hk
      have ek := getD_at G [] k (by omega)
      obtain ⟨m', b1, b2, b3⟩ := hmem G[k] (List.getElem_mem (by omega))
      have hd : m ≠ m' := by
        intro e
        exact (List.pairwise_iff_getElem.1 nd) k i (by omega) hi (by omega) (by rw [a3, b3, e])
      unfold mk
      rw [ei, ek, a3, b3, bits_sel (by omega), bits_sel (by omega), apartB, Bool.and_eq_true, Bool.not_eq_true', Bool.not_eq_true', decide_eq_false_iff_not, decide_eq_false_iff_not]
      refine ⟨fun e => least_apart hm a1 b1 a2 b2 hd (and_sub.1 (by rw [Nat.and_comm]; exact e)), fun e => least_apart hm b1 a1 b2 a2 (fun h => hd h.symm) (and_sub.1 e)⟩
end Go.Proofs.YtidkafljeldokaaGreat.P

/- The members that are in no least winning set. -/
namespace Go.Proofs.YtidkafljeldokaaGreat.P
open Go.RowKit Go.Proofs.YtidkafljeldokaaGreatW.PrintWords Go.Proofs.YtidkafljeldokaaGreatW.PrintLast Go.Proofs.YtidkafljeldokaaGreatW.PrintMore
def idleB (w : List Bool) (n k : Nat) : Bool := !(gsets w n).any fun s => hasN s (k : Int)
theorem impl_votes_least.ev (n : Nat) (w : List Bool) (hw : w.length = 2 ^ n) (hn : n ≤ 9) : Ev (fun k => impl_votes_least.f k (n : Int) w) (gsets w n) := by
  unfold impl_votes_least.f
  exact impl_votes_sets.ev n w hw hn (fun k y => impl_votes_isLeast.f k (n : Int) w y) (lstB w n) (fun b hb => impl_votes_isLeast.ev n w b hw hn hb)
theorem impl_votes_idle.ev (n : Nat) (w : List Bool) (hw : w.length = 2 ^ n) (hn : n ≤ 9) : Ev (fun k => impl_votes_idle.f k (n : Int) w) (sel n (idleB w n)) := by
  have h512 : 2 ^ n ≤ 512 := pow_small (m := 9) hn
  obtain ⟨g1, g2⟩ := setsR_len (lstB w n) n
  unfold impl_votes_idle.f
  refine Ev.bind (impl_votes_least.ev n w hw hn) (Ev.bind (impl_members.ev n (by omega) (fun k y => impl_votes_idle_1.f k y (gsets w n)) (idleB w n) (fun b hb => ?_)) Ev.some)
  unfold impl_votes_idle_1.f
  refine Ev.bind (slices_ContainsFunc_LLint_int.ev (gsets w n) (by unfold gsets; omega) (fun k y => impl_isIn_1.f k y (b : Int)) (fun s => hasN s (b : Int)) (fun s hs => ?_)) Ev.some
  unfold impl_isIn_1.f
  exact Ev.bind (slices_Contains_int_int.ev s _ (by have := g2 s hs; omega)) Ev.some
theorem impl_IdleMembers.ev (n : Nat) (ws : List (List Int)) (hl : ws.length ≤ 1048576) (hx : ∀ s ∈ ws, s.length ≤ 1048576) (hg : isGame (n : Int) ws = true) :
    Ev (fun k => impl_IdleMembers.f k (n : Int) ws) (sel n (idleB (tab n (gwin ws)) n), true) := by
  obtain ⟨m, e, h1, h9, _, hs, _⟩ := isGame_at hg
  obtain rfl : n = m := by omega
  unfold impl_IdleMembers.f
  refine Ev.bind (impl_IsGame.ev _ _ hl hx) ?_
  simp only [hg, ↓reduceIte]
  exact Ev.bind (impl_Game_votes.ev n ws h9 hl hx (fun s h => (hs s h).2)) (Ev.bind (impl_votes_idle.ev n _ (tab_len _ _) h9) Ev.some)
theorem impl_DummiesOf.ev (q : Int) (l : List Int) (h : isComm q l = true) : Ev (fun k => impl_DummiesOf.f k q l) (sel l.length (idleB (tab l.length (cwin q l)) l.length), true) := by
  have hl := isComm_len h
  unfold impl_DummiesOf.f
  refine Ev.bind (impl_IsCommittee.ev q l (by omega)) ?_
  simp only [h, ↓reduceIte]
  exact Ev.bind (impl_Committee_votes.ev q l (isComm_mem h) (by omega)) (Ev.bind (impl_votes_idle.ev l.length _ (tab_len _ _) hl.2) Ev.some)
def noSw (n : Nat) (P : Nat → Bool) (k : Nat) : Prop := ∀ b, b < 2 ^ n → b.testBit k = false → P (b + 2 ^ k) = true → P b = true
theorem hasN_sel (n : Nat) (Q : Nat → Bool) (k : Nat) : hasN (sel n Q) (k : Int) = (decide (k < n) && Q k) := by
  unfold hasN sel
  rw [Bool.eq_iff_iff, List.any_map, List.any_eq_true, Bool.and_eq_true, decide_eq_true_eq]
  constructor
  · rintro ⟨i, hi, h⟩
    rw [List.mem_filter, List.mem_range] at hi
    simp only [Function.comp, decide_eq_true_eq] at h
    obtain rfl : k = i := by omega
    exact hi
  · rintro ⟨h1, h2⟩
    exact ⟨k, List.mem_filter.2 ⟨List.mem_range.2 h1, h2⟩, by simp⟩
theorem idle_iff {n : Nat} {P : Nat → Bool} (hn : n ≤ 9) (hm : monoT n P) {k : Nat} (hk : k < n) : idleB (tab n P) n k = true ↔ noSw n P k := by
  unfold idleB
  rw [Bool.not_eq_true', ← Bool.not_eq_true, List.any_eq_true]
  constructor
  · intro h b hb hbk hw
    cases hP : P b with
    | true => rfl
    | false =>
      exfalso
      obtain ⟨m, h1, h2, h3⟩ := least_in (b + 2 ^ k) (with_lt hb hk hbk) hw
      refine h ⟨sel 9 m.testBit, gsets_mem.2 ⟨m, h1, h3, rfl⟩, ?_⟩
      rw [hasN_sel, Bool.and_eq_true, decide_eq_true_eq]
      refine ⟨by omega, ?_⟩
      cases hmk : m.testBit k with
      | true => rfl
      | false =>
        exfalso
        have hs : sub m b := fun j hj => by
          have h4 := h2 j hj
          rw [bit_with b k j hbk, Bool.or_eq_true, decide_eq_true_eq] at h4
          rcases h4 with h4 | h4
          · exact h4
          · subst h4; rw [hmk] at hj; cases hj
        have := hm.le b hb m hs ((lstB_iff h1).1 h3).1
        rw [hP] at this
        cases this
  · rintro h ⟨s, hs, hc⟩
    obtain ⟨m, h1, h2, rfl⟩ := gsets_mem.1 hs
    rw [hasN_sel, Bool.and_eq_true] at hc
    obtain ⟨c, e, hck⟩ := take_bit hc.2
    have hp := pow_pos2 k
    have h3 := (lstB_iff h1).1 h2
    have := h c (by omega) hck (by rw [e]; exact h3.1)
    rw [h3.2 c k e hck] at this
    cases this
theorem swing_zero (n : Nat) (P : Nat → Bool) (k : Nat) (hk : k < n) : (List.range (2 ^ n)).countP (swing (tab n P) k) = 0 ↔ noSw n P k := by
  rw [List.countP_eq_zero]
  constructor
  · intro h b hb hbk hw
    have h1 := h b (List.mem_range.2 hb)
    unfold swing at h1
    rw [hbk, tab_get n P b hb, tab_get n P _ (with_lt hb hk hbk), hw] at h1
    simpa using h1
  · intro h b hb hs
    rw [List.mem_range] at hb
    unfold swing at hs
    rw [Bool.and_eq_true, Bool.and_eq_true, Bool.not_eq_true', Bool.not_eq_true', tab_get n P b hb] at hs
    rw [tab_get n P _ (with_lt hb hk hs.1.1)] at hs
    have := h b hb hs.1.1 hs.2
    rw [hs.1.2] at this
    cases this
end Go.Proofs.YtidkafljeldokaaGreat.P

/- Councils: what a set wins, part by part; which members never swing. -/
namespace Go.Proofs.YtidkafljeldokaaGreat.P
open Go.RowKit Go.Proofs.YtidkafljeldokaaGreatW.PrintWords Go.Proofs.YtidkafljeldokaaGreatW.PrintLast Go.Proofs.YtidkafljeldokaaGreatW.PrintMore
def hds : List S_impl_Committee → Nat
  | [] => 0
  | c :: xs => c.f1.length + hds xs
theorem hds_eq (xs : List S_impl_Committee) : heads xs = (hds xs : Int) := by
  induction xs with
  | nil => rfl
  | cons c xs ih => rw [heads_cons, hds, ih]; omega
theorem hds_nat (xs : List S_impl_Committee) : (heads xs).toNat = hds xs := by rw [hds_eq]; rfl
def nB : List S_impl_Committee → Nat → Nat
  | [], _ => 0
  | c :: xs, b => (if cwin c.f0 c.f1 b = true then 1 else 0) + 2 * nB xs (b / 2 ^ c.f1.length)
theorem nB_eq (xs : List S_impl_Committee) (b : Nat) : bmask (wonB xs b) = nB xs b := by
  induction xs generalizing b with
  | nil => rfl
  | cons c xs ih => rw [wonB, bmask, nB, ih]; rfl
theorem nB_lt (xs : List S_impl_Committee) (b : Nat) : nB xs b < 2 ^ xs.length := by rw [← nB_eq]; exact wonB_lt xs b
theorem cow_eq (q : Int) (l : List Int) (xs : List S_impl_Committee) (h : xs.length = l.length) (b : Nat) : cow q l xs b = cwin q l (nB xs b) := by
  unfold cow cwin
  rw [← nB_eq, wt_won l xs b h]
theorem low_mod {a t b : Nat} (h : t < 2 ^ a) : (t + 2 ^ a * b) % 2 ^ a = t := by rw [Nat.add_mul_mod_self_left, Nat.mod_eq_of_lt h]
theorem low_div {a t b : Nat} (h : t < 2 ^ a) : (t + 2 ^ a * b) / 2 ^ a = b := by rw [Nat.add_mul_div_left _ _ (Nat.two_pow_pos a), Nat.div_eq_of_lt h, Nat.zero_add]
theorem low_bitT {a t b k : Nat} (h : t < 2 ^ a) (hk : k < a) : (t + 2 ^ a * b).testBit k = t.testBit k := by
  rw [Nat.add_comm, Nat.testBit_two_pow_mul_add b h, if_pos hk]
theorem high_bitT {a t b k : Nat} (h : t < 2 ^ a) : (t + 2 ^ a * b).testBit (a + k) = b.testBit k := by
  rw [Nat.add_comm, Nat.testBit_two_pow_mul_add b h, if_neg (by omega)]
  congr 1; omega
theorem low_lt {a t b n : Nat} (h : t < 2 ^ a) (hb : b < 2 ^ n) : t + 2 ^ a * b < 2 ^ (a + n) := by
  rw [Nat.pow_add]
  calc t + 2 ^ a * b < 2 ^ a + 2 ^ a * b := by omega
    _ = 2 ^ a * (b + 1) := by rw [Nat.mul_add, Nat.mul_one, Nat.add_comm]
    _ ≤ 2 ^ a * 2 ^ n := Nat.mul_le_mul_left _ hb
theorem split_at (a b : Nat) : b = b % 2 ^ a + 2 ^ a * (b / 2 ^ a) := (Nat.mod_add_div b (2 ^ a)).symm
theorem mod_ltp (a b : Nat) : b % 2 ^ a < 2 ^ a := Nat.mod_lt _ (Nat.two_pow_pos a)
theorem put_low {a b k : Nat} (hk : k < a) (hb : b.testBit k = false) : b + 2 ^ k = (b % 2 ^ a + 2 ^ k) + 2 ^ a * (b / 2 ^ a) ∧ b % 2 ^ a + 2 ^ k < 2 ^ a ∧ (b % 2 ^ a).testBit k = false := by
  have h1 : (b % 2 ^ a).testBit k = false := by rw [Nat.testBit_mod_two_pow, hb, Bool.and_false]
  have h2 := with_lt (mod_ltp a b) hk h1
  have h3 := split_at a b
  refine ⟨by omega, h2, h1⟩
theorem put_high (a b k : Nat) : b + 2 ^ (a + k) = b % 2 ^ a + 2 ^ a * (b / 2 ^ a + 2 ^ k) := by
  have h3 := split_at a b
  rw [Nat.mul_add, ← Nat.pow_add]
  omega
theorem cwin_mod (q : Int) (l : List Int) (b : Nat) : cwin q l (b % 2 ^ l.length) = cwin q l b := by
  unfold cwin
  rw [wt_mod l b l.length (Nat.le_refl _)]
theorem cwin_low (q : Int) (l : List Int) {t b : Nat} (h : t < 2 ^ l.length) : cwin q l (t + 2 ^ l.length * b) = cwin q l t := by
  rw [← cwin_mod, low_mod h]
theorem cwin_mono {q : Int} {l : List Int} (h : ∀ x ∈ l, 0 ≤ x ∧ x ≤ 1000) : monoT l.length (cwin q l) := by
  intro b i hb hi hbi hw
  simp only [cwin, decide_eq_true_eq] at hw ⊢
  rw [wt_with l b i hi hbi]
  have := h _ (getD_mem l 0 i hi)
  omega
theorem cwin_none {q : Int} {l : List Int} (h : isComm q l = true) : cwin q l 0 = false := by
  have := isComm_q h
  simp only [cwin, decide_eq_false_iff_not]
  rw [wt_nil0]; omega
theorem cwin_full {q : Int} {l : List Int} (h : isComm q l = true) : cwin q l (2 ^ l.length - 1) = true := by
  have := isComm_q h
  simp only [cwin, decide_eq_true_eq]
  rw [wt_full]; omega
def pos : List S_impl_Committee → Nat → Nat → Nat
  | [], _, m => m
  | _ :: _, 0, m => m
  | c :: xs, i + 1, m => c.f1.length + pos xs i m
theorem nB_with (xs : List S_impl_Committee) (hg : ∀ x ∈ xs, good x = true) (i m : Nat) (hi : i < xs.length) (hm : m < (xs.getD i z_impl_Committee).f1.length) (b : Nat) (hb : b.testBit (pos xs i m) = false) :
    nB xs (b + 2 ^ pos xs i m) = nB xs b ∨ ((nB xs b).testBit i = false ∧ nB xs (b + 2 ^ pos xs i m) = nB xs b + 2 ^ i ∧ ¬ noSw (xs.getD i z_impl_Committee).f1.length (cwin (xs.getD i z_impl_Committee).f0 (xs.getD i z_impl_Committee).f1) m) := by
  induction xs generalizing i b with
  | nil => simp at hi
  | cons c xs ih =>
    cases i with
    | zero =>
      simp only [List.getD_cons_zero, pos] at hm hb ⊢
      obtain ⟨e1, e2, e3⟩ := put_low hm hb
      have hmono := cwin_mono (q := c.f0) (isComm_mem (hg c (by simp)))
      rw [nB, nB, e1, low_div e2, cwin_low _ _ e2, ← cwin_mod c.f0 c.f1 b]
      cases h1 : cwin c.f0 c.f1 (b % 2 ^ c.f1.length) with
      | true =>
        rw [hmono _ _ (mod_ltp _ _) hm e3 h1]
        exact .inl rfl
      | false =>
        cases h2 : cwin c.f0 c.f1 (b % 2 ^ c.f1.length + 2 ^ m) with
        | false => exact .inl rfl
        | true =>
          refine .inr ⟨?_, by simp only [Bool.false_eq_true, ↓reduceIte, Nat.pow_zero]; omega, fun hn => ?_⟩
          · simp only [Bool.false_eq_true, ↓reduceIte, Nat.zero_add, Nat.testBit_zero]
            rw [Nat.mul_mod_right]; rfl
          · have := hn _ (mod_ltp _ _) e3 h2
            rw [h1] at this
            cases this
    | succ i =>
      simp only [List.getD_cons_succ, pos, List.length_cons] at hi hm hb ⊢
      have hb2 : (b / 2 ^ c.f1.length).testBit (pos xs i m) = false := by rw [Nat.testBit_div_two_pow, Nat.add_comm]; exact hb
      have h := ih (fun x hx => hg x (by simp [hx])) i (by omega) hm (b / 2 ^ c.f1.length) hb2
      rw [nB, nB, put_high, low_div (mod_ltp _ _), cwin_low _ _ (mod_ltp _ _), cwin_mod]
      generalize nB xs (b / 2 ^ c.f1.length + 2 ^ pos xs i m) = z at h
      rcases h with h | ⟨h1, h2, h3⟩
      · exact .inl (by rw [h])
      · refine .inr ⟨?_, by rw [h2, Nat.pow_succ]; omega, h3⟩
        rw [Nat.testBit_succ]
        have : ((if cwin c.f0 c.f1 b = true then 1 else 0) + 2 * nB xs (b / 2 ^ c.f1.length)) / 2 = nB xs (b / 2 ^ c.f1.length) := by split <;> omega
        rw [this]; exact h1
theorem nB_any (xs : List S_impl_Committee) (hg : ∀ x ∈ xs, good x = true) (y : Nat) (hy : y < 2 ^ xs.length) : ∃ b, b < 2 ^ hds xs ∧ nB xs b = y := by
  induction xs generalizing y with
  | nil =>
    rw [List.length_nil, Nat.pow_zero] at hy
    exact ⟨0, by simp [hds], by rw [nB]; omega⟩
  | cons c xs ih =>
    obtain ⟨b, h1, h2⟩ := ih (fun x hx => hg x (by simp [hx])) (y / 2) (by rw [List.length_cons, Nat.pow_succ] at hy; omega)
    have hc := hg c (by simp)
    have hp := pow_pos2 c.f1.length
    obtain ⟨t, ht, hw⟩ : ∃ t, t < 2 ^ c.f1.length ∧ cwin c.f0 c.f1 t = decide (y % 2 = 1) := by
      by_cases hy2 : y % 2 = 1
      · exact ⟨2 ^ c.f1.length - 1, by omega, by rw [cwin_full hc, hy2]; rfl⟩
      · exact ⟨0, hp, by rw [cwin_none hc]; simp [hy2]⟩
    refine ⟨t + 2 ^ c.f1.length * b, low_lt ht h1, ?_⟩
    rw [nB, low_div ht, cwin_low _ _ ht, hw, h2]
    by_cases hy2 : y % 2 = 1 <;> simp [hy2] <;> omega
theorem nB_make (xs : List S_impl_Committee) (hg : ∀ x ∈ xs, good x = true) (i m : Nat) (hi : i < xs.length) (hm : m < (xs.getD i z_impl_Committee).f1.length) (x : Nat) (hx : x < 2 ^ (xs.getD i z_impl_Committee).f1.length) (hxm : x.testBit m = false)
    (h0 : cwin (xs.getD i z_impl_Committee).f0 (xs.getD i z_impl_Committee).f1 x = false) (h1 : cwin (xs.getD i z_impl_Committee).f0 (xs.getD i z_impl_Committee).f1 (x + 2 ^ m) = true) (y : Nat) (hy : y < 2 ^ xs.length) (hyi : y.testBit i = false) :
    ∃ b, b < 2 ^ hds xs ∧ b.testBit (pos xs i m) = false ∧ nB xs b = y ∧ nB xs (b + 2 ^ pos xs i m) = y + 2 ^ i := by
  induction xs generalizing i y with
  | nil => simp at hi
  | cons c xs ih =>
    have hy2 : y / 2 < 2 ^ xs.length := by rw [List.length_cons, Nat.pow_succ] at hy; omega
    have hg2 : ∀ x ∈ xs, good x = true := fun x hx => hg x (by simp [hx])
    cases i with
    | zero =>
      simp only [List.getD_cons_zero] at hm hx h0 h1
      simp only [pos]
      obtain ⟨b, b1, b2⟩ := nB_any xs hg2 (y / 2) hy2
      have hy0 : y % 2 = 0 := by rw [Nat.testBit_zero, decide_eq_false_iff_not] at hyi; omega
      have hlt := with_lt hx hm hxm
      refine ⟨x + 2 ^ c.f1.length * b, low_lt hx b1, by rw [low_bitT hx hm]; exact hxm, ?_, ?_⟩
      · rw [nB, low_div hx, cwin_low _ _ hx, h0, b2]
        simp only [Bool.false_eq_true, ↓reduceIte]; omega
      · rw [show x + 2 ^ c.f1.length * b + 2 ^ m = (x + 2 ^ m) + 2 ^ c.f1.length * b by omega, nB, low_div hlt, cwin_low _ _ hlt, h1, b2]
        simp only [↓reduceIte, Nat.pow_zero]; omega
    | succ i =>
      simp only [List.getD_cons_succ, List.length_cons] at hi hm hx h0 h1
      simp only [pos]
      have hyi2 : (y / 2).testBit i = false := by rw [Nat.testBit_succ] at hyi; exact hyi
      obtain ⟨b, b1, b2, b3, b4⟩ := ih hg2 i (by omega) hm hx h0 h1 (y / 2) hy2 hyi2
      have hc := hg c (by simp)
      have hp := pow_pos2 c.f1.length
      obtain ⟨t, ht, hw⟩ : ∃ t, t < 2 ^ c.f1.length ∧ cwin c.f0 c.f1 t = decide (y % 2 = 1) := by
        by_cases hy2 : y % 2 = 1
        · exact ⟨2 ^ c.f1.length - 1, by omega, by rw [cwin_full hc, hy2]; rfl⟩
        · exact ⟨0, hp, by rw [cwin_none hc]; simp [hy2]⟩
      refine ⟨t + 2 ^ c.f1.length * b, low_lt ht b1, by rw [high_bitT ht]; exact b2, ?_, ?_⟩
      · rw [nB, low_div ht, cwin_low _ _ ht, hw, b3]
        by_cases hy2 : y % 2 = 1 <;> simp [hy2] <;> omega
      · rw [put_high, low_mod ht, low_div ht, nB, low_div ht, cwin_low _ _ ht, hw, b4, Nat.pow_succ]
        by_cases hy2 : y % 2 = 1 <;> simp [hy2] <;> omega
theorem areCouncil_good {q : Int} {l : List Int} {xs : List S_impl_Committee} (h : areCouncil q l xs = true) : ∀ x ∈ xs, good x = true := by
  have := (areCouncil_at h).2.2.1
  rwa [List.all_eq_true] at this
theorem cow_noSw {q : Int} {l : List Int} {xs : List S_impl_Committee} (h : areCouncil q l xs = true) {i m : Nat} (hi : i < xs.length) (hm : m < (xs.getD i z_impl_Committee).f1.length) :
    noSw (hds xs) (cow q l xs) (pos xs i m) ↔ (noSw (xs.getD i z_impl_Committee).f1.length (cwin (xs.getD i z_impl_Committee).f0 (xs.getD i z_impl_Committee).f1) m ∨ noSw l.length (cwin q l) i) := by
  obtain ⟨h1, h2, _, _⟩ := areCouncil_at h
  have hg := areCouncil_good h
  constructor
  · intro hn
    apply Classical.byContradiction
    intro hc
    obtain ⟨x, hx, hxm, hx1, hx0⟩ : ∃ x, x < 2 ^ (xs.getD i z_impl_Committee).f1.length ∧ x.testBit m = false ∧ cwin (xs.getD i z_impl_Committee).f0 (xs.getD i z_impl_Committee).f1 (x + 2 ^ m) = true ∧ cwin (xs.getD i z_impl_Committee).f0 (xs.getD i z_impl_Committee).f1 x = false := by
      apply Classical.byContradiction
      intro hx
      refine hc (.inl fun b hb hbm hw => ?_)
      cases hP : cwin (xs.getD i z_impl_Committee).f0 (xs.getD i z_impl_Committee).f1 b with
      | true => rfl
      | false => exact absurd ⟨b, hb, hbm, hw, hP⟩ hx
    obtain ⟨y, hy, hyi, hy1, hy0⟩ : ∃ y, y < 2 ^ l.length ∧ y.testBit i = false ∧ cwin q l (y + 2 ^ i) = true ∧ cwin q l y = false := by
      apply Classical.byContradiction
      intro hx
      refine hc (.inr fun b hb hbm hw => ?_)
      cases hP : cwin q l b with
      | true => rfl
      | false => exact absurd ⟨b, hb, hbm, hw, hP⟩ hx
    obtain ⟨b, b1, b2, b3, b4⟩ := nB_make xs hg i m hi hm x hx hxm hx0 hx1 y (by rw [h2]; exact hy) hyi
    have := hn b b1 b2 (by rw [cow_eq _ _ _ h2, b4]; exact hy1)
    rw [cow_eq _ _ _ h2, b3, hy0] at this
    cases this
  · intro hd b hb hbk hw
    rw [cow_eq _ _ _ h2] at hw ⊢
    rcases nB_with xs hg i m hi hm b hbk with e | ⟨e1, e2, e3⟩
    · rw [← e]; exact hw
    · rcases hd with hd | hd
      · exact absurd hd e3
      · rw [e2] at hw
        exact hd _ (by rw [← h2]; exact nB_lt xs b) e1 hw
theorem pos_at (xs : List S_impl_Committee) (k : Nat) (hk : k < hds xs) : ∃ i m, i < xs.length ∧ m < (xs.getD i z_impl_Committee).f1.length ∧ k = pos xs i m ∧ ∀ j, place xs j (k : Int) = (((j + i : Nat) : Int), (m : Int), true) := by
  induction xs generalizing k with
  | nil => simp [hds] at hk
  | cons c xs ih =>
    by_cases h : k < c.f1.length
    · refine ⟨0, k, by simp, by simpa using h, rfl, fun j => ?_⟩
      rw [place, if_pos (by omega)]; rfl
    · simp only [hds] at hk
      obtain ⟨i, m, h1, h2, h3, h4⟩ := ih (k - c.f1.length) (by omega)
      refine ⟨i + 1, m, by simpa using h1, by simpa using h2, by simp only [pos]; omega, fun j => ?_⟩
      have := h4 (j + 1)
      rw [place, if_neg (by omega), show (k : Int) - c.f1.length = ((k - c.f1.length : Nat) : Int) by omega, this]
      congr 2; omega
theorem nB_mono (xs : List S_impl_Committee) (hg : ∀ x ∈ xs, good x = true) {q : Int} {l : List Int} (hl : ∀ x ∈ l, 0 ≤ x ∧ x ≤ 1000) (h : xs.length = l.length) : monoT (hds xs) (cow q l xs) := by
  intro b k hb hk hbk hw
  obtain ⟨i, m, h1, h2, rfl, _⟩ := pos_at xs k hk
  rw [cow_eq _ _ _ h] at hw ⊢
  rcases nB_with xs hg i m h1 h2 b hbk with e | ⟨e1, e2, e3⟩
  · rw [e]; exact hw
  · rw [e2]
    exact cwin_mono hl _ i (by rw [← h]; exact nB_lt xs b) (by omega) e1 hw
theorem nB_zero (xs : List S_impl_Committee) (hg : ∀ x ∈ xs, good x = true) : nB xs 0 = 0 := by
  induction xs with
  | nil => rfl
  | cons c xs ih => rw [nB, cwin_none (hg c (by simp)), Nat.zero_div, ih (fun x hx => hg x (by simp [hx]))]; rfl
theorem nB_full (xs : List S_impl_Committee) (hg : ∀ x ∈ xs, good x = true) : nB xs (2 ^ hds xs - 1) = 2 ^ xs.length - 1 := by
  induction xs with
  | nil => rfl
  | cons c xs ih =>
    have p1 := pow_pos2 c.f1.length
    have p2 := pow_pos2 (hds xs)
    have e : 2 ^ hds (c :: xs) - 1 = (2 ^ c.f1.length - 1) + 2 ^ c.f1.length * (2 ^ hds xs - 1) := by
      rw [hds, Nat.pow_add, Nat.mul_sub, Nat.mul_one]
      have : 2 ^ c.f1.length ≤ 2 ^ c.f1.length * 2 ^ hds xs := Nat.le_mul_of_pos_right _ p2
      omega
    have p3 := pow_pos2 xs.length
    rw [nB, e, low_div (by omega), cwin_low _ _ (by omega), cwin_full (hg c (by simp)), ih (fun x hx => hg x (by simp [hx])), List.length_cons, Nat.pow_succ]
    simp only [↓reduceIte]; omega
theorem cow_facts {q : Int} {l : List Int} {xs : List S_impl_Committee} (h : areCouncil q l xs = true) : 1 ≤ hds xs ∧ hds xs ≤ 9 ∧ monoT (hds xs) (cow q l xs) ∧ cow q l xs 0 = false ∧ cow q l xs (2 ^ hds xs - 1) = true := by
  obtain ⟨h1, h2, h3, h4⟩ := areCouncil_at h
  have hg := areCouncil_good h
  have hb := heads_bounds xs h3
  have hl := isComm_len h1
  rw [hds_eq] at hb h4
  refine ⟨by omega, by omega, nB_mono xs hg (isComm_mem h1) h2, ?_, ?_⟩
  · rw [cow_eq _ _ _ h2, nB_zero xs hg]; exact cwin_none h1
  · rw [cow_eq _ _ _ h2, nB_full xs hg, h2]; exact cwin_full h1
end Go.Proofs.YtidkafljeldokaaGreat.P

/- Sets of the parts of a council as one set of all. -/
namespace Go.Proofs.YtidkafljeldokaaGreat.P
open Go.RowKit Go.Proofs.YtidkafljeldokaaGreatW.PrintWords Go.Proofs.YtidkafljeldokaaGreatW.PrintLast Go.Proofs.YtidkafljeldokaaGreatW.PrintMore
def cat : List S_impl_Committee → List (List Int) → Int → List Int
  | c :: xs, s :: ss, f => s.map (fun x => f + x) ++ cat xs ss (f + c.f1.length)
  | _, _, _ => []
def cB : List S_impl_Committee → List (List Int) → Nat
  | c :: xs, s :: ss => bitsOf s + 2 ^ c.f1.length * cB xs ss
  | _, _ => 0
def okS : List S_impl_Committee → List (List Int) → Prop
  | c :: xs, s :: ss => isSetN s c.f1.length = true ∧ okS xs ss
  | [], [] => True
  | _, _ => False
theorem okS_of {xs : List S_impl_Committee} {ss : List (List Int)} (h : ss.length = xs.length) (ho : allF (okSet xs ss) xs.length 0 = true) : okS xs ss := by
  rw [allF_iff] at ho
  induction xs generalizing ss with
  | nil => cases ss with
    | nil => trivial
    | cons s ss => simp at h
  | cons c xs ih =>
    cases ss with
    | nil => simp at h
    | cons s ss =>
      exact ⟨by simpa [okSet] using ho 0 (by simp), ih (by simpa using h) (fun j hj => by simpa [okSet] using ho (j + 1) (by simpa using hj))⟩
theorem incr_iff (l : List Int) : allF (incr l) l.length 0 = true ↔ l.Pairwise (fun a b => a < b) := by
  rw [allF_iff, List.pairwise_iff_getElem]
  have ga : ∀ i (h : i < l.length), l.getD i 0 = l[i] := fun i h => getD_at l 0 i h
  constructor
  · intro h i j hi hj hij
    induction j with
    | zero => omega
    | succ j ih =>
      have h1 := h (j + 1) hj
      simp only [incr, Bool.or_eq_true, beq_iff_eq, decide_eq_true_eq, Nat.add_sub_cancel] at h1
      rw [ga j (by omega), ga (j + 1) hj] at h1
      rcases Nat.lt_or_ge i j with h2 | h2
      · have := ih (by omega) h2; omega
      · obtain rfl : i = j := by omega
        omega
  · intro h j hj
    unfold incr
    by_cases h0 : j = 0
    · simp [h0]
    · rw [Bool.or_eq_true, decide_eq_true_eq]
      right
      rw [ga (j - 1) (by omega), ga j hj]
      exact h (j - 1) j (by omega) hj (by omega)
theorem isSetN_iff (l : List Int) (n : Int) : isSetN l n = true ↔ ((∀ x ∈ l, 0 ≤ x ∧ x < n) ∧ l.Pairwise (fun a b => a < b)) := by
  unfold isSetN
  rw [Bool.and_eq_true, incr_iff, List.all_eq_true]
  simp only [inI, Bool.and_eq_true, decide_eq_true_eq]
  constructor
  · rintro ⟨h1, h2⟩; exact ⟨fun x hx => by have := h1 x hx; omega, h2⟩
  · rintro ⟨h1, h2⟩; exact ⟨fun x hx => by have := h1 x hx; omega, h2⟩
theorem cat_set (xs : List S_impl_Committee) (ss : List (List Int)) (h : okS xs ss) (f : Int) (hf : 0 ≤ f) : (∀ x ∈ cat xs ss f, f ≤ x ∧ x < f + hds xs) ∧ (cat xs ss f).Pairwise (fun a b => a < b) := by
  induction xs generalizing ss f with
  | nil => cases ss <;> simp [cat]
  | cons c xs ih =>
    cases ss with
    | nil => simp [cat]
    | cons s ss =>
      obtain ⟨h1, h2⟩ := (isSetN_iff _ _).1 h.1
      obtain ⟨h3, h4⟩ := ih ss h.2 (f + c.f1.length) (by omega)
      rw [cat, hds]
      constructor
      · intro x hx
        rcases List.mem_append.1 hx with hx | hx
        · obtain ⟨y, hy, rfl⟩ := List.mem_map.1 hx
          have := h1 y hy
          omega
        · have := h3 x hx
          omega
      · rw [List.pairwise_append, List.pairwise_map]
        refine ⟨h2.imp (fun h => by omega), h4, fun x hx y hy => ?_⟩
        obtain ⟨z, hz, rfl⟩ := List.mem_map.1 hx
        have := h1 z hz
        have := h3 y hy
        omega
theorem bits_from (l : List Int) (hl : ∀ x ∈ l, 0 ≤ x) (m j : Nat) : (l.foldl (fun m x => m ||| 2 ^ x.toNat) m).testBit j = (m.testBit j || l.any fun x => decide (x = (j : Int))) := by
  induction l generalizing m with
  | nil => simp
  | cons x l ih =>
    have h := hl x (by simp)
    rw [List.foldl_cons, ih (fun y hy => hl y (by simp [hy])), Nat.testBit_or, Nat.testBit_two_pow, List.any_cons, Bool.or_assoc]
    congr 2
    rw [decide_eq_decide]; omega
theorem bitsOf_bit {l : List Int} (hl : ∀ x ∈ l, 0 ≤ x) (j : Nat) : (bitsOf l).testBit j = l.any fun x => decide (x = (j : Int)) := by
  unfold bitsOf
  rw [bits_from l hl 0 j, Nat.zero_testBit, Bool.false_or]
theorem cat_bits (xs : List S_impl_Committee) (ss : List (List Int)) (h : okS xs ss) (f : Int) (hf : 0 ≤ f) (j : Nat) : ((cat xs ss f).any fun x => decide (x = f + (j : Int))) = (cB xs ss).testBit j := by
  induction xs generalizing ss f j with
  | nil => cases ss <;> simp [cat, cB]
  | cons c xs ih =>
    cases ss with
    | nil => simp [cat, cB]
    | cons s ss =>
      obtain ⟨h1, _⟩ := (isSetN_iff _ _).1 h.1
      have hb : bitsOf s < 2 ^ c.f1.length := setG_mask h.1
      have hn : ∀ x ∈ s, 0 ≤ x := fun x hx => (h1 x hx).1
      rw [cat, cB, List.any_append, List.any_map]
      have e1 : (s.any ((fun x => decide (x = f + (j : Int))) ∘ fun x => f + x)) = s.any fun x => decide (x = (j : Int)) := by
        congr 1; funext x; simp only [Function.comp]; rw [decide_eq_decide]; omega
      rw [e1]
      by_cases hj : j < c.f1.length
      · rw [low_bitT hb hj, bitsOf_bit hn j]
        have e2 : ((cat xs ss (f + c.f1.length)).any fun x => decide (x = f + (j : Int))) = false := by
          rw [List.any_eq_false]
          intro x hx
          have := (cat_set xs ss h.2 (f + c.f1.length) (by omega)).1 x hx
          simp only [decide_eq_true_eq]; omega
        rw [e2, Bool.or_false]
      · obtain ⟨k, rfl⟩ : ∃ k, j = c.f1.length + k := ⟨j - c.f1.length, by omega⟩
        have e2 : (s.any fun x => decide (x = ((c.f1.length + k : Nat) : Int))) = false := by
          rw [List.any_eq_false]
          intro x hx
          have := h1 x hx
          simp only [decide_eq_true_eq]; omega
        rw [e2, Bool.false_or, high_bitT hb, ← ih ss h.2 (f + c.f1.length) (by omega) k]
        congr 1; funext x; rw [decide_eq_decide]; omega
theorem cat_mask (xs : List S_impl_Committee) (ss : List (List Int)) (h : okS xs ss) : bitsOf (cat xs ss 0) = cB xs ss := by
  have hs := cat_set xs ss h 0 (by omega)
  apply Nat.eq_of_testBit_eq
  intro j
  rw [bitsOf_bit (fun x hx => (hs.1 x hx).1), ← cat_bits xs ss h 0 (by omega) j]
  congr 1; funext x; rw [Int.zero_add]
theorem cat_isSet (xs : List S_impl_Committee) (ss : List (List Int)) (h : okS xs ss) : isSetN (cat xs ss 0) (hds xs) = true := by
  have hs := cat_set xs ss h 0 (by omega)
  exact (isSetN_iff _ _).2 ⟨fun x hx => by have := hs.1 x hx; omega, hs.2⟩
theorem cB_lt (xs : List S_impl_Committee) (ss : List (List Int)) (h : okS xs ss) : cB xs ss < 2 ^ hds xs := by
  rw [← cat_mask xs ss h]
  exact setG_mask (cat_isSet xs ss h)
theorem sumP_cons (w : Int) (l : List Int) (P : Nat → Bool) (n : Nat) : sumP (w :: l) P (n + 1) = (if P 0 = true then w else 0) + sumP l (fun i => P (i + 1)) n := by
  induction n with
  | zero => simp [sumP]
  | succ n ih =>
    rw [sumP, ih, sumP, List.getD_cons_succ]
    omega
theorem csum_won (l : List Int) (xs : List S_impl_Committee) (ss : List (List Int)) (hl : xs.length = l.length) (h : okS xs ss) : csum l xs (cB xs ss) = sumP l (wonAt xs ss) xs.length := by
  induction xs generalizing l ss with
  | nil => cases l <;> rfl
  | cons c xs ih =>
    cases l with
    | nil => simp at hl
    | cons w l =>
      cases ss with
      | nil => cases h
      | cons s ss =>
        have hb : bitsOf s < 2 ^ c.f1.length := setG_mask h.1
        have h1 := ih l ss (by simpa using hl) h.2
        have e : wt c.f1 (bitsOf s + 2 ^ c.f1.length * cB xs ss) = wt c.f1 (bitsOf s) := by rw [← wt_mod c.f1 _ c.f1.length (Nat.le_refl _), low_mod hb]
        rw [csum, cB, low_div hb, h1, List.length_cons, sumP_cons, e]
        congr 1
        simp only [wonAt, List.getD_cons_zero, decide_eq_true_eq]
end Go.Proofs.YtidkafljeldokaaGreat.P

/- Councils that all parts with a weight have to win: of how many sets that is true. -/
namespace Go.Proofs.YtidkafljeldokaaGreat.P
open Go.RowKit Go.Proofs.YtidkafljeldokaaGreatW.PrintWords Go.Proofs.YtidkafljeldokaaGreatW.PrintLast Go.Proofs.YtidkafljeldokaaGreatW.PrintMore
def allW : List Int → List S_impl_Committee → Nat → Bool
  | w :: l, c :: xs, b => (decide (w ≤ 0) || cwin c.f0 c.f1 b) && allW l xs (b / 2 ^ c.f1.length)
  | _, _, _ => true
theorem csum_all (l : List Int) (xs : List S_impl_Committee) (hl : ∀ x ∈ l, 0 ≤ x ∧ x ≤ 1000) (h : xs.length = l.length) (b : Nat) : csum l xs b ≤ l.sum ∧ (l.sum ≤ csum l xs b ↔ allW l xs b = true) := by
  induction l generalizing xs b with
  | nil => cases xs <;> simp [csum, allW]
  | cons w l ih =>
    cases xs with
    | nil => simp at h
    | cons c xs =>
      have h1 := ih xs (fun x hx => hl x (by simp [hx])) (by simpa using h) (b / 2 ^ c.f1.length)
      have h2 := hl w (by simp)
      rw [csum, allW, List.sum_cons, Bool.and_eq_true, Bool.or_eq_true, decide_eq_true_eq, ← h1.2]
      simp only [cwin, decide_eq_true_eq]
      generalize csum l xs (b / 2 ^ c.f1.length) = z at h1 ⊢
      by_cases hw : wt c.f1 b ≥ c.f0 <;> simp only [hw, ↓reduceIte, or_true, true_and, or_false] <;> constructor <;> omega
theorem cow_all {l : List Int} {xs : List S_impl_Committee} (hl : ∀ x ∈ l, 0 ≤ x ∧ x ≤ 1000) (h : xs.length = l.length) (b : Nat) : cow l.sum l xs b = allW l xs b := by
  rw [Bool.eq_iff_iff, ← (csum_all l xs hl h b).2, cow, decide_eq_true_eq]
theorem count_tab (n : Nat) (P : Nat → Bool) : (tab n P).count true = (List.range (2 ^ n)).countP P := by
  unfold tab
  rw [List.count, List.countP_map]
  apply List.countP_congr
  intro x _
  simp
theorem countP_split (A B : Nat → Bool) (a : Nat) (hA : ∀ t b, t < 2 ^ a → A (t + 2 ^ a * b) = A t) (m : Nat) : (List.range (2 ^ a * m)).countP (fun b => A b && B (b / 2 ^ a)) = (List.range (2 ^ a)).countP A * (List.range m).countP B := by
  induction m with
  | zero => simp
  | succ m ih =>
    rw [Nat.mul_succ, List.range_add, List.countP_append, ih, List.countP_map, List.range_succ, List.countP_append, Nat.mul_add]
    congr 1
    cases hB : B m with
    | true =>
      have e : List.countP B [m] = 1 := by simp [hB]
      rw [e, Nat.mul_one]
      apply List.countP_congr
      intro t ht
      rw [List.mem_range] at ht
      simp only [Function.comp]
      rw [show 2 ^ a * m + t = t + 2 ^ a * m by omega, low_div ht, hB, Bool.and_true, hA t m ht]
    | false =>
      have e : List.countP B [m] = 0 := by simp [hB]
      rw [e, Nat.mul_zero, List.countP_eq_zero]
      intro t ht
      rw [List.mem_range] at ht
      simp only [Function.comp]
      rw [show 2 ^ a * m + t = t + 2 ^ a * m by omega, low_div ht, hB, Bool.and_false]
      decide
def wn (c : S_impl_Committee) : Nat := (tab c.f1.length (cwin c.f0 c.f1)).count true
theorem wn_le (c : S_impl_Committee) : wn c ≤ 2 ^ c.f1.length := chance_n c
theorem wn_pos {c : S_impl_Committee} (h : good c = true) : 1 ≤ wn c := by
  unfold wn
  rw [count_tab]
  apply List.countP_pos_iff.2
  have hp := pow_pos2 c.f1.length
  exact ⟨2 ^ c.f1.length - 1, List.mem_range.2 (by omega), cwin_full h⟩
def cgcd (c : S_impl_Committee) : Nat := Nat.gcd (wn c) (2 ^ c.f1.length)
def prN : List Int → List S_impl_Committee → Nat
  | w :: l, c :: xs => (if w ≤ 0 then 1 else wn c / cgcd c) * prN l xs
  | _, _ => 1
def prD : List Int → List S_impl_Committee → Nat
  | w :: l, c :: xs => (if w ≤ 0 then 1 else 2 ^ c.f1.length / cgcd c) * prD l xs
  | _, _ => 1
theorem cgcd_facts {c : S_impl_Committee} : cgcd c * (wn c / cgcd c) = wn c ∧ cgcd c * (2 ^ c.f1.length / cgcd c) = 2 ^ c.f1.length :=
  ⟨Nat.mul_div_cancel' (Nat.gcd_dvd_left _ _), Nat.mul_div_cancel' (Nat.gcd_dvd_right _ _)⟩
theorem fac_pos' {g a n : Nat} (h : g * a = n) (hn : 1 ≤ n) : 1 ≤ a := by
  rcases Nat.eq_zero_or_pos a with h0 | h0
  · rw [h0, Nat.mul_zero] at h; omega
  · exact h0
theorem prod_bounds (l : List Int) (xs : List S_impl_Committee) (hg : ∀ x ∈ xs, good x = true) : 1 ≤ prN l xs ∧ prN l xs ≤ 2 ^ hds xs ∧ 1 ≤ prD l xs ∧ prD l xs ≤ 2 ^ hds xs := by
  induction l generalizing xs with
  | nil =>
    have := pow_pos2 (hds xs)
    cases xs <;> simp only [prN, prD] <;> omega
  | cons w l ih =>
    cases xs with
    | nil => simp [prN, prD, hds]
    | cons c xs =>
      obtain ⟨a1, a2, a3, a4⟩ := ih xs (fun x hx => hg x (by simp [hx]))
      have h1 := wn_pos (hg c (by simp))
      have h2 := wn_le c
      have hp := pow_pos2 c.f1.length
      obtain ⟨e1, e2⟩ := cgcd_facts (c := c)
      have n1 := fac_pos' e1 h1
      have n2 := fac_pos' e2 hp
      have n3 : wn c / cgcd c ≤ 2 ^ c.f1.length := Nat.le_trans (Nat.div_le_self _ _) h2
      have n4 : 2 ^ c.f1.length / cgcd c ≤ 2 ^ c.f1.length := Nat.div_le_self _ _
      rw [prN, prD, hds, Nat.pow_add]
      split
      · exact ⟨by omega, Nat.mul_le_mul hp a2, by omega, Nat.mul_le_mul hp a4⟩
      · exact ⟨Nat.mul_pos n1 a1, Nat.mul_le_mul n3 a2, Nat.mul_pos n2 a3, Nat.mul_le_mul n4 a4⟩
theorem prod_count (l : List Int) (xs : List S_impl_Committee) (h : xs.length = l.length) : (List.range (2 ^ hds xs)).countP (allW l xs) * prD l xs = prN l xs * 2 ^ hds xs := by
  induction l generalizing xs with
  | nil =>
    cases xs with
    | nil => simp [hds, allW, prN, prD, List.range_succ]
    | cons c xs => simp at h
  | cons w l ih =>
    cases xs with
    | nil => simp at h
    | cons c xs =>
      have h1 := ih xs (by simpa using h)
      obtain ⟨e1, e2⟩ := cgcd_facts (c := c)
      have hs := countP_split (fun b => decide (w ≤ 0) || cwin c.f0 c.f1 b) (allW l xs) c.f1.length (fun t b ht => by show (_ || cwin c.f0 c.f1 (t + 2 ^ c.f1.length * b)) = _; rw [cwin_low _ _ ht]) (2 ^ hds xs)
      have e0 : (List.range (2 ^ hds (c :: xs))).countP (allW (w :: l) (c :: xs)) = (List.range (2 ^ c.f1.length)).countP (fun b => decide (w ≤ 0) || cwin c.f0 c.f1 b) * (List.range (2 ^ hds xs)).countP (allW l xs) := by
        rw [hds, Nat.pow_add, ← hs]
        rfl
      rw [e0, prN, prD, hds, Nat.pow_add]
      generalize (List.range (2 ^ hds xs)).countP (allW l xs) = z at h1 ⊢
      by_cases hw : w ≤ 0
      · have e3 : (List.range (2 ^ c.f1.length)).countP (fun b => decide (w ≤ 0) || cwin c.f0 c.f1 b) = 2 ^ c.f1.length := by
          rw [List.countP_eq_length.2 (fun b _ => by simp [hw]), List.length_range]
        rw [e3, if_pos hw, if_pos hw, Nat.one_mul, Nat.one_mul, Nat.mul_assoc, h1, Nat.mul_left_comm]
      · have e3 : (List.range (2 ^ c.f1.length)).countP (fun b => decide (w ≤ 0) || cwin c.f0 c.f1 b) = wn c := by
          unfold wn
          rw [count_tab]
          apply List.countP_congr
          intro b _
          simp [hw]
        rw [e3, if_neg hw, if_neg hw]
        generalize wn c / cgcd c = u at e1 ⊢
        generalize 2 ^ c.f1.length / cgcd c = v at e2 ⊢
        rw [← e1, ← e2]
        generalize 2 ^ hds xs = H at h1 ⊢
        generalize prD l xs = D at h1 ⊢
        generalize prN l xs = M at h1 ⊢
        calc cgcd c * u * z * (v * D) = cgcd c * u * v * (z * D) := by ac_rfl
          _ = cgcd c * u * v * (M * H) := by rw [h1]
          _ = u * M * (cgcd c * v * H) := by ac_rfl
end Go.Proofs.YtidkafljeldokaaGreat.P

/- A game that is answered. -/
namespace Go.Proofs.YtidkafljeldokaaGreat.P
open Go.RowKit Go.Proofs.YtidkafljeldokaaGreatW.PrintWords Go.Proofs.YtidkafljeldokaaGreatW.PrintLast Go.Proofs.YtidkafljeldokaaGreatW.PrintMore
def gres (c : Bool) (n : Nat) (w : List Bool) : Int × List (List Int) × Bool := if c = true then ((n : Int), gsets w n, true) else (0, [], false)
theorem gres_len (c : Bool) (n : Nat) (w : List Bool) (hn : c = true → n ≤ 9) : (gres c n w).2.1.length ≤ 512 ∧ ∀ x ∈ (gres c n w).2.1, x.length ≤ 9 := by
  unfold gres
  cases c with
  | false => simp
  | true =>
    have h9 : 2 ^ n ≤ 512 := pow_small (m := 9) (hn rfl)
    obtain ⟨h1, h2⟩ := setsR_len (lstB w n) n
    exact ⟨by simp only [↓reduceIte]; unfold gsets; omega, fun x hx => h2 x hx⟩
end Go.Proofs.YtidkafljeldokaaGreat.P

/- The pure statement of FnExactCouncilGame. -/
namespace Go.Proofs.YtidkafljeldokaaGreat.P
open Go.RowKit Go.Proofs.YtidkafljeldokaaGreatW.PrintWords Go.Proofs.YtidkafljeldokaaGreatW.PrintLast Go.Proofs.YtidkafljeldokaaGreatW.PrintMore
def coG (q : Int) (l : List Int) (xs : List S_impl_Committee) : Int × List (List Int) × Bool := gres (areCouncil q l xs) (heads xs).toNat (tab (heads xs).toNat (cow q l xs))
theorem impl_CouncilGame.ev (q : Int) (l : List Int) (xs : List S_impl_Committee) (hl : l.length ≤ 9223372036854775807) (hl' : xs.length ≤ 1048576) (hx : ∀ x ∈ xs, x.f1.length ≤ 9223372036854775807) :
    Ev (fun k => impl_CouncilGame.f k q l xs) (coG q l xs) := by
  unfold impl_CouncilGame.f coG gres
  refine Ev.bind (impl_AreCouncil.ev q l xs hl hl' hx) ?_
  cases h : areCouncil q l xs with
  | false => exact Ev.some
  | true =>
    obtain ⟨h1, h2, h3, h4⟩ := areCouncil_at h
    have hlen := isComm_len h1
    have hnn := heads_nn xs
    have hc : ((heads xs).toNat : Int) = heads xs := Int.toNat_of_nonneg hnn
    have iv := impl_councilVotes.ev q l xs h2 (isComm_mem h1) h3 h4 hlen.2
    have ig := impl_votes_game.ev (heads xs).toNat (tab (heads xs).toNat (cow q l xs)) (tab_len _ _) (by omega)
    rw [hc] at ig
    simp only [↓reduceIte]
    refine Ev.bind iv (Ev.bind ig ?_)
    rw [hc]
    exact Ev.some
theorem spec_CouncilGame.ev (q : Int) (l : List Int) (xs : List S_impl_Committee) (hl : l.length ≤ 9223372036854775807) (hl' : xs.length ≤ 1048576) (hx : ∀ x ∈ xs, x.f1.length ≤ 9223372036854775807) :
    Ev (fun k => spec_CouncilGame.f k q l xs) (coG q l xs) := by
  unfold spec_CouncilGame.f coG gres
  refine Ev.bind (spec_AreCouncil.ev q l xs hl hl' hx) ?_
  cases h : areCouncil q l xs with
  | false => exact Ev.some
  | true =>
    obtain ⟨h1, h2, h3, h4⟩ := areCouncil_at h
    have hlen := isComm_len h1
    have hnn := heads_nn xs
    have hc : ((heads xs).toNat : Int) = heads xs := Int.toNat_of_nonneg hnn
    have sm := spec_chMembers.ev xs hl' hx
    rw [if_pos h3] at sm
    have sg := spec_gmOf.ev (heads xs).toNat (tab (heads xs).toNat (cow q l xs)) (tab_len _ _) (by omega)
    rw [hc] at sg
    simp only [↓reduceIte]
    refine Ev.bind sm (Ev.bind (spec_chCouncil.ev q l xs h2 (isComm_mem h1) h3 h4 hlen.2) (Ev.bind sg ?_))
    rw [hc]
    exact Ev.some
end Go.Proofs.YtidkafljeldokaaGreat.P

/- A council's game: what is told of it. -/
namespace Go.Proofs.YtidkafljeldokaaGreat.P
open Go.RowKit Go.Proofs.YtidkafljeldokaaGreatW.PrintWords Go.Proofs.YtidkafljeldokaaGreatW.PrintLast Go.Proofs.YtidkafljeldokaaGreatW.PrintMore
theorem coG_at {q : Int} {l : List Int} {xs : List S_impl_Committee} (h : areCouncil q l xs = true) : coG q l xs = ((hds xs : Int), gsets (tab (hds xs) (cow q l xs)) (hds xs), true) := by
  unfold coG gres
  rw [h, if_pos rfl, hds_nat]
theorem coG_off {q : Int} {l : List Int} {xs : List S_impl_Committee} (h : areCouncil q l xs = false) : coG q l xs = (0, [], false) := by
  unfold coG gres
  rw [h, if_neg (by decide)]
theorem gsets_len {w : List Bool} {n : Nat} (hn : n ≤ 9) : (gsets w n).length ≤ 512 ∧ ∀ x ∈ gsets w n, x.length ≤ 9 := by
  have h9 : 2 ^ n ≤ 512 := pow_small (m := 9) hn
  obtain ⟨h1, h2⟩ := setsR_len (lstB w n) n
  exact ⟨by unfold gsets; omega, fun x hx => h2 x hx⟩
theorem impl_CountWins.ev (n : Nat) (ws : List (List Int)) (hl : ws.length ≤ 1048576) (hx : ∀ s ∈ ws, s.length ≤ 1048576) (hg : isGame (n : Int) ws = true) :
    Ev (fun k => impl_CountWins.f k (n : Int) ws) (((tab n (gwin ws)).count true : Int), true) := by
  obtain ⟨m, e, h1, h9, _, hs, _⟩ := isGame_at hg
  obtain rfl : n = m := by omega
  have h512 : 2 ^ n ≤ 512 := pow_small (m := 9) h9
  unfold impl_CountWins.f
  refine Ev.bind (impl_IsGame.ev _ _ hl hx) ?_
  simp only [hg, ↓reduceIte]
  exact Ev.bind (impl_Game_votes.ev n ws h9 hl hx (fun s h => (hs s h).2)) (Ev.bind (impl_votes_countWins.ev _ _ (by rw [tab_len]; omega)) Ev.some)
theorem impl_WinsGame.ev (n : Nat) (ws : List (List Int)) (s : List Int) (hl : ws.length ≤ 1048576) (hx : ∀ s ∈ ws, s.length ≤ 1048576) (hg : isGame (n : Int) ws = true) (hs : isSetN s n = true) :
    Ev (fun k => impl_WinsGame.f k (n : Int) ws s) (gwin ws (bitsOf s), true) := by
  obtain ⟨m, e, h1, h9, _, hw, _⟩ := isGame_at hg
  obtain rfl : n = m := by omega
  have hlen := set_len9 h9 hs
  have hb := setG_mask hs
  unfold impl_WinsGame.f
  refine Ev.bind (impl_IsGame.ev _ _ hl hx) ?_
  simp only [hg, ↓reduceIte]
  refine Ev.bind (impl_isSet.ev s n (by omega) (by omega) (by omega)) ?_
  rw [hs]
  refine Ev.shift ?_
  simp only [impl_WinsGame.j0, Bool.not_true, Bool.false_eq_true, ↓reduceIte]
  refine Ev.bind (impl_Game_votes.ev n ws h9 hl hx (fun s h => (hw s h).2)) ?_
  refine Ev.bind (impl_maskOf.ev s hlen (set62' (by omega) hs)) ?_
  refine Ev.ite_pos (by omega) (Ev.ite_pos (by rw [tab_len]; omega) ?_)
  rw [rdB_nat, tab_get n _ _ hb]
  exact Ev.some
theorem impl_GameOf.ev (q : Int) (l : List Int) (h : isComm q l = true) : Ev (fun k => impl_GameOf.f k q l) ((l.length : Int), gsets (tab l.length (cwin q l)) l.length, true) := by
  have hl := isComm_len h
  unfold impl_GameOf.f
  refine Ev.bind (impl_IsCommittee.ev q l (by omega)) ?_
  simp only [h, ↓reduceIte]
  exact Ev.bind (impl_Committee_votes.ev q l (isComm_mem h) (by omega)) (Ev.bind (impl_votes_game.ev l.length _ (tab_len _ _) hl.2) Ev.some)
def ones (n : Nat) : List S_impl_Committee := List.replicate n ⟨1, [1]⟩
theorem ones_good (n : Nat) : ∀ x ∈ ones n, good x = true := by
  intro x hx
  obtain rfl := List.eq_of_mem_replicate hx
  decide
theorem ones_hds (n : Nat) : hds (ones n) = n := by
  induction n with
  | zero => rfl
  | succ n ih => rw [show ones (n + 1) = ⟨1, [1]⟩ :: ones n from rfl, hds, ih]; simp only [List.length_cons, List.length_nil]; omega
theorem ones_nB (n b : Nat) (h : b < 2 ^ n) : nB (ones n) b = b := by
  induction n generalizing b with
  | zero => rw [Nat.pow_zero] at h; show 0 = b; omega
  | succ n ih =>
    rw [Nat.pow_succ] at h
    rw [show ones (n + 1) = ⟨1, [1]⟩ :: ones n from rfl, nB, show ((⟨1, [1]⟩ : S_impl_Committee).f1.length) = 1 from rfl, Nat.pow_one, ih (b / 2) (by omega)]
    simp only [cwin, wt, decide_eq_true_eq]
    by_cases hb : b % 2 = 1 <;> simp [hb] <;> omega
theorem ones_council {q : Int} {l : List Int} (h : isComm q l = true) : areCouncil q l (ones l.length) = true := by
  have hl := isComm_len h
  unfold areCouncil
  rw [h, hds_eq, ones_hds]
  simp only [Bool.true_and, Bool.and_eq_true, decide_eq_true_eq, List.all_eq_true]
  exact ⟨⟨by simp [ones], ones_good _⟩, by omega⟩
theorem ones_game {q : Int} {l : List Int} (h : isComm q l = true) : coG q l (ones l.length) = ((l.length : Int), gsets (tab l.length (cwin q l)) l.length, true) := by
  rw [coG_at (ones_council h), ones_hds]
  have e : tab l.length (cow q l (ones l.length)) = tab l.length (cwin q l) := by
    apply List.map_congr_left
    intro b hb
    rw [List.mem_range] at hb
    rw [cow_eq q l _ (by simp [ones]), ones_nB _ _ hb]
  rw [e]
theorem pos_take (xs : List S_impl_Committee) (i m : Nat) (hi : i < xs.length) : pos xs i m = hds (xs.take i) + m := by
  induction xs generalizing i with
  | nil => simp at hi
  | cons c xs ih =>
    cases i with
    | zero => simp [pos, hds]
    | succ i => simp only [List.length_cons] at hi; rw [pos, List.take_succ_cons, hds, ih i (by omega)]; omega
theorem hds_append (xs ys : List S_impl_Committee) : hds (xs ++ ys) = hds xs + hds ys := by
  induction xs with
  | nil => simp [hds]
  | cons c xs ih => rw [List.cons_append, hds, ih, hds]; omega
theorem hds_take (xs : List S_impl_Committee) (i : Nat) (hi : i < xs.length) : hds (xs.take (i + 1)) = hds (xs.take i) + (xs.getD i z_impl_Committee).f1.length := by
  rw [take_getD xs z_impl_Committee i hi, hds_append]; simp [hds]
theorem hds_take_le (xs : List S_impl_Committee) (i : Nat) : hds (xs.take i) ≤ hds xs := by
  have := hds_append (xs.take i) (xs.drop i)
  rw [List.take_append_drop] at this
  omega
theorem placeIn_at {xs : List S_impl_Committee} {a : Int} (h : (placeIn xs a).2.2 = true) : ∃ i m : Nat, (∀ x ∈ xs, good x = true) ∧ xs.length ≤ 9 ∧ i < xs.length ∧ m < (xs.getD i z_impl_Committee).f1.length ∧ a = (pos xs i m : Int) ∧ placeIn xs a = ((i : Int), (m : Int), true) := by
  unfold placeIn at h ⊢
  split at h
  · rename_i hc
    rw [Bool.and_eq_true, decide_eq_true_eq] at hc
    rw [if_pos (by simp [hc.1, hc.2])]
    obtain ⟨k, rfl⟩ : ∃ k : Nat, a = (k : Int) := ⟨a.toNat, by omega⟩
    by_cases hk : k < hds xs
    · obtain ⟨i, m, h1, h2, h3, h4⟩ := pos_at xs k hk
      have := h4 0
      rw [Nat.zero_add] at this
      have hg := areC_at hc.1
      exact ⟨i, m, hg.2, hg.1, h1, h2, by rw [h3], this⟩
    · rw [place_out xs 0 k (by rw [hds_eq]; omega) (by omega)] at h
      cases h
  · cases h
theorem areC_of {q : Int} {l : List Int} {xs : List S_impl_Committee} (h : areCouncil q l xs = true) : areC xs = true := by
  obtain ⟨h1, h2, h3, _⟩ := areCouncil_at h
  have := isComm_len h1
  simp only [areC, inI, Bool.and_eq_true, decide_eq_true_eq]
  exact ⟨by omega, h3⟩
theorem place_of {q : Int} {l : List Int} {xs : List S_impl_Committee} (h : areCouncil q l xs = true) (k : Nat) (hk : k < hds xs) : ∃ i m : Nat, i < xs.length ∧ m < (xs.getD i z_impl_Committee).f1.length ∧ k = pos xs i m ∧ placeIn xs (k : Int) = ((i : Int), (m : Int), true) := by
  obtain ⟨i, m, h1, h2, h3, h4⟩ := pos_at xs k hk
  refine ⟨i, m, h1, h2, h3, ?_⟩
  unfold placeIn
  rw [areC_of h, if_pos (by simp), h4 0, Nat.zero_add]
theorem power_zero {q : Int} {l : List Int} {xs : List S_impl_Committee} (h : areCouncil q l xs = true) (k : Nat) (hk : k < hds xs) : (((councilP q l xs).1.getD k z_impl_Share).f0 == 0) = idleB (tab (hds xs) (cow q l xs)) (hds xs) k := by
  obtain ⟨h1, h9, hm, _, _⟩ := cow_facts h
  unfold councilP
  rw [h, if_pos rfl, hds_nat]
  have hl : k < (swl (hds xs) (tab (hds xs) (cow q l xs))).length := by rw [swl_len]; exact hk
  have e : (sharesL (swl (hds xs) (tab (hds xs) (cow q l xs))) (2 ^ (hds xs - 1))).getD k z_impl_Share = asShare (shareN ((List.range (2 ^ hds xs)).countP (swing (tab (hds xs) (cow q l xs)) k)) (2 ^ (hds xs - 1))) := by
    unfold sharesL
    rw [getD_at _ _ _ (by rw [List.length_map]; exact hl), List.getElem_map, ← getD_at _ 0 k hl, swl_get _ _ _ hk]
    rfl
  simp only [e]
  rw [Bool.eq_iff_iff, idle_iff h9 hm hk, ← swing_zero _ _ _ hk, beq_iff_eq]
  generalize (List.range (2 ^ hds xs)).countP (swing (tab (hds xs) (cow q l xs)) k) = z
  have hp := pow_pos2 (hds xs - 1)
  generalize 2 ^ (hds xs - 1) = d at hp
  unfold asShare shareN
  simp only
  have hd : Nat.gcd z d * (z / Nat.gcd z d) = z := Nat.mul_div_cancel' (Nat.gcd_dvd_left _ _)
  constructor
  · intro h0
    have : z / Nat.gcd z d = 0 := by omega
    rw [this, Nat.mul_zero] at hd
    exact hd.symm
  · intro h0
    subst h0
    simp
end Go.Proofs.YtidkafljeldokaaGreat.P

/- The pure statement of FnCouncilsWinOfAll. -/
namespace Go.Proofs.YtidkafljeldokaaGreat.P
open Go.RowKit Go.Proofs.YtidkafljeldokaaGreatW.PrintWords Go.Proofs.YtidkafljeldokaaGreatW.PrintLast Go.Proofs.YtidkafljeldokaaGreatW.PrintMore
theorem FnCouncilsWinOfAll_j7 (c : Int) (d : List Int) (hd : d.length ≤ 9223372036854775807) : Ev (fun k => laws_FnCouncilsWinOfAll.j7 k c d) true := by
  refine Ev.shift ?_
  simp only [laws_FnCouncilsWinOfAll.j7]
  refine Ev.bind (impl_IsCommittee.ev c d hd) ?_
  cases h : isComm c d with
  | false => simp only [Bool.false_eq_true, ↓reduceIte]; exact Ev.some
  | true =>
    simp only [↓reduceIte]
    have hl := isComm_len h
    have key := Ev.down (G := fun i k => laws_FnCouncilsWinOfAll.l5 k (ones i) (d.length : Int) (i : Int) c d) (R := fun _ => true) d.length
      (by refine Ev.shift ?_
          obtain ⟨g1, g2⟩ := gsets_len (w := tab d.length (cwin c d)) hl.2
          have ho : (ones d.length).length = d.length := by simp [ones]
          simp only [laws_FnCouncilsWinOfAll.l5, Int.lt_irrefl, ↓reduceIte]
          refine Ev.bind (impl_CouncilGame.ev c d (ones d.length) (by omega) (by omega) (fun x hx => by have := (good_len (ones_good _ x hx)).2; omega)) ?_
          rw [ones_game h]
          refine Ev.bind (impl_GameOf.ev c d h) ?_
          simp only [↓reduceIte]
          exact Ev.bind (laws_mGame.ev _ _ (by omega) (fun x hx => by have := g2 x hx; omega)) Ev.some)
      (fun i hi ih => by
        refine Ev.shift ?_
        have c1 : (i : Int) < (d.length : Int) := by omega
        have c2 : (ones i).length < 4398046511104 := by simp [ones]; omega
        have e : ones i ++ [(⟨1, (([1] : List Int))⟩ : S_impl_Committee)] = ones (i + 1) := by unfold ones; rw [List.replicate_succ']
        simp only [laws_FnCouncilsWinOfAll.l5, c1, c2, ↓reduceIte, w1 hi (show d.length ≤ 9223372036854775807 by omega), e]
        exact ih)
    exact key 0 (Nat.zero_le _)
theorem FnCouncilsWinOfAll_j5 (zs : List S_impl_Committee) (a c : Int) (d : List Int) (hd : d.length ≤ 9223372036854775807) : Ev (fun k => laws_FnCouncilsWinOfAll.j5 k zs a (placeIn zs a).1 (placeIn zs a).2.1 (placeIn zs a).2.2 c d) true := by
  have j7 := FnCouncilsWinOfAll_j7 c d hd
  refine Ev.shift ?_
  cases hp : (placeIn zs a).2.2 with
  | false =>
    simp only [laws_FnCouncilsWinOfAll.j5, Bool.false_eq_true, ↓reduceIte]
    exact j7
  | true =>
    obtain ⟨i, m, hg, h9, hi, hm, ha, e⟩ := placeIn_at hp
    have hli := (good_len (hg _ (getD_mem zs z_impl_Committee i hi))).2
    have hall : ∀ x ∈ zs, x.f1.length ≤ 9 := fun x hx => (good_len (hg x hx)).2
    have hds9 : ∀ j, j ≤ zs.length → hds (zs.take j) ≤ 9 * j := by
      intro j
      induction j with
      | zero => intro _; simp [hds]
      | succ j ih =>
        intro hj
        have := hall _ (getD_mem zs z_impl_Committee j (by omega))
        rw [hds_take zs j (by omega)]
        have := ih (by omega)
        omega
    have hi9 := hds9 i (by omega)
    rw [e]
    have c0 : (0 : Int) ≤ (i : Int) := by omega
    have c1 : (i : Int) ≤ (zs.length : Int) := by omega
    simp only [laws_FnCouncilsWinOfAll.j5, c0, c1, ↓reduceIte, Int.toNat_natCast]
    refine Ev.bind (Ev.one rfl) ?_
    have hlen : (zs.take i).length = i := by rw [List.length_take]; omega
    have key := Ev.down (G := fun j k => laws_FnCouncilsWinOfAll.l4 k zs a (i : Int) (m : Int) (hds (zs.take j) : Int) (zs.take i) (i : Int) (j : Int) c d) (R := fun _ => true) i
      (by refine Ev.shift ?_
          have c2 : (i : Int) < (zs.length : Int) := by omega
          have c3 : ¬ (m : Int) ≥ ((zs.getD i z_impl_Committee).f1.length : Int) := by omega
          have c4 : wrap64 ((hds (zs.take i) : Int) + (m : Int)) = a := by rw [w64 (by omega) (by omega), ha, pos_take zs i m hi]; omega
          simp only [laws_FnCouncilsWinOfAll.l4, Int.lt_irrefl, ↓reduceIte, c0, c2, c3, c4, rd_impl_nat]
          exact j7)
      (fun j hj ih => by
        refine Ev.shift ?_
        have d1 : (j : Int) < (i : Int) := by omega
        have d0 : (0 : Int) ≤ (j : Int) := by omega
        have d2 : (j : Int) < ((zs.take i).length : Int) := by omega
        have d3 := hall _ (getD_mem zs z_impl_Committee j (by omega))
        have d4 := hds9 j (by omega)
        have d5 := hds_take zs j (by omega)
        have e1 : wrap64 ((hds (zs.take j) : Int) + ((zs.getD j z_impl_Committee).f1.length : Int)) = (hds (zs.take (j + 1)) : Int) := by rw [w64 (by omega) (by omega), d5]; omega
        simp only [laws_FnCouncilsWinOfAll.l4, d1, d0, d2, ↓reduceIte, rd_impl_nat, take_getD_lt zs z_impl_Committee i j hj, e1, w1 hj (show i ≤ 9223372036854775807 by omega)]
        exact ih)
    have := key 0 (Nat.zero_le _)
    rw [List.take_zero] at this
    rw [hlen]
    exact this
theorem cat_nil (ss : List (List Int)) (f : Int) : cat [] ss f = [] := by cases ss <;> rfl
theorem FnCouncilsWinOfAll_l2 (ys zs : List S_impl_Committee) (ss : List (List Int)) (a c : Int) (d : List Int) (q : Int) (l : List Int) (hd : d.length ≤ 9223372036854775807) (hw : (winsCo q l ys ss).2 = true) :
    Ev (fun k => laws_FnCouncilsWinOfAll.l2 k ys zs a (winsCo q l ys ss).1 (placeIn zs a).1 (placeIn zs a).2.1 (placeIn zs a).2.2 (coG q l ys).2.2 ([] : List Int) 0 ss (ss.length : Int) 0 c d (coG q l ys).1 (coG q l ys).2.1) true := by
  have j5 := FnCouncilsWinOfAll_j5 zs a c d hd
  generalize placeIn zs a = pl at j5 ⊢
  unfold winsCo at hw ⊢
  split at hw
  · rename_i hc
    rw [Bool.and_eq_true, decide_eq_true_eq] at hc
    obtain ⟨hc, hsl⟩ := hc
    split at hw
    · rename_i hok
      rw [if_pos (by simp [hc, hsl]), if_pos hok]
      have hS := okS_of hsl hok
      obtain ⟨f1, f9, hm, hz, hf⟩ := cow_facts hc
      have hgood := areCouncil_good hc
      obtain ⟨hcm, hxl, _, _⟩ := areCouncil_at hc
      have hy9 := (isComm_len hcm).2
      have hcs := cat_isSet ys ss hS
      have hct := set_len9 f9 hcs
      obtain ⟨g1, g2⟩ := gsets_len (w := tab (hds ys) (cow q l ys)) f9
      rw [coG_at hc]
      simp only
      have hset : ∀ i, i < ss.length → isSetN (ss.getD i []) (ys.getD i z_impl_Committee).f1.length = true := by
        intro i hi
        rw [allF_iff] at hok
        exact hok i (by omega)
      have hend : Ev (fun k => laws_FnCouncilsWinOfAll.l2 k ys zs a (decide (sumP l (wonAt ys ss) ys.length ≥ q)) pl.1 pl.2.1 pl.2.2 true (cat ys ss 0) (hds (ys.take ss.length) : Int) ss (ss.length : Int) (ss.length : Int) c d (hds ys : Int) (gsets (tab (hds ys) (cow q l ys)) (hds ys))) true := by
        refine Ev.shift ?_
        simp only [laws_FnCouncilsWinOfAll.l2, Int.lt_irrefl, ↓reduceIte]
        refine Ev.bind (impl_WinsGame.ev (hds ys) _ (cat ys ss 0) (by omega) (fun s hs => by have := g2 s hs; omega) (made_game f1 f9 hm hz hf) hcs) ?_
        have e : gwin (gsets (tab (hds ys) (cow q l ys)) (hds ys)) (bitsOf (cat ys ss 0)) = decide (sumP l (wonAt ys ss) ys.length ≥ q) := by
          rw [cat_mask ys ss hS, gwin_made f9 hm (cB_lt ys ss hS)]
          unfold cow
          rw [csum_won l ys ss hxl hS]
        simp only [e, bne_self_eq_false, Bool.false_eq_true, ↓reduceIte]
        exact j5
      generalize decide (sumP l (wonAt ys ss) ys.length ≥ q) = won at hend ⊢
      generalize gsets (tab (hds ys) (cow q l ys)) (hds ys) = G at hend ⊢
      have hpre : ∀ (S R : List Int), S ++ R = cat ys ss 0 → S.length ≤ 1048576 := by
        intro S R h
        rw [← h, List.length_append] at hct
        omega
      have key := back (P := fun i => ∀ S : List Int, S ++ cat (ys.drop i) (ss.drop i) (hds (ys.take i) : Int) = cat ys ss 0 → Ev (fun k => laws_FnCouncilsWinOfAll.l2 k ys zs a won pl.1 pl.2.1 pl.2.2 true S (hds (ys.take i) : Int) ss (ss.length : Int) (i : Int) c d (hds ys : Int) G) true) ss.length
        (by intro S h
            have hs : ys.drop ss.length = [] := by rw [hsl]; exact List.drop_length
            rw [hs, cat_nil, List.append_nil] at h
            subst h
            exact hend)
        (by intro i hi ih S h
            have hiy : i < ys.length := by omega
            obtain ⟨m1, m2⟩ := (isSetN_iff _ _).1 (hset i hi)
            have hle := hds_take_le ys i
            have hle2 := hds_take_le ys (i + 1)
            have ht := hds_take ys i hiy
            have hs9 := set_len9 (good_len (hgood _ (getD_mem ys z_impl_Committee i hiy))).2 (hset i hi)
            rw [drop_getD ys z_impl_Committee i hiy, drop_getD ss [] i hi, cat, show ((hds (ys.take i) : Int) + ((ys.getD i z_impl_Committee).f1.length : Int)) = (hds (ys.take (i + 1)) : Int) by rw [ht]; omega] at h
            refine Ev.shift ?_
            have c1 : (i : Int) < (ss.length : Int) := by omega
            have c0 : (0 : Int) ≤ (i : Int) := by omega
            simp only [laws_FnCouncilsWinOfAll.l2, c1, c0, ↓reduceIte, rd_LI_nat]
            generalize ss.getD i [] = s at h m1 hs9 ⊢
            have inner := back (P := fun j => ∀ S : List Int, S ++ ((s.drop j).map (fun x => (hds (ys.take i) : Int) + x) ++ cat (ys.drop (i + 1)) (ss.drop (i + 1)) (hds (ys.take (i + 1)) : Int)) = cat ys ss 0 → Ev (fun k => laws_FnCouncilsWinOfAll.l3 k ys zs a won pl.1 pl.2.1 pl.2.2 true S (hds (ys.take i) : Int) (i : Int) ss (ss.length : Int) (i : Int) s (s.length : Int) (j : Int) c d (hds ys : Int) G) true) s.length
              (by intro S h
                  refine Ev.shift ?_
                  have d1 : (i : Int) < (ys.length : Int) := by omega
                  rw [List.drop_length, List.map_nil, List.nil_append] at h
                  have e1 : wrap64 ((hds (ys.take i) : Int) + ((ys.getD i z_impl_Committee).f1.length : Int)) = (hds (ys.take (i + 1)) : Int) := by rw [w64 (by omega) (by omega), ht]; omega
                  simp only [laws_FnCouncilsWinOfAll.l3, Int.lt_irrefl, ↓reduceIte, c0, d1, rd_impl_nat, e1, w1 hi (show ss.length ≤ 9223372036854775807 by omega)]
                  exact ih S h)
              (by intro j hj ihj S h
                  refine Ev.shift ?_
                  have d1 : (j : Int) < (s.length : Int) := by omega
                  have d0 : (0 : Int) ≤ (j : Int) := by omega
                  have d2 := m1 _ (getD_mem s 0 j hj)
                  have hSl := hpre _ _ h
                  have d3 : S.length < 17592186044416 := by omega
                  rw [drop_getD s 0 j hj, List.map_cons, List.cons_append, List.append_cons] at h
                  have e1 : wrap64 ((hds (ys.take i) : Int) + s.getD j 0) = (hds (ys.take i) : Int) + s.getD j 0 := w64 (by omega) (by omega)
                  simp only [laws_FnCouncilsWinOfAll.l3, d1, d0, d3, ↓reduceIte, rd_nat, e1, w1 hj (show s.length ≤ 9223372036854775807 by omega)]
                  exact ihj _ h)
            exact inner 0 (Nat.zero_le _) S (by rw [List.drop_zero]; exact h))
      have := key 0 (Nat.zero_le _) [] (by simp [hds])
      rw [List.take_zero] at this
      exact this
    · cases hw
  · cases hw
theorem FnCouncilsWinOfAll_j2 (ys zs us : List S_impl_Committee) (ss : List (List Int)) (a q : Int) (l : List Int) (c : Int) (d : List Int) (hl : l.length ≤ 9223372036854775807) (hd : d.length ≤ 9223372036854775807) (ha : okI a)
    (h1 : ys.length ≤ 10000) (h2 : ss.length ≤ 10000) (h3 : zs.length ≤ 10000) (h4 : us.length ≤ 10000) (y1 : ∀ x ∈ ys, x.f1.length ≤ 9223372036854775807) (z1 : ∀ x ∈ zs, x.f1.length ≤ 9223372036854775807) (u1 : ∀ x ∈ us, x.f1.length ≤ 9223372036854775807) (s1 : ∀ s ∈ ss, s.length ≤ 9223372036854775807) :
    Ev (fun k => laws_FnCouncilsWinOfAll.j2 k ys ss zs a us q l c d) true := by
  refine Ev.shift ?_
  simp only [laws_FnCouncilsWinOfAll.j2]
  refine Ev.bind (impl_WinsCouncil.ev q l ys ss hl (by omega) y1 s1) (Ev.bind (spec_WinsCouncil.ev q l ys ss hl (by omega) y1 s1) ?_)
  refine Ev.bind (impl_PlaceInCouncil.ev zs a ha (by omega) z1) (Ev.bind (spec_PlaceInCouncil.ev zs a (by omega) z1) ?_)
  refine Ev.bind (impl_InnerChances.ev us (by omega) u1) (Ev.bind (spec_InnerChances.ev us (by omega) u1) ?_)
  simp only [bne_self_eq_false, Bool.false_eq_true, ↓reduceIte]
  have hi := innerR_len us
  refine Ev.bind (laws_mShares.ev _ (by omega)) ?_
  simp only [↓reduceIte]
  by_cases hw : (winsCo q l ys ss).2 = true
  · refine Ev.ite_pos hw (Ev.bind (impl_CouncilGame.ev q l ys hl (by omega) y1) ?_)
    exact FnCouncilsWinOfAll_l2 ys zs ss a c d q l hd hw
  · exact Ev.ite_neg hw (FnCouncilsWinOfAll_j5 zs a c d hd)
theorem shl_nat (x i : Nat) (h : i < 63) (hx : x * 2 ^ i < 9223372036854775808) : shl .i64 (x : Int) (i : Int) = ((x * 2 ^ i : Nat) : Int) := by
  unfold shl
  have e : min ((i : Int).toNat) IntKind.i64.bits = i := by
    have : IntKind.i64.bits = 64 := rfl
    omega
  have c : ((x * 2 ^ i : Nat) : Int) = (x : Int) * 2 ^ i := by simp
  rw [e, IntKind.wrap_i64, ← c]
  generalize x * 2 ^ i = z at hx
  omega
theorem pr_nil (xs : List S_impl_Committee) : prN [] xs = 1 ∧ prD [] xs = 1 := by cases xs <;> exact ⟨rfl, rfl⟩
theorem FnCouncilsWinOfAll_l1 (xs ys zs us : List S_impl_Committee) (ss : List (List Int)) (a q : Int) (l : List Int) (q2 : Int) (l2 : List Int) (c : Int) (d : List Int) (G : List (List Int)) (h : areCouncil q l xs = true) (hq : q = l.sum)
    (j2 : Ev (fun k => laws_FnCouncilsWinOfAll.j2 k ys ss zs a us q2 l2 c d) true) :
    Ev (fun k => laws_FnCouncilsWinOfAll.l1 k ys ss zs a us ((tab (hds xs) (cow q l xs)).count true : Int) 1 1 (xs.map chance) ((xs.map chance).length : Int) 0 q l q2 l2 c d (hds xs : Int) G) true := by
  obtain ⟨hc, hxl, _, _⟩ := areCouncil_at h
  obtain ⟨_, h9, _, _, _⟩ := cow_facts h
  have hy9 := (isComm_len hc).2
  have hg := areCouncil_good h
  obtain ⟨n1, n2, d1, d2⟩ := prod_bounds l xs hg
  have p9 : 2 ^ hds xs ≤ 512 := pow_small (m := 9) h9
  have hcnt : (tab (hds xs) (cow q l xs)).count true * prD l xs = prN l xs * 2 ^ hds xs := by
    rw [count_tab, ← prod_count l xs hxl]
    congr 1
    apply List.countP_congr
    intro b _
    rw [hq, cow_all (isComm_mem hc) hxl]
  have hcle : (tab (hds xs) (cow q l xs)).count true ≤ 512 := by
    have := List.count_le_length (a := true) (l := tab (hds xs) (cow q l xs))
    rw [tab_len] at this
    omega
  generalize (tab (hds xs) (cow q l xs)).count true = cnt at hcnt hcle ⊢
  have key := back (P := fun i => ∀ u v : Nat, u * prN (l.drop i) (xs.drop i) = prN l xs → v * prD (l.drop i) (xs.drop i) = prD l xs → Ev (fun k => laws_FnCouncilsWinOfAll.l1 k ys ss zs a us (cnt : Int) (u : Int) (v : Int) (xs.map chance) ((xs.map chance).length : Int) (i : Int) q l q2 l2 c d (hds xs : Int) G) true) xs.length
    (by intro u v hu hv
        have e0 : l.drop xs.length = [] := by rw [hxl]; exact List.drop_length
        rw [e0, (pr_nil _).1, Nat.mul_one] at hu
        rw [e0, (pr_nil _).2, Nat.mul_one] at hv
        subst hu hv
        refine Ev.shift ?_
        have c0 : (0 : Int) ≤ (hds xs : Int) := by omega
        have hmul : prN l xs * 2 ^ hds xs ≤ 512 * 512 := Nat.mul_le_mul (by omega) p9
        have e1 : wrap64 ((cnt : Int) * (prD l xs : Int)) = shl .i64 (prN l xs : Int) (hds xs : Int) := by
          rw [shl_nat _ _ (by omega) (by omega), ← hcnt, ← Int.natCast_mul]
          rw [← hcnt] at hmul
          exact w64 (by omega) (by omega)
        simp only [laws_FnCouncilsWinOfAll.l1, List.length_map, Int.lt_irrefl, ↓reduceIte, c0, e1]
        exact j2)
    (by intro i hi ih u v hu hv
        refine Ev.shift ?_
        have hgi := hg _ (getD_mem xs z_impl_Committee i hi)
        have b1 : (i : Int) < (xs.length : Int) := by omega
        have b0 : (0 : Int) ≤ (i : Int) := by omega
        have b2 : (i : Int) < (l.length : Int) := by omega
        have ec : (xs.map chance).getD i z_impl_Share = chance (xs.getD i z_impl_Committee) := by
          rw [getD_at _ _ _ (by rw [List.length_map]; exact hi), List.getElem_map, ← getD_at _ z_impl_Committee i hi]
        have e0 : ((chance (xs.getD i z_impl_Committee)).f0 : Int) = ((wn (xs.getD i z_impl_Committee) / cgcd (xs.getD i z_impl_Committee) : Nat) : Int) := rfl
        have e1 : ((chance (xs.getD i z_impl_Committee)).f1 : Int) = ((2 ^ (xs.getD i z_impl_Committee).f1.length / cgcd (xs.getD i z_impl_Committee) : Nat) : Int) := rfl
        have hdr := prod_bounds (l.drop (i + 1)) (xs.drop (i + 1)) (fun x hx => hg x (List.mem_of_mem_drop hx))
        rw [drop_getD xs z_impl_Committee i hi, drop_getD l 0 i (by omega), prN] at hu
        rw [drop_getD xs z_impl_Committee i hi, drop_getD l 0 i (by omega), prD] at hv
        simp only [laws_FnCouncilsWinOfAll.l1, List.length_map, b1, b0, b2, ↓reduceIte, rd_nat, rd_share_nat, ec, e0, e1, w1 hi (show xs.length ≤ 9223372036854775807 by omega)]
        simp only [List.length_map] at ih
        by_cases hw : l.getD i 0 > 0
        · rw [if_neg (by omega), ← Nat.mul_assoc] at hu hv
          generalize wn (xs.getD i z_impl_Committee) / cgcd (xs.getD i z_impl_Committee) = x at hu ⊢
          generalize 2 ^ (xs.getD i z_impl_Committee).f1.length / cgcd (xs.getD i z_impl_Committee) = y at hv ⊢
          have hx : u * x ≤ 512 := by
            have := Nat.le_mul_of_pos_right (u * x) (show 0 < prN (l.drop (i + 1)) (xs.drop (i + 1)) by omega)
            omega
          have hy : v * y ≤ 512 := by
            have := Nat.le_mul_of_pos_right (v * y) (show 0 < prD (l.drop (i + 1)) (xs.drop (i + 1)) by omega)
            omega
          have f1 : wrap64 ((u : Int) * (x : Int)) = ((u * x : Nat) : Int) := by rw [← Int.natCast_mul]; exact w64 (by omega) (by omega)
          have f2 : wrap64 ((v : Int) * (y : Int)) = ((v * y : Nat) : Int) := by rw [← Int.natCast_mul]; exact w64 (by omega) (by omega)
          simp only [hw, ↓reduceIte, f1, f2]
          exact ih _ _ hu hv
        · rw [if_pos (by omega), Nat.one_mul] at hu hv
          simp only [hw, ↓reduceIte]
          exact ih _ _ hu hv)
  exact key 0 (Nat.zero_le _) 1 1 (by rw [List.drop_zero, List.drop_zero, Nat.one_mul]) (by rw [List.drop_zero, List.drop_zero, Nat.one_mul])
theorem FnCouncilsWinOfAll_l0 (xs ys zs us : List S_impl_Committee) (ss : List (List Int)) (a q : Int) (l : List Int) (q2 : Int) (l2 : List Int) (c : Int) (d : List Int) (G : List (List Int)) (h : areCouncil q l xs = true) (hx : xs.length ≤ 10000)
    (hok : okL ok_impl_Committee xs) (j2 : Ev (fun k => laws_FnCouncilsWinOfAll.j2 k ys ss zs a us q2 l2 c d) true) :
    Ev (fun k => laws_FnCouncilsWinOfAll.l0 k xs ys ss zs a us ((tab (hds xs) (cow q l xs)).count true : Int) (sel (hds xs) (idleB (tab (hds xs) (cow q l xs)) (hds xs))) (councilP q l xs).1 (hds xs : Int) 0 q l q2 l2 c d (hds xs : Int) G) true := by
  obtain ⟨hc, hxl, _, _⟩ := areCouncil_at h
  obtain ⟨_, h9, hm, _, _⟩ := cow_facts h
  have hl9 := isComm_len hc
  have hg := areCouncil_good h
  have hxx : ∀ x ∈ xs, x.f1.length ≤ 9223372036854775807 := fun x hx => (hok.2 x hx).2.1
  have l1 := FnCouncilsWinOfAll_l1 xs ys zs us ss a q l q2 l2 c d G h
  have hpl : (councilP q l xs).1.length = hds xs := by unfold councilP; rw [h, if_pos rfl, hds_nat]; simp only [sharesL, List.length_map, swl_len]
  have hpz := power_zero h
  generalize (councilP q l xs).1 = pw at hpl hpz ⊢
  have key := Ev.down (G := fun i k => laws_FnCouncilsWinOfAll.l0 k xs ys ss zs a us ((tab (hds xs) (cow q l xs)).count true : Int) (sel (hds xs) (idleB (tab (hds xs) (cow q l xs)) (hds xs))) pw (hds xs : Int) (i : Int) q l q2 l2 c d (hds xs : Int) G) (R := fun _ => true) (hds xs)
    (by refine Ev.shift ?_
        simp only [laws_FnCouncilsWinOfAll.l0, Int.lt_irrefl, ↓reduceIte]
        refine Ev.bind (laws_mSum.ev l (by omega)) ?_
        rw [wsum_eq l (isComm_mem hc) (by omega)]
        by_cases hq : q = l.sum
        · have e0 : (xs.length : Int) > 0 := by omega
          refine Ev.ite_pos hq (Ev.ite_pos e0 (Ev.bind (impl_InnerChances.ev xs (by omega) hxx) ?_))
          have e : innerR xs = (xs.map chance, true) := by unfold innerR; rw [areC_of h, if_pos rfl]
          rw [e]
          exact Ev.ite_pos rfl (l1 hq j2)
        · exact Ev.ite_neg hq j2)
    (fun k hk ih => by
      obtain ⟨i, m, hi, hmm, rfl, hp⟩ := place_of h k hk
      have hgi := hg _ (getD_mem xs z_impl_Committee i hi)
      have hli := good_len hgi
      have hs0 := sel_len (hds xs) (idleB (tab (hds xs) (cow q l xs)) (hds xs))
      have e0 := hpz (pos xs i m) hk
      have ei : idleB (tab (hds xs) (cow q l xs)) (hds xs) (pos xs i m) = (idleB (tab (xs.getD i z_impl_Committee).f1.length (cwin (xs.getD i z_impl_Committee).f0 (xs.getD i z_impl_Committee).f1)) (xs.getD i z_impl_Committee).f1.length m || idleB (tab l.length (cwin q l)) l.length i) := by
        rw [Bool.eq_iff_iff, Bool.or_eq_true, idle_iff h9 hm hk, idle_iff hli.2 (cwin_mono (isComm_mem hgi)) hmm, idle_iff hl9.2 (cwin_mono (isComm_mem hc)) (by omega)]
        exact cow_noSw h hi hmm
      have b1 : (pos xs i m : Int) < (hds xs : Int) := by omega
      have b0 : (0 : Int) ≤ (pos xs i m : Int) := by omega
      have b2 : (pos xs i m : Int) < (pw.length : Int) := by omega
      have b3 : (0 : Int) ≤ (i : Int) := by omega
      have b4 : (i : Int) < (xs.length : Int) := by omega
      refine Ev.shift ?_
      simp only [laws_FnCouncilsWinOfAll.l0, b1, b0, b2, ↓reduceIte, rd_share_nat, rd_impl_nat]
      refine Ev.bind (impl_PlaceInCouncil.ev xs _ (by unfold okI; omega) (by omega) hxx) ?_
      rw [hp]
      have mh := laws_mHas.ev (sel (hds xs) (idleB (tab (hds xs) (cow q l xs)) (hds xs))) (pos xs i m : Int) (by omega)
      rw [hasN_sel, decide_eq_true hk, Bool.true_and] at mh
      refine Ev.ite_pos rfl (Ev.bind mh ?_)
      rw [e0, bne_self_eq_false]
      refine Ev.ite_neg (by decide) (Ev.ite_pos b3 (Ev.ite_pos b4 ?_))
      simp only [rd_impl_nat]
      refine Ev.bind (impl_DummiesOf.ev _ _ hgi) (Ev.bind (impl_DummiesOf.ev q l hc) ?_)
      refine Ev.ite_pos rfl (Ev.ite_pos rfl (Ev.bind mh ?_))
      have m1 := laws_mHas.ev (sel (xs.getD i z_impl_Committee).f1.length (idleB (tab (xs.getD i z_impl_Committee).f1.length (cwin (xs.getD i z_impl_Committee).f0 (xs.getD i z_impl_Committee).f1)) (xs.getD i z_impl_Committee).f1.length)) (m : Int) (by have := sel_len (xs.getD i z_impl_Committee).f1.length (idleB (tab (xs.getD i z_impl_Committee).f1.length (cwin (xs.getD i z_impl_Committee).f0 (xs.getD i z_impl_Committee).f1)) (xs.getD i z_impl_Committee).f1.length); omega)
      have m2 := laws_mHas.ev (sel l.length (idleB (tab l.length (cwin q l)) l.length)) (i : Int) (by have := sel_len l.length (idleB (tab l.length (cwin q l)) l.length); omega)
      rw [hasN_sel, decide_eq_true hmm, Bool.true_and] at m1
      rw [hasN_sel, decide_eq_true (show i < l.length by omega), Bool.true_and] at m2
      refine Ev.bind m1 ?_
      rw [ei]
      have ew := w1 hk (show hds xs ≤ 9223372036854775807 by omega)
      cases idleB (tab (xs.getD i z_impl_Committee).f1.length (cwin (xs.getD i z_impl_Committee).f0 (xs.getD i z_impl_Committee).f1)) (xs.getD i z_impl_Committee).f1.length m with
      | true =>
        refine Ev.ite_pos rfl (Ev.ite_neg (by simp) ?_)
        rw [ew]
        exact ih
      | false =>
        refine Ev.ite_neg (by decide) (Ev.bind m2 ?_)
        rw [Bool.false_or, bne_self_eq_false]
        refine Ev.ite_neg (by decide) ?_
        rw [ew]
        exact ih)
  exact key 0 (Nat.zero_le _)
theorem laws_FnCouncilsWinOfAll_pure : laws_FnCouncilsWinOfAll.Pure := by
  intro q l xs q2 l2 ys ss zs a us c d hq hl hxs hq2 hl2 hys hss hzs ha hus hc hd
  apply Ev.rounds (r := true)
  unfold laws_FnCouncilsWinOfAll.f
  by_cases c1 : (xs.length : Int) > 10000
  · exact Ev.ite_pos c1 Ev.some
  by_cases c2 : (ys.length : Int) > 10000
  · exact Ev.ite_neg c1 (Ev.ite_pos c2 Ev.some)
  by_cases c3 : (ss.length : Int) > 10000
  · exact Ev.ite_neg c1 (Ev.ite_neg c2 (Ev.ite_pos c3 Ev.some))
  by_cases c4 : (zs.length : Int) > 10000
  · exact Ev.ite_neg c1 (Ev.ite_neg c2 (Ev.ite_neg c3 (Ev.ite_pos c4 Ev.some)))
  by_cases c5 : (us.length : Int) > 10000
  · exact Ev.ite_neg c1 (Ev.ite_neg c2 (Ev.ite_neg c3 (Ev.ite_neg c4 (Ev.ite_pos c5 Ev.some))))
  refine Ev.ite_neg c1 (Ev.ite_neg c2 (Ev.ite_neg c3 (Ev.ite_neg c4 (Ev.ite_neg c5 ?_))))
  have j2 := FnCouncilsWinOfAll_j2 ys zs us ss a q2 l2 c d hl2.1 hd.1 ha (by omega) (by omega) (by omega) (by omega) (fun x h => (hys.2 x h).2.1) (fun x h => (hzs.2 x h).2.1) (fun x h => (hus.2 x h).2.1) (fun s h => (hss.2 s h).1)
  have hxx : ∀ x ∈ xs, x.f1.length ≤ 9223372036854775807 := fun x hx => (hxs.2 x hx).2.1
  have hx6 : xs.length ≤ 1048576 := by omega
  refine Ev.bind (impl_CouncilGame.ev q l xs hl.1 hx6 hxx) (Ev.bind (spec_CouncilGame.ev q l xs hl.1 hx6 hxx) (Ev.bind (impl_CouncilPowers.ev q l xs hl.1 hx6 hxx) (Ev.bind (spec_CouncilPowers.ev q l xs hl.1 hx6 hxx) (Ev.bind (impl_CountCouncilWins.ev q l xs hl.1 hx6 hxx) (Ev.bind (spec_CountCouncilWins.ev q l xs hl.1 hx6 hxx) ?_)))))
  have hG : (coG q l xs).2.1.length ≤ 512 ∧ ∀ x ∈ (coG q l xs).2.1, x.length ≤ 9 := gres_len (areCouncil q l xs) (heads xs).toNat (tab (heads xs).toNat (cow q l xs)) (fun h => by have := (areCouncil_at h).2.2.2; omega)
  have hP := councilP_len q l xs
  have iac := impl_AreCouncil.ev q l xs hl.1 hx6 hxx
  have sac := spec_AreCouncil.ev q l xs hl.1 hx6 hxx
  have e1 : (coG q l xs).2.2 = areCouncil q l xs := by
    cases h : areCouncil q l xs with
    | true => rw [coG_at h]
    | false => rw [coG_off h]
  have e2 : (councilP q l xs).2 = areCouncil q l xs := by unfold councilP; cases areCouncil q l xs <;> rfl
  have e3 : (councilCount q l xs).2 = areCouncil q l xs := by unfold councilCount; cases areCouncil q l xs <;> rfl
  rw [bne_self_eq_false]
  refine Ev.ite_neg (by decide) (Ev.bind (laws_mGame.ev _ _ (by omega) (fun x hx => by have := hG.2 x hx; omega)) (Ev.ite_pos rfl ?_))
  rw [bne_self_eq_false]
  refine Ev.ite_neg (by decide) (Ev.bind (laws_mShares.ev _ (by omega)) (Ev.ite_pos rfl ?_))
  rw [bne_self_eq_false]
  refine Ev.ite_neg (by decide) (Ev.ite_pos rfl (Ev.bind iac ?_))
  rw [e1, bne_self_eq_false]
  refine Ev.ite_neg (by decide) (Ev.bind iac (Ev.bind sac ?_))
  rw [bne_self_eq_false]
  refine Ev.ite_neg (by decide) ?_
  rw [e2, bne_self_eq_false]
  refine Ev.ite_neg (by decide) ?_
  rw [e3, bne_self_eq_false]
  refine Ev.ite_neg (by decide) ?_
  cases h : areCouncil q l xs with
  | false => exact Ev.ite_neg (by decide) j2
  | true =>
    refine Ev.ite_pos rfl ?_
    obtain ⟨f1, f9, hm, hz, hf⟩ := cow_facts h
    have hgm := made_game f1 f9 hm hz hf
    rw [coG_at h] at hG ⊢
    simp only at hG ⊢
    have ec : councilCount q l xs = (((tab (hds xs) (cow q l xs)).count true : Int), true) := by unfold councilCount; rw [h, if_pos rfl, hds_nat]
    have hpl : (councilP q l xs).1.length = hds xs := by unfold councilP; rw [h, if_pos rfl, hds_nat]; simp only [sharesL, List.length_map, swl_len]
    have k1 := impl_CountWins.ev (hds xs) _ (by omega) (fun x hx => by have := hG.2 x hx; omega) hgm
    have k2 := impl_IdleMembers.ev (hds xs) _ (by omega) (fun x hx => by have := hG.2 x hx; omega) hgm
    have k3 := impl_IsGame.ev (hds xs : Int) (gsets (tab (hds xs) (cow q l xs)) (hds xs)) (by omega) (fun x hx => by have := hG.2 x hx; omega)
    rw [made_tab f9 hm] at k1 k2
    rw [hgm] at k3
    refine Ev.bind k1 (Ev.bind k2 (Ev.bind k3 (Ev.ite_pos rfl ?_)))
    rw [ec, hpl]
    refine Ev.ite_pos rfl (Ev.ite_pos rfl (Ev.ite_pos rfl (Ev.ite_pos rfl ?_)))
    exact FnCouncilsWinOfAll_l0 xs ys zs us ss a q l q2 l2 c d _ h (by omega) hxs j2
end Go.Proofs.YtidkafljeldokaaGreat.P
