/- Part 4 of the texts below the law FnExactCouncilGame. Printed by this session's driver over the kit's printer, but for the hand contracts and the plain laws. -/
import Derived.Tactics
import Derived.ProofKit
import Derived.Deep.Slices
import Derived.Test.YtokelcedamegbaaCCouncilGame0
import Derived.Test.YtokelcedamegbaaCCouncilGame1
import Derived.Test.YtokelcedamegbaaCCouncilGame2
import Derived.Test.YtokelcedamegbaaCCouncilGame3
set_option linter.unusedVariables false
set_option linter.unusedSimpArgs false
/- Plain laws: loops told by rounds, lists, numbers. No program in sight. -/
namespace Go.Proofs.Ytokelcedamegbaa.P
open Go.RowKit Go.Proofs.YtokelcedamegbaaW.PrintWords Go.Proofs.YtokelcedamegbaaW.PrintLast Go.Proofs.YtokelcedamegbaaW.PrintMore
/-- A loop over 0 .. n - 1, told backwards: G i: the loop from i on, by rounds; R i: what it answers from there. -/
theorem Ev.down {ρ : Type} {G : Nat → Nat → Option ρ} {R : Nat → ρ} (n : Nat) (hend : Ev (G n) (R n)) (hstep : ∀ i, i < n → Ev (G (i + 1)) (R (i + 1)) → Ev (G i) (R i)) : ∀ i, i ≤ n → Ev (G i) (R i) := by
  have key : ∀ d i, i + d = n → Ev (G i) (R i) := by
    intro d
    induction d with
    | zero => intro i hi; obtain rfl : i = n := by omega
              exact hend
    | succ d ih => intro i hi; exact hstep i (by omega) (ih (i + 1) (by omega))
  intro i hi
  exact key (n - i) i (by omega)
theorem back {P : Nat → Prop} (n : Nat) (hend : P n) (hstep : ∀ i, i < n → P (i + 1) → P i) : ∀ i, i ≤ n → P i := by
  have key : ∀ d i, i + d = n → P i := by
    intro d
    induction d with
    | zero => intro i hi; obtain rfl : i = n := by omega
              exact hend
    | succ d ih => intro i hi; exact hstep i (by omega) (ih (i + 1) (by omega))
  intro i hi
  exact key (n - i) i (by omega)
theorem Ev.some {α : Type} {r : α} : Ev (fun _ => Option.some r) r := Ev.now r
theorem Ev.one {α : Type} {g : Option α} {r : α} (h : g = Option.some r) : Ev (fun _ => g) r := ⟨0, fun _ _ => h⟩
theorem Ev.bind0 {α β : Type} {g : Option α} {f : Nat → α → Option β} {a : α} {r : β} (h : g = Option.some a) (k : Ev (fun n => f n a) r) : Ev (fun n => g.bind (f n)) r := by
  subst h; exact k
theorem Ev.ite_pos {α : Type} {c : Prop} [Decidable c] {g f : Nat → Option α} {r : α} (hc : c) (h : Ev g r) : Ev (fun k => if c then g k else f k) r := by
  obtain ⟨K, h⟩ := h; exact ⟨K, fun k hk => (if_pos hc).trans (h k hk)⟩
theorem Ev.ite_neg {α : Type} {c : Prop} [Decidable c] {g f : Nat → Option α} {r : α} (hc : ¬ c) (h : Ev f r) : Ev (fun k => if c then g k else f k) r := by
  obtain ⟨K, h⟩ := h; exact ⟨K, fun k hk => (if_neg hc).trans (h k hk)⟩
theorem Ev.eq {α : Type} {g : Nat → Option α} {r r' : α} (h : Ev g r) (e : r = r') : Ev g r' := e ▸ h
theorem Ev.shift {α : Type} {g : Nat → Option α} {r : α} (h : Ev (fun k => g (k + 1)) r) : Ev g r := Ev.step (fun _ => rfl) h
theorem w64 {x : Int} (h0 : -9223372036854775808 ≤ x) (h1 : x ≤ 9223372036854775807) : wrap64 x = x := by unfold wrap64; omega
theorem w1 {i n : Nat} (h : i < n) (hn : n ≤ 9223372036854775807) : wrap64 ((i : Int) + 1) = ((i + 1 : Nat) : Int) := by unfold wrap64; omega
theorem rd_nat (l : List Int) (i : Nat) : rd l (i : Int) = l.getD i 0 := by simp [rd]
theorem rdB_nat (l : List Bool) (i : Nat) : rdOf false l (i : Int) = l.getD i false := by simp [rdOf]
/-! ### lists -/
theorem drop_getD {α : Type} (l : List α) (d : α) (i : Nat) (h : i < l.length) : l.drop i = l.getD i d :: l.drop (i + 1) := drop_cons l d i h
theorem take_getD {α : Type} (l : List α) (d : α) (i : Nat) (h : i < l.length) : l.take (i + 1) = l.take i ++ [l.getD i d] := by
  rw [List.take_succ_eq_append_getElem h, List.getD_eq_getElem?_getD, List.getElem?_eq_getElem h]; rfl
theorem getD_mem {α : Type} (l : List α) (d : α) (i : Nat) (h : i < l.length) : l.getD i d ∈ l := by
  rw [List.getD_eq_getElem?_getD, List.getElem?_eq_getElem h]; exact List.getElem_mem h
theorem foldl_take {α β : Type} (f : β → α → β) (b : β) (l : List α) (d : α) (i : Nat) (h : i < l.length) : (l.take (i + 1)).foldl f b = f ((l.take i).foldl f b) (l.getD i d) := by
  rw [take_getD l d i h, List.foldl_append]; rfl
/-- A row that is being filled. -/
def filled {α : Type} (l : List α) (z : α) (i : Nat) : List α := l.take i ++ List.replicate (l.length - i) z
theorem filled_len {α : Type} (l : List α) (z : α) (i : Nat) (h : i ≤ l.length) : (filled l z i).length = l.length := by unfold filled; simp; omega
theorem filled_zero {α : Type} (l : List α) (z : α) : filled l z 0 = List.replicate l.length z := by simp [filled]
theorem filled_all {α : Type} (l : List α) (z : α) : filled l z l.length = l := by simp [filled]
theorem filled_set {α : Type} (l : List α) (z d : α) (i : Nat) (h : i < l.length) : (filled l z i).set i (l.getD i d) = filled l z (i + 1) := by
  unfold filled
  have e : (l.take i).length = i := by simp; omega
  rw [take_getD l d i h, List.set_append_right i (l.getD i d) (by omega), e, Nat.sub_self, show l.length - i = (l.length - (i + 1)) + 1 by omega, List.replicate_succ]
  simp
/-! ### marks -/
def marks (a : Int) (n : Nat) : List Int := (List.range n).map fun i : Nat => a + (i : Int)
theorem marks_len (a : Int) (n : Nat) : (marks a n).length = n := by simp [marks]
theorem marks_get (a : Int) (n i : Nat) (h : i < n) : (marks a n).getD i 0 = a + (i : Int) := by simp [marks, List.getD_eq_getElem?_getD, List.getElem?_range h]
/-! ### committees -/
def inI (a b x : Int) : Bool := decide (a ≤ x) && decide (x ≤ b)
def isComm (q : Int) (l : List Int) : Bool := decide (1 ≤ l.length) && decide (l.length ≤ 9) && l.all (inI 0 1000) && inI 1 l.sum q
theorem isComm_len {q : Int} {l : List Int} (h : isComm q l = true) : 1 ≤ l.length ∧ l.length ≤ 9 := by simp [isComm] at h; exact ⟨h.1.1.1, h.1.1.2⟩
theorem isComm_mem {q : Int} {l : List Int} (h : isComm q l = true) : ∀ x ∈ l, 0 ≤ x ∧ x ≤ 1000 := by
  intro x hx
  simp [isComm, inI] at h
  exact h.1.2 x hx
/-- Wrapping sums of few small numbers do not wrap. -/
def wsum (l : List Int) : Int := l.foldl (fun s x => wrap64 (s + x)) 0
theorem wsum_from (l : List Int) (s : Int) (hs : 0 ≤ s) (h : ∀ x ∈ l, 0 ≤ x ∧ x ≤ 1000) (hb : s + 1000 * l.length ≤ 9223372036854775807) : l.foldl (fun s x => wrap64 (s + x)) s = s + l.sum := by
  induction l generalizing s with
  | nil => simp
  | cons x l ih =>
    have h1 := h x (by simp)
    simp only [List.length_cons] at hb
    rw [List.foldl_cons, w64 (by omega) (by omega), ih (s + x) (by omega) (fun y hy => h y (by simp [hy])) (by omega), List.sum_cons]
    omega
theorem wsum_eq (l : List Int) (h : ∀ x ∈ l, 0 ≤ x ∧ x ≤ 1000) (hb : l.length ≤ 9000000) : wsum l = l.sum := by
  unfold wsum; rw [wsum_from l 0 (by omega) h (by omega)]; omega
/-! ### numbers as bits -/
theorem shr_nat (x i : Nat) (h : i ≤ 64) : shr .i64 (x : Int) (i : Int) = ((x / 2 ^ i : Nat) : Int) := by
  unfold shr
  have e : min ((i : Int).toNat) IntKind.i64.bits = i := by
    have : IntKind.i64.bits = 64 := rfl
    omega
  rw [e]; simp
theorem pow63 {i : Nat} (h : i < 63) : 2 ^ i < 9223372036854775808 := Nat.lt_of_lt_of_le (Nat.pow_lt_pow_right (by omega) h) (by decide)
theorem shl_one (i : Nat) (h : i < 63) : shl .i64 1 (i : Int) = ((2 ^ i : Nat) : Int) := by
  unfold shl
  have e : min ((i : Int).toNat) IntKind.i64.bits = i := by
    have : IntKind.i64.bits = 64 := rfl
    omega
  have h1 := pow63 h
  have c : ((2 ^ i : Nat) : Int) = 2 ^ i := by simp
  rw [e, Int.one_mul, IntKind.wrap_i64, ← c]
  generalize 2 ^ i = z at h1
  omega
theorem i64_of (n : Int) (h0 : 0 ≤ n) (h1 : n < 2 ^ 63) : IntKind.i64.wrap n = n := by rw [IntKind.wrap_i64]; omega
theorem and_nat (a b : Nat) (ha : a < 2 ^ 63) (hb : b < 2 ^ 63) : Go.bits .and .i64 (a : Int) (b : Int) = ((a &&& b : Nat) : Int) := (bits_nat .i64 63 (by decide) i64_of a b ha hb).1
theorem or_nat (a b : Nat) (ha : a < 2 ^ 63) (hb : b < 2 ^ 63) : Go.bits .or .i64 (a : Int) (b : Int) = ((a ||| b : Nat) : Int) := (bits_nat .i64 63 (by decide) i64_of a b ha hb).2
theorem and_one (a : Nat) (ha : a < 2 ^ 63) : Go.bits .and .i64 (a : Int) 1 = ((a % 2 : Nat) : Int) := by
  have := and_nat a 1 ha (by decide)
  rw [Nat.and_one_is_mod] at this
  exact this
theorem tmod_two (a : Nat) : Int.tmod (a : Int) 2 = ((a % 2 : Nat) : Int) := by rw [Int.tmod_eq_emod_of_nonneg (by omega)]; omega
theorem bit_nat (b i : Nat) : b.testBit i = decide (b / 2 ^ i % 2 = 1) := by rw [Nat.testBit_eq_decide_div_mod_eq]
theorem or_pow {b i : Nat} (h : b.testBit i = false) : b ||| 2 ^ i = b + 2 ^ i := by
  apply Nat.eq_of_testBit_eq
  intro j
  rw [Nat.testBit_or, Nat.testBit_two_pow, Nat.add_comm]
  rcases Nat.lt_trichotomy j i with hj | hj | hj
  · rw [Nat.testBit_two_pow_add_gt hj]
    have : ¬ i = j := by omega
    simp [this]
  · subst hj
    rw [Nat.testBit_two_pow_add_eq, h]
    simp
  · have hd : (2 ^ i + b) / 2 ^ (i + 1) = b / 2 ^ (i + 1) := by
      have h0 : b / 2 ^ i % 2 = 0 := by
        rw [bit_nat] at h
        have h1 := Nat.mod_two_eq_zero_or_one (b / 2 ^ i)
        rcases h1 with h1 | h1
        · exact h1
        · simp [h1] at h
      rw [Nat.pow_succ, ← Nat.div_div_eq_div_mul, ← Nat.div_div_eq_div_mul, Nat.add_div_left _ (Nat.two_pow_pos i)]
      omega
    obtain ⟨d, rfl⟩ : ∃ d, j = i + 1 + d := ⟨j - (i + 1), by omega⟩
    have e : ∀ x : Nat, x.testBit (i + 1 + d) = (x / 2 ^ (i + 1)).testBit d := fun x => by
      rw [Nat.testBit_div_two_pow, Nat.add_comm d]
    rw [e, e, hd]
    have : ¬ i = i + 1 + d := by omega
    simp [this]
/-! ### weights of sets told by bits -/
def wt : List Int → Nat → Int
  | [], _ => 0
  | x :: l, b => (if b % 2 = 1 then x else 0) + wt l (b / 2)
/-- What is told of each set of n members, by bits. -/
def tab (n : Nat) (P : Nat → Bool) : List Bool := (List.range (2 ^ n)).map P
theorem tab_len (n : Nat) (P : Nat → Bool) : (tab n P).length = 2 ^ n := by simp [tab]
theorem tab_get (n : Nat) (P : Nat → Bool) (b : Nat) (h : b < 2 ^ n) : (tab n P).getD b false = P b := by simp [tab, List.getD_eq_getElem?_getD, List.getElem?_range h]
theorem pow_small {n m : Nat} (h : n ≤ m) : 2 ^ n ≤ 2 ^ m := Nat.pow_le_pow_right (by omega) h
/-- The members for which something is true. -/
def sel (n : Nat) (P : Nat → Bool) : List Int := ((List.range n).filter P).map fun i : Nat => (i : Int)
theorem sel_succ (n : Nat) (P : Nat → Bool) : sel (n + 1) P = sel n P ++ (if P n = true then [(n : Int)] else []) := by
  unfold sel
  rw [List.range_succ, List.filter_append, List.map_append]
  congr 1
  cases h : P n <;> simp [h]
theorem sel_len (n : Nat) (P : Nat → Bool) : (sel n P).length ≤ n := by
  have := List.length_filter_le P (List.range n)
  simp [sel] at *; omega
/-- Of what is told by rounds for each of a list, from one round on all is told. -/
theorem Ev.all {α β : Type} {p : Nat → α → Option β} {P : α → β} (l : List α) (h : ∀ x ∈ l, Ev (fun k => p k x) (P x)) : ∃ K, ∀ k, K ≤ k → ∀ x ∈ l, p k x = Option.some (P x) := by
  induction l with
  | nil => exact ⟨0, fun _ _ _ h => by simp at h⟩
  | cons x l ih =>
    obtain ⟨K, hK⟩ := ih (fun y hy => h y (by simp [hy]))
    obtain ⟨K', hK'⟩ := h x (by simp)
    refine ⟨K + K', fun k hk y hy => ?_⟩
    rcases List.mem_cons.1 hy with rfl | hy
    · exact hK' k (by omega)
    · exact hK k (by omega) y hy
/-- A loop that asks what is told by rounds: from one round on, what is told stands, and the loop is told with it held. -/
theorem Ev.ask {α β γ : Type} {p : Nat → α → Option β} {P : α → β} (l : List α) (h : ∀ x ∈ l, Ev (fun k => p k x) (P x)) {F : Nat → (α → Option β) → Option γ} {r : γ} (hF : ∃ K, ∀ k, K ≤ k → ∀ q : α → Option β, (∀ x ∈ l, q x = Option.some (P x)) → F k q = Option.some r) : Ev (fun k => F k (p k)) r := by
  obtain ⟨K, hK⟩ := Ev.all l h
  obtain ⟨K', hK'⟩ := hF
  exact ⟨K + K', fun k hk => hK' k (by omega) _ (hK k (by omega))⟩
/-- A loop over 0 .. n - 1, told backwards, by so many rounds. -/
theorem downq {ρ : Type} {G : Nat → Nat → Option ρ} {R : Nat → ρ} (n : Nat) (hend : ∀ k, G n (k + 1) = Option.some (R n)) (hstep : ∀ i, i < n → ∀ k, G (i + 1) k = Option.some (R (i + 1)) → G i (k + 1) = Option.some (R i)) : ∀ i, i ≤ n → ∀ k, n - i < k → G i k = Option.some (R i) := by
  have key : ∀ d i, i + d = n → ∀ k, d < k → G i k = Option.some (R i) := by
    intro d
    induction d with
    | zero => intro i hi k hk
              obtain rfl : i = n := by omega
              obtain ⟨k, rfl⟩ : ∃ j, k = j + 1 := ⟨k - 1, by omega⟩
              exact hend k
    | succ d ih => intro i hi k hk
                   obtain ⟨k, rfl⟩ : ∃ j, k = j + 1 := ⟨k - 1, by omega⟩
                   exact hstep i (by omega) k (ih (i + 1) (by omega) k (by omega))
  intro i hi k hk
  exact key (n - i) i (by omega) k (by omega)
/-- Where the first of a list is for which something is true, or -1. -/
def idxFrom {α : Type} (P : α → Bool) : Nat → List α → Int
  | _, [] => -1
  | i, x :: l => if P x = true then (i : Int) else idxFrom P (i + 1) l
theorem idxFrom_nn {α : Type} (P : α → Bool) (l : List α) (i : Nat) : decide (idxFrom P i l ≥ 0) = l.any P := by
  induction l generalizing i with
  | nil => rfl
  | cons x l ih =>
    unfold idxFrom
    rw [List.any_cons]
    cases h : P x with
    | true => simp only [↓reduceIte, Bool.true_or, decide_eq_true_eq]; omega
    | false => simp only [Bool.false_eq_true, ↓reduceIte, Bool.false_or]; exact ih (i + 1)
/-- A row that is written over, from its head on. -/
def over {α : Type} (t l : List α) (i : Nat) : List α := t.take i ++ l.drop i
theorem over_zero {α : Type} (t l : List α) : over t l 0 = l := by simp [over]
theorem over_all {α : Type} (t l : List α) (h : t.length = l.length) : over t l l.length = t := by simp [over, ← h]
theorem over_len {α : Type} (t l : List α) (i : Nat) (h : t.length = l.length) : (over t l i).length = l.length := by simp [over]; omega
theorem over_set {α : Type} (t l : List α) (d : α) (i : Nat) (h : t.length = l.length) (hi : i < l.length) : (over t l i).set i (t.getD i d) = over t l (i + 1) := by
  unfold over
  have e : (t.take i).length = i := by simp; omega
  rw [take_getD t d i (by omega), List.set_append_right i (t.getD i d) (by omega), e, Nat.sub_self, List.drop_eq_getElem_cons hi, List.set_cons_zero, List.append_assoc]
  rfl
theorem one_lt (n : Nat) : ((1 : Int) + (n : Int) < 0) = False := by simp; omega
theorem one_lt2 (n m : Nat) : ((1 : Int) + (n : Int) + (m : Int) < 0) = False := by simp; omega
/-- Bools as bits. -/
def bmask : List Bool → Nat
  | [] => 0
  | b :: l => (if b = true then 1 else 0) + 2 * bmask l
theorem or_add {m i : Nat} (h : m < 2 ^ i) : m ||| 2 ^ i = m + 2 ^ i := or_pow (Nat.testBit_lt_two_pow h)
theorem wt_mod (l : List Int) (b n : Nat) (h : l.length ≤ n) : wt l (b % 2 ^ n) = wt l b := by
  induction l generalizing b n with
  | nil => rfl
  | cons x l ih =>
    obtain ⟨n, rfl⟩ : ∃ m, n = m + 1 := ⟨n - 1, by simp at h; omega⟩
    have e1 : b % 2 ^ (n + 1) % 2 = b % 2 := by
      rw [Nat.pow_succ, Nat.mul_comm, Nat.mod_mul_right_mod]
    have e2 : b % 2 ^ (n + 1) / 2 = b / 2 % 2 ^ n := by
      rw [Nat.pow_succ, Nat.mul_comm, Nat.mod_mul_right_div_self]
    rw [wt, wt, e1, e2, ih (b / 2) n (by simp at h; omega)]
end Go.Proofs.Ytokelcedamegbaa.P

/- How two numbers and two lists compare. No program in sight. -/
namespace Go.Proofs.Ytokelcedamegbaa.P
def cmpI (x y : Int) : Int := if x < y then -1 else if x > y then 1 else 0
/-- How two lists compare: -1, 0 or 1. -/
def lexc : List Int → List Int → Int
  | [], [] => 0
  | [], _ :: _ => -1
  | _ :: _, [] => 1
  | x :: a, y :: b => if cmpI x y = 0 then lexc a b else cmpI x y
theorem cmpI_swap (x y : Int) : cmpI y x = - cmpI x y := by
  unfold cmpI
  repeat' split
  all_goals omega
theorem cmpI_zero {x y : Int} : cmpI x y = 0 ↔ x = y := by
  unfold cmpI
  repeat' split
  all_goals constructor
  all_goals intro h
  all_goals omega
theorem cmpI_neg {x y : Int} : cmpI x y < 0 ↔ x < y := by
  unfold cmpI
  repeat' split
  all_goals constructor
  all_goals intro h
  all_goals omega
theorem lexc_swap : ∀ a b : List Int, lexc b a = - lexc a b
  | [], [] => rfl
  | [], _ :: _ => rfl
  | _ :: _, [] => rfl
  | x :: a, y :: b => by
    rw [lexc, lexc, cmpI_swap x y, lexc_swap a b]
    by_cases h : cmpI x y = 0
    · rw [if_pos h, if_pos (by rw [h]; rfl)]
    · rw [if_neg h, if_neg (fun z => h (by omega))]
theorem lexc_zero : ∀ {a b : List Int}, lexc a b = 0 → a = b
  | [], [], _ => rfl
  | [], _ :: _, h => absurd h (by simp [lexc])
  | _ :: _, [], h => absurd h (by simp [lexc])
  | x :: a, y :: b, h => by
    rw [lexc] at h
    by_cases h0 : cmpI x y = 0
    · rw [if_pos h0] at h
      rw [cmpI_zero.1 h0, lexc_zero h]
    · rw [if_neg h0] at h
      exact absurd h h0
theorem lexc_refl : ∀ a : List Int, lexc a a = 0
  | [] => rfl
  | x :: a => by rw [lexc, if_pos (cmpI_zero.2 rfl), lexc_refl a]
theorem lexc_trans : ∀ {a b c : List Int}, lexc a b ≤ 0 → lexc b c ≤ 0 → lexc a c ≤ 0
  | [], _, [], _, _ => by decide
  | [], _, _ :: _, _, _ => by simp [lexc]
  | _ :: _, [], _, h, _ => absurd h (by simp [lexc])
  | _ :: _, _ :: _, [], _, h => absurd h (by simp [lexc])
  | x :: a, y :: b, z :: c, h, k => by
    rw [lexc] at h k ⊢
    have c1 := @cmpI_zero x y
    have c2 := @cmpI_zero y z
    have c3 := @cmpI_zero x z
    have n1 := @cmpI_neg x y
    have n2 := @cmpI_neg y z
    have n3 := @cmpI_neg x z
    by_cases h1 : cmpI x y = 0
    · rw [if_pos h1] at h
      by_cases h2 : cmpI y z = 0
      · rw [if_pos h2] at k
        rw [if_pos (c3.2 ((c1.1 h1).trans (c2.1 h2)))]
        exact lexc_trans h k
      · rw [if_neg h2] at k
        rw [if_neg (fun e => h2 (c2.2 ((c1.1 h1).symm.trans (c3.1 e))))]
        have e := c1.1 h1
        rw [e]
        exact k
    · rw [if_neg h1] at h
      by_cases h2 : cmpI y z = 0
      · rw [if_neg (fun e => h1 (c1.2 ((c3.1 e).trans (c2.1 h2).symm)))]
        rw [← c2.1 h2]
        exact h
      · rw [if_neg h2] at k
        have q1 := n1.1 (by omega)
        have q2 := n2.1 (by omega)
        have q3 := n3.2 (by omega)
        rw [if_neg (by omega)]
        omega
/-- Not after. -/
def lexL (a b : List Int) : Bool := decide (lexc a b ≤ 0)
theorem lexL_trans (a b c : List Int) (h : lexL a b = true) (k : lexL b c = true) : lexL a c = true := decide_eq_true (lexc_trans (of_decide_eq_true h) (of_decide_eq_true k))
theorem lexL_total (a b : List Int) : (lexL a b || lexL b a) = true := by
  have := lexc_swap a b
  rw [Bool.or_eq_true]
  by_cases h : lexc a b ≤ 0
  · exact .inl (decide_eq_true h)
  · exact .inr (decide_eq_true (by omega))
theorem lexL_anti {a b : List Int} (h : lexL a b = true) (k : lexL b a = true) : a = b := by
  have := lexc_swap a b
  have h := of_decide_eq_true h
  have k := of_decide_eq_true k
  exact lexc_zero (by omega)
/-- The lists in order. -/
def sorted (l : List (List Int)) : List (List Int) := l.mergeSort lexL
theorem sorted_perm (l : List (List Int)) : (sorted l).Perm l := List.mergeSort_perm l lexL
theorem sorted_pair (l : List (List Int)) : (sorted l).Pairwise (fun a b => lexL a b = true) := List.pairwise_mergeSort lexL_trans lexL_total l
theorem sorted_of {l r : List (List Int)} (hp : r.Perm l) (hs : r.Pairwise (fun a b => lexL a b = true)) : r = sorted l :=
  List.Perm.eq_of_pairwise (fun _ _ _ _ h k => lexL_anti h k) hs (sorted_pair l) (hp.trans (sorted_perm l).symm)
end Go.Proofs.Ytokelcedamegbaa.P

/- Lists put in order one by one. No program in sight. -/
namespace Go.Proofs.Ytokelcedamegbaa.P
section
variable {α : Type} (row : α → List Int)
def ltR (y x : α) : Bool := decide (lexc (row y) (row x) < 0)
/-- x put ahead of the first one that is not less. -/
def insR (x : α) (o : List α) : List α := o.takeWhile (fun y => ltR row y x) ++ x :: o.dropWhile (fun y => ltR row y x)
def istR (l : List α) : List α := l.foldl (fun o x => insR row x o) []
theorem insR_perm (x : α) (o : List α) : (insR row x o).Perm (x :: o) := by
  unfold insR
  refine List.perm_middle.trans ?_
  rw [List.takeWhile_append_dropWhile]
theorem insR_pair (x : α) (o : List α) (h : o.Pairwise (fun a b => lexL (row a) (row b) = true)) : (insR row x o).Pairwise (fun a b => lexL (row a) (row b) = true) := by
  induction o with
  | nil => simp [insR]
  | cons y o ih =>
    rw [List.pairwise_cons] at h
    by_cases c : ltR row y x = true
    · have e : insR row x (y :: o) = y :: insR row x o := by
        unfold insR
        rw [List.takeWhile_cons_of_pos (by exact c), List.dropWhile_cons_of_pos (by exact c)]
        rfl
      rw [e, List.pairwise_cons]
      refine ⟨fun z hz => ?_, ih h.2⟩
      rcases List.mem_cons.1 ((insR_perm row x o).mem_iff.1 hz) with rfl | hz
      · have := of_decide_eq_true c
        exact decide_eq_true (by omega)
      · exact h.1 z hz
    · have e : insR row x (y :: o) = x :: y :: o := by
        unfold insR
        rw [List.takeWhile_cons_of_neg (by exact c), List.dropWhile_cons_of_neg (by exact c)]
        rfl
      rw [e, List.pairwise_cons]
      have c' : ¬ lexc (row y) (row x) < 0 := fun z => c (decide_eq_true z)
      have s := lexc_swap (row y) (row x)
      have hxy : lexL (row x) (row y) = true := decide_eq_true (by omega)
      refine ⟨fun z hz => ?_, List.pairwise_cons.2 h⟩
      rcases List.mem_cons.1 hz with rfl | hz
      · exact hxy
      · exact lexL_trans _ _ _ hxy (h.1 z hz)
theorem istR_from (l o : List α) (h : o.Pairwise (fun a b => lexL (row a) (row b) = true)) : (l.foldl (fun o x => insR row x o) o).Perm (l ++ o) ∧ (l.foldl (fun o x => insR row x o) o).Pairwise (fun a b => lexL (row a) (row b) = true) := by
  induction l generalizing o with
  | nil => exact ⟨List.Perm.refl _, h⟩
  | cons x l ih =>
    rw [List.foldl_cons]
    obtain ⟨h1, h2⟩ := ih (insR row x o) (insR_pair row x o h)
    refine ⟨h1.trans ?_, h2⟩
    refine (List.Perm.append_left l (insR_perm row x o)).trans ?_
    rw [List.cons_append]
    exact List.perm_middle
theorem istR_perm (l : List α) : (istR row l).Perm l := by have := (istR_from row l [] List.Pairwise.nil).1; rwa [List.append_nil] at this
theorem istR_pair (l : List α) : (istR row l).Pairwise (fun a b => lexL (row a) (row b) = true) := (istR_from row l [] List.Pairwise.nil).2
/-- .. told by rows: the rows in order. -/
theorem istR_rows (l : List α) : (istR row l).map row = sorted (l.map row) := by
  refine sorted_of ((istR_perm row l).map row) ?_
  rw [List.pairwise_map]
  exact istR_pair row l
theorem tw_spec (p : α → Bool) (d : α) (o : List α) : (∀ j, j < (o.takeWhile p).length → p (o.getD j d) = true) ∧ ((o.takeWhile p).length < o.length → p (o.getD (o.takeWhile p).length d) = false) ∧ o.takeWhile p = o.take (o.takeWhile p).length ∧ o.dropWhile p = o.drop (o.takeWhile p).length ∧ (o.takeWhile p).length ≤ o.length := by
  induction o with
  | nil => exact ⟨fun j h => absurd h (by simp), fun h => absurd h (by simp), rfl, rfl, Nat.le_refl _⟩
  | cons y o ih =>
    obtain ⟨h1, h2, h3, h4, h5⟩ := ih
    by_cases c : p y = true
    · rw [List.takeWhile_cons_of_pos c, List.dropWhile_cons_of_pos c, List.length_cons, List.length_cons]
      refine ⟨fun j hj => ?_, fun hj => ?_, ?_, ?_, by omega⟩
      · cases j with
        | zero => exact c
        | succ j => rw [List.getD_cons_succ]; exact h1 j (by omega)
      · rw [List.getD_cons_succ]; exact h2 (by omega)
      · rw [List.take_succ_cons, ← h3]
      · rw [List.drop_succ_cons, ← h4]
    · rw [List.takeWhile_cons_of_neg c, List.dropWhile_cons_of_neg c, List.length_nil]
      refine ⟨fun j hj => absurd hj (by omega), fun _ => ?_, rfl, rfl, Nat.zero_le _⟩
      rw [List.getD_cons_zero]
      exact Bool.eq_false_iff.2 c
end
end Go.Proofs.Ytokelcedamegbaa.P

/- A call of a function value that has its first arguments already (a method value). No program in sight. -/
namespace Go.Proofs.Ytokelcedamegbaa.P
open Go.RowKit Go.Proofs.YtokelcedamegbaaW.PrintWords Go.Proofs.YtokelcedamegbaaW.PrintLast Go.Proofs.YtokelcedamegbaaW.PrintMore
section
variable {P : Program} {ops : Array Oper} {Q : Exit → Act → World → Prop}
theorem run_fnB {oi : Oper} {a : Act} {w : World} {g : FuncId} {bd lb : Array Value} {t : Tmp} {ao : Array Operand} {ts : Array TypeId} (eg : ∀ (args : Array Value) (w : World), (callFunc g args).run P w = .ok (.enter g args) w) (args : Array Value)
    (hop : oi.op = .call { callee := .value (.tmp t), args := ao, argTypes := ts }) (hfn : a.eval (.tmp t) = .func (.func g) bd lb) (hargs : ao.map a.eval = args) : (execOp a.eval oi).run P w = .ok (.enter g ((bd ++ args) ++ lb)) w := by
  unfold execOp
  simp [hop, resolve, Deferred.ofValue, invoke, hfn, hargs, eg]
theorem goesFB_ {rest : List Oper} {oi : Oper} {a : Act} {w : World} (N : Option Tmp) (hd : oi.dst = N) (hg : oi.guard = none) {g : FuncId} {bd lb : Array Value} {t : Tmp} {ao : Array Operand} {ts : Array TypeId} (eg : ∀ (args : Array Value) (w : World), (callFunc g args).run P w = .ok (.enter g args) w) (args : Array Value)
    (hop : oi.op = .call { callee := .value (.tmp t), args := ao, argTypes := ts }) (hfn : a.eval (.tmp t) = .func (.func g) bd lb) (hargs : ao.map a.eval = args)
    (h : Calls P g ((bd ++ args) ++ lb) w fun e w' => ∃ v, e = .returned v ∧ wpList P ops Q rest (a.put N v) w') : wpList P ops Q (oi :: rest) a w := by
  refine wpList_plain hg fun K hK => ?_
  have hrun := run_fnB (w := w) eg args hop hfn hargs
  unfold Oper.wp
  rw [hrun, Oper.upon_enter]
  refine h.mono fun e w'' hh => ?_
  obtain ⟨v, rfl, hk⟩ := hh
  subst hd
  exact hK _ _ hk
end
end Go.Proofs.Ytokelcedamegbaa.P

/- From a datum's reading to a value that the printed contracts speak of: kind by kind. No program in sight. -/
namespace Go.Proofs.Ytokelcedamegbaa.P
open Go.RowKit Go.ChangeShapes Go.WideShapes Go.Proofs.YtokelcedamegbaaW.PrintWords Go.Proofs.YtokelcedamegbaaW.PrintLast Go.Proofs.YtokelcedamegbaaW.PrintMore
def okI (x : Int) : Prop := -9223372036854775808 ≤ x ∧ x ≤ 9223372036854775807
def okL {α : Type} (Ok : α → Prop) (l : List α) : Prop := l.length ≤ 9223372036854775807 ∧ ∀ x ∈ l, Ok x
structure Opens {α : Type} (P : Program) (T : TypeId) (d : Kd α) (Ok : α → Prop) : Prop where
  go : ∀ {H : Type} (enc : TypeId × Value → H) (w : World) (fuel : Nat) (cs : List Value) (x : DataW H × List MemPlace),
    DataW.trod enc P w 0 (fun _ => true) true fuel T cs = some x → ∃ a, d.K w a cs ∧ Ok a
theorem Opens.int {P : Program} {T : TypeId} (h : P.underlying T = some (.int .i64)) : Opens P T (Kd.int .i64) okI := by
  refine ⟨fun enc w fuel cs x hx => ?_⟩
  obtain ⟨n, rfl, _, hw⟩ := DataW.trod_int h hx
  refine ⟨n, rfl, ?_⟩
  have hmin : IntKind.i64.min = -9223372036854775808 := rfl
  have hmax : IntKind.i64.max = 9223372036854775807 := rfl
  simp only [Lit.wf, Bool.and_eq_true, decide_eq_true_eq] at hw
  unfold okI
  omega
theorem cells_get {w : World} {a : Addr} {n : Nat} {cs : List Value} (h : w.cells? 0 a n = some cs) : cs.length = n ∧ ∀ j u, cs[j]? = some u → w.cell? (a.add j) = some u := by
  unfold World.cells? at h
  rw [if_pos (Nat.zero_le _)] at h
  have key : ∀ (l : List Nat) (r : List Value), l.mapM (fun i => w.cell? (a.add i)) = some r → r.length = l.length ∧ ∀ (j : Nat) (u : Value) (i : Nat), r[j]? = some u → l[j]? = some i → w.cell? (a.add i) = some u := by
    intro l
    induction l with
    | nil => intro r hr; simp at hr; subst hr; simp
    | cons i l ih =>
      intro r hr
      simp only [List.mapM_cons, Option.bind_eq_bind, Option.bind_eq_some_iff] at hr
      obtain ⟨v, hv, r', hr', he⟩ := hr
      have he' : v :: r' = r := by simpa using he
      subst he'
      obtain ⟨h1, h2⟩ := ih r' hr'
      refine ⟨by simp [h1], fun j u k hj hk => ?_⟩
      cases j with
      | zero => simp at hj hk; subst hj; subst hk; exact hv
      | succ j => simp at hj hk; exact h2 j u k hj hk
  obtain ⟨h1, h2⟩ := key _ _ h
  refine ⟨by simpa using h1, fun j u hj => ?_⟩
  have hlt : j < cs.length := (List.getElem?_eq_some_iff.1 hj).1
  exact h2 j u j hj (by rw [List.getElem?_range (by simpa [h1] using hlt)])
theorem add_add_ (a : Addr) (i j : Nat) : (a.add i).add j = a.add (i + j) := Go.Deep.add_add a i j
theorem Opens.slice {α : Type} {P : Program} {T e : TypeId} {d : Kd α} {Ok : α → Prop} (h : P.underlying T = some (.slice e)) (hc : P.cellsOf e = d.sz) (hd : Opens P e d Ok) : Opens P T (Kd.slice e d) (okL Ok) := by
  refine ⟨fun enc w fuel cs x hx => ?_⟩
  rcases Go.Deep.open_slice h hx with ⟨rfl, _⟩ | ⟨a, len, cap, m, n, D, Pl, rfl, _, hl, hm, hmm, _, hel⟩
  · exact ⟨[], ⟨none, 0, rfl, Nat.le_refl _, Kd.C_nil _ _⟩, by simp, by simp⟩
  · have hm' : m = cap := by simpa using hmm
    subst hm'
    have hex : ∀ i, i < len → ∃ y : α × List Value, y.2.length = d.sz ∧ d.K w y.1 y.2 ∧ Ok y.1 ∧ ∀ j u, y.2[j]? = some u → w.cell? (a.add (i * d.sz + j)) = some u := by
      intro i hi
      obtain ⟨cs', h1, h2⟩ := hel i (by omega)
      rw [hc] at h1
      obtain ⟨hlen, hcell⟩ := cells_get h1
      obtain ⟨y, hy, ho⟩ := hd.go enc w n cs' _ h2
      exact ⟨(y, cs'), hlen, hy, ho, fun j u hj => by rw [← add_add_]; exact hcell j u hj⟩
    by_cases h0 : len = 0
    · subst h0
      exact ⟨[], ⟨some a, _, rfl, Nat.zero_le _, rfl, by simp, fun h => absurd h (Nat.lt_irrefl 0)⟩, by simp, by simp⟩
    · obtain ⟨y0, _⟩ := hex 0 (by omega)
      have : Inhabited (α × List Value) := ⟨y0⟩
      obtain ⟨f, hf⟩ := Go.Deep.choose_lt (α := α × List Value) hex
      have hlen : ((List.range len).map fun i => (f i).1).length = len := by simp
      have hget : ∀ j p, ((List.range len).map fun i => (f i).1)[j]? = some p → j < len ∧ p = (f j).1 := by
        intro j p hj
        obtain ⟨hlt, he⟩ := List.getElem?_eq_some_iff.1 hj
        simp at hlt he
        exact ⟨hlt, he.symm⟩
      refine ⟨(List.range len).map fun i => (f i).1, ⟨some a, m, by rw [hlen], by rw [hlen]; exact hl, by rw [hlen], by rw [hlen]; unfold maxLen at hm; omega, fun _ => ⟨a, rfl, fun j p hj => ?_⟩⟩, ?_, ?_⟩
      · obtain ⟨hlt, rfl⟩ := hget j p hj
        obtain ⟨h1, h2, _, h3⟩ := hf j hlt
        exact ⟨(f j).2, h1, h2, h3⟩
      · rw [hlen]; unfold maxLen at hm; omega
      · intro p hp
        obtain ⟨j, hj⟩ := List.mem_iff_getElem?.1 hp
        obtain ⟨hlt, rfl⟩ := hget j p hj
        exact (hf j hlt).2.2.1
theorem Opens.struct2 {α β γ : Type} {P : Program} {T : TypeId} {f0 f1 : Field} {d0 : Kd α} {d1 : Kd β} {Ok0 : α → Prop} {Ok1 : β → Prop} {F : γ → α × β} (h : P.underlying T = some (.struct #[f0, f1]))
    (o0 : f0.offset = 0) (s0 : P.cellsOf f0.type = d0.sz) (o1 : f1.offset = d0.sz) (s1 : P.cellsOf f1.type = d1.sz) (sT : P.cellsOf T = d0.sz + d1.sz)
    (h0 : Opens P f0.type d0 Ok0) (h1 : Opens P f1.type d1 Ok1) (sur : ∀ p, ∃ x, F x = p) : Opens P T (Kd.iso (Kd.pair d0 d1) F) (fun x => Ok0 (F x).1 ∧ Ok1 (F x).2) := by
  refine ⟨fun enc w fuel cs x hx => ?_⟩
  obtain ⟨y0, y1, n, _, hlen, r0, r1⟩ := trod_struct2 h hx
  rw [o0, s0, List.drop_zero] at r0
  rw [o1, s1] at r1
  obtain ⟨a0, k0, p0⟩ := h0.go enc w n _ _ r0
  obtain ⟨a1, k1, p1⟩ := h1.go enc w n _ _ r1
  obtain ⟨z, hz⟩ := sur (a0, a1)
  refine ⟨z, ?_, by rw [hz]; exact ⟨p0, p1⟩⟩
  show (Kd.pair d0 d1).K w (F z) cs
  rw [hz]
  refine ⟨_, _, ?_, k0, k1⟩
  rw [List.take_of_length_le (l := cs.drop d0.sz) (by rw [List.length_drop]; omega), List.take_append_drop]
/-- A struct's value: an aggregate of its cells, read as x. -/
theorem open_agg_ {α : Type} {H : Type} {enc : TypeId × Value → H} {P : Program} {w : World} {r : Reach} {b0 : Nat} {T : TypeId} {fs : Array Field} {d : Kd α} {Ok : α → Prop} {v : Value} {y : DataW H} {p : List MemPlace}
    (h : P.underlying T = some (.struct fs)) (ho : Opens P T d Ok) (hv : Value.okWide P w r b0 T v) (hd : DataW.Trod enc P w 0 (fun _ => true) true T v y p) : ∃ cs x, v = .agg cs ∧ d.K w x cs.toList ∧ Ok x := by
  obtain ⟨cs, rfl, _⟩ := okWide_struct h hv
  obtain ⟨fuel, hf⟩ := hd
  obtain ⟨x, hx, hok⟩ := ho.go enc w fuel _ _ hf
  exact ⟨cs, x, rfl, by simpa [Value.cells] using hx, hok⟩
theorem open_row_ {α : Type} {H : Type} {enc : TypeId × Value → H} {P : Program} {w : World} {r : Reach} {b0 : Nat} {T e : TypeId} {d : Kd α} {Ok : α → Prop} {v : Value} {y : DataW H} {p : List MemPlace}
    (h : P.underlying T = some (.slice e)) (ho : Opens P T (Kd.slice e d) (okL Ok)) (hv : Value.okWide P w r b0 T v) (hd : DataW.Trod enc P w 0 (fun _ => true) true T v y p) : ∃ (A : Option Addr) (c : Nat) (l : List α), v = .slice A l.length c ∧ l.length ≤ c ∧ d.C w A l.length l ∧ okL Ok l := by
  obtain ⟨a, len, cap, rfl⟩ := okWide_slice h hv
  obtain ⟨fuel, hf⟩ := hd
  obtain ⟨l, ⟨A, c, he, hl, hc⟩, hok⟩ := ho.go enc w fuel _ _ hf
  have he' : Value.slice a len cap = .slice A l.length c := by simpa [Value.cells] using he
  exact ⟨A, c, l, he', hl, hc, hok⟩
end Go.Proofs.Ytokelcedamegbaa.P

namespace Go.Proofs.Ytokelcedamegbaa.P
open Go.RowKit Go.Proofs.YtokelcedamegbaaW.PrintWords Go.Proofs.YtokelcedamegbaaW.PrintLast Go.Proofs.YtokelcedamegbaaW.PrintMore
def ok_laws_Committee (x : S_laws_Committee) : Prop := okI x.f0 ∧ (okL okI) x.f1
theorem op_laws_Committee : Opens Try.prog 42 k_laws_Committee ok_laws_Committee :=
  Opens.struct2 (F := fun x : S_laws_Committee => (x.f0, x.f1)) Try.underlying42 rfl (by kernel_rfl) rfl (by kernel_rfl) (by kernel_rfl) (Opens.int Try.underlying3) (Opens.slice Try.underlying40 (by kernel_rfl) (Opens.int Try.underlying3)) (fun p => ⟨⟨p.1, p.2⟩, rfl⟩)
end Go.Proofs.Ytokelcedamegbaa.P

/- Plain laws of the printed functions on committees: what each answers. -/
namespace Go.Proofs.Ytokelcedamegbaa.P
open Go.RowKit Go.Proofs.YtokelcedamegbaaW.PrintWords Go.Proofs.YtokelcedamegbaaW.PrintLast Go.Proofs.YtokelcedamegbaaW.PrintMore
theorem impl_within.eq (a b c : Int) : impl_within.f a b c = some (inI b c a) := by
  unfold impl_within.f inI
  by_cases h : a ≥ b
  · have h' : b ≤ a := h
    simp [h']
  · have h' : ¬ b ≤ a := h
    simp [h']
theorem spec_l1In.eq (a b c : Int) : spec_l1In.f a b c = some (inI b c a) := by
  unfold spec_l1In.f inI
  by_cases h : a ≥ b
  · have h' : b ≤ a := h
    simp [h']
  · have h' : ¬ b ≤ a := h
    simp [h']
theorem impl_sumOf.ev (l : List Int) (hm : l.length ≤ 9223372036854775807) : Ev (fun k => impl_sumOf.f k l) (wsum l) := by
  have key := Ev.down (G := fun i k => impl_sumOf.l0 k ((l.take i).foldl (fun s x => wrap64 (s + x)) 0) l (l.length : Int) (i : Int)) (R := fun _ => wsum l) l.length
    (by refine Ev.shift ?_
        simp only [impl_sumOf.l0, Int.lt_irrefl, ↓reduceIte, List.take_length]
        exact Ev.some)
    (fun i hi ih => by
        refine Ev.shift ?_
        have c1 : (i : Int) < (l.length : Int) := by omega
        have c0 : (0 : Int) ≤ (i : Int) := by omega
        simp only [impl_sumOf.l0, c1, c0, ↓reduceIte, w1 hi hm, rd_nat]
        rw [foldl_take _ _ l 0 i hi] at ih
        exact ih)
  exact key 0 (Nat.zero_le _)
theorem spec_voSum.ev (l : List Int) (hm : l.length ≤ 9223372036854775807) : Ev (fun k => spec_voSum.f k l) (wsum l) := by
  have key := Ev.down (G := fun i k => spec_voSum.l0 k ((l.take i).foldl (fun s x => wrap64 (s + x)) 0) l (l.length : Int) (i : Int)) (R := fun _ => wsum l) l.length
    (by refine Ev.shift ?_
        simp only [spec_voSum.l0, Int.lt_irrefl, ↓reduceIte, List.take_length]
        exact Ev.some)
    (fun i hi ih => by
        refine Ev.shift ?_
        have c1 : (i : Int) < (l.length : Int) := by omega
        have c0 : (0 : Int) ≤ (i : Int) := by omega
        simp only [spec_voSum.l0, c1, c0, ↓reduceIte, w1 hi hm, rd_nat]
        rw [foldl_take _ _ l 0 i hi] at ih
        exact ih)
  exact key 0 (Nat.zero_le _)
theorem isComm_eq (q : Int) (l : List Int) : isComm q l = if (1 ≤ l.length ∧ l.length ≤ 9) ∧ l.all (inI 0 1000) = true then inI 1 (wsum l) q else false := by
  unfold isComm
  by_cases h : (1 ≤ l.length ∧ l.length ≤ 9) ∧ l.all (inI 0 1000) = true
  · have hm : ∀ x ∈ l, 0 ≤ x ∧ x ≤ 1000 := by
      have := h.2
      simp [inI] at this
      exact this
    rw [if_pos h, wsum_eq l hm (by omega)]
    simp only [h.1.1, h.1.2, h.2, decide_true, Bool.true_and]
  · rw [if_neg h]
    by_cases h1 : 1 ≤ l.length
    · by_cases h2 : l.length ≤ 9
      · have h3 : l.all (inI 0 1000) = false := by
          cases h4 : l.all (inI 0 1000) with
          | true => exact absurd ⟨⟨h1, h2⟩, h4⟩ h
          | false => rfl
        simp only [h3, Bool.and_false, Bool.false_and]
      · simp only [h2, decide_false, Bool.and_false, Bool.false_and]
    · simp only [h1, decide_false, Bool.false_and]
theorem slices_IndexFunc_int_int.ev (l : List Int) (hm : l.length ≤ 9223372036854775807) (p : Nat → Int → Option Bool) (P : Int → Bool) (h : ∀ x ∈ l, Ev (fun k => p k x) (P x)) : Ev (fun k => slices_IndexFunc_int_int.f k l (p k)) (idxFrom P 0 l) := by
  refine Ev.ask (F := fun k q => slices_IndexFunc_int_int.f k l q) l h ⟨l.length + 1, fun k hk q hq => ?_⟩
  unfold slices_IndexFunc_int_int.f
  have := downq (G := fun i k => slices_IndexFunc_int_int.l0 k l q (l.length : Int) (i : Int)) (R := fun i => idxFrom P i (l.drop i)) l.length
    (by intro k; simp only [slices_IndexFunc_int_int.l0, Int.lt_irrefl, ↓reduceIte, List.drop_length, idxFrom])
    (fun i hi k ih => by
      have c1 : (i : Int) < (l.length : Int) := by omega
      have c0 : (0 : Int) ≤ (i : Int) := by omega
      simp only [slices_IndexFunc_int_int.l0, c1, c0, ↓reduceIte, w1 hi hm, rd_nat, hq _ (getD_mem l 0 i hi), Option.bind_some]
      rw [drop_getD l 0 i hi, idxFrom, ih]
      split <;> rfl) 0 (Nat.zero_le _) k (by omega)
  rwa [List.drop_zero] at this
theorem slices_ContainsFunc_int_int.ev (l : List Int) (hm : l.length ≤ 9223372036854775807) (p : Nat → Int → Option Bool) (P : Int → Bool) (h : ∀ x ∈ l, Ev (fun k => p k x) (P x)) : Ev (fun k => slices_ContainsFunc_int_int.f k l (p k)) (l.any P) := by
  unfold slices_ContainsFunc_int_int.f
  refine Ev.bind (slices_IndexFunc_int_int.ev l hm p P h) ?_
  rw [idxFrom_nn]
  exact Ev.some
theorem impl_areIn.ev (l : List Int) (a b : Int) (hm : l.length ≤ 9223372036854775807) : Ev (fun k => impl_areIn.f k l a b) (l.all (inI a b)) := by
  unfold impl_areIn.f
  refine Ev.bind (slices_ContainsFunc_int_int.ev l hm (fun _ x => impl_areIn_1.f x a b) (fun x => !inI a b x) (fun x _ => ?_)) ?_
  · simp only [impl_areIn_1.f, impl_within.eq, Option.bind_some]; exact Ev.some
  · rw [all_any]; exact Ev.some
theorem impl_IsCommittee.ev (q : Int) (l : List Int) (hm : l.length ≤ 9223372036854775807) : Ev (fun k => impl_IsCommittee.f k q l) (isComm q l) := by
  rw [isComm_eq]
  unfold impl_IsCommittee.f
  by_cases h1 : 1 ≤ l.length
  · have c1 : (l.length : Int) ≥ 1 := by omega
    by_cases h2 : l.length ≤ 9
    · have c2 : (l.length : Int) ≤ 9 := by omega
      simp only [c1, c2, h1, h2, ↓reduceIte, and_self, true_and]
      refine Ev.bind (impl_areIn.ev l 0 1000 hm) ?_
      by_cases h3 : l.all (inI 0 1000) = true
      · simp only [h3, ↓reduceIte]
        refine Ev.bind (impl_sumOf.ev l hm) ?_
        simp only [impl_within.eq, Option.bind_some]
        exact Ev.some
      · simp only [h3]
        exact Ev.some
    · have c2 : ¬ (l.length : Int) ≤ 9 := by omega
      simp only [c1, c2, h2, ↓reduceIte, and_false, false_and]
      exact Ev.some
  · have c1 : ¬ (l.length : Int) ≥ 1 := by omega
    simp only [c1, h1, ↓reduceIte, false_and]
    exact Ev.some
theorem spec_l1All.ev (l : List Int) (a b : Int) (hm : l.length ≤ 9223372036854775807) : Ev (fun k => spec_l1All.f k l a b) (l.all (inI a b)) := by
  have key := Ev.down (G := fun i k => spec_l1All.l0 k a b l (l.length : Int) (i : Int)) (R := fun i => (l.drop i).all (inI a b)) l.length
    (by refine Ev.shift ?_
        simp only [spec_l1All.l0, Int.lt_irrefl, ↓reduceIte, List.drop_length, List.all_nil]
        exact Ev.some)
    (fun i hi ih => by
        refine Ev.shift ?_
        have c1 : (i : Int) < (l.length : Int) := by omega
        have c0 : (0 : Int) ≤ (i : Int) := by omega
        simp only [spec_l1All.l0, c1, c0, ↓reduceIte, w1 hi hm, rd_nat, spec_l1In.eq, Option.bind_some]
        rw [drop_getD l 0 i hi, List.all_cons]
        cases h : inI a b (l.getD i 0) with
        | true => simp only [↓reduceIte, Bool.true_and]; exact ih
        | false => simp only [Bool.false_eq_true, ↓reduceIte, Bool.false_and]; exact Ev.some)
  exact key 0 (Nat.zero_le _)
theorem spec_voGood.ev (q : Int) (l : List Int) (hm : l.length ≤ 9223372036854775807) : Ev (fun k => spec_voGood.f k q l) (isComm q l) := by
  rw [isComm_eq]
  unfold spec_voGood.f
  simp only [spec_l1In.eq, Option.bind_some]
  have e : inI 1 9 (l.length : Int) = decide (1 ≤ l.length ∧ l.length ≤ 9) := by
    unfold inI; rw [Bool.eq_iff_iff]; simp; omega
  rw [e]
  by_cases h : 1 ≤ l.length ∧ l.length ≤ 9
  · simp only [h, decide_true, ↓reduceIte, and_self, true_and]
    refine Ev.bind (spec_l1All.ev l 0 1000 hm) ?_
    refine Ev.shift ?_
    by_cases h3 : l.all (inI 0 1000) = true
    · simp only [spec_voGood.j0, h3, Bool.not_true, Bool.false_eq_true, ↓reduceIte]
      refine Ev.bind (spec_voSum.ev l hm) ?_
      simp only [spec_l1In.eq, Option.bind_some]
      exact Ev.some
    · have h4 : l.all (inI 0 1000) = false := by simpa using h3
      simp only [spec_voGood.j0, h4, Bool.not_false, Bool.false_eq_true, ↓reduceIte]
      exact Ev.some
  · simp only [h, decide_false, Bool.false_eq_true, ↓reduceIte, false_and]
    refine Ev.shift ?_
    simp only [spec_voGood.j0, ↓reduceIte]
    exact Ev.some
/-! ### the law's own words -/
theorem laws_toIntS.ev (l : List Int) (hm : l.length ≤ 1048576) : Ev (fun k => laws_toIntS.f k l) l := by
  unfold laws_toIntS.f
  have c1 : (0 : Int) ≤ (l.length : Int) := by omega
  have c2 : l.length ≤ 35184372088832 := by omega
  simp only [c1, c2, ↓reduceIte, Int.toNat_natCast]
  have key := Ev.down (G := fun i k => laws_toIntS.l0 k l (filled l 0 i) (i : Int)) (R := fun _ => l) l.length
    (by refine Ev.shift ?_
        simp only [laws_toIntS.l0, Int.lt_irrefl, ↓reduceIte, filled_all]
        exact Ev.some)
    (fun i hi ih => by
        refine Ev.shift ?_
        have c1 : (i : Int) < (l.length : Int) := by omega
        have c0 : (0 : Int) ≤ (i : Int) := by omega
        simp only [laws_toIntS.l0, filled_len l 0 i (by omega), c1, c0, ↓reduceIte, w1 hi (by omega), rd_nat, Int.toNat_natCast, filled_set l 0 0 i hi]
        exact ih)
  have := key 0 (Nat.zero_le _)
  rw [filled_zero] at this
  exact this
theorem laws_toCommittee.ev (q : Int) (l : List Int) (hm : l.length ≤ 1048576) : Ev (fun k => laws_toCommittee.f k q l) (q, l) := by
  unfold laws_toCommittee.f
  exact Ev.bind (laws_toIntS.ev l hm) Ev.some
theorem laws_eqIntS.ev (l : List Int) (hm : l.length ≤ 9223372036854775807) : Ev (fun k => laws_eqIntS.f k l l) true := by
  unfold laws_eqIntS.f
  simp only [↓reduceIte]
  have key := Ev.down (G := fun i k => laws_eqIntS.l0 k l l (i : Int)) (R := fun _ => true) l.length
    (by refine Ev.shift ?_
        simp only [laws_eqIntS.l0, Int.lt_irrefl, ↓reduceIte]
        exact Ev.some)
    (fun i hi ih => by
        refine Ev.shift ?_
        have c1 : (i : Int) < (l.length : Int) := by omega
        have c0 : (0 : Int) ≤ (i : Int) := by omega
        simp only [laws_eqIntS.l0, c1, c0, ↓reduceIte, w1 hi hm]
        exact ih)
  exact key 0 (Nat.zero_le _)
theorem laws_eqCommittee.ev (q : Int) (l : List Int) (hm : l.length ≤ 9223372036854775807) : Ev (fun k => laws_eqCommittee.f k q l q l) true := by
  unfold laws_eqCommittee.f
  simp only [↓reduceIte]
  refine Ev.bind (laws_eqIntS.ev l hm) ?_
  simp only [↓reduceIte]
  exact Ev.some
/-- What is left of the size that is let by. -/
theorem laws_szIntS.eq (l : List Int) (n : Int) (hm : l.length ≤ 9223372036854775807) (h0 : 0 ≤ n) (h1 : n ≤ 1048576) : laws_szIntS.f l n = some (if n < l.length then -1 else n - l.length) := by
  unfold laws_szIntS.f
  rw [w64 (by omega) (by omega)]
  by_cases h : n < l.length
  · rw [if_pos (by omega), if_pos h]
  · rw [if_neg (by omega), if_neg h]
theorem laws_szCommittee.eq (q : Int) (l : List Int) (n : Int) (hm : l.length ≤ 9223372036854775807) (h0 : 0 ≤ n) (h1 : n ≤ 1048576) : laws_szCommittee.f q l n = some (if n < l.length then -1 else n - l.length) := by
  unfold laws_szCommittee.f
  rw [laws_szIntS.eq l n hm h0 h1, Option.bind_some]
  by_cases h : n < l.length
  · rw [if_pos h, if_pos (by omega)]
  · rw [if_neg h, if_neg (by omega)]
end Go.Proofs.Ytokelcedamegbaa.P

/- Plain laws of the printed functions on lists of committees. -/
namespace Go.Proofs.Ytokelcedamegbaa.P
open Go.RowKit Go.Proofs.YtokelcedamegbaaW.PrintWords Go.Proofs.YtokelcedamegbaaW.PrintLast Go.Proofs.YtokelcedamegbaaW.PrintMore
def conv (x : S_laws_Committee) : S_impl_Committee := ⟨x.f0, x.f1⟩
def good (x : S_impl_Committee) : Bool := isComm x.f0 x.f1
/-- How many members committees have together. -/
def heads (xs : List S_impl_Committee) : Int := (xs.map fun x => (x.f1.length : Int)).sum
theorem rd_impl_nat (l : List S_impl_Committee) (i : Nat) : rd_impl_Committee l (i : Int) = l.getD i z_impl_Committee := by simp [rd_impl_Committee]
theorem rd_laws_nat (l : List S_laws_Committee) (i : Nat) : rd_laws_Committee l (i : Int) = l.getD i z_laws_Committee := by simp [rd_laws_Committee]
/-- Sizes that are let by: what each holds is short. -/
theorem laws_szCommitteeS.ev (l : List S_laws_Committee) (n : Int) (hm : okL ok_laws_Committee l) (h0 : 0 ≤ n) (h1 : n ≤ 1048576) :
    ∃ r, Ev (fun k => laws_szCommitteeS.f k l n) r ∧ r ≤ n ∧ (0 ≤ r → (l.length : Int) ≤ n ∧ ∀ x ∈ l, x.f1.length ≤ 1048576) := by
  obtain ⟨hl, hx⟩ := hm
  unfold laws_szCommitteeS.f
  rw [w64 (by omega) (by omega)]
  by_cases h : n - (l.length : Int) < 0
  · refine ⟨-1, ?_, by omega, by omega⟩
    simp only [h, ↓reduceIte]
    exact Ev.some
  · simp only [h, ↓reduceIte]
    have key := back (P := fun i => ∀ a : Int, 0 ≤ a → a ≤ 1048576 → ∃ r, Ev (fun k => laws_szCommitteeS.l0 k l a (i : Int)) r ∧ r ≤ a ∧ (0 ≤ r → ∀ x ∈ l.drop i, x.f1.length ≤ 1048576)) l.length
      (by intro a ha hb
          refine ⟨a, ?_, by omega, by simp⟩
          refine Ev.shift ?_
          simp only [laws_szCommitteeS.l0, Int.lt_irrefl, ↓reduceIte]
          exact Ev.some)
      (by intro i hi ih a ha hb
          have c1 : (i : Int) < (l.length : Int) := by omega
          have c0 : (0 : Int) ≤ (i : Int) := by omega
          have ho := hx _ (getD_mem l z_laws_Committee i hi)
          have hlen := ho.2.1
          have e := laws_szCommittee.eq (l.getD i z_laws_Committee).f0 (l.getD i z_laws_Committee).f1 a hlen ha hb
          by_cases hs : a < ((l.getD i z_laws_Committee).f1.length : Int)
          · refine ⟨-1, ?_, by omega, by omega⟩
            refine Ev.shift ?_
            simp only [laws_szCommitteeS.l0, c1, c0, ↓reduceIte, rd_laws_nat, e, hs, Option.bind_some, show ((-1 : Int) < 0) from by omega]
            exact Ev.some
          · obtain ⟨r, hr, hle, hp⟩ := ih (a - ((l.getD i z_laws_Committee).f1.length : Int)) (by omega) (by omega)
            refine ⟨r, ?_, by omega, fun h0 x hxm => ?_⟩
            · refine Ev.shift ?_
              have c2 : ¬ (a - ((l.getD i z_laws_Committee).f1.length : Int) < 0) := by omega
              simp only [laws_szCommitteeS.l0, c1, c0, ↓reduceIte, rd_laws_nat, e, hs, Option.bind_some, c2, w1 hi hl]
              exact hr
            · rw [drop_getD l z_laws_Committee i hi] at hxm
              rcases List.mem_cons.1 hxm with rfl | hxm
              · omega
              · exact hp h0 x hxm)
    obtain ⟨r, hr, hle, hp⟩ := key 0 (Nat.zero_le _) (n - l.length) (by omega) (by omega)
    exact ⟨r, hr, by omega, fun h0 => ⟨by omega, by simpa using hp h0⟩⟩
theorem laws_toCommitteeS.ev (l : List S_laws_Committee) (hl : l.length ≤ 1048576) (hx : ∀ x ∈ l, x.f1.length ≤ 1048576) : Ev (fun k => laws_toCommitteeS.f k l) (l.map conv) := by
  unfold laws_toCommitteeS.f
  have c1 : (0 : Int) ≤ (l.length : Int) := by omega
  have c2 : l.length ≤ 8796093022208 := by omega
  simp only [c1, c2, ↓reduceIte, Int.toNat_natCast]
  have el : (l.map conv).length = l.length := by simp
  have key := Ev.down (G := fun i k => laws_toCommitteeS.l0 k l (filled (l.map conv) z_impl_Committee i) (i : Int)) (R := fun _ => l.map conv) l.length
    (by refine Ev.shift ?_
        simp only [laws_toCommitteeS.l0, Int.lt_irrefl, ↓reduceIte]
        rw [← el, filled_all]
        exact Ev.some)
    (fun i hi ih => by
        refine Ev.shift ?_
        have c1 : (i : Int) < (l.length : Int) := by omega
        have c0 : (0 : Int) ≤ (i : Int) := by omega
        have hd : (l.map conv).getD i z_impl_Committee = conv (l.getD i z_laws_Committee) := by
          simp [List.getD_eq_getElem?_getD, List.getElem?_eq_getElem hi]
        simp only [laws_toCommitteeS.l0, c1, c0, ↓reduceIte, rd_laws_nat]
        refine Ev.bind (laws_toCommittee.ev _ _ (hx _ (getD_mem l z_laws_Committee i hi))) ?_
        have c3 : (i : Int) < ((filled (l.map conv) z_impl_Committee i).length : Int) := by rw [filled_len _ _ i (by omega), el]; omega
        simp only [c3, ↓reduceIte, w1 hi (show l.length ≤ 9223372036854775807 by omega), Int.toNat_natCast]
        have := filled_set (l.map conv) z_impl_Committee z_impl_Committee i (by omega)
        rw [hd] at this
        rw [show (⟨(l.getD i z_laws_Committee).f0, (l.getD i z_laws_Committee).f1⟩ : S_impl_Committee) = conv (l.getD i z_laws_Committee) from rfl, this]
        exact ih)
  have := key 0 (Nat.zero_le _)
  rw [filled_zero, el] at this
  exact this
theorem laws_eqCommitteeS.ev (l : List S_impl_Committee) (hl : l.length ≤ 9223372036854775807) (hx : ∀ x ∈ l, x.f1.length ≤ 9223372036854775807) : Ev (fun k => laws_eqCommitteeS.f k l l) true := by
  unfold laws_eqCommitteeS.f
  simp only [↓reduceIte]
  have key := Ev.down (G := fun i k => laws_eqCommitteeS.l0 k l l (i : Int)) (R := fun _ => true) l.length
    (by refine Ev.shift ?_
        simp only [laws_eqCommitteeS.l0, Int.lt_irrefl, ↓reduceIte]
        exact Ev.some)
    (fun i hi ih => by
        refine Ev.shift ?_
        have c1 : (i : Int) < (l.length : Int) := by omega
        have c0 : (0 : Int) ≤ (i : Int) := by omega
        simp only [laws_eqCommitteeS.l0, c1, c0, ↓reduceIte, rd_impl_nat]
        refine Ev.bind (laws_eqCommittee.ev _ _ (hx _ (getD_mem l z_impl_Committee i hi))) ?_
        simp only [↓reduceIte, w1 hi hl]
        exact ih)
  exact key 0 (Nat.zero_le _)
theorem good_len {x : S_impl_Committee} (h : good x = true) : 1 ≤ x.f1.length ∧ x.f1.length ≤ 9 := isComm_len h
theorem heads_cons (x : S_impl_Committee) (xs : List S_impl_Committee) : heads (x :: xs) = x.f1.length + heads xs := by simp [heads]
theorem heads_bounds (xs : List S_impl_Committee) (h : xs.all good = true) : (xs.length : Int) ≤ heads xs ∧ heads xs ≤ 9 * xs.length := by
  induction xs with
  | nil => simp [heads]
  | cons x xs ih =>
    rw [List.all_cons, Bool.and_eq_true] at h
    have h1 := good_len h.1
    have h2 := ih h.2
    rw [heads_cons]
    simp only [List.length_cons]
    omega
theorem spec_chMembers.ev (xs : List S_impl_Committee) (hl : xs.length ≤ 1048576) (hx : ∀ x ∈ xs, x.f1.length ≤ 9223372036854775807) : Ev (fun k => spec_chMembers.f k xs) (if xs.all good = true then heads xs else -1) := by
  have key := back (P := fun i => ∀ a : Int, 0 ≤ a → a ≤ 9 * i → Ev (fun k => spec_chMembers.l0 k a xs (xs.length : Int) (i : Int)) (if (xs.drop i).all good = true then a + heads (xs.drop i) else -1)) xs.length
    (by intro a h0 h1
        refine Ev.shift ?_
        simp only [spec_chMembers.l0, Int.lt_irrefl, ↓reduceIte, List.drop_length, List.all_nil, heads, List.map_nil, List.sum_nil, Int.add_zero]
        exact Ev.some)
    (by intro i hi ih a h0 h1
        refine Ev.shift ?_
        have c1 : (i : Int) < (xs.length : Int) := by omega
        have c0 : (0 : Int) ≤ (i : Int) := by omega
        simp only [spec_chMembers.l0, c1, c0, ↓reduceIte, rd_impl_nat]
        rw [drop_getD xs z_impl_Committee i hi, List.all_cons, heads_cons]
        generalize he : xs.getD i z_impl_Committee = x
        have hxl := hx x (he ▸ getD_mem xs z_impl_Committee i hi)
        refine Ev.bind (spec_voGood.ev _ _ hxl) ?_
        cases hg : good x with
        | true =>
          have hg' : isComm x.f0 x.f1 = true := hg
          have hlen := good_len hg
          simp only [hg', ↓reduceIte, Bool.true_and, w1 hi (show xs.length ≤ 9223372036854775807 by omega)]
          rw [w64 (by omega) (by omega)]
          refine Ev.eq (ih (a + x.f1.length) (by omega) (by omega)) ?_
          split <;> omega
        | false =>
          have hg' : isComm x.f0 x.f1 = false := hg
          simp only [hg', Bool.false_eq_true, ↓reduceIte, Bool.false_and]
          exact Ev.some)
  refine Ev.eq (key 0 (Nat.zero_le _) 0 (by omega) (by omega)) ?_
  rw [List.drop_zero]
  split <;> omega
end Go.Proofs.Ytokelcedamegbaa.P

/- Councils. -/
namespace Go.Proofs.Ytokelcedamegbaa.P
open Go.RowKit Go.Proofs.YtokelcedamegbaaW.PrintWords Go.Proofs.YtokelcedamegbaaW.PrintLast Go.Proofs.YtokelcedamegbaaW.PrintMore
def areCouncil (q : Int) (l : List Int) (xs : List S_impl_Committee) : Bool := isComm q l && decide (xs.length = l.length) && xs.all good && decide (heads xs ≤ 9)
theorem spec_AreCouncil.ev (q : Int) (l : List Int) (xs : List S_impl_Committee) (hl : l.length ≤ 9223372036854775807) (hl' : xs.length ≤ 1048576) (hx : ∀ x ∈ xs, x.f1.length ≤ 9223372036854775807) :
    Ev (fun k => spec_AreCouncil.f k q l xs) (areCouncil q l xs) := by
  unfold spec_AreCouncil.f areCouncil
  refine Ev.bind (spec_voGood.ev q l hl) ?_
  cases h : isComm q l with
  | false => simp only [Bool.false_eq_true, ↓reduceIte, Bool.false_and]; exact Ev.some
  | true =>
    have hlen := isComm_len h
    by_cases he : xs.length = l.length
    · have he' : (xs.length : Int) = (l.length : Int) := by omega
      simp only [he', ↓reduceIte]
      refine Ev.bind (spec_chMembers.ev xs hl' hx) ?_
      simp only [spec_l1In.eq, Option.bind_some]
      refine Ev.eq Ev.some ?_
      cases hg : xs.all good with
      | true =>
        have hb := heads_bounds xs hg
        simp only [↓reduceIte, inI, he, decide_true, Bool.true_and]
        have : (1 : Int) ≤ heads xs := by omega
        simp only [this, decide_true, Bool.true_and]
      | false => simp [inI]
    · have he' : ¬ (xs.length : Int) = (l.length : Int) := by omega
      simp only [he', he, ↓reduceIte, decide_false, Bool.and_false, Bool.false_and]
      exact Ev.some
theorem impl_AreCouncil.ev (q : Int) (l : List Int) (xs : List S_impl_Committee) (hl : l.length ≤ 9223372036854775807) (hl' : xs.length ≤ 1048576) (hx : ∀ x ∈ xs, x.f1.length ≤ 9223372036854775807) :
    Ev (fun k => impl_AreCouncil.f k q l xs) (areCouncil q l xs) := by
  have key := back (P := fun i => ∀ a : Int, 0 ≤ a → a ≤ 9 * i → Ev (fun k => impl_AreCouncil.l0 k a xs (xs.length : Int) (i : Int)) ((xs.drop i).all good && decide (a + heads (xs.drop i) ≤ 9))) xs.length
    (by intro a h0 h1
        refine Ev.shift ?_
        simp only [impl_AreCouncil.l0, Int.lt_irrefl, ↓reduceIte, List.drop_length, List.all_nil, heads, List.map_nil, List.sum_nil, Int.add_zero, Bool.true_and]
        exact Ev.some)
    (by intro i hi ih a h0 h1
        refine Ev.shift ?_
        have c1 : (i : Int) < (xs.length : Int) := by omega
        have c0 : (0 : Int) ≤ (i : Int) := by omega
        simp only [impl_AreCouncil.l0, c1, c0, ↓reduceIte, rd_impl_nat]
        rw [drop_getD xs z_impl_Committee i hi, List.all_cons, heads_cons]
        generalize he : xs.getD i z_impl_Committee = x
        have hxl := hx x (he ▸ getD_mem xs z_impl_Committee i hi)
        refine Ev.bind (impl_IsCommittee.ev _ _ hxl) ?_
        cases hg : good x with
        | true =>
          have hg' : isComm x.f0 x.f1 = true := hg
          have hlen := good_len hg
          simp only [hg', ↓reduceIte, Bool.true_and, w1 hi (show xs.length ≤ 9223372036854775807 by omega)]
          rw [w64 (by omega) (by omega)]
          refine Ev.eq (ih (a + x.f1.length) (by omega) (by omega)) ?_
          rw [show a + (x.f1.length + heads (xs.drop (i + 1))) = a + x.f1.length + heads (xs.drop (i + 1)) by omega]
        | false =>
          have hg' : isComm x.f0 x.f1 = false := hg
          simp only [hg', Bool.false_eq_true, ↓reduceIte, Bool.false_and]
          exact Ev.some)
  have k0 := key 0 (Nat.zero_le _) 0 (by omega) (by omega)
  rw [List.drop_zero, Int.zero_add] at k0
  unfold impl_AreCouncil.f areCouncil
  refine Ev.bind (impl_IsCommittee.ev q l hl) ?_
  cases h : isComm q l with
  | false =>
    simp only [Bool.false_eq_true, ↓reduceIte, Bool.false_and]
    refine Ev.shift ?_
    simp only [impl_AreCouncil.j0, ↓reduceIte]
    exact Ev.some
  | true =>
    simp only [↓reduceIte, Bool.true_and]
    refine Ev.shift ?_
    by_cases he : xs.length = l.length
    · simp only [impl_AreCouncil.j0, he, bne_self_eq_false, decide_true, Bool.false_eq_true, ↓reduceIte, Bool.true_and]
      rw [← he]
      exact k0
    · have he' : ((xs.length : Int) != (l.length : Int)) = true := by simp; omega
      simp only [impl_AreCouncil.j0, he', he, decide_false, ↓reduceIte, Bool.false_and]
      exact Ev.some
theorem areCouncil_at {q : Int} {l : List Int} {xs : List S_impl_Committee} (h : areCouncil q l xs = true) : isComm q l = true ∧ xs.length = l.length ∧ xs.all good = true ∧ heads xs ≤ 9 := by
  simp only [areCouncil, Bool.and_eq_true, decide_eq_true_eq] at h
  exact ⟨h.1.1.1, h.1.1.2, h.1.2, h.2⟩
end Go.Proofs.Ytokelcedamegbaa.P

/- A member of a set, by bits. -/
namespace Go.Proofs.Ytokelcedamegbaa.P
open Go.RowKit Go.Proofs.YtokelcedamegbaaW.PrintWords Go.Proofs.YtokelcedamegbaaW.PrintLast Go.Proofs.YtokelcedamegbaaW.PrintMore
theorem impl_has.eq (b i : Nat) (hi : i ≤ 64) (hb : b < 2 ^ 63) : impl_has.f (b : Int) (i : Int) = some (b.testBit i) := by
  have c : (0 : Int) ≤ (i : Int) := by omega
  have hd : b / 2 ^ i < 2 ^ 63 := Nat.lt_of_le_of_lt (Nat.div_le_self _ _) hb
  unfold impl_has.f
  rw [if_pos c, shr_nat b i hi, and_one _ hd, bit_nat]
  congr 1
  rcases Nat.mod_two_eq_zero_or_one (b / 2 ^ i) with h | h <;> rw [h] <;> rfl
end Go.Proofs.Ytokelcedamegbaa.P

/- Weights of a set, by bits. -/
namespace Go.Proofs.Ytokelcedamegbaa.P
open Go.RowKit Go.Proofs.YtokelcedamegbaaW.PrintWords Go.Proofs.YtokelcedamegbaaW.PrintLast Go.Proofs.YtokelcedamegbaaW.PrintMore
theorem impl_Committee_weight.ev (q : Int) (l : List Int) (b : Nat) (h : ∀ x ∈ l, 0 ≤ x ∧ x ≤ 1000) (hl : l.length ≤ 64) (hb : b < 2 ^ 63) : Ev (fun k => impl_Committee_weight.f k q l (b : Int)) (wt l b) := by
  have key := back (P := fun i => ∀ s : Int, 0 ≤ s → s ≤ 1000 * i → Ev (fun k => impl_Committee_weight.l0 k (b : Int) s l (l.length : Int) (i : Int)) (s + wt (l.drop i) (b / 2 ^ i))) l.length
    (by intro s h0 h1
        refine Ev.shift ?_
        simp only [impl_Committee_weight.l0, Int.lt_irrefl, ↓reduceIte, List.drop_length, wt, Int.add_zero]
        exact Ev.some)
    (by intro i hi ih s h0 h1
        refine Ev.shift ?_
        have c1 : (i : Int) < (l.length : Int) := by omega
        have c0 : (0 : Int) ≤ (i : Int) := by omega
        have hx := h _ (getD_mem l 0 i hi)
        simp only [impl_Committee_weight.l0, c1, c0, ↓reduceIte, impl_has.eq b i (by omega) hb, Option.bind_some, w1 hi (show l.length ≤ 9223372036854775807 by omega), rd_nat, bit_nat]
        rw [drop_getD l 0 i hi, wt, Nat.div_div_eq_div_mul, show (2 ^ i * 2 : Nat) = 2 ^ (i + 1) from rfl]
        by_cases hbit : b / 2 ^ i % 2 = 1
        · simp only [hbit, decide_true, ↓reduceIte]
          rw [w64 (by omega) (by omega)]
          refine Ev.eq (ih _ (by omega) (by omega)) (by omega)
        · simp only [hbit, decide_false, Bool.false_eq_true, ↓reduceIte]
          refine Ev.eq (ih _ (by omega) (by omega)) (by omega))
  have := key 0 (Nat.zero_le _) 0 (by omega) (by omega)
  unfold impl_Committee_weight.f
  rw [List.drop_zero, Nat.pow_zero, Nat.div_one, Int.zero_add] at this
  exact this
end Go.Proofs.Ytokelcedamegbaa.P

/- What is told of each set, by a function. -/
namespace Go.Proofs.Ytokelcedamegbaa.P
open Go.RowKit Go.Proofs.YtokelcedamegbaaW.PrintWords Go.Proofs.YtokelcedamegbaaW.PrintLast Go.Proofs.YtokelcedamegbaaW.PrintMore
theorem impl_votesOf.ev (n : Nat) (hn : n ≤ 40) (p : Nat → Int → Option Bool) (P : Nat → Bool) (h : ∀ b : Nat, b < 2 ^ n → Ev (fun k => p k (b : Int)) (P b)) : Ev (fun k => impl_votesOf.f k (n : Int) (p k)) ((n : Int), tab n P) := by
  obtain ⟨K, hK⟩ := Ev.all (p := fun k (b : Nat) => p k (b : Int)) (P := P) (List.range (2 ^ n)) (fun b hb => h b (List.mem_range.1 hb))
  have hpos := Nat.two_pow_pos n
  refine ⟨K + 2 ^ n + 1, fun k hk => ?_⟩
  have hq := hK k (by omega)
  show impl_votesOf.f k (n : Int) (p k) = _
  generalize p k = q at hq ⊢
  have hq : ∀ b : Nat, b < 2 ^ n → q (b : Int) = some (P b) := fun b hb => hq b (List.mem_range.2 hb)
  have h40 : 2 ^ n ≤ 1099511627776 := pow_small hn
  have hle : (2 ^ n : Nat) ≤ 281474976710656 := by omega
  have c0 : (0 : Int) ≤ (n : Int) := by omega
  have c1 : (0 : Int) ≤ ((2 ^ n : Nat) : Int) := by omega
  have hl := tab_len n P
  unfold impl_votesOf.f
  simp only [c0, ↓reduceIte, shl_one n (by omega), c1, Int.toNat_natCast, hle, Option.bind_some, List.length_replicate]
  have := downq (G := fun i k => impl_votesOf.l0 k q ((2 ^ n : Nat) : Int) (i : Int) (n : Int) (filled (tab n P) false i)) (R := fun _ => ((n : Int), tab n P)) (2 ^ n)
    (by intro k
        have : filled (tab n P) false (2 ^ n) = tab n P := by rw [← hl]; exact filled_all _ _
        simp only [impl_votesOf.l0, Int.lt_irrefl, ↓reduceIte, this])
    (fun i hi k ih => by
        have c1 : (i : Int) < ((2 ^ n : Nat) : Int) := by omega
        have c0 : (0 : Int) ≤ (i : Int) := by omega
        have c2 : (i : Int) < ((filled (tab n P) false i).length : Int) := by rw [filled_len _ _ _ (by omega)]; omega
        have hs := filled_set (tab n P) false false i (by omega)
        rw [tab_get n P i hi] at hs
        simp only [impl_votesOf.l0, c1, c0, c2, ↓reduceIte, hq i hi, Option.bind_some, w1 hi (show 2 ^ n ≤ 9223372036854775807 by omega), Int.toNat_natCast, hs]
        exact ih) 0 (Nat.zero_le _) k (by omega)
  rw [filled_zero, hl] at this
  exact this
end Go.Proofs.Ytokelcedamegbaa.P

/- What sets win in a council. -/
namespace Go.Proofs.Ytokelcedamegbaa.P
open Go.RowKit Go.Proofs.YtokelcedamegbaaW.PrintWords Go.Proofs.YtokelcedamegbaaW.PrintLast Go.Proofs.YtokelcedamegbaaW.PrintMore
/-- The weights of the parts that are won. -/
def csum : List Int → List S_impl_Committee → Nat → Int
  | w :: l, c :: xs, b => (if wt c.f1 b ≥ c.f0 then w else 0) + csum l xs (b / 2 ^ c.f1.length)
  | _, _, _ => 0
def cow (q : Int) (l : List Int) (xs : List S_impl_Committee) (b : Nat) : Bool := decide (csum l xs b ≥ q)
theorem good_mem {x : S_impl_Committee} (h : good x = true) : ∀ y ∈ x.f1, 0 ≤ y ∧ y ≤ 1000 := isComm_mem h
theorem all_good {xs : List S_impl_Committee} (h : xs.all good = true) : ∀ x ∈ xs, good x = true := by rwa [List.all_eq_true] at h
theorem heads_drop (xs : List S_impl_Committee) (i : Nat) (h : i < xs.length) : heads (xs.drop i) = (xs.getD i z_impl_Committee).f1.length + heads (xs.drop (i + 1)) := by
  rw [drop_getD xs z_impl_Committee i h, heads_cons]
theorem heads_nn (xs : List S_impl_Committee) : 0 ≤ heads xs := by
  unfold heads
  induction xs with
  | nil => simp
  | cons y ys ih => simp only [List.map_cons, List.sum_cons]; omega
theorem impl_councilVotes_1.ev (q : Int) (l : List Int) (xs : List S_impl_Committee) (b : Nat) (hl : xs.length = l.length) (hw : ∀ x ∈ l, 0 ≤ x ∧ x ≤ 1000) (hg : xs.all good = true) (h9 : heads xs ≤ 9) (hll : l.length ≤ 9) (hb : b < 9223372036854775808) :
    Ev (fun k => impl_councilVotes_1.f k (b : Int) xs q l) (cow q l xs b) := by
  have key := back (P := fun i => ∀ (s : Int) (f : Nat), 0 ≤ s → s ≤ 1000 * i → (f : Int) + heads (xs.drop i) ≤ 9 → Ev (fun k => impl_councilVotes_1.l0 k (b : Int) s (f : Int) xs (xs.length : Int) (i : Int) q l) (decide (s + csum (l.drop i) (xs.drop i) (b / 2 ^ f) ≥ q))) xs.length
    (by intro s f h0 h1 h2
        refine Ev.shift ?_
        simp only [impl_councilVotes_1.l0, Int.lt_irrefl, ↓reduceIte]
        refine Ev.eq Ev.some ?_
        rw [List.drop_length]
        have : csum (l.drop xs.length) [] (b / 2 ^ f) = 0 := by cases l.drop xs.length <;> rfl
        rw [this, Int.add_zero])
    (by intro i hi ih s f h0 h1 h2
        refine Ev.shift ?_
        have c1 : (i : Int) < (xs.length : Int) := by omega
        have c0 : (0 : Int) ≤ (i : Int) := by omega
        have c2 : (0 : Int) ≤ (f : Int) := by omega
        have c3 : (i : Int) < (l.length : Int) := by omega
        rw [heads_drop xs i hi] at h2
        have hn := heads_nn (xs.drop (i + 1))
        have hgi := all_good hg _ (getD_mem xs z_impl_Committee i hi)
        have hli := good_len hgi
        have hwi := hw _ (getD_mem l 0 i (by omega))
        rw [drop_getD xs z_impl_Committee i hi, drop_getD l 0 i (by omega), csum]
        simp only [impl_councilVotes_1.l0, c1, c0, c2, ↓reduceIte, rd_impl_nat, shr_nat b f (by omega), w1 hi (show xs.length ≤ 9223372036854775807 by omega)]
        have hd : b / 2 ^ f < 9223372036854775808 := Nat.lt_of_le_of_lt (Nat.div_le_self _ _) hb
        have hle3 : ((f + (xs.getD i z_impl_Committee).f1.length : Nat) : Int) + heads (xs.drop (i + 1)) ≤ 9 := by clear hd hb; omega
        refine Ev.bind (impl_Committee_weight.ev _ _ (b / 2 ^ f) (good_mem hgi) (by omega) (by rw [show (2 : Nat) ^ 63 = 9223372036854775808 from rfl]; exact hd)) ?_
        have ef : wrap64 ((f : Int) + ((xs.getD i z_impl_Committee).f1.length : Int)) = ((f + (xs.getD i z_impl_Committee).f1.length : Nat) : Int) := by rw [w64 (by omega) (by omega)]; omega
        have ed : b / 2 ^ f / 2 ^ (xs.getD i z_impl_Committee).f1.length = b / 2 ^ (f + (xs.getD i z_impl_Committee).f1.length) := by rw [Nat.div_div_eq_div_mul, ← Nat.pow_add]
        rw [ed]
        by_cases hwin : wt (xs.getD i z_impl_Committee).f1 (b / 2 ^ f) ≥ (xs.getD i z_impl_Committee).f0
        · simp only [hwin, c3, ↓reduceIte, rd_nat, ef]
          rw [w64 (by omega) (by omega)]
          have h3 := ih (s + l.getD i 0) (f + (xs.getD i z_impl_Committee).f1.length) (by omega) (by omega) hle3
          rw [Int.add_assoc] at h3
          exact h3
        · simp only [hwin, ↓reduceIte, ef, Int.zero_add]
          exact ih s (f + (xs.getD i z_impl_Committee).f1.length) (by omega) (by omega) hle3)
  have := key 0 (Nat.zero_le _) 0 0 (by omega) (by omega) (by rw [List.drop_zero]; omega)
  unfold impl_councilVotes_1.f cow
  rw [List.drop_zero, List.drop_zero, Nat.pow_zero, Nat.div_one, Int.zero_add] at this
  exact this
theorem impl_councilVotes.ev (q : Int) (l : List Int) (xs : List S_impl_Committee) (hl : xs.length = l.length) (hw : ∀ x ∈ l, 0 ≤ x ∧ x ≤ 1000) (hg : xs.all good = true) (h9 : heads xs ≤ 9) (hll : l.length ≤ 9) :
    Ev (fun k => impl_councilVotes.f k q l xs) (heads xs, tab (heads xs).toNat (cow q l xs)) := by
  have hn0 := heads_nn xs
  have key := back (P := fun i => ∀ s : Int, 0 ≤ s → s + heads (xs.drop i) = heads xs → Ev (fun k => impl_councilVotes.l0 k s xs (xs.length : Int) (i : Int) q l xs) (heads xs, tab (heads xs).toNat (cow q l xs))) xs.length
    (by intro s h0 h1
        refine Ev.shift ?_
        have hs : s = heads xs := by simpa [heads] using h1
        obtain ⟨n, hn⟩ : ∃ n : Nat, heads xs = (n : Int) := ⟨(heads xs).toNat, by omega⟩
        simp only [impl_councilVotes.l0, Int.lt_irrefl, ↓reduceIte]
        rw [hs, hn, Int.toNat_natCast]
        refine Ev.bind (impl_votesOf.ev n (by omega) (fun k y => impl_councilVotes_1.f k y xs q l) (cow q l xs) (fun b hb => ?_)) Ev.some
        have hp9 : 2 ^ n ≤ 2 ^ 9 := pow_small (by omega)
        exact impl_councilVotes_1.ev q l xs b hl hw hg h9 hll (by omega))
    (by intro i hi ih s h0 h1
        refine Ev.shift ?_
        have c1 : (i : Int) < (xs.length : Int) := by omega
        have c0 : (0 : Int) ≤ (i : Int) := by omega
        rw [heads_drop xs i hi] at h1
        have hn := heads_nn (xs.drop (i + 1))
        simp only [impl_councilVotes.l0, c1, c0, ↓reduceIte, rd_impl_nat, w1 hi (show xs.length ≤ 9223372036854775807 by omega)]
        rw [w64 (by omega) (by omega)]
        exact ih _ (by omega) (by omega))
  exact key 0 (Nat.zero_le _) 0 (by omega) (by rw [List.drop_zero]; omega)
end Go.Proofs.Ytokelcedamegbaa.P

/- Weights of a set, by bits. -/
namespace Go.Proofs.Ytokelcedamegbaa.P
open Go.RowKit Go.Proofs.YtokelcedamegbaaW.PrintWords Go.Proofs.YtokelcedamegbaaW.PrintLast Go.Proofs.YtokelcedamegbaaW.PrintMore
theorem spec_voWeight.ev (q : Int) (l : List Int) (b : Nat) (h : ∀ x ∈ l, 0 ≤ x ∧ x ≤ 1000) (hl : l.length ≤ 64) : Ev (fun k => spec_voWeight.f k q l (b : Int)) (wt l b) := by
  have key := back (P := fun i => ∀ s : Int, 0 ≤ s → s ≤ 1000 * i → Ev (fun k => spec_voWeight.l0 k (b : Int) s l (l.length : Int) (i : Int)) (s + wt (l.drop i) (b / 2 ^ i))) l.length
    (by intro s h0 h1
        refine Ev.shift ?_
        simp only [spec_voWeight.l0, Int.lt_irrefl, ↓reduceIte, List.drop_length, wt, Int.add_zero]
        exact Ev.some)
    (by intro i hi ih s h0 h1
        refine Ev.shift ?_
        have c1 : (i : Int) < (l.length : Int) := by omega
        have c0 : (0 : Int) ≤ (i : Int) := by omega
        have hx := h _ (getD_mem l 0 i hi)
        simp only [spec_voWeight.l0, c1, c0, ↓reduceIte, shr_nat b i (by omega), tmod_two, w1 hi (show l.length ≤ 9223372036854775807 by omega), rd_nat]
        rw [drop_getD l 0 i hi, wt, Nat.div_div_eq_div_mul, show (2 ^ i * 2 : Nat) = 2 ^ (i + 1) from rfl]
        by_cases hbit : b / 2 ^ i % 2 = 1
        · have hbit' : ((b / 2 ^ i % 2 : Nat) : Int) = 1 := by omega
          simp only [hbit, hbit', ↓reduceIte]
          rw [w64 (by omega) (by omega)]
          refine Ev.eq (ih _ (by omega) (by omega)) (by omega)
        · have hbit' : ¬ ((b / 2 ^ i % 2 : Nat) : Int) = 1 := by omega
          simp only [hbit, hbit', ↓reduceIte]
          refine Ev.eq (ih _ (by omega) (by omega)) (by omega))
  have := key 0 (Nat.zero_le _) 0 (by omega) (by omega)
  unfold spec_voWeight.f
  rw [List.drop_zero, Nat.pow_zero, Nat.div_one, Int.zero_add] at this
  exact this
end Go.Proofs.Ytokelcedamegbaa.P

/- All members, by bits. -/
namespace Go.Proofs.Ytokelcedamegbaa.P
open Go.RowKit Go.Proofs.YtokelcedamegbaaW.PrintWords Go.Proofs.YtokelcedamegbaaW.PrintLast Go.Proofs.YtokelcedamegbaaW.PrintMore
theorem spec_voAll.eq (n : Nat) (hn : n < 63) : spec_voAll.f (n : Int) = some ((2 ^ n - 1 : Nat) : Int) := by
  have c0 : (0 : Int) ≤ (n : Int) := by omega
  have h1 := pow63 hn
  have h2 : 0 < 2 ^ n := Nat.two_pow_pos n
  unfold spec_voAll.f
  rw [if_pos c0, shl_one n hn, w64 (by omega) (by omega)]
  congr 1
  omega
end Go.Proofs.Ytokelcedamegbaa.P

/- What sets win in a council. -/
namespace Go.Proofs.Ytokelcedamegbaa.P
open Go.RowKit Go.Proofs.YtokelcedamegbaaW.PrintWords Go.Proofs.YtokelcedamegbaaW.PrintLast Go.Proofs.YtokelcedamegbaaW.PrintMore
/-- What parts a set wins. -/
def wonB : List S_impl_Committee → Nat → List Bool
  | [], _ => []
  | c :: xs, b => decide (wt c.f1 b ≥ c.f0) :: wonB xs (b / 2 ^ c.f1.length)
theorem wt_won (l : List Int) (xs : List S_impl_Committee) (b : Nat) (h : xs.length = l.length) : wt l (bmask (wonB xs b)) = csum l xs b := by
  induction l generalizing xs b with
  | nil =>
    cases xs <;> rfl
  | cons x l ih =>
    cases xs with
    | nil => simp at h
    | cons c xs =>
      have e1 : bmask (wonB (c :: xs) b) % 2 = if decide (wt c.f1 b ≥ c.f0) = true then 1 else 0 := by
        simp only [wonB, bmask]
        split <;> omega
      have e2 : bmask (wonB (c :: xs) b) / 2 = bmask (wonB xs (b / 2 ^ c.f1.length)) := by
        simp only [wonB, bmask]
        split <;> omega
      rw [wt, csum, e1, e2, ih xs _ (by simpa using h)]
      by_cases hw : wt c.f1 b ≥ c.f0 <;> simp [hw]
theorem w_pow {p2 : Nat} (h : p2 ≤ 512) (h0 : 0 < p2) : wrap64 (((p2 - 1 : Nat) : Int) + 1) = (p2 : Int) := by rw [w64 (by omega) (by omega)]; omega
theorem w_nat {r : Nat} (hr : r < 4611686018427387904) : wrap64 (r : Int) = (r : Int) := by rw [w64 (by omega) (by omega)]
theorem ne0 {p2 : Nat} (h : 0 < p2) : ¬ (p2 : Int) = 0 := by omega
theorem tmod_nat (r p2 : Nat) : Int.tmod (r : Int) (p2 : Int) = ((r % p2 : Nat) : Int) := by rw [Int.tmod_eq_emod_of_nonneg (by omega)]; exact (Int.natCast_emod _ _).symm
theorem tdiv_nat (r p2 : Nat) : Int.tdiv (r : Int) (p2 : Int) = ((r / p2 : Nat) : Int) := by rw [Int.tdiv_eq_ediv_of_nonneg (by omega)]; exact (Int.natCast_ediv _ _).symm
theorem lt_succ {o i : Nat} (h : o < 2 ^ i) : o < 2 ^ (i + 1) := by rw [Nat.pow_succ]; omega
theorem lt_add {o i : Nat} (h : o < 2 ^ i) : o + 2 ^ i < 2 ^ (i + 1) := by rw [Nat.pow_succ]; omega
theorem won_step1 {c p2 o bw : Nat} {B : Bool} (hB : B = true) (hE : o + c * ((if B = true then 1 else 0) + 2 * bw) = p2) : o + c + c * 2 * bw = p2 := by
  rw [← hE, if_pos hB, Nat.mul_add, Nat.mul_one, Nat.mul_assoc, Nat.add_assoc]
theorem won_step0 {c p2 o bw : Nat} {B : Bool} (hB : B = false) (hE : o + c * ((if B = true then 1 else 0) + 2 * bw) = p2) : o + c * 2 * bw = p2 := by
  rw [← hE, hB, if_neg (by decide), Nat.zero_add, Nat.mul_assoc]
theorem pow9 {i : Nat} (h : i ≤ 9) : 2 ^ i ≤ 512 := pow_small (m := 9) h
/-- One set of a council, part by part. -/
theorem spec_chCouncil.inner (q : Int) (l : List Int) (xs : List S_impl_Committee) (hl : xs.length = l.length) (hw : ∀ x ∈ l, 0 ≤ x ∧ x ≤ 1000) (hg : xs.all good = true) (hll : l.length ≤ 9)
    (m : Nat) (row : List Bool) (N : Int) (res : List Bool) (hm : m < row.length) (hrow : row.length ≤ 512) (hcont : Ev (fun k => spec_chCouncil.l0 k xs (row.set m (cow q l xs m)) N ((m + 1 : Nat) : Int) q l) res) :
    ∀ i, i ≤ xs.length → ∀ (r o : Nat), r < 4611686018427387904 → o < 2 ^ i → o + 2 ^ i * bmask (wonB (xs.drop i) r) = bmask (wonB xs m) →
          Ev (fun k => spec_chCouncil.l1 k xs row (m : Int) (r : Int) (o : Int) N (m : Int) xs (xs.length : Int) (i : Int) q l) res := by
  have h64 : l.length ≤ 64 := by omega
  have hxl9 : xs.length ≤ 9 := by omega
  have hxlM : xs.length ≤ 9223372036854775807 := by omega
  have hrl : row.length ≤ 9223372036854775807 := by omega
  refine back (P := fun i => ∀ (r o : Nat), r < 4611686018427387904 → o < 2 ^ i → o + 2 ^ i * bmask (wonB (xs.drop i) r) = bmask (wonB xs m) →
          Ev (fun k => spec_chCouncil.l1 k xs row (m : Int) (r : Int) (o : Int) N (m : Int) xs (xs.length : Int) (i : Int) q l) res) xs.length ?_ ?_
  · intro r o hr ho hE
    refine Ev.shift ?_
    rw [List.drop_length] at hE
    simp only [wonB, bmask, Nat.mul_zero, Nat.add_zero] at hE
    have d0 : (0 : Int) ≤ (m : Int) := Int.natCast_nonneg m
    have d1 : (m : Int) < (row.length : Int) := Int.ofNat_lt.2 hm
    simp only [spec_chCouncil.l1, Int.lt_irrefl, ↓reduceIte, d0, d1]
    refine Ev.bind (spec_voWeight.ev q l o hw h64) ?_
    rw [hE, wt_won l xs m hl]
    have ec : decide (csum l xs m ≥ q) = cow q l xs m := rfl
    simp only [ec, Int.toNat_natCast, w1 hm hrl]
    exact hcont
  · intro i hi ihi r o hr ho hE
    refine Ev.shift ?_
    have d0 : (0 : Int) ≤ (i : Int) := Int.natCast_nonneg i
    have d1 : (i : Int) < (xs.length : Int) := Int.ofNat_lt.2 hi
    have hi9 : i ≤ 9 := Nat.le_trans (Nat.le_of_lt hi) hxl9
    have hpi2 := pow9 hi9
    have hgi := all_good hg _ (getD_mem xs z_impl_Committee i hi)
    have hli := good_len hgi
    have hgm := good_mem hgi
    rw [drop_getD xs z_impl_Committee i hi] at hE
    simp only [wonB, bmask] at hE
    have e1 := w1 hi hxlM
    simp only [spec_chCouncil.l1, d0, d1, ↓reduceIte, rd_impl_nat, e1]
    generalize xs.getD i z_impl_Committee = c at hE hli hgm ⊢
    have hl64 : c.f1.length ≤ 64 := Nat.le_trans hli.2 (by decide)
    have hvo := spec_voAll.eq c.f1.length (Nat.lt_of_le_of_lt hli.2 (by decide))
    have hpi := pow9 hli.2
    have hppos := Nat.two_pow_pos c.f1.length
    have hwm := wt_mod c.f1 r c.f1.length (Nat.le_refl _)
    generalize 2 ^ c.f1.length = p2 at hE hvo hpi hppos hwm
    have ea : wrap64 (((p2 - 1 : Nat) : Int) + 1) = (p2 : Int) := w_pow hpi hppos
    have d2 : ¬ (p2 : Int) = 0 := ne0 hppos
    have hrd2 : r / p2 < 4611686018427387904 := Nat.lt_of_le_of_lt (Nat.div_le_self _ _) hr
    refine Ev.bind (Ev.one hvo) ?_
    simp only [ea, d2, ↓reduceIte, tmod_nat r p2, tdiv_nat r p2, w_nat hrd2]
    refine Ev.bind (spec_voWeight.ev _ _ _ hgm hl64) ?_
    rw [hwm]
    have ho63 : o < 2 ^ 63 := Nat.lt_of_lt_of_le ho (Nat.le_trans hpi2 (by decide))
    have hp63 : 2 ^ i < 2 ^ 63 := Nat.lt_of_le_of_lt hpi2 (by decide)
    have hor := or_nat o (2 ^ i) ho63 hp63
    rw [or_add ho] at hor
    have hsh := shl_one i (Nat.lt_of_le_of_lt hi9 (by decide))
    have hlt0 := lt_succ ho
    have hlt1 := lt_add ho
    have hps : 2 ^ (i + 1) = 2 ^ i * 2 := Nat.pow_succ ..
    by_cases hwin : wt c.f1 r ≥ c.f0
    · simp only [hwin, ↓reduceIte, hsh, hor]
      refine ihi _ _ hrd2 hlt1 ?_
      rw [hps]
      exact won_step1 (by simp only [hwin, decide_true]) hE
    · simp only [hwin, ↓reduceIte]
      refine ihi _ _ hrd2 hlt0 ?_
      rw [hps]
      exact won_step0 (by simp only [hwin, decide_false]) hE
theorem w_pow1 {p : Nat} (h : p ≤ 512) (h0 : 0 < p) : wrap64 (((p - 1 : Nat) : Int) + 1) = (p : Int) := w_pow h h0
theorem spec_chCouncil.ev (q : Int) (l : List Int) (xs : List S_impl_Committee) (hl : xs.length = l.length) (hw : ∀ x ∈ l, 0 ≤ x ∧ x ≤ 1000) (hg : xs.all good = true) (h9 : heads xs ≤ 9) (hll : l.length ≤ 9) :
    Ev (fun k => spec_chCouncil.f k q l xs) (tab (heads xs).toNat (cow q l xs)) := by
  have hn0 := heads_nn xs
  have hx : ∀ x ∈ xs, x.f1.length ≤ 9223372036854775807 := fun x h => by have := good_len (all_good hg x h); omega
  unfold spec_chCouncil.f
  refine Ev.bind (spec_chMembers.ev xs (by omega) hx) ?_
  obtain ⟨n, hn⟩ : ∃ n : Nat, heads xs = (n : Int) := ⟨(heads xs).toNat, by omega⟩
  have hn9 : n ≤ 9 := by omega
  have hvo := spec_voAll.eq n (by omega)
  have hp9 := pow9 hn9
  have hpos := Nat.two_pow_pos n
  have tl := tab_len n (cow q l xs)
  have tg := tab_get n (cow q l xs)
  rw [hg, hn]
  simp only [↓reduceIte, Int.toNat_natCast]
  generalize tab n (cow q l xs) = t at tl tg ⊢
  generalize 2 ^ n = p at hvo hp9 hpos tl tg
  have e1 := w_pow1 hp9 hpos
  have c0 : (0 : Int) ≤ (p : Int) := Int.natCast_nonneg p
  have c1 : p ≤ 281474976710656 := by omega
  refine Ev.bind (Ev.one hvo) ?_
  simp only [e1, c0, ↓reduceIte, Int.toNat_natCast, c1]
  refine Ev.bind (Ev.one rfl) ?_
  simp only [List.length_replicate]
  have key := Ev.down (G := fun m k => spec_chCouncil.l0 k xs (filled t false m) (p : Int) (m : Int) q l) (R := fun _ => t) p
    (by refine Ev.shift ?_
        have : filled t false p = t := by rw [← tl]; exact filled_all _ _
        simp only [spec_chCouncil.l0, Int.lt_irrefl, ↓reduceIte, this]
        exact Ev.some)
    (fun m hm ih => by
      have hfl := filled_len t false m (by omega)
      have hs := filled_set t false false m (by omega)
      rw [tg m hm] at hs
      rw [← hs] at ih
      refine Ev.shift ?_
      have d1 : (m : Int) < (p : Int) := Int.ofNat_lt.2 hm
      simp only [spec_chCouncil.l0, d1, ↓reduceIte]
      exact spec_chCouncil.inner q l xs hl hw hg hll m (filled t false m) (p : Int) t (by omega) (by omega) ih 0 (Nat.zero_le _) m 0 (by omega) (by omega) (by rw [List.drop_zero, Nat.pow_zero, Nat.one_mul, Nat.zero_add]))
  have := key 0 (Nat.zero_le _)
  rw [filled_zero, tl] at this
  exact this
end Go.Proofs.Ytokelcedamegbaa.P

/- What marking a row, and looking at the marks, answers. -/
namespace Go.Proofs.Ytokelcedamegbaa.P
open Go.RowKit Go.Proofs.YtokelcedamegbaaW.PrintWords Go.Proofs.YtokelcedamegbaaW.PrintLast Go.Proofs.YtokelcedamegbaaW.PrintMore
theorem laws_markIntS.ev (l : List Int) (a : Int) (h0 : 0 ≤ a) (h1 : a ≤ 4000000000000000000) (hm : l.length ≤ 4000000000000000000) : Ev (fun k => laws_markIntS.f k l a) (a + (l.length : Int), marks a l.length) := by
  have hl : (marks a l.length).length = l.length := marks_len _ _
  have key := Ev.down (G := fun i k => laws_markIntS.l0 k (over (marks a l.length) l i) (a + (i : Int)) (i : Int)) (R := fun _ => (a + (l.length : Int), marks a l.length)) l.length
    (by refine Ev.shift ?_
        simp only [laws_markIntS.l0, over_all _ _ hl, hl, Int.lt_irrefl, ↓reduceIte]
        exact Ev.some)
    (fun i hi ih => by
        refine Ev.shift ?_
        have c1 : (i : Int) < ((over (marks a l.length) l i).length : Int) := by rw [over_len _ _ _ hl]; omega
        have c0 : (0 : Int) ≤ (i : Int) := by omega
        have e1 : wrap64 (a + (i : Int) + 1) = a + ((i + 1 : Nat) : Int) := by rw [w64 (by omega) (by omega)]; omega
        have e2 : (over (marks a l.length) l i).set i (a + (i : Int)) = over (marks a l.length) l (i + 1) := by
          have := over_set (marks a l.length) l 0 i hl hi
          rwa [marks_get a l.length i hi] at this
        simp only [laws_markIntS.l0, c1, c0, ↓reduceIte, w1 hi (by omega), Int.toNat_natCast, e1, e2]
        exact ih)
  have := key 0 (Nat.zero_le _)
  rw [over_zero] at this
  unfold laws_markIntS.f
  simpa using this
theorem laws_heldIntS.ev (a : Int) (n : Nat) (h0 : 0 ≤ a) (h1 : a ≤ 4000000000000000000) (hm : n ≤ 4000000000000000000) : Ev (fun k => laws_heldIntS.f k (marks a n) a) (a + (n : Int)) := by
  have key := Ev.down (G := fun i k => laws_heldIntS.l0 k (marks a n) (a + (i : Int)) (i : Int)) (R := fun _ => a + (n : Int)) n
    (by refine Ev.shift ?_
        simp only [laws_heldIntS.l0, marks_len, Int.lt_irrefl, ↓reduceIte]
        exact Ev.some)
    (fun i hi ih => by
        refine Ev.shift ?_
        have c1 : (i : Int) < (n : Int) := by omega
        have c0 : (0 : Int) ≤ (i : Int) := by omega
        have e1 : wrap64 (a + (i : Int) + 1) = a + ((i + 1 : Nat) : Int) := by rw [w64 (by omega) (by omega)]; omega
        simp only [laws_heldIntS.l0, marks_len, c1, c0, ↓reduceIte, w1 hi (show n ≤ 9223372036854775807 by omega), rd_nat, marks_get a n i hi, e1]
        exact ih)
  have := key 0 (Nat.zero_le _)
  unfold laws_heldIntS.f
  simpa using this
end Go.Proofs.Ytokelcedamegbaa.P

/- Marks of a committee. -/
namespace Go.Proofs.Ytokelcedamegbaa.P
open Go.RowKit Go.Proofs.YtokelcedamegbaaW.PrintWords Go.Proofs.YtokelcedamegbaaW.PrintLast Go.Proofs.YtokelcedamegbaaW.PrintMore
theorem laws_markCommittee.ev (q : Int) (l : List Int) (a : Int) (h0 : 0 ≤ a) (h1 : a ≤ 4000000000000000000) (hm : l.length ≤ 4000000000000000000) : Ev (fun k => laws_markCommittee.f k q l a) (a + (l.length : Int), marks a l.length) := by
  unfold laws_markCommittee.f
  exact Ev.bind (laws_markIntS.ev l a h0 h1 hm) Ev.some
end Go.Proofs.Ytokelcedamegbaa.P

/- What marking a row of committees answers. -/
namespace Go.Proofs.Ytokelcedamegbaa.P
open Go.RowKit Go.Proofs.YtokelcedamegbaaW.PrintWords Go.Proofs.YtokelcedamegbaaW.PrintLast Go.Proofs.YtokelcedamegbaaW.PrintMore
theorem laws_markCommitteeS.ev (l : List S_impl_Committee) (a : Int) (h0 : 0 ≤ a) (h1 : a ≤ 1000000000000000000) (hm : l.length ≤ 1048576) (hx : ∀ x ∈ l, x.f1.length ≤ 1048576) : ∃ r zs, Ev (fun k => laws_markCommitteeS.f k l a) (r, zs) ∧ a ≤ r := by
  have key := back (P := fun i => ∀ (ys : List S_impl_Committee) (b : Int), ys.length = l.length → (∀ j, i ≤ j → ys.getD j z_impl_Committee = l.getD j z_impl_Committee) → a ≤ b → b ≤ a + 1048577 * i → ∃ r zs, Ev (fun k => laws_markCommitteeS.l0 k ys b (i : Int)) (r, zs) ∧ a ≤ r) l.length
    (by intro ys b hy _ hb _
        refine ⟨b, ys, ?_, hb⟩
        refine Ev.shift ?_
        simp only [laws_markCommitteeS.l0, hy, Int.lt_irrefl, ↓reduceIte]
        exact Ev.some)
    (by intro i hi ih ys b hy he hb hb2
        have c1 : (i : Int) < (ys.length : Int) := by omega
        have c0 : (0 : Int) ≤ (i : Int) := by omega
        have hxi := hx _ (getD_mem l z_impl_Committee i hi)
        obtain ⟨r, zs, hr, hle⟩ := ih (ys.set i ⟨b, marks (b + 1) (l.getD i z_impl_Committee).f1.length⟩) (b + 1 + ((l.getD i z_impl_Committee).f1.length : Int)) (by rw [List.length_set]; exact hy)
          (fun j hj => by
            rw [List.getD_eq_getElem?_getD, List.getElem?_set_ne (by omega), ← List.getD_eq_getElem?_getD]
            exact he j (by omega)) (by omega) (by omega)
        refine ⟨r, zs, ?_, hle⟩
        refine Ev.shift ?_
        have eg : rd_impl_Committee ys (i : Int) = l.getD i z_impl_Committee := by rw [rd_impl_nat, he i (Nat.le_refl _)]
        have ew : wrap64 (b + 1) = b + 1 := w64 (by omega) (by omega)
        simp only [laws_markCommitteeS.l0, c1, c0, ↓reduceIte, eg, ew, w1 hi (show l.length ≤ 9223372036854775807 by omega), Int.toNat_natCast]
        refine Ev.bind (laws_markIntS.ev _ (b + 1) (by omega) (by omega) (by omega)) ?_
        exact hr)
  exact key 0 (Nat.zero_le _) l a rfl (fun _ _ => rfl) (by omega) (by omega)
end Go.Proofs.Ytokelcedamegbaa.P

/- Plain laws of the printed functions on lists of lists of numbers. -/
namespace Go.Proofs.Ytokelcedamegbaa.P
open Go.RowKit Go.Proofs.YtokelcedamegbaaW.PrintWords Go.Proofs.YtokelcedamegbaaW.PrintLast Go.Proofs.YtokelcedamegbaaW.PrintMore
theorem rd_LI_nat (l : List (List Int)) (i : Nat) : rd_LI l (i : Int) = l.getD i [] := by simp [rd_LI]
/-- Sizes that are let by: what each holds is short. -/
theorem laws_szIntSS.ev (l : List (List Int)) (n : Int) (hm : okL (okL okI) l) (h0 : 0 ≤ n) (h1 : n ≤ 1048576) :
    ∃ r, Ev (fun k => laws_szIntSS.f k l n) r ∧ r ≤ n ∧ (0 ≤ r → (l.length : Int) ≤ n ∧ ∀ x ∈ l, x.length ≤ 1048576) := by
  obtain ⟨hl, hx⟩ := hm
  unfold laws_szIntSS.f
  rw [w64 (by omega) (by omega)]
  by_cases h : n - (l.length : Int) < 0
  · refine ⟨-1, ?_, by omega, by omega⟩
    simp only [h, ↓reduceIte]
    exact Ev.some
  · simp only [h, ↓reduceIte]
    have key := back (P := fun i => ∀ a : Int, 0 ≤ a → a ≤ 1048576 → ∃ r, Ev (fun k => laws_szIntSS.l0 k l a (i : Int)) r ∧ r ≤ a ∧ (0 ≤ r → ∀ x ∈ l.drop i, x.length ≤ 1048576)) l.length
      (by intro a ha hb
          refine ⟨a, ?_, by omega, by simp⟩
          refine Ev.shift ?_
          simp only [laws_szIntSS.l0, Int.lt_irrefl, ↓reduceIte]
          exact Ev.some)
      (by intro i hi ih a ha hb
          have c1 : (i : Int) < (l.length : Int) := by omega
          have c0 : (0 : Int) ≤ (i : Int) := by omega
          have hlen := (hx _ (getD_mem l [] i hi)).1
          have e := laws_szIntS.eq (l.getD i []) a hlen ha hb
          by_cases hs : a < ((l.getD i []).length : Int)
          · refine ⟨-1, ?_, by omega, by omega⟩
            refine Ev.shift ?_
            simp only [laws_szIntSS.l0, c1, c0, ↓reduceIte, rd_LI_nat, e, hs, Option.bind_some, show ((-1 : Int) < 0) from by omega]
            exact Ev.some
          · obtain ⟨r, hr, hle, hp⟩ := ih (a - ((l.getD i []).length : Int)) (by omega) (by omega)
            refine ⟨r, ?_, by omega, fun h0 x hxm => ?_⟩
            · refine Ev.shift ?_
              have c2 : ¬ (a - ((l.getD i []).length : Int) < 0) := by omega
              simp only [laws_szIntSS.l0, c1, c0, ↓reduceIte, rd_LI_nat, e, hs, Option.bind_some, c2, w1 hi hl]
              exact hr
            · rw [drop_getD l [] i hi] at hxm
              rcases List.mem_cons.1 hxm with rfl | hxm
              · omega
              · exact hp h0 x hxm)
    obtain ⟨r, hr, hle, hp⟩ := key 0 (Nat.zero_le _) (n - l.length) (by omega) (by omega)
    exact ⟨r, hr, by omega, fun h0 => ⟨by omega, by simpa using hp h0⟩⟩
theorem laws_toIntSS.ev (l : List (List Int)) (hl : l.length ≤ 1048576) (hx : ∀ x ∈ l, x.length ≤ 1048576) : Ev (fun k => laws_toIntSS.f k l) l := by
  unfold laws_toIntSS.f
  have c1 : (0 : Int) ≤ (l.length : Int) := by omega
  have c2 : l.length ≤ 11728124029610 := by omega
  simp only [c1, c2, ↓reduceIte, Int.toNat_natCast]
  have key := Ev.down (G := fun i k => laws_toIntSS.l0 k l (filled l [] i) (i : Int)) (R := fun _ => l) l.length
    (by refine Ev.shift ?_
        simp only [laws_toIntSS.l0, Int.lt_irrefl, ↓reduceIte, filled_all]
        exact Ev.some)
    (fun i hi ih => by
        refine Ev.shift ?_
        have c1 : (i : Int) < (l.length : Int) := by omega
        have c0 : (0 : Int) ≤ (i : Int) := by omega
        simp only [laws_toIntSS.l0, c1, c0, ↓reduceIte, rd_LI_nat]
        refine Ev.bind (laws_toIntS.ev _ (hx _ (getD_mem l [] i hi))) ?_
        have c3 : (i : Int) < ((filled l ([] : List Int) i).length : Int) := by rw [filled_len _ _ i (by omega)]; omega
        simp only [c3, ↓reduceIte, w1 hi (show l.length ≤ 9223372036854775807 by omega), Int.toNat_natCast, filled_set l [] [] i hi]
        exact ih)
  have := key 0 (Nat.zero_le _)
  rw [filled_zero] at this
  exact this
theorem laws_eqIntSS.ev (l : List (List Int)) (hl : l.length ≤ 9223372036854775807) (hx : ∀ x ∈ l, x.length ≤ 9223372036854775807) : Ev (fun k => laws_eqIntSS.f k l l) true := by
  unfold laws_eqIntSS.f
  simp only [↓reduceIte]
  have key := Ev.down (G := fun i k => laws_eqIntSS.l0 k l l (i : Int)) (R := fun _ => true) l.length
    (by refine Ev.shift ?_
        simp only [laws_eqIntSS.l0, Int.lt_irrefl, ↓reduceIte]
        exact Ev.some)
    (fun i hi ih => by
        refine Ev.shift ?_
        have c1 : (i : Int) < (l.length : Int) := by omega
        have c0 : (0 : Int) ≤ (i : Int) := by omega
        simp only [laws_eqIntSS.l0, c1, c0, ↓reduceIte, rd_LI_nat]
        refine Ev.bind (laws_eqIntS.ev _ (hx _ (getD_mem l [] i hi))) ?_
        simp only [↓reduceIte, w1 hi hl]
        exact ih)
  exact key 0 (Nat.zero_le _)
end Go.Proofs.Ytokelcedamegbaa.P

/- Plain laws of the laws' own words on games. -/
namespace Go.Proofs.Ytokelcedamegbaa.P
open Go.RowKit Go.Proofs.YtokelcedamegbaaW.PrintWords Go.Proofs.YtokelcedamegbaaW.PrintLast Go.Proofs.YtokelcedamegbaaW.PrintMore
theorem laws_szGame.ev (n : Int) (l : List (List Int)) (m : Int) (hm : okL (okL okI) l) (h0 : 0 ≤ m) (h1 : m ≤ 1048576) :
    ∃ r, Ev (fun k => laws_szGame.f k n l m) r ∧ (0 ≤ r → (l.length : Int) ≤ m ∧ ∀ x ∈ l, x.length ≤ 1048576) := by
  obtain ⟨r, hr, hle, hp⟩ := laws_szIntSS.ev l m hm h0 h1
  by_cases h : r < 0
  · refine ⟨-1, ?_, by omega⟩
    unfold laws_szGame.f
    refine Ev.bind hr ?_
    simp only [h, ↓reduceIte]
    exact Ev.some
  · refine ⟨r, ?_, hp⟩
    unfold laws_szGame.f
    refine Ev.bind hr ?_
    simp only [h, ↓reduceIte]
    exact Ev.some
theorem laws_toGame.ev (n : Int) (l : List (List Int)) (hl : l.length ≤ 1048576) (hx : ∀ x ∈ l, x.length ≤ 1048576) : Ev (fun k => laws_toGame.f k n l) (n, l) := by
  unfold laws_toGame.f
  exact Ev.bind (laws_toIntSS.ev l hl hx) Ev.some
theorem laws_eqGame.ev (n : Int) (l : List (List Int)) (hl : l.length ≤ 9223372036854775807) (hx : ∀ x ∈ l, x.length ≤ 9223372036854775807) : Ev (fun k => laws_eqGame.f k n l n l) true := by
  unfold laws_eqGame.f
  simp only [↓reduceIte]
  refine Ev.bind (laws_eqIntSS.ev l hl hx) ?_
  simp only [↓reduceIte]
  exact Ev.some
end Go.Proofs.Ytokelcedamegbaa.P

/- What marking a row of rows answers. -/
namespace Go.Proofs.Ytokelcedamegbaa.P
open Go.RowKit Go.Proofs.YtokelcedamegbaaW.PrintWords Go.Proofs.YtokelcedamegbaaW.PrintLast Go.Proofs.YtokelcedamegbaaW.PrintMore
/-- Rows, marked one after the other; all their lengths. -/
def msS (a : Int) : List (List Int) → List (List Int)
  | [] => []
  | x :: l => marks a x.length :: msS (a + x.length) l
def totS (l : List (List Int)) : Int := (l.map fun x => (x.length : Int)).sum
theorem totS_cons (x : List Int) (l : List (List Int)) : totS (x :: l) = x.length + totS l := by simp [totS]
theorem totS_nn (l : List (List Int)) : 0 ≤ totS l := by
  induction l with
  | nil => simp [totS]
  | cons x l ih => rw [totS_cons]; omega
theorem totS_le (l : List (List Int)) (h : ∀ x ∈ l, x.length ≤ 1048576) : totS l ≤ 1048576 * l.length := by
  induction l with
  | nil => simp [totS]
  | cons x l ih =>
    have h1 := h x (by simp)
    have h2 := ih (fun y hy => h y (by simp [hy]))
    rw [totS_cons, List.length_cons]
    omega
theorem totS_snoc (l : List (List Int)) (x : List Int) : totS (l ++ [x]) = totS l + x.length := by simp [totS]
theorem msS_len (a : Int) (l : List (List Int)) : (msS a l).length = l.length := by
  induction l generalizing a with
  | nil => rfl
  | cons x l ih => simp only [msS, List.length_cons, ih]
theorem msS_snoc (a : Int) (l : List (List Int)) (x : List Int) : msS a (l ++ [x]) = msS a l ++ [marks (a + totS l) x.length] := by
  induction l generalizing a with
  | nil => simp [msS, totS]
  | cons y l ih => simp only [List.cons_append, msS, ih, totS_cons, Int.add_assoc]
theorem set_mid {α : Type} (A B : List α) (x y : α) : (A ++ x :: B).set A.length y = A ++ y :: B := by simp
theorem get_mid {α : Type} (A B : List α) (x d : α) : (A ++ x :: B).getD A.length d = x := by simp
theorem laws_markIntSS.ev (l : List (List Int)) (a : Int) (h0 : 0 ≤ a) (h1 : a + totS l ≤ 4000000000000000000) (hm : l.length ≤ 1048576) (hx : ∀ x ∈ l, x.length ≤ 4000000000000000000) : Ev (fun k => laws_markIntSS.f k l a) (a + totS l, msS a l) := by
  have key := Ev.down (G := fun i k => laws_markIntSS.l0 k (msS a (l.take i) ++ l.drop i) (a + totS (l.take i)) (i : Int)) (R := fun _ => (a + totS l, msS a l)) l.length
    (by refine Ev.shift ?_
        simp only [laws_markIntSS.l0, List.take_length, List.drop_length, List.append_nil, msS_len, Int.lt_irrefl, ↓reduceIte]
        exact Ev.some)
    (fun i hi ih => by
        refine Ev.shift ?_
        have el : (msS a (l.take i)).length = i := by rw [msS_len, List.length_take]; omega
        have c1 : (i : Int) < ((msS a (l.take i) ++ l.drop i).length : Int) := by rw [List.length_append, el, List.length_drop]; omega
        have c0 : (0 : Int) ≤ (i : Int) := by omega
        have ht := totS_snoc (l.take i) (l.getD i [])
        have hms := msS_snoc a (l.take i) (l.getD i [])
        rw [← take_getD l [] i hi] at ht hms
        have hd := drop_getD l [] i hi
        have hnn := totS_nn (l.take i)
        have hle : totS (l.take i) ≤ totS l := by
          have : totS l = totS (l.take i) + totS (l.drop i) := by
            conv => lhs; rw [← List.take_append_drop i l]
            simp only [totS, List.map_append, List.sum_append]
          have := totS_nn (l.drop i)
          omega
        have eg : rd_LI (msS a (l.take i) ++ l.drop i) (i : Int) = l.getD i [] := by
          rw [rd_LI_nat, hd]
          conv => lhs; rw [show i = (msS a (l.take i)).length from el.symm]
          rw [el]
          exact (congrArg (fun z => (msS a (l.take i) ++ l.getD i [] :: l.drop (i + 1)).getD z []) el.symm).trans (get_mid _ _ _ _)
        have es : ∀ y, (msS a (l.take i) ++ l.drop i).set i y = msS a (l.take i) ++ y :: l.drop (i + 1) := fun y => by
          rw [hd]
          exact (congrArg (fun z => (msS a (l.take i) ++ l.getD i [] :: l.drop (i + 1)).set z y) el.symm).trans (set_mid _ _ _ _)
        simp only [laws_markIntSS.l0, c1, c0, ↓reduceIte, eg, w1 hi (show l.length ≤ 9223372036854775807 by omega), Int.toNat_natCast]
        refine Ev.bind (laws_markIntS.ev (l.getD i []) (a + totS (l.take i)) (by omega) (by omega) (hx _ (getD_mem l [] i hi))) ?_
        simp only [es]
        rw [hms, ht, List.append_assoc, ← Int.add_assoc] at ih
        exact ih)
  have := key 0 (Nat.zero_le _)
  simp only [List.take_zero, List.drop_zero, msS, totS, List.map_nil, List.sum_nil, List.nil_append, Int.add_zero] at this
  exact this
end Go.Proofs.Ytokelcedamegbaa.P

/- What marking a game answers. -/
namespace Go.Proofs.Ytokelcedamegbaa.P
open Go.RowKit Go.Proofs.YtokelcedamegbaaW.PrintWords Go.Proofs.YtokelcedamegbaaW.PrintLast Go.Proofs.YtokelcedamegbaaW.PrintMore
theorem laws_markGame.ev (n : Int) (l : List (List Int)) (a : Int) (h0 : 0 ≤ a) (h1 : a + totS l ≤ 4000000000000000000) (hm : l.length ≤ 1048576) (hx : ∀ x ∈ l, x.length ≤ 4000000000000000000) : Ev (fun k => laws_markGame.f k n l a) (a + totS l, msS a l) :=
  laws_markIntSS.ev l a h0 h1 hm hx
end Go.Proofs.Ytokelcedamegbaa.P

/- What looking at the marks of a row of rows answers. -/
namespace Go.Proofs.Ytokelcedamegbaa.P
open Go.RowKit Go.Proofs.YtokelcedamegbaaW.PrintWords Go.Proofs.YtokelcedamegbaaW.PrintLast Go.Proofs.YtokelcedamegbaaW.PrintMore
theorem laws_heldIntSS.ev (l : List (List Int)) (a : Int) (h0 : 0 ≤ a) (h1 : a + totS l ≤ 4000000000000000000) (hm : l.length ≤ 1048576) (hx : ∀ x ∈ l, x.length ≤ 4000000000000000000) : Ev (fun k => laws_heldIntSS.f k (msS a l) a) (a + totS l) := by
  have key := Ev.down (G := fun i k => laws_heldIntSS.l0 k (msS a l) (a + totS (l.take i)) (i : Int)) (R := fun _ => a + totS l) l.length
    (by refine Ev.shift ?_
        simp only [laws_heldIntSS.l0, List.take_length, msS_len, Int.lt_irrefl, ↓reduceIte]
        exact Ev.some)
    (fun i hi ih => by
        refine Ev.shift ?_
        have c1 : (i : Int) < ((msS a l).length : Int) := by rw [msS_len]; omega
        have c0 : (0 : Int) ≤ (i : Int) := by omega
        have ht := totS_snoc (l.take i) (l.getD i [])
        rw [← take_getD l [] i hi] at ht
        have hnn := totS_nn (l.take i)
        have hsp : totS l = totS (l.take i) + totS (l.drop i) := by
          conv => lhs; rw [← List.take_append_drop i l]
          simp only [totS, List.map_append, List.sum_append]
        have hnd := totS_nn (l.drop i)
        have eg : rd_LI (msS a l) (i : Int) = marks (a + totS (l.take i)) (l.getD i []).length := by
          rw [rd_LI_nat]
          have key : ∀ (l : List (List Int)) (i : Nat) (a : Int), i < l.length → (msS a l).getD i [] = marks (a + totS (l.take i)) (l.getD i []).length := by
            intro l
            induction l with
            | nil => intro i a h; simp at h
            | cons x l ih =>
              intro i a h
              cases i with
              | zero => simp [msS, totS]
              | succ i =>
                rw [msS, List.take_succ_cons, totS_cons, ← Int.add_assoc]
                exact ih i (a + x.length) (by simpa using h)
          exact key l i a hi
        simp only [laws_heldIntSS.l0, c1, c0, ↓reduceIte, eg, w1 hi (show l.length ≤ 9223372036854775807 by omega)]
        refine Ev.bind (laws_heldIntS.ev _ _ (by omega) (by omega) (hx _ (getD_mem l [] i hi))) ?_
        have cn : ¬ (a + totS (l.take i) + ((l.getD i []).length : Int) < 0) := by omega
        simp only [cn, ↓reduceIte]
        rw [ht, ← Int.add_assoc] at ih
        exact ih)
  have := key 0 (Nat.zero_le _)
  simp only [List.take_zero, totS, List.map_nil, List.sum_nil, Int.add_zero] at this
  exact this
end Go.Proofs.Ytokelcedamegbaa.P

/- The members of a set, by its bits. -/
namespace Go.Proofs.Ytokelcedamegbaa.P
open Go.RowKit Go.Proofs.YtokelcedamegbaaW.PrintWords Go.Proofs.YtokelcedamegbaaW.PrintLast Go.Proofs.YtokelcedamegbaaW.PrintMore
theorem sel_more (n d m : Nat) (h : m < 2 ^ n) : sel (n + d) m.testBit = sel n m.testBit := by
  induction d with
  | zero => rfl
  | succ d ih =>
    rw [show n + (d + 1) = (n + d) + 1 from rfl, sel_succ, ih, Nat.testBit_lt_two_pow (Nat.lt_of_lt_of_le h (Nat.pow_le_pow_right (by omega) (by omega)))]
    simp
theorem spec_voList.ev (m : Nat) (h : m < 512) : Ev (fun k => spec_voList.f k (m : Int)) (sel 9 m.testBit) := by
  unfold spec_voList.f
  have key := Ev.down (G := fun i k => spec_voList.l0 k (m : Int) (sel i m.testBit) (i : Int)) (R := fun _ => sel 9 m.testBit) 9
    (by refine Ev.shift ?_
        have c0 : (0 : Int) ≤ ((9 : Nat) : Int) := by omega
        have e : m / 2 ^ 9 = 0 := Nat.div_eq_of_lt h
        have c : ¬ (((0 : Nat) : Int) > 0) := by omega
        simp only [spec_voList.l0, c0, ↓reduceIte, shr_nat m 9 (by omega), e, c]
        exact Ev.some)
    (fun i hi ih => by
      refine Ev.shift ?_
      have c0 : (0 : Int) ≤ (i : Int) := by omega
      have c2 : (sel i m.testBit).length < 17592186044416 := by have := sel_len i m.testBit; omega
      rw [sel_succ] at ih
      simp only [spec_voList.l0, c0, ↓reduceIte, shr_nat m i (by omega), tmod_two, c2, w1 hi (by omega)]
      by_cases hz : m / 2 ^ i = 0
      · have c : ¬ (((m / 2 ^ i : Nat) : Int) > 0) := by rw [hz]; decide
        simp only [c, ↓reduceIte]
        refine Ev.eq Ev.some ?_
        have hlt : m < 2 ^ i := by
          rcases Nat.div_eq_zero_iff.1 hz with h | h
          · exact absurd h (by have := Nat.two_pow_pos i; omega)
          · exact h
        have := sel_more i (9 - i) m hlt
        rw [show i + (9 - i) = 9 by omega] at this
        exact this.symm
      · have c : (((m / 2 ^ i : Nat) : Int) > 0) := Int.natCast_pos.2 (Nat.pos_of_ne_zero hz)
        simp only [c, ↓reduceIte]
        cases hb : m.testBit i with
        | true =>
          rw [bit_nat, decide_eq_true_eq] at hb
          have c3 : ((m / 2 ^ i % 2 : Nat) : Int) = 1 := by omega
          rw [bit_nat, show decide (m / 2 ^ i % 2 = 1) = true from decide_eq_true hb, if_pos rfl] at ih
          simp only [c3, ↓reduceIte]
          exact ih
        | false =>
          rw [hb, if_neg (by decide), List.append_nil] at ih
          rw [bit_nat, decide_eq_false_iff_not] at hb
          have c3 : ¬ ((m / 2 ^ i % 2 : Nat) : Int) = 1 := by omega
          simp only [c3, ↓reduceIte]
          exact ih)
  exact key 0 (by omega)
end Go.Proofs.Ytokelcedamegbaa.P

/- How two numbers compare. -/
namespace Go.Proofs.Ytokelcedamegbaa.P
open Go.RowKit Go.Proofs.YtokelcedamegbaaW.PrintWords Go.Proofs.YtokelcedamegbaaW.PrintLast Go.Proofs.YtokelcedamegbaaW.PrintMore
theorem cmp_Compare_int.eq (x y : Int) : cmp_Compare_int.f x y = some (cmpI x y) := by
  have e : ∀ z, cmp_isNaN_int.f z = some false := fun z => by simp [cmp_isNaN_int.f]
  unfold cmp_Compare_int.f cmpI
  rw [e, e]
  simp only [Option.bind_some, Bool.false_eq_true, ↓reduceIte]
  split
  · rfl
  · split <;> rfl
end Go.Proofs.Ytokelcedamegbaa.P

/- Lists in order. -/
namespace Go.Proofs.Ytokelcedamegbaa.P
open Go.RowKit Go.Proofs.YtokelcedamegbaaW.PrintWords Go.Proofs.YtokelcedamegbaaW.PrintLast Go.Proofs.YtokelcedamegbaaW.PrintMore
theorem lexc_drop (a b : List Int) (i : Nat) (h : i < a.length) : lexc (a.drop i) (b.drop i) = if i < b.length then (if cmpI (a.getD i 0) (b.getD i 0) = 0 then lexc (a.drop (i + 1)) (b.drop (i + 1)) else cmpI (a.getD i 0) (b.getD i 0)) else 1 := by
  rw [drop_getD a 0 i h]
  by_cases hb : i < b.length
  · rw [if_pos hb, drop_getD b 0 i hb, lexc]
  · rw [if_neg hb, List.drop_eq_nil_of_le (show b.length ≤ i by omega), lexc]
theorem slices_Compare_int_int.ev (a b : List Int) (ha : a.length ≤ 9223372036854775807) : Ev (fun k => slices_Compare_int_int.f k a b) (lexc a b) := by
  unfold slices_Compare_int_int.f
  have key := Ev.down (G := fun i k => slices_Compare_int_int.l0 k a b a (a.length : Int) (i : Int)) (R := fun i => lexc (a.drop i) (b.drop i)) a.length
    (by refine Ev.shift ?_
        simp only [slices_Compare_int_int.l0, Int.lt_irrefl, ↓reduceIte, List.drop_length]
        by_cases h : (a.length : Int) < (b.length : Int)
        · simp only [h, ↓reduceIte]
          refine Ev.eq Ev.some ?_
          rw [drop_getD b 0 a.length (by omega)]
          rfl
        · simp only [h, ↓reduceIte]
          refine Ev.eq Ev.some ?_
          rw [List.drop_eq_nil_of_le (show b.length ≤ a.length by omega)]
          rfl)
    (fun i hi ih => by
        refine Ev.shift ?_
        have c1 : (i : Int) < (a.length : Int) := by omega
        have c0 : (0 : Int) ≤ (i : Int) := by omega
        rw [lexc_drop a b i hi]
        simp only [slices_Compare_int_int.l0, c1, c0, ↓reduceIte]
        by_cases hb : i < b.length
        · have c2 : ¬ (i : Int) ≥ (b.length : Int) := by omega
          have c3 : (i : Int) < (b.length : Int) := by omega
          simp only [c2, c3, hb, ↓reduceIte, rd_nat]
          refine Ev.bind (Ev.one (cmp_Compare_int.eq _ _)) ?_
          by_cases hc : cmpI (a.getD i 0) (b.getD i 0) = 0
          · simp only [hc, ↓reduceIte, w1 hi ha]
            exact ih
          · simp only [hc, ↓reduceIte]
            exact Ev.some
        · have c2 : (i : Int) ≥ (b.length : Int) := by omega
          simp only [c2, hb, ↓reduceIte]
          exact Ev.some)
  exact key 0 (Nat.zero_le _)
theorem spec_voBefore.ev (a b : List Int) (ha : a.length ≤ 9223372036854775807) : Ev (fun k => spec_voBefore.f k a b) (decide (lexc a b < 0)) := by
  unfold spec_voBefore.f
  have fin : ∀ i, i ≤ a.length → (¬ i < a.length ∨ ¬ i < b.length) → i ≤ b.length → Ev (fun k => spec_voBefore.j1 k a b (i : Int) false) (decide (lexc (a.drop i) (b.drop i) < 0)) := by
    intro i h1 h2 h3
    refine Ev.shift ?_
    simp only [spec_voBefore.j1, Bool.false_eq_true, ↓reduceIte]
    refine Ev.eq Ev.some ?_
    rw [decide_eq_decide]
    by_cases hb : i < b.length
    · have ea : i = a.length := by omega
      rw [ea, List.drop_length, drop_getD b 0 a.length (by omega), lexc]
      omega
    · rw [List.drop_eq_nil_of_le (show b.length ≤ i by omega)]
      by_cases hai : i < a.length
      · rw [drop_getD a 0 i hai, lexc]; omega
      · rw [List.drop_eq_nil_of_le (show a.length ≤ i by omega), lexc]; omega
  have key := back (P := fun i => i ≤ b.length → Ev (fun k => spec_voBefore.l0 k a b (i : Int)) (decide (lexc (a.drop i) (b.drop i) < 0))) a.length
    (by intro h3
        refine Ev.shift ?_
        simp only [spec_voBefore.l0, Int.lt_irrefl, ↓reduceIte]
        exact fin a.length (Nat.le_refl _) (.inl (by omega)) h3)
    (by intro i hi ih h3
        refine Ev.shift ?_
        have c1 : (i : Int) < (a.length : Int) := by omega
        have c0 : (0 : Int) ≤ (i : Int) := by omega
        simp only [spec_voBefore.l0, c1, ↓reduceIte]
        by_cases hb : i < b.length
        · have c2 : (i : Int) < (b.length : Int) := by omega
          simp only [c2, decide_true]
          refine Ev.shift ?_
          rw [lexc_drop a b i hi, if_pos hb]
          simp only [spec_voBefore.j1, ↓reduceIte, c0, c1, c2, rd_nat, w1 hi ha]
          by_cases he : a.getD i 0 = b.getD i 0
          · have hc : cmpI (b.getD i 0) (b.getD i 0) = 0 := by simp [cmpI]
            simp only [he, ↓reduceIte, hc]
            exact ih (by omega)
          · have hc : ¬ cmpI (a.getD i 0) (b.getD i 0) = 0 := by unfold cmpI; split; omega; split <;> omega
            simp only [he, ↓reduceIte, hc]
            refine Ev.eq Ev.some ?_
            rw [decide_eq_decide]
            unfold cmpI
            split
            · omega
            · split <;> omega
        · have c2 : ¬ (i : Int) < (b.length : Int) := by omega
          simp only [c2, decide_false]
          exact fin i (by omega) (.inr hb) h3)
  exact key 0 (Nat.zero_le _) (Nat.zero_le _)
end Go.Proofs.Ytokelcedamegbaa.P
