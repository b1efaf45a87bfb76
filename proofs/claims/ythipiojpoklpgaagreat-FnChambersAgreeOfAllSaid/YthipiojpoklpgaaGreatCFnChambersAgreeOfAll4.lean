/- Part 4 of the texts below the law FnChambersAgreeOfAll. Printed by this session's driver over the kit's printer, but for the hand contracts and the plain laws. -/
import Derived.Tactics
import Derived.ProofKit
import Derived.Deep.Slices
import Derived.Test.YthipiojpoklpgaaGreatCFnChambersAgreeOfAll0
import Derived.Test.YthipiojpoklpgaaGreatCFnChambersAgreeOfAll1
import Derived.Test.YthipiojpoklpgaaGreatCFnChambersAgreeOfAll2
import Derived.Test.YthipiojpoklpgaaGreatCFnChambersAgreeOfAll3
set_option linter.unusedVariables false
set_option linter.unusedSimpArgs false
namespace Go.Proofs.YthipiojpoklpgaaGreat.P
def jM (x y : Int) : Int := if x < y then -1 else if x > y then 1 else 0
def gE : List Int → List Int → Int
  | [], [] => 0
  | [], _ :: _ => -1
  | _ :: _, [] => 1
  | x :: a, y :: b => if jM x y = 0 then gE a b else jM x y
theorem oa (x y : Int) : jM y x = - jM x y := by
  unfold jM
  repeat' split
  all_goals omega
theorem iE {x y : Int} : jM x y = 0 ↔ x = y := by
  unfold jM
  repeat' split
  all_goals constructor
  all_goals intro h
  all_goals omega
theorem k7 {x y : Int} : jM x y < 0 ↔ x < y := by
  unfold jM
  repeat' split
  all_goals constructor
  all_goals intro h
  all_goals omega
theorem fO : ∀ a b : List Int, gE b a = - gE a b
  | [], [] => rfl
  | [], _ :: _ => rfl
  | _ :: _, [] => rfl
  | x :: a, y :: b => by
    rw [gE, gE, oa x y, fO a b]
    by_cases h : jM x y = 0
    · rw [if_pos h, if_pos (by rw [h]; rfl)]
    · rw [if_neg h, if_neg (fun z => h (by omega))]
theorem jf : ∀ {a b : List Int}, gE a b = 0 → a = b
  | [], [], _ => rfl
  | [], _ :: _, h => absurd h (by simp [gE])
  | _ :: _, [], h => absurd h (by simp [gE])
  | x :: a, y :: b, h => by
    rw [gE] at h
    by_cases h0 : jM x y = 0
    · rw [if_pos h0] at h
      rw [iE.1 h0, jf h]
    · rw [if_neg h0] at h
      exact absurd h h0
theorem lJ : ∀ a : List Int, gE a a = 0
  | [] => rfl
  | x :: a => by rw [gE, if_pos (iE.2 rfl), lJ a]
theorem iG : ∀ {a b c : List Int}, gE a b ≤ 0 → gE b c ≤ 0 → gE a c ≤ 0
  | [], _, [], _, _ => by decide
  | [], _, _ :: _, _, _ => by simp [gE]
  | _ :: _, [], _, h, _ => absurd h (by simp [gE])
  | _ :: _, _ :: _, [], _, h => absurd h (by simp [gE])
  | x :: a, y :: b, z :: c, h, k => by
    rw [gE] at h k ⊢
    have c1 := @iE x y
    have c2 := @iE y z
    have c3 := @iE x z
    have n1 := @k7 x y
    have n2 := @k7 y z
    have n3 := @k7 x z
    by_cases h1 : jM x y = 0
    · rw [if_pos h1] at h
      by_cases h2 : jM y z = 0
      · rw [if_pos h2] at k
        rw [if_pos (c3.2 ((c1.1 h1).trans (c2.1 h2)))]
        exact iG h k
      · rw [if_neg h2] at k
        rw [if_neg (fun e => h2 (c2.2 ((c1.1 h1).symm.trans (c3.1 e))))]
        have e := c1.1 h1
        rw [e]
        exact k
    · rw [if_neg h1] at h
      by_cases h2 : jM y z = 0
      · rw [if_neg (fun e => h1 (c1.2 ((c3.1 e).trans (c2.1 h2).symm)))]
        rw [← c2.1 h2]
        exact h
      · rw [if_neg h2] at k
        have q1 := n1.1 (by omega)
        have q2 := n2.1 (by omega)
        have q3 := n3.2 (by omega)
        rw [if_neg (by omega)]
        omega
def lr (a b : List Int) : Bool := decide (gE a b ≤ 0)
theorem kI (a b c : List Int) (h : lr a b = true) (k : lr b c = true) : lr a c = true := decide_eq_true (iG (of_decide_eq_true h) (of_decide_eq_true k))
theorem mJ (a b : List Int) : (lr a b || lr b a) = true := by
  have := fO a b
  rw [Bool.or_eq_true]
  by_cases h : gE a b ≤ 0
  · exact .inl (decide_eq_true h)
  · exact .inr (decide_eq_true (by omega))
theorem nj {a b : List Int} (h : lr a b = true) (k : lr b a = true) : a = b := by
  have := fO a b
  have h := of_decide_eq_true h
  have k := of_decide_eq_true k
  exact jf (by omega)
def gA (l : List (List Int)) : List (List Int) := l.mergeSort lr
theorem sorted_perm (l : List (List Int)) : (gA l).Perm l := List.mergeSort_perm l lr
theorem j4 (l : List (List Int)) : (gA l).Pairwise (fun a b => lr a b = true) := List.pairwise_mergeSort kI mJ l
theorem lx {l r : List (List Int)} (hp : r.Perm l) (hs : r.Pairwise (fun a b => lr a b = true)) : r = gA l :=
  List.Perm.eq_of_pairwise (fun _ _ _ _ h k => nj h k) hs (j4 l) (hp.trans (sorted_perm l).symm)
end Go.Proofs.YthipiojpoklpgaaGreat.P

namespace Go.Proofs.YthipiojpoklpgaaGreat.P
open Go.RowKit Go.Proofs.YthipiojpoklpgaaGreatW.PrintWords Go.Proofs.YthipiojpoklpgaaGreatW.PrintLast Go.Proofs.YthipiojpoklpgaaGreatW.PrintMore
section
variable {P : Program} {ops : Array Oper} {Q : Exit → Act → World → Prop}
theorem run_fnB {oi : Oper} {a : Act} {w : World} {g : FuncId} {bd lb : Array Value} {t : Tmp} {ao : Array Operand} {ts : Array TypeId} (eg : ∀ (args : Array Value) (w : World), (callFunc g args).run P w = .ok (.enter g args) w) (args : Array Value)
    (hop : oi.op = .call { callee := .value (.tmp t), args := ao, argTypes := ts }) (hfn : a.eval (.tmp t) = .func (.func g) bd lb) (hargs : ao.map a.eval = args) : (execOp a.eval oi).run P w = .ok (.enter g ((bd ++ args) ++ lb)) w := by
  unfold execOp
  simp [hop, resolve, Deferred.ofValue, invoke, hfn, hargs, eg]
theorem nX {rest : List Oper} {oi : Oper} {a : Act} {w : World} (N : Option Tmp) (hd : oi.dst = N) (hg : oi.guard = none) {g : FuncId} {bd lb : Array Value} {t : Tmp} {ao : Array Operand} {ts : Array TypeId} (eg : ∀ (args : Array Value) (w : World), (callFunc g args).run P w = .ok (.enter g args) w) (args : Array Value)
    (hop : oi.op = .call { callee := .value (.tmp t), args := ao, argTypes := ts }) (hfn : a.eval (.tmp t) = .func (.func g) bd lb) (hargs : ao.map a.eval = args)
    (h : Calls P g ((bd ++ args) ++ lb) w fun e w' => ∃ v, e = .returned v ∧ wpList P ops Q rest (a.put N v) w') : wpList P ops Q (oi :: rest) a w := by
  refine wpList_plain hg fun K hK => ?_
  have hrun := run_fnB (w := w) eg args hop hfn hargs
  unfold Oper.wp
  rw [hrun, Oper.upon_enter]
  refine h.mono fun e w'' hh => ?_
  obtain ⟨v, rfl, hk⟩ := hh
  subst hd
  exact hK _ _ hk
end
theorem Ev.down {ρ : Type} {G : Nat → Nat → Option ρ} {R : Nat → ρ} (n : Nat) (hend : Ev (G n) (R n)) (hstep : ∀ i, i < n → Ev (G (i + 1)) (R (i + 1)) → Ev (G i) (R i)) : ∀ i, i ≤ n → Ev (G i) (R i) := by
  have key : ∀ d i, i + d = n → Ev (G i) (R i) := by
    intro d
    induction d with
    | zero => intro i hi; obtain rfl : i = n := by omega
              exact hend
    | succ d ih => intro i hi; exact hstep i (by omega) (ih (i + 1) (by omega))
  intro i hi
  exact key (n - i) i (by omega)
theorem back {P : Nat → Prop} (n : Nat) (hend : P n) (hstep : ∀ i, i < n → P (i + 1) → P i) : ∀ i, i ≤ n → P i := by
  have key : ∀ d i, i + d = n → P i := by
    intro d
    induction d with
    | zero => intro i hi; obtain rfl : i = n := by omega
              exact hend
    | succ d ih => intro i hi; exact hstep i (by omega) (ih (i + 1) (by omega))
  intro i hi
  exact key (n - i) i (by omega)
theorem Ev.some {α : Type} {r : α} : Ev (fun _ => Option.some r) r := Ev.now r
theorem Ev.one {α : Type} {g : Option α} {r : α} (h : g = Option.some r) : Ev (fun _ => g) r := ⟨0, fun _ _ => h⟩
theorem Ev.aV {α : Type} {c : Prop} [Decidable c] {g f : Nat → Option α} {r : α} (hc : c) (h : Ev g r) : Ev (fun k => if c then g k else f k) r := by
  obtain ⟨K, h⟩ := h; exact ⟨K, fun k hk => (if_pos hc).trans (h k hk)⟩
theorem Ev.cd {α : Type} {c : Prop} [Decidable c] {g f : Nat → Option α} {r : α} (hc : ¬ c) (h : Ev f r) : Ev (fun k => if c then g k else f k) r := by
  obtain ⟨K, h⟩ := h; exact ⟨K, fun k hk => (if_neg hc).trans (h k hk)⟩
theorem Ev.eq {α : Type} {g : Nat → Option α} {r r' : α} (h : Ev g r) (e : r = r') : Ev g r' := e ▸ h
theorem Ev.shift {α : Type} {g : Nat → Option α} {r : α} (h : Ev (fun k => g (k + 1)) r) : Ev g r := Ev.step (fun _ => rfl) h
theorem w64 {x : Int} (h0 : -9223372036854775808 ≤ x) (h1 : x ≤ 9223372036854775807) : wrap64 x = x := by unfold wrap64; omega
theorem w1 {i n : Nat} (h : i < n) (hn : n ≤ 9223372036854775807) : wrap64 ((i : Int) + 1) = ((i + 1 : Nat) : Int) := by unfold wrap64; omega
theorem fU (l : List Int) (i : Nat) : rd l (i : Int) = l.getD i 0 := by simp [rd]
theorem fa (l : List Bool) (i : Nat) : dE false l (i : Int) = l.getD i false := by simp [dE]
theorem dv {α : Type} (l : List α) (d : α) (i : Nat) (h : i < l.length) : l.drop i = l.getD i d :: l.drop (i + 1) := drop_cons l d i h
theorem fq {α : Type} (l : List α) (d : α) (i : Nat) (h : i < l.length) : l.take (i + 1) = l.take i ++ [l.getD i d] := by
  rw [List.take_succ_eq_append_getElem h, List.getD_eq_getElem?_getD, List.getElem?_eq_getElem h]; rfl
theorem dw {α : Type} (l : List α) (d : α) (i : Nat) (h : i < l.length) : l.getD i d ∈ l := by
  rw [List.getD_eq_getElem?_getD, List.getElem?_eq_getElem h]; exact List.getElem_mem h
theorem gy {α β : Type} (f : β → α → β) (b : β) (l : List α) (d : α) (i : Nat) (h : i < l.length) : (l.take (i + 1)).foldl f b = f ((l.take i).foldl f b) (l.getD i d) := by
  rw [fq l d i h, List.foldl_append]; rfl
def filled {α : Type} (l : List α) (z : α) (i : Nat) : List α := l.take i ++ List.replicate (l.length - i) z
theorem kH {α : Type} (l : List α) (z : α) (i : Nat) (h : i ≤ l.length) : (filled l z i).length = l.length := by unfold filled; simp; omega
theorem jZ {α : Type} (l : List α) (z : α) : filled l z 0 = List.replicate l.length z := by simp [filled]
theorem kF {α : Type} (l : List α) (z : α) : filled l z l.length = l := by simp [filled]
theorem ky {α : Type} (l : List α) (z d : α) (i : Nat) (h : i < l.length) : (filled l z i).set i (l.getD i d) = filled l z (i + 1) := by
  unfold filled
  have e : (l.take i).length = i := by simp; omega
  rw [fq l d i h, List.set_append_right i (l.getD i d) (by omega), e, Nat.sub_self, show l.length - i = (l.length - (i + 1)) + 1 by omega, List.replicate_succ]
  simp
def marks (a : Int) (n : Nat) : List Int := (List.range n).map fun i : Nat => a + (i : Int)
def inI (a b x : Int) : Bool := decide (a ≤ x) && decide (x ≤ b)
def isComm (q : Int) (l : List Int) : Bool := decide (1 ≤ l.length) && decide (l.length ≤ 9) && l.all (inI 0 1000) && inI 1 l.sum q
theorem fF {q : Int} {l : List Int} (h : isComm q l = true) : 1 ≤ l.length ∧ l.length ≤ 9 := by simp [isComm] at h; exact ⟨h.1.1.1, h.1.1.2⟩
theorem eX {q : Int} {l : List Int} (h : isComm q l = true) : ∀ x ∈ l, 0 ≤ x ∧ x ≤ 1000 := by
  intro x hx
  simp [isComm, inI] at h
  exact h.1.2 x hx
theorem jL {q : Int} {l : List Int} (h : isComm q l = true) : 1 ≤ q ∧ q ≤ l.sum := by simp [isComm, inI] at h; exact h.2
theorem mM (l : List Int) (h : ∀ x ∈ l, 0 ≤ x ∧ x ≤ 1000) : 0 ≤ l.sum ∧ l.sum ≤ 1000 * l.length := by
  induction l with
  | nil => simp
  | cons x l ih =>
    have h1 := h x (by simp)
    have h2 := ih (fun y hy => h y (by simp [hy]))
    simp only [List.sum_cons, List.length_cons]
    omega
def wsum (l : List Int) : Int := l.foldl (fun s x => wrap64 (s + x)) 0
theorem oC (l : List Int) (s : Int) (hs : 0 ≤ s) (h : ∀ x ∈ l, 0 ≤ x ∧ x ≤ 1000) (hb : s + 1000 * l.length ≤ 9223372036854775807) : l.foldl (fun s x => wrap64 (s + x)) s = s + l.sum := by
  induction l generalizing s with
  | nil => simp
  | cons x l ih =>
    have h1 := h x (by simp)
    simp only [List.length_cons] at hb
    rw [List.foldl_cons, w64 (by omega) (by omega), ih (s + x) (by omega) (fun y hy => h y (by simp [hy])) (by omega), List.sum_cons]
    omega
theorem nu (l : List Int) (h : ∀ x ∈ l, 0 ≤ x ∧ x ≤ 1000) (hb : l.length ≤ 9000000) : wsum l = l.sum := by
  unfold wsum; rw [oC l 0 (by omega) h (by omega)]; omega
theorem iW (x i : Nat) (h : i ≤ 64) : shr .i64 (x : Int) (i : Int) = ((x / 2 ^ i : Nat) : Int) := by
  unfold shr
  have e : min ((i : Int).toNat) IntKind.i64.bits = i := by
    have : IntKind.i64.bits = 64 := rfl
    omega
  rw [e]; simp
theorem pow63 {i : Nat} (h : i < 63) : 2 ^ i < 9223372036854775808 := Nat.lt_of_lt_of_le (Nat.pow_lt_pow_right (by omega) h) (by decide)
theorem ic (i : Nat) (h : i < 63) : shl .i64 1 (i : Int) = ((2 ^ i : Nat) : Int) := by
  unfold shl
  have e : min ((i : Int).toNat) IntKind.i64.bits = i := by
    have : IntKind.i64.bits = 64 := rfl
    omega
  have h1 := pow63 h
  have c : ((2 ^ i : Nat) : Int) = 2 ^ i := by simp
  rw [e, Int.one_mul, IntKind.wrap_i64, ← c]
  generalize 2 ^ i = z at h1
  omega
theorem i64_of (n : Int) (h0 : 0 ≤ n) (h1 : n < 2 ^ 63) : IntKind.i64.wrap n = n := by rw [IntKind.wrap_i64]; omega
theorem nB (a b : Nat) (ha : a < 2 ^ 63) (hb : b < 2 ^ 63) : Go.bits .and .i64 (a : Int) (b : Int) = ((a &&& b : Nat) : Int) := (bits_nat .i64 63 (by decide) i64_of a b ha hb).1
theorem ow (a b : Nat) (ha : a < 2 ^ 63) (hb : b < 2 ^ 63) : Go.bits .or .i64 (a : Int) (b : Int) = ((a ||| b : Nat) : Int) := (bits_nat .i64 63 (by decide) i64_of a b ha hb).2
theorem and_one (a : Nat) (ha : a < 2 ^ 63) : Go.bits .and .i64 (a : Int) 1 = ((a % 2 : Nat) : Int) := by
  have := nB a 1 ha (by decide)
  rw [Nat.and_one_is_mod] at this
  exact this
theorem kN (a : Nat) : Int.tmod (a : Int) 2 = ((a % 2 : Nat) : Int) := by rw [Int.tmod_eq_emod_of_nonneg (by omega)]; omega
theorem fW (b i : Nat) : b.testBit i = decide (b / 2 ^ i % 2 = 1) := by rw [Nat.testBit_eq_decide_div_mod_eq]
theorem my {b i : Nat} (h : b.testBit i = false) : b ||| 2 ^ i = b + 2 ^ i := by
  apply Nat.eq_of_testBit_eq
  intro j
  rw [Nat.testBit_or, Nat.testBit_two_pow, Nat.add_comm]
  rcases Nat.lt_trichotomy j i with hj | hj | hj
  · rw [Nat.testBit_two_pow_add_gt hj]
    have : ¬ i = j := by omega
    simp [this]
  · subst hj
    rw [Nat.testBit_two_pow_add_eq, h]
    simp
  · have hd : (2 ^ i + b) / 2 ^ (i + 1) = b / 2 ^ (i + 1) := by
      have h0 : b / 2 ^ i % 2 = 0 := by
        rw [fW] at h
        have h1 := Nat.mod_two_eq_zero_or_one (b / 2 ^ i)
        rcases h1 with h1 | h1
        · exact h1
        · simp [h1] at h
      rw [Nat.pow_succ, ← Nat.div_div_eq_div_mul, ← Nat.div_div_eq_div_mul, Nat.add_div_left _ (Nat.two_pow_pos i)]
      omega
    obtain ⟨d, rfl⟩ : ∃ d, j = i + 1 + d := ⟨j - (i + 1), by omega⟩
    have e : ∀ x : Nat, x.testBit (i + 1 + d) = (x / 2 ^ (i + 1)).testBit d := fun x => by
      rw [Nat.testBit_div_two_pow, Nat.add_comm d]
    rw [e, e, hd]
    have : ¬ i = i + 1 + d := by omega
    simp [this]
def wt : List Int → Nat → Int
  | [], _ => 0
  | x :: l, b => (if b % 2 = 1 then x else 0) + wt l (b / 2)
def tab (n : Nat) (P : Nat → Bool) : List Bool := (List.range (2 ^ n)).map P
theorem dp (n : Nat) (P : Nat → Bool) : (tab n P).length = 2 ^ n := by simp [tab]
theorem fo (n : Nat) (P : Nat → Bool) (b : Nat) (h : b < 2 ^ n) : (tab n P).getD b false = P b := by simp [tab, List.getD_eq_getElem?_getD, List.getElem?_range h]
theorem db {n m : Nat} (h : n ≤ m) : 2 ^ n ≤ 2 ^ m := Nat.pow_le_pow_right (by omega) h
def sel (n : Nat) (P : Nat → Bool) : List Int := ((List.range n).filter P).map fun i : Nat => (i : Int)
theorem iL (n : Nat) (P : Nat → Bool) : sel (n + 1) P = sel n P ++ (if P n = true then [(n : Int)] else []) := by
  unfold sel
  rw [List.range_succ, List.filter_append, List.map_append]
  congr 1
  cases h : P n <;> simp [h]
theorem iw (n : Nat) (P : Nat → Bool) : (sel n P).length ≤ n := by
  have := List.length_filter_le P (List.range n)
  simp [sel] at *; omega
theorem Ev.all {α β : Type} {p : Nat → α → Option β} {P : α → β} (l : List α) (h : ∀ x ∈ l, Ev (fun k => p k x) (P x)) : ∃ K, ∀ k, K ≤ k → ∀ x ∈ l, p k x = Option.some (P x) := by
  induction l with
  | nil => exact ⟨0, fun _ _ _ h => by simp at h⟩
  | cons x l ih =>
    obtain ⟨K, hK⟩ := ih (fun y hy => h y (by simp [hy]))
    obtain ⟨K', hK'⟩ := h x (by simp)
    refine ⟨K + K', fun k hk y hy => ?_⟩
    rcases List.mem_cons.1 hy with rfl | hy
    · exact hK' k (by omega)
    · exact hK k (by omega) y hy
theorem Ev.ask {α β γ : Type} {p : Nat → α → Option β} {P : α → β} (l : List α) (h : ∀ x ∈ l, Ev (fun k => p k x) (P x)) {F : Nat → (α → Option β) → Option γ} {r : γ} (hF : ∃ K, ∀ k, K ≤ k → ∀ q : α → Option β, (∀ x ∈ l, q x = Option.some (P x)) → F k q = Option.some r) : Ev (fun k => F k (p k)) r := by
  obtain ⟨K, hK⟩ := Ev.all l h
  obtain ⟨K', hK'⟩ := hF
  exact ⟨K + K', fun k hk => hK' k (by omega) _ (hK k (by omega))⟩
theorem mH {ρ : Type} {G : Nat → Nat → Option ρ} {R : Nat → ρ} (n : Nat) (hend : ∀ k, G n (k + 1) = Option.some (R n)) (hstep : ∀ i, i < n → ∀ k, G (i + 1) k = Option.some (R (i + 1)) → G i (k + 1) = Option.some (R i)) : ∀ i, i ≤ n → ∀ k, n - i < k → G i k = Option.some (R i) := by
  have key : ∀ d i, i + d = n → ∀ k, d < k → G i k = Option.some (R i) := by
    intro d
    induction d with
    | zero => intro i hi k hk
              obtain rfl : i = n := by omega
              obtain ⟨k, rfl⟩ : ∃ j, k = j + 1 := ⟨k - 1, by omega⟩
              exact hend k
    | succ d ih => intro i hi k hk
                   obtain ⟨k, rfl⟩ : ∃ j, k = j + 1 := ⟨k - 1, by omega⟩
                   exact hstep i (by omega) k (ih (i + 1) (by omega) k (by omega))
  intro i hi k hk
  exact key (n - i) i (by omega) k (by omega)
def idxFrom {α : Type} (P : α → Bool) : Nat → List α → Int
  | _, [] => -1
  | i, x :: l => if P x = true then (i : Int) else idxFrom P (i + 1) l
theorem iJ {α : Type} (P : α → Bool) (l : List α) (i : Nat) : decide (idxFrom P i l ≥ 0) = l.any P := by
  induction l generalizing i with
  | nil => rfl
  | cons x l ih =>
    unfold idxFrom
    rw [List.any_cons]
    cases h : P x with
    | true => simp only [↓reduceIte, Bool.true_or, decide_eq_true_eq]; omega
    | false => simp only [Bool.false_eq_true, ↓reduceIte, Bool.false_or]; exact ih (i + 1)
def over {α : Type} (t l : List α) (i : Nat) : List α := t.take i ++ l.drop i
theorem nV {α : Type} (t l : List α) : over t l 0 = l := by simp [over]
theorem over_all {α : Type} (t l : List α) (h : t.length = l.length) : over t l l.length = t := by simp [over, ← h]
theorem over_len {α : Type} (t l : List α) (i : Nat) (h : t.length = l.length) : (over t l i).length = l.length := by simp [over]; omega
theorem over_set {α : Type} (t l : List α) (d : α) (i : Nat) (h : t.length = l.length) (hi : i < l.length) : (over t l i).set i (t.getD i d) = over t l (i + 1) := by
  unfold over
  have e : (t.take i).length = i := by simp; omega
  rw [fq t d i (by omega), List.set_append_right i (t.getD i d) (by omega), e, Nat.sub_self, List.drop_eq_getElem_cons hi, List.set_cons_zero, List.append_assoc]
  rfl
theorem over_get {α : Type} (t l : List α) (d : α) (i : Nat) (h : t.length = l.length) (hi : i < l.length) : (over t l i).getD i d = l.getD i d := by
  unfold over
  rw [List.getD_eq_getElem?_getD, List.getD_eq_getElem?_getD, List.getElem?_append_right (by simp; omega), List.length_take, Nat.min_eq_left (by omega), Nat.sub_self, List.getElem?_drop, Nat.add_zero]
def iQ (P : Nat → Bool) (n i : Nat) : Bool := (List.range' i (n - i)).all P
theorem jh (P : Nat → Bool) (n : Nat) : iQ P n n = true := by simp [iQ]
theorem ix (P : Nat → Bool) (n i : Nat) (h : i < n) : iQ P n i = (P i && iQ P n (i + 1)) := by
  unfold iQ
  obtain ⟨d, rfl⟩ : ∃ d, n = i + d + 1 := ⟨n - i - 1, by omega⟩
  rw [show i + d + 1 - i = d + 1 by omega, show i + d + 1 - (i + 1) = d by omega, List.range'_succ, List.all_cons]
theorem hZ (P : Nat → Bool) (n : Nat) : iQ P n 0 = true ↔ ∀ j, j < n → P j = true := by
  simp only [iQ, List.all_eq_true, List.mem_range'_1, Nat.sub_zero, Nat.zero_add, Nat.zero_le, true_and]
def bitsOf (l : List Int) : Nat := l.foldl (fun m x => m ||| 2 ^ x.toNat) 0
theorem je (l : List Int) (n : Nat) (h : ∀ x ∈ l, 0 ≤ x ∧ x < n) (m : Nat) (hm : m < 2 ^ n) : l.foldl (fun m x => m ||| 2 ^ x.toNat) m < 2 ^ n := by
  induction l generalizing m with
  | nil => exact hm
  | cons x l ih =>
    have h1 := h x (by simp)
    rw [List.foldl_cons]
    exact ih (fun y hy => h y (by simp [hy])) _ (Nat.or_lt_two_pow hm (Nat.pow_lt_pow_right (by omega) (by omega)))
def fQ (w : List Bool) (i m : Nat) : Bool := !m.testBit i && !w.getD m false && w.getD (m + 2 ^ i) false
def swl (n : Nat) (w : List Bool) : List Int := (List.range n).map fun i => (((List.range (2 ^ n)).countP (fQ w i) : Nat) : Int)
theorem kU (n : Nat) (w : List Bool) : (swl n w).length = n := by simp [swl]
theorem ng (n : Nat) (w : List Bool) (i : Nat) (h : i < n) : (swl n w).getD i 0 = (((List.range (2 ^ n)).countP (fQ w i) : Nat) : Int) := by simp [swl, List.getD_eq_getElem?_getD, List.getElem?_range h]
theorem ou {n m i : Nat} (hm : m < 2 ^ n) (hi : i < n) (h : m.testBit i = false) : m + 2 ^ i < 2 ^ n := by
  rw [← my h]; exact Nat.or_lt_two_pow hm (Nat.pow_lt_pow_right (by omega) hi)
def mU (l : List Int) (i : Nat) : Bool := i == 0 || decide (l.getD (i - 1) 0 < l.getD i 0)
def ep (l : List Int) (n : Int) : Bool := l.all (inI 0 (n - 1)) && iQ (mU l) l.length 0
theorem gT {l : List Int} {n : Int} (h : ep l n = true) : ∀ x ∈ l, 0 ≤ x ∧ x < n := by
  intro x hx
  simp only [ep, Bool.and_eq_true, List.all_eq_true, inI, decide_eq_true_eq] at h
  have := h.1 x hx
  omega
theorem kD {l : List Int} {n : Int} (h : ep l n = true) : (l.length : Int) ≤ n ∨ l = [] := by
  by_cases hl : l = []
  · exact .inr hl
  · left
    have hm := gT h
    simp only [ep, Bool.and_eq_true] at h
    have hi := (hZ _ _).1 h.2
    have key : ∀ i, i < l.length → (i : Int) ≤ l.getD i 0 := by
      intro i
      induction i with
      | zero => intro h0; have := hm _ (dw l 0 0 h0); omega
      | succ i ih =>
        intro h1
        have h2 := hi (i + 1) h1
        simp only [mU, Bool.or_eq_true, beq_iff_eq, decide_eq_true_eq, Nat.add_sub_cancel] at h2
        have := ih (by omega)
        omega
    have hpos : 0 < l.length := List.length_pos_iff.2 hl
    have h3 := key (l.length - 1) (by omega)
    have h4 := hm _ (dw l 0 (l.length - 1) (by omega))
    omega
theorem allF_and (P Q : Nat → Bool) (n i : Nat) : iQ (fun j => P j && Q j) n i = (iQ P n i && iQ Q n i) := by
  unfold iQ
  induction (List.range' i (n - i)) with
  | nil => rfl
  | cons x l ih => simp only [List.all_cons, ih]; cases P x <;> cases Q x <;> simp
theorem na {α : Type} (P : α → Bool) (l : List α) (d : α) (i : Nat) (h : i ≤ l.length) : iQ (fun j => P (l.getD j d)) l.length i = (l.drop i).all P := by
  refine back (P := fun i => iQ (fun j => P (l.getD j d)) l.length i = (l.drop i).all P) l.length ?_ ?_ i h
  · rw [jh]; simp
  · intro i hi ih
    rw [ix _ _ _ hi, ih, dv l d i hi, List.all_cons]
end Go.Proofs.YthipiojpoklpgaaGreat.P

namespace Go.Proofs.YthipiojpoklpgaaGreat.P
section
variable {α : Type} (row : α → List Int)
def ltR (y x : α) : Bool := decide (gE (row y) (row x) < 0)
def lp (x : α) (o : List α) : List α := o.takeWhile (fun y => ltR row y x) ++ x :: o.dropWhile (fun y => ltR row y x)
def istR (l : List α) : List α := l.foldl (fun o x => lp row x o) []
theorem lI (x : α) (o : List α) : (lp row x o).Perm (x :: o) := by
  unfold lp
  refine List.perm_middle.trans ?_
  rw [List.takeWhile_append_dropWhile]
theorem nC (x : α) (o : List α) (h : o.Pairwise (fun a b => lr (row a) (row b) = true)) : (lp row x o).Pairwise (fun a b => lr (row a) (row b) = true) := by
  induction o with
  | nil => simp [lp]
  | cons y o ih =>
    rw [List.pairwise_cons] at h
    by_cases c : ltR row y x = true
    · have e : lp row x (y :: o) = y :: lp row x o := by
        unfold lp
        rw [List.takeWhile_cons_of_pos (by exact c), List.dropWhile_cons_of_pos (by exact c)]
        rfl
      rw [e, List.pairwise_cons]
      refine ⟨fun z hz => ?_, ih h.2⟩
      rcases List.mem_cons.1 ((lI row x o).mem_iff.1 hz) with rfl | hz
      · have := of_decide_eq_true c
        exact decide_eq_true (by omega)
      · exact h.1 z hz
    · have e : lp row x (y :: o) = x :: y :: o := by
        unfold lp
        rw [List.takeWhile_cons_of_neg (by exact c), List.dropWhile_cons_of_neg (by exact c)]
        rfl
      rw [e, List.pairwise_cons]
      have c' : ¬ gE (row y) (row x) < 0 := fun z => c (decide_eq_true z)
      have s := fO (row y) (row x)
      have hxy : lr (row x) (row y) = true := decide_eq_true (by omega)
      refine ⟨fun z hz => ?_, List.pairwise_cons.2 h⟩
      rcases List.mem_cons.1 hz with rfl | hz
      · exact hxy
      · exact kI _ _ _ hxy (h.1 z hz)
theorem lw (l o : List α) (h : o.Pairwise (fun a b => lr (row a) (row b) = true)) : (l.foldl (fun o x => lp row x o) o).Perm (l ++ o) ∧ (l.foldl (fun o x => lp row x o) o).Pairwise (fun a b => lr (row a) (row b) = true) := by
  induction l generalizing o with
  | nil => exact ⟨List.Perm.refl _, h⟩
  | cons x l ih =>
    rw [List.foldl_cons]
    obtain ⟨h1, h2⟩ := ih (lp row x o) (nC row x o h)
    refine ⟨h1.trans ?_, h2⟩
    refine (List.Perm.append_left l (lI row x o)).trans ?_
    rw [List.cons_append]
    exact List.perm_middle
theorem jP (l : List α) : (istR row l).Perm l := by have := (lw row l [] List.Pairwise.nil).1; rwa [List.append_nil] at this
theorem oy (l : List α) : (istR row l).Pairwise (fun a b => lr (row a) (row b) = true) := (lw row l [] List.Pairwise.nil).2
theorem nE (l : List α) : (istR row l).map row = gA (l.map row) := by
  refine lx ((jP row l).map row) ?_
  rw [List.pairwise_map]
  exact oy row l
theorem tw_spec (p : α → Bool) (d : α) (o : List α) : (∀ j, j < (o.takeWhile p).length → p (o.getD j d) = true) ∧ ((o.takeWhile p).length < o.length → p (o.getD (o.takeWhile p).length d) = false) ∧ o.takeWhile p = o.take (o.takeWhile p).length ∧ o.dropWhile p = o.drop (o.takeWhile p).length ∧ (o.takeWhile p).length ≤ o.length := by
  induction o with
  | nil => exact ⟨fun j h => absurd h (by simp), fun h => absurd h (by simp), rfl, rfl, Nat.le_refl _⟩
  | cons y o ih =>
    obtain ⟨h1, h2, h3, h4, h5⟩ := ih
    by_cases c : p y = true
    · rw [List.takeWhile_cons_of_pos c, List.dropWhile_cons_of_pos c, List.length_cons, List.length_cons]
      refine ⟨fun j hj => ?_, fun hj => ?_, ?_, ?_, by omega⟩
      · cases j with
        | zero => exact c
        | succ j => rw [List.getD_cons_succ]; exact h1 j (by omega)
      · rw [List.getD_cons_succ]; exact h2 (by omega)
      · rw [List.take_succ_cons, ← h3]
      · rw [List.drop_succ_cons, ← h4]
    · rw [List.takeWhile_cons_of_neg c, List.dropWhile_cons_of_neg c, List.length_nil]
      refine ⟨fun j hj => absurd hj (by omega), fun _ => ?_, rfl, rfl, Nat.zero_le _⟩
      rw [List.getD_cons_zero]
      exact Bool.eq_false_iff.2 c
end
end Go.Proofs.YthipiojpoklpgaaGreat.P

namespace Go.Proofs.YthipiojpoklpgaaGreat.P
open Go.RowKit Go.ChangeShapes Go.WideShapes Go.Proofs.YthipiojpoklpgaaGreatW.PrintWords Go.Proofs.YthipiojpoklpgaaGreatW.PrintLast Go.Proofs.YthipiojpoklpgaaGreatW.PrintMore
def okI (x : Int) : Prop := -9223372036854775808 ≤ x ∧ x ≤ 9223372036854775807
def okL {α : Type} (Ok : α → Prop) (l : List α) : Prop := l.length ≤ 9223372036854775807 ∧ ∀ x ∈ l, Ok x
structure ie {α : Type} (P : Program) (T : TypeId) (d : Kd α) (Ok : α → Prop) : Prop where
  go : ∀ {H : Type} (enc : TypeId × Value → H) (w : World) (fuel : Nat) (cs : List Value) (x : DataW H × List MemPlace),
    DataW.trod enc P w 0 (fun _ => true) true fuel T cs = some x → ∃ a, d.K w a cs ∧ Ok a
theorem ie.int {P : Program} {T : TypeId} (h : P.underlying T = some (.int .i64)) : ie P T (Kd.int .i64) okI := by
  refine ⟨fun enc w fuel cs x hx => ?_⟩
  obtain ⟨n, rfl, _, hw⟩ := DataW.trod_int h hx
  refine ⟨n, rfl, ?_⟩
  have hmin : IntKind.i64.min = -9223372036854775808 := rfl
  have hmax : IntKind.i64.max = 9223372036854775807 := rfl
  simp only [Lit.wf, Bool.and_eq_true, decide_eq_true_eq] at hw
  unfold okI
  omega
theorem nx {w : World} {a : Addr} {n : Nat} {cs : List Value} (h : w.cells? 0 a n = some cs) : cs.length = n ∧ ∀ j u, cs[j]? = some u → w.cell? (a.add j) = some u := by
  unfold World.cells? at h
  rw [if_pos (Nat.zero_le _)] at h
  have key : ∀ (l : List Nat) (r : List Value), l.mapM (fun i => w.cell? (a.add i)) = some r → r.length = l.length ∧ ∀ (j : Nat) (u : Value) (i : Nat), r[j]? = some u → l[j]? = some i → w.cell? (a.add i) = some u := by
    intro l
    induction l with
    | nil => intro r hr; simp at hr; subst hr; simp
    | cons i l ih =>
      intro r hr
      simp only [List.mapM_cons, Option.bind_eq_bind, Option.bind_eq_some_iff] at hr
      obtain ⟨v, hv, r', hr', he⟩ := hr
      have he' : v :: r' = r := by simpa using he
      subst he'
      obtain ⟨h1, h2⟩ := ih r' hr'
      refine ⟨by simp [h1], fun j u k hj hk => ?_⟩
      cases j with
      | zero => simp at hj hk; subst hj; subst hk; exact hv
      | succ j => simp at hj hk; exact h2 j u k hj hk
  obtain ⟨h1, h2⟩ := key _ _ h
  refine ⟨by simpa using h1, fun j u hj => ?_⟩
  have hlt : j < cs.length := (List.getElem?_eq_some_iff.1 hj).1
  exact h2 j u j hj (by rw [List.getElem?_range (by simpa [h1] using hlt)])
theorem add_add_ (a : Addr) (i j : Nat) : (a.add i).add j = a.add (i + j) := Go.Deep.add_add a i j
theorem ie.slice {α : Type} {P : Program} {T e : TypeId} {d : Kd α} {Ok : α → Prop} (h : P.underlying T = some (.slice e)) (hc : P.cellsOf e = d.sz) (hd : ie P e d Ok) : ie P T (Kd.slice e d) (okL Ok) := by
  refine ⟨fun enc w fuel cs x hx => ?_⟩
  rcases Go.Deep.open_slice h hx with ⟨rfl, _⟩ | ⟨a, len, cap, m, n, D, Pl, rfl, _, hl, hm, hmm, _, hel⟩
  · exact ⟨[], ⟨none, 0, rfl, Nat.le_refl _, Kd.C_nil _ _⟩, by simp, by simp⟩
  · have hm' : m = cap := by simpa using hmm
    subst hm'
    have hex : ∀ i, i < len → ∃ y : α × List Value, y.2.length = d.sz ∧ d.K w y.1 y.2 ∧ Ok y.1 ∧ ∀ j u, y.2[j]? = some u → w.cell? (a.add (i * d.sz + j)) = some u := by
      intro i hi
      obtain ⟨cs', h1, h2⟩ := hel i (by omega)
      rw [hc] at h1
      obtain ⟨hlen, hcell⟩ := nx h1
      obtain ⟨y, hy, ho⟩ := hd.go enc w n cs' _ h2
      exact ⟨(y, cs'), hlen, hy, ho, fun j u hj => by rw [← add_add_]; exact hcell j u hj⟩
    by_cases h0 : len = 0
    · subst h0
      exact ⟨[], ⟨some a, _, rfl, Nat.zero_le _, rfl, by simp, fun h => absurd h (Nat.lt_irrefl 0)⟩, by simp, by simp⟩
    · obtain ⟨y0, _⟩ := hex 0 (by omega)
      have : Inhabited (α × List Value) := ⟨y0⟩
      obtain ⟨f, hf⟩ := Go.Deep.choose_lt (α := α × List Value) hex
      have hlen : ((List.range len).map fun i => (f i).1).length = len := by simp
      have hget : ∀ j p, ((List.range len).map fun i => (f i).1)[j]? = some p → j < len ∧ p = (f j).1 := by
        intro j p hj
        obtain ⟨hlt, he⟩ := List.getElem?_eq_some_iff.1 hj
        simp at hlt he
        exact ⟨hlt, he.symm⟩
      refine ⟨(List.range len).map fun i => (f i).1, ⟨some a, m, by rw [hlen], by rw [hlen]; exact hl, by rw [hlen], by rw [hlen]; unfold maxLen at hm; omega, fun _ => ⟨a, rfl, fun j p hj => ?_⟩⟩, ?_, ?_⟩
      · obtain ⟨hlt, rfl⟩ := hget j p hj
        obtain ⟨h1, h2, _, h3⟩ := hf j hlt
        exact ⟨(f j).2, h1, h2, h3⟩
      · rw [hlen]; unfold maxLen at hm; omega
      · intro p hp
        obtain ⟨j, hj⟩ := List.mem_iff_getElem?.1 hp
        obtain ⟨hlt, rfl⟩ := hget j p hj
        exact (hf j hlt).2.2.1
theorem ie.struct2 {α β γ : Type} {P : Program} {T : TypeId} {f0 f1 : Field} {d0 : Kd α} {d1 : Kd β} {Ok0 : α → Prop} {Ok1 : β → Prop} {F : γ → α × β} (h : P.underlying T = some (.struct #[f0, f1]))
    (o0 : f0.offset = 0) (s0 : P.cellsOf f0.type = d0.sz) (o1 : f1.offset = d0.sz) (s1 : P.cellsOf f1.type = d1.sz) (sT : P.cellsOf T = d0.sz + d1.sz)
    (h0 : ie P f0.type d0 Ok0) (h1 : ie P f1.type d1 Ok1) (sur : ∀ p, ∃ x, F x = p) : ie P T (Kd.iso (Kd.pair d0 d1) F) (fun x => Ok0 (F x).1 ∧ Ok1 (F x).2) := by
  refine ⟨fun enc w fuel cs x hx => ?_⟩
  obtain ⟨y0, y1, n, _, hlen, r0, r1⟩ := trod_struct2 h hx
  rw [o0, s0, List.drop_zero] at r0
  rw [o1, s1] at r1
  obtain ⟨a0, k0, p0⟩ := h0.go enc w n _ _ r0
  obtain ⟨a1, k1, p1⟩ := h1.go enc w n _ _ r1
  obtain ⟨z, hz⟩ := sur (a0, a1)
  refine ⟨z, ?_, by rw [hz]; exact ⟨p0, p1⟩⟩
  show (Kd.pair d0 d1).K w (F z) cs
  rw [hz]
  refine ⟨_, _, ?_, k0, k1⟩
  rw [List.take_of_length_le (l := cs.drop d0.sz) (by rw [List.length_drop]; omega), List.take_append_drop]
theorem om {α : Type} {H : Type} {enc : TypeId × Value → H} {P : Program} {w : World} {r : Reach} {b0 : Nat} {T : TypeId} {fs : Array Field} {d : Kd α} {Ok : α → Prop} {v : Value} {y : DataW H} {p : List MemPlace}
    (h : P.underlying T = some (.struct fs)) (ho : ie P T d Ok) (hv : Value.okWide P w r b0 T v) (hd : DataW.Trod enc P w 0 (fun _ => true) true T v y p) : ∃ cs x, v = .agg cs ∧ d.K w x cs.toList ∧ Ok x := by
  obtain ⟨cs, rfl, _⟩ := okWide_struct h hv
  obtain ⟨fuel, hf⟩ := hd
  obtain ⟨x, hx, hok⟩ := ho.go enc w fuel _ _ hf
  exact ⟨cs, x, rfl, by simpa [Value.cells] using hx, hok⟩
theorem lW {α : Type} {H : Type} {enc : TypeId × Value → H} {P : Program} {w : World} {r : Reach} {b0 : Nat} {T e : TypeId} {d : Kd α} {Ok : α → Prop} {v : Value} {y : DataW H} {p : List MemPlace}
    (h : P.underlying T = some (.slice e)) (ho : ie P T (Kd.slice e d) (okL Ok)) (hv : Value.okWide P w r b0 T v) (hd : DataW.Trod enc P w 0 (fun _ => true) true T v y p) : ∃ (A : Option Addr) (c : Nat) (l : List α), v = .slice A l.length c ∧ l.length ≤ c ∧ d.C w A l.length l ∧ okL Ok l := by
  obtain ⟨a, len, cap, rfl⟩ := okWide_slice h hv
  obtain ⟨fuel, hf⟩ := hd
  obtain ⟨l, ⟨A, c, he, hl, hc⟩, hok⟩ := ho.go enc w fuel _ _ hf
  have he' : Value.slice a len cap = .slice A l.length c := by simpa [Value.cells] using he
  exact ⟨A, c, l, he', hl, hc, hok⟩
theorem ny {H : Type} {enc : TypeId × Value → H} {P : Program} {w : World} {r : Reach} {b0 : Nat} {T : TypeId} {v : Value} {y : DataW H} {p : List MemPlace}
    (h : P.underlying T = some (.int .i64)) (hv : Value.okWide P w r b0 T v) (hd : DataW.Trod enc P w 0 (fun _ => true) true T v y p) : ∃ n : Int, v = .int .i64 n ∧ okI n := by
  obtain ⟨n, rfl, _, _, hw⟩ := open_int h hv hd
  refine ⟨n, rfl, ?_⟩
  have hmin : IntKind.i64.min = -9223372036854775808 := rfl
  have hmax : IntKind.i64.max = 9223372036854775807 := rfl
  simp only [Lit.wf, Bool.and_eq_true, decide_eq_true_eq] at hw
  unfold okI
  omega
end Go.Proofs.YthipiojpoklpgaaGreat.P

namespace Go.Proofs.YthipiojpoklpgaaGreat.P
open Go.RowKit Go.Proofs.YthipiojpoklpgaaGreatW.PrintWords Go.Proofs.YthipiojpoklpgaaGreatW.PrintLast Go.Proofs.YthipiojpoklpgaaGreatW.PrintMore
def gM (x : aa) : Prop := okI x.f0 ∧ (okL okI) x.f1
theorem gV : ie Tryz.prog 25 ak gM :=
  ie.struct2 (F := fun x : aa => (x.f0, x.f1)) Tryz.underlying25 rfl (by kernel_rfl) rfl (by kernel_rfl) (by kernel_rfl) (ie.int Tryz.underlying3) (ie.slice Tryz.underlying23 (by kernel_rfl) (ie.int Tryz.underlying3)) (fun p => ⟨⟨p.1, p.2⟩, rfl⟩)
theorem b4.eq (a b c : Int) : b4.f a b c = some (inI b c a) := by
  unfold b4.f inI
  by_cases h : a ≥ b
  · have h' : b ≤ a := h
    simp [h']
  · have h' : ¬ b ≤ a := h
    simp [h']
theorem cp.eq (a b c : Int) : cp.f a b c = some (inI b c a) := by
  unfold cp.f inI
  by_cases h : a ≥ b
  · have h' : b ≤ a := h
    simp [h']
  · have h' : ¬ b ≤ a := h
    simp [h']
theorem dl.ev (l : List Int) (hm : l.length ≤ 9223372036854775807) : Ev (fun k => dl.f k l) (wsum l) := by
  have key := Ev.down (G := fun i k => dl.l0 k ((l.take i).foldl (fun s x => wrap64 (s + x)) 0) l (l.length : Int) (i : Int)) (R := fun _ => wsum l) l.length
    (by refine Ev.shift ?_
        simp only [dl.l0, Int.lt_irrefl, ↓reduceIte, List.take_length]
        exact Ev.some)
    (fun i hi ih => by
        refine Ev.shift ?_
        have c1 : (i : Int) < (l.length : Int) := by omega
        have c0 : (0 : Int) ≤ (i : Int) := by omega
        simp only [dl.l0, c1, c0, ↓reduceIte, w1 hi hm, fU]
        rw [gy _ _ l 0 i hi] at ih
        exact ih)
  exact key 0 (Nat.zero_le _)
theorem dB.ev (l : List Int) (hm : l.length ≤ 9223372036854775807) : Ev (fun k => dB.f k l) (wsum l) := by
  have key := Ev.down (G := fun i k => dB.l0 k ((l.take i).foldl (fun s x => wrap64 (s + x)) 0) l (l.length : Int) (i : Int)) (R := fun _ => wsum l) l.length
    (by refine Ev.shift ?_
        simp only [dB.l0, Int.lt_irrefl, ↓reduceIte, List.take_length]
        exact Ev.some)
    (fun i hi ih => by
        refine Ev.shift ?_
        have c1 : (i : Int) < (l.length : Int) := by omega
        have c0 : (0 : Int) ≤ (i : Int) := by omega
        simp only [dB.l0, c1, c0, ↓reduceIte, w1 hi hm, fU]
        rw [gy _ _ l 0 i hi] at ih
        exact ih)
  exact key 0 (Nat.zero_le _)
theorem ly (q : Int) (l : List Int) : isComm q l = if (1 ≤ l.length ∧ l.length ≤ 9) ∧ l.all (inI 0 1000) = true then inI 1 (wsum l) q else false := by
  unfold isComm
  by_cases h : (1 ≤ l.length ∧ l.length ≤ 9) ∧ l.all (inI 0 1000) = true
  · have hm : ∀ x ∈ l, 0 ≤ x ∧ x ≤ 1000 := by
      have := h.2
      simp [inI] at this
      exact this
    rw [if_pos h, nu l hm (by omega)]
    simp only [h.1.1, h.1.2, h.2, decide_true, Bool.true_and]
  · rw [if_neg h]
    by_cases h1 : 1 ≤ l.length
    · by_cases h2 : l.length ≤ 9
      · have h3 : l.all (inI 0 1000) = false := by
          cases h4 : l.all (inI 0 1000) with
          | true => exact absurd ⟨⟨h1, h2⟩, h4⟩ h
          | false => rfl
        simp only [h3, Bool.and_false, Bool.false_and]
      · simp only [h2, decide_false, Bool.and_false, Bool.false_and]
    · simp only [h1, decide_false, Bool.false_and]
theorem a8.ev (l : List Int) (hm : l.length ≤ 9223372036854775807) (p : Nat → Int → Option Bool) (P : Int → Bool) (h : ∀ x ∈ l, Ev (fun k => p k x) (P x)) : Ev (fun k => a8.f k l (p k)) (idxFrom P 0 l) := by
  refine Ev.ask (F := fun k q => a8.f k l q) l h ⟨l.length + 1, fun k hk q hq => ?_⟩
  unfold a8.f
  have := mH (G := fun i k => a8.l0 k l q (l.length : Int) (i : Int)) (R := fun i => idxFrom P i (l.drop i)) l.length
    (by intro k; simp only [a8.l0, Int.lt_irrefl, ↓reduceIte, List.drop_length, idxFrom])
    (fun i hi k ih => by
      have c1 : (i : Int) < (l.length : Int) := by omega
      have c0 : (0 : Int) ≤ (i : Int) := by omega
      simp only [a8.l0, c1, c0, ↓reduceIte, w1 hi hm, fU, hq _ (dw l 0 i hi), Option.bind_some]
      rw [dv l 0 i hi, idxFrom, ih]
      split <;> rfl) 0 (Nat.zero_le _) k (by omega)
  rwa [List.drop_zero] at this
theorem bu.ev (l : List Int) (hm : l.length ≤ 9223372036854775807) (p : Nat → Int → Option Bool) (P : Int → Bool) (h : ∀ x ∈ l, Ev (fun k => p k x) (P x)) : Ev (fun k => bu.f k l (p k)) (l.any P) := by
  unfold bu.f
  refine Ev.bind (a8.ev l hm p P h) ?_
  rw [iJ]
  exact Ev.some
theorem dZ.ev (l : List Int) (a b : Int) (hm : l.length ≤ 9223372036854775807) : Ev (fun k => dZ.f k l a b) (l.all (inI a b)) := by
  unfold dZ.f
  refine Ev.bind (bu.ev l hm (fun _ x => eG.f x a b) (fun x => !inI a b x) (fun x _ => ?_)) ?_
  · simp only [eG.f, b4.eq, Option.bind_some]; exact Ev.some
  · rw [l5]; exact Ev.some
theorem aH.ev (q : Int) (l : List Int) (hm : l.length ≤ 9223372036854775807) : Ev (fun k => aH.f k q l) (isComm q l) := by
  rw [ly]
  unfold aH.f
  by_cases h1 : 1 ≤ l.length
  · have c1 : (l.length : Int) ≥ 1 := by omega
    by_cases h2 : l.length ≤ 9
    · have c2 : (l.length : Int) ≤ 9 := by omega
      simp only [c1, c2, h1, h2, ↓reduceIte, and_self, true_and]
      refine Ev.bind (dZ.ev l 0 1000 hm) ?_
      by_cases h3 : l.all (inI 0 1000) = true
      · simp only [h3, ↓reduceIte]
        refine Ev.bind (dl.ev l hm) ?_
        simp only [b4.eq, Option.bind_some]
        exact Ev.some
      · simp only [h3]
        exact Ev.some
    · have c2 : ¬ (l.length : Int) ≤ 9 := by omega
      simp only [c1, c2, h2, ↓reduceIte, and_false, false_and]
      exact Ev.some
  · have c1 : ¬ (l.length : Int) ≥ 1 := by omega
    simp only [c1, h1, ↓reduceIte, false_and]
    exact Ev.some
theorem dy.ev (l : List Int) (a b : Int) (hm : l.length ≤ 9223372036854775807) : Ev (fun k => dy.f k l a b) (l.all (inI a b)) := by
  have key := Ev.down (G := fun i k => dy.l0 k a b l (l.length : Int) (i : Int)) (R := fun i => (l.drop i).all (inI a b)) l.length
    (by refine Ev.shift ?_
        simp only [dy.l0, Int.lt_irrefl, ↓reduceIte, List.drop_length, List.all_nil]
        exact Ev.some)
    (fun i hi ih => by
        refine Ev.shift ?_
        have c1 : (i : Int) < (l.length : Int) := by omega
        have c0 : (0 : Int) ≤ (i : Int) := by omega
        simp only [dy.l0, c1, c0, ↓reduceIte, w1 hi hm, fU, cp.eq, Option.bind_some]
        rw [dv l 0 i hi, List.all_cons]
        cases h : inI a b (l.getD i 0) with
        | true => simp only [↓reduceIte, Bool.true_and]; exact ih
        | false => simp only [Bool.false_eq_true, ↓reduceIte, Bool.false_and]; exact Ev.some)
  exact key 0 (Nat.zero_le _)
theorem cy.ev (q : Int) (l : List Int) (hm : l.length ≤ 9223372036854775807) : Ev (fun k => cy.f k q l) (isComm q l) := by
  rw [ly]
  unfold cy.f
  simp only [cp.eq, Option.bind_some]
  have e : inI 1 9 (l.length : Int) = decide (1 ≤ l.length ∧ l.length ≤ 9) := by
    unfold inI; rw [Bool.eq_iff_iff]; simp; omega
  rw [e]
  by_cases h : 1 ≤ l.length ∧ l.length ≤ 9
  · simp only [h, decide_true, ↓reduceIte, and_self, true_and]
    refine Ev.bind (dy.ev l 0 1000 hm) ?_
    refine Ev.shift ?_
    by_cases h3 : l.all (inI 0 1000) = true
    · simp only [cy.j0, h3, Bool.not_true, Bool.false_eq_true, ↓reduceIte]
      refine Ev.bind (dB.ev l hm) ?_
      simp only [cp.eq, Option.bind_some]
      exact Ev.some
    · have h4 : l.all (inI 0 1000) = false := by simpa using h3
      simp only [cy.j0, h4, Bool.not_false, Bool.false_eq_true, ↓reduceIte]
      exact Ev.some
  · simp only [h, decide_false, Bool.false_eq_true, ↓reduceIte, false_and]
    refine Ev.shift ?_
    simp only [cy.j0, ↓reduceIte]
    exact Ev.some
def oq (x : aa) : Bool := isComm x.f0 x.f1
theorem dJ (l : List aa) (i : Nat) : ae l (i : Int) = l.getD i aG := by simp [ae]
theorem gH {x : aa} (h : oq x = true) : 1 ≤ x.f1.length ∧ x.f1.length ≤ 9 := fF h
theorem dh.eq (b i : Nat) (hi : i ≤ 64) (hb : b < 2 ^ 63) : dh.f (b : Int) (i : Int) = some (b.testBit i) := by
  have c : (0 : Int) ≤ (i : Int) := by omega
  have hd : b / 2 ^ i < 2 ^ 63 := Nat.lt_of_le_of_lt (Nat.div_le_self _ _) hb
  unfold dh.f
  rw [if_pos c, iW b i hi, and_one _ hd, fW]
  congr 1
  rcases Nat.mod_two_eq_zero_or_one (b / 2 ^ i) with h | h <;> rw [h] <;> rfl
theorem a6.ev (q : Int) (l : List Int) (b : Nat) (h : ∀ x ∈ l, 0 ≤ x ∧ x ≤ 1000) (hl : l.length ≤ 64) (hb : b < 2 ^ 63) : Ev (fun k => a6.f k q l (b : Int)) (wt l b) := by
  have key := back (P := fun i => ∀ s : Int, 0 ≤ s → s ≤ 1000 * i → Ev (fun k => a6.l0 k (b : Int) s l (l.length : Int) (i : Int)) (s + wt (l.drop i) (b / 2 ^ i))) l.length
    (by intro s h0 h1
        refine Ev.shift ?_
        simp only [a6.l0, Int.lt_irrefl, ↓reduceIte, List.drop_length, wt, Int.add_zero]
        exact Ev.some)
    (by intro i hi ih s h0 h1
        refine Ev.shift ?_
        have c1 : (i : Int) < (l.length : Int) := by omega
        have c0 : (0 : Int) ≤ (i : Int) := by omega
        have hx := h _ (dw l 0 i hi)
        simp only [a6.l0, c1, c0, ↓reduceIte, dh.eq b i (by omega) hb, Option.bind_some, w1 hi (show l.length ≤ 9223372036854775807 by omega), fU, fW]
        rw [dv l 0 i hi, wt, Nat.div_div_eq_div_mul, show (2 ^ i * 2 : Nat) = 2 ^ (i + 1) from rfl]
        by_cases hbit : b / 2 ^ i % 2 = 1
        · simp only [hbit, decide_true, ↓reduceIte]
          rw [w64 (by omega) (by omega)]
          refine Ev.eq (ih _ (by omega) (by omega)) (by omega)
        · simp only [hbit, decide_false, Bool.false_eq_true, ↓reduceIte]
          refine Ev.eq (ih _ (by omega) (by omega)) (by omega))
  have := key 0 (Nat.zero_le _) 0 (by omega) (by omega)
  unfold a6.f
  rw [List.drop_zero, Nat.pow_zero, Nat.div_one, Int.zero_add] at this
  exact this
theorem bc.ev (n : Nat) (hn : n ≤ 40) (p : Nat → Int → Option Bool) (P : Nat → Bool) (h : ∀ b : Nat, b < 2 ^ n → Ev (fun k => p k (b : Int)) (P b)) : Ev (fun k => bc.f k (n : Int) (p k)) ((n : Int), tab n P) := by
  obtain ⟨K, hK⟩ := Ev.all (p := fun k (b : Nat) => p k (b : Int)) (P := P) (List.range (2 ^ n)) (fun b hb => h b (List.mem_range.1 hb))
  have hpos := Nat.two_pow_pos n
  refine ⟨K + 2 ^ n + 1, fun k hk => ?_⟩
  have hq := hK k (by omega)
  show bc.f k (n : Int) (p k) = _
  generalize p k = q at hq ⊢
  have hq : ∀ b : Nat, b < 2 ^ n → q (b : Int) = some (P b) := fun b hb => hq b (List.mem_range.2 hb)
  have h40 : 2 ^ n ≤ 1099511627776 := db hn
  have hle : (2 ^ n : Nat) ≤ 281474976710656 := by omega
  have c0 : (0 : Int) ≤ (n : Int) := by omega
  have c1 : (0 : Int) ≤ ((2 ^ n : Nat) : Int) := by omega
  have hl := dp n P
  unfold bc.f
  simp only [c0, ↓reduceIte, ic n (by omega), c1, Int.toNat_natCast, hle, Option.bind_some, List.length_replicate]
  have := mH (G := fun i k => bc.l0 k q ((2 ^ n : Nat) : Int) (i : Int) (n : Int) (filled (tab n P) false i)) (R := fun _ => ((n : Int), tab n P)) (2 ^ n)
    (by intro k
        have : filled (tab n P) false (2 ^ n) = tab n P := by rw [← hl]; exact kF _ _
        simp only [bc.l0, Int.lt_irrefl, ↓reduceIte, this])
    (fun i hi k ih => by
        have c1 : (i : Int) < ((2 ^ n : Nat) : Int) := by omega
        have c0 : (0 : Int) ≤ (i : Int) := by omega
        have c2 : (i : Int) < ((filled (tab n P) false i).length : Int) := by rw [kH _ _ _ (by omega)]; omega
        have hs := ky (tab n P) false false i (by omega)
        rw [fo n P i hi] at hs
        simp only [bc.l0, c1, c0, c2, ↓reduceIte, hq i hi, Option.bind_some, w1 hi (show 2 ^ n ≤ 9223372036854775807 by omega), Int.toNat_natCast, hs]
        exact ih) 0 (Nat.zero_le _) k (by omega)
  rw [jZ, hl] at this
  exact this
theorem cJ.ev (q : Int) (l : List Int) (b : Nat) (h : ∀ x ∈ l, 0 ≤ x ∧ x ≤ 1000) (hl : l.length ≤ 64) : Ev (fun k => cJ.f k q l (b : Int)) (wt l b) := by
  have key := back (P := fun i => ∀ s : Int, 0 ≤ s → s ≤ 1000 * i → Ev (fun k => cJ.l0 k (b : Int) s l (l.length : Int) (i : Int)) (s + wt (l.drop i) (b / 2 ^ i))) l.length
    (by intro s h0 h1
        refine Ev.shift ?_
        simp only [cJ.l0, Int.lt_irrefl, ↓reduceIte, List.drop_length, wt, Int.add_zero]
        exact Ev.some)
    (by intro i hi ih s h0 h1
        refine Ev.shift ?_
        have c1 : (i : Int) < (l.length : Int) := by omega
        have c0 : (0 : Int) ≤ (i : Int) := by omega
        have hx := h _ (dw l 0 i hi)
        simp only [cJ.l0, c1, c0, ↓reduceIte, iW b i (by omega), kN, w1 hi (show l.length ≤ 9223372036854775807 by omega), fU]
        rw [dv l 0 i hi, wt, Nat.div_div_eq_div_mul, show (2 ^ i * 2 : Nat) = 2 ^ (i + 1) from rfl]
        by_cases hbit : b / 2 ^ i % 2 = 1
        · have hbit' : ((b / 2 ^ i % 2 : Nat) : Int) = 1 := by omega
          simp only [hbit, hbit', ↓reduceIte]
          rw [w64 (by omega) (by omega)]
          refine Ev.eq (ih _ (by omega) (by omega)) (by omega)
        · have hbit' : ¬ ((b / 2 ^ i % 2 : Nat) : Int) = 1 := by omega
          simp only [hbit, hbit', ↓reduceIte]
          refine Ev.eq (ih _ (by omega) (by omega)) (by omega))
  have := key 0 (Nat.zero_le _) 0 (by omega) (by omega)
  unfold cJ.f
  rw [List.drop_zero, Nat.pow_zero, Nat.div_one, Int.zero_add] at this
  exact this
theorem fe.eq (n : Nat) (hn : n < 63) : fe.f (n : Int) = some ((2 ^ n - 1 : Nat) : Int) := by
  have c0 : (0 : Int) ≤ (n : Int) := by omega
  have h1 := pow63 hn
  have h2 : 0 < 2 ^ n := Nat.two_pow_pos n
  unfold fe.f
  rw [if_pos c0, ic n hn, w64 (by omega) (by omega)]
  congr 1
  omega
theorem wt_nil0 (l : List Int) : wt l 0 = 0 := by
  induction l with
  | nil => rfl
  | cons x l ih => rw [wt, Nat.zero_div, ih]; rfl
theorem wt_with (l : List Int) (m k : Nat) (hk : k < l.length) (hb : m.testBit k = false) : wt l (m + 2 ^ k) = wt l m + l.getD k 0 := by
  induction l generalizing m k with
  | nil => simp at hk
  | cons x l ih =>
    cases k with
    | zero =>
      have h2 : m % 2 = 0 := by
        rw [fW, Nat.pow_zero, Nat.div_one, decide_eq_false_iff_not] at hb
        omega
      have e1 : (m + 2 ^ 0) % 2 = 1 := by rw [Nat.pow_zero]; omega
      have e2 : (m + 2 ^ 0) / 2 = m / 2 := by rw [Nat.pow_zero]; omega
      rw [wt, wt, e1, e2, if_pos rfl, if_neg (by omega)]
      simp only [List.getD_cons_zero]
      omega
    | succ k =>
      have e1 : (m + 2 ^ (k + 1)) % 2 = m % 2 := by rw [Nat.pow_succ]; omega
      have e2 : (m + 2 ^ (k + 1)) / 2 = m / 2 + 2 ^ k := by rw [Nat.pow_succ]; omega
      have hb2 : (m / 2).testBit k = false := by rw [Nat.testBit_succ] at hb; exact hb
      rw [wt, wt, e1, e2, ih (m / 2) k (by simpa using hk) hb2, List.getD_cons_succ]
      omega
theorem wt_full (l : List Int) : wt l (2 ^ l.length - 1) = l.sum := by
  induction l with
  | nil => rfl
  | cons x l ih =>
    have hp := Nat.two_pow_pos l.length
    have e1 : (2 ^ (l.length + 1) - 1) % 2 = 1 := by rw [Nat.pow_succ]; omega
    have e2 : (2 ^ (l.length + 1) - 1) / 2 = 2 ^ l.length - 1 := by rw [Nat.pow_succ]; omega
    rw [List.length_cons, wt, e1, e2, ih, if_pos rfl, List.sum_cons]
end Go.Proofs.YthipiojpoklpgaaGreat.P

namespace Go.Proofs.YthipiojpoklpgaaGreat.P
end Go.Proofs.YthipiojpoklpgaaGreat.P

namespace Go.Proofs.YthipiojpoklpgaaGreat.P
open Go.RowKit Go.Proofs.YthipiojpoklpgaaGreatW.PrintWords Go.Proofs.YthipiojpoklpgaaGreatW.PrintLast Go.Proofs.YthipiojpoklpgaaGreatW.PrintMore
theorem cmp_Compare_int.eq (x y : Int) : cmp_Compare_int.f x y = some (jM x y) := by
  have e : ∀ z, cmp_isNaN_int.f z = some false := fun z => by simp [cmp_isNaN_int.f]
  unfold cmp_Compare_int.f jM
  rw [e, e]
  simp only [Option.bind_some, Bool.false_eq_true, ↓reduceIte]
  split
  · rfl
  · split <;> rfl
theorem lM (a b : List Int) (i : Nat) (h : i < a.length) : gE (a.drop i) (b.drop i) = if i < b.length then (if jM (a.getD i 0) (b.getD i 0) = 0 then gE (a.drop (i + 1)) (b.drop (i + 1)) else jM (a.getD i 0) (b.getD i 0)) else 1 := by
  rw [dv a 0 i h]
  by_cases hb : i < b.length
  · rw [if_pos hb, dv b 0 i hb, gE]
  · rw [if_neg hb, List.drop_eq_nil_of_le (show b.length ≤ i by omega), gE]
theorem aN.ev (a b : List Int) (ha : a.length ≤ 9223372036854775807) : Ev (fun k => aN.f k a b) (gE a b) := by
  unfold aN.f
  have key := Ev.down (G := fun i k => aN.l0 k a b a (a.length : Int) (i : Int)) (R := fun i => gE (a.drop i) (b.drop i)) a.length
    (by refine Ev.shift ?_
        simp only [aN.l0, Int.lt_irrefl, ↓reduceIte, List.drop_length]
        by_cases h : (a.length : Int) < (b.length : Int)
        · simp only [h, ↓reduceIte]
          refine Ev.eq Ev.some ?_
          rw [dv b 0 a.length (by omega)]
          rfl
        · simp only [h, ↓reduceIte]
          refine Ev.eq Ev.some ?_
          rw [List.drop_eq_nil_of_le (show b.length ≤ a.length by omega)]
          rfl)
    (fun i hi ih => by
        refine Ev.shift ?_
        have c1 : (i : Int) < (a.length : Int) := by omega
        have c0 : (0 : Int) ≤ (i : Int) := by omega
        rw [lM a b i hi]
        simp only [aN.l0, c1, c0, ↓reduceIte]
        by_cases hb : i < b.length
        · have c2 : ¬ (i : Int) ≥ (b.length : Int) := by omega
          have c3 : (i : Int) < (b.length : Int) := by omega
          simp only [c2, c3, hb, ↓reduceIte, fU]
          refine Ev.bind (Ev.one (cmp_Compare_int.eq _ _)) ?_
          by_cases hc : jM (a.getD i 0) (b.getD i 0) = 0
          · simp only [hc, ↓reduceIte, w1 hi ha]
            exact ih
          · simp only [hc, ↓reduceIte]
            exact Ev.some
        · have c2 : (i : Int) ≥ (b.length : Int) := by omega
          simp only [c2, hb, ↓reduceIte]
          exact Ev.some)
  exact key 0 (Nat.zero_le _)
theorem bL.ev (a b : List Int) (ha : a.length ≤ 9223372036854775807) : Ev (fun k => bL.f k a b) (decide (gE a b < 0)) := by
  unfold bL.f
  have fin : ∀ i, i ≤ a.length → (¬ i < a.length ∨ ¬ i < b.length) → i ≤ b.length → Ev (fun k => bL.j1 k a b (i : Int) false) (decide (gE (a.drop i) (b.drop i) < 0)) := by
    intro i h1 h2 h3
    refine Ev.shift ?_
    simp only [bL.j1, Bool.false_eq_true, ↓reduceIte]
    refine Ev.eq Ev.some ?_
    rw [decide_eq_decide]
    by_cases hb : i < b.length
    · have ea : i = a.length := by omega
      rw [ea, List.drop_length, dv b 0 a.length (by omega), gE]
      omega
    · rw [List.drop_eq_nil_of_le (show b.length ≤ i by omega)]
      by_cases hai : i < a.length
      · rw [dv a 0 i hai, gE]; omega
      · rw [List.drop_eq_nil_of_le (show a.length ≤ i by omega), gE]; omega
  have key := back (P := fun i => i ≤ b.length → Ev (fun k => bL.l0 k a b (i : Int)) (decide (gE (a.drop i) (b.drop i) < 0))) a.length
    (by intro h3
        refine Ev.shift ?_
        simp only [bL.l0, Int.lt_irrefl, ↓reduceIte]
        exact fin a.length (Nat.le_refl _) (.inl (by omega)) h3)
    (by intro i hi ih h3
        refine Ev.shift ?_
        have c1 : (i : Int) < (a.length : Int) := by omega
        have c0 : (0 : Int) ≤ (i : Int) := by omega
        simp only [bL.l0, c1, ↓reduceIte]
        by_cases hb : i < b.length
        · have c2 : (i : Int) < (b.length : Int) := by omega
          simp only [c2, decide_true]
          refine Ev.shift ?_
          rw [lM a b i hi, if_pos hb]
          simp only [bL.j1, ↓reduceIte, c0, c1, c2, fU, w1 hi ha]
          by_cases he : a.getD i 0 = b.getD i 0
          · have hc : jM (b.getD i 0) (b.getD i 0) = 0 := by simp [jM]
            simp only [he, ↓reduceIte, hc]
            exact ih (by omega)
          · have hc : ¬ jM (a.getD i 0) (b.getD i 0) = 0 := by unfold jM; split; omega; split <;> omega
            simp only [he, ↓reduceIte, hc]
            refine Ev.eq Ev.some ?_
            rw [decide_eq_decide]
            unfold jM
            split
            · omega
            · split <;> omega
        · have c2 : ¬ (i : Int) < (b.length : Int) := by omega
          simp only [c2, decide_false]
          exact fin i (by omega) (.inr hb) h3)
  exact key 0 (Nat.zero_le _) (Nat.zero_le _)
theorem bV.ev (l : List Int) (hl : l.length ≤ 9223372036854775807) : Ev (fun k => bV.f k l) (iQ (mU l) l.length 0) := by
  have key := Ev.down (G := fun i k => bV.l0 k l (l.length : Int) (i : Int)) (R := fun i => iQ (mU l) l.length i) l.length
    (by refine Ev.shift ?_
        simp only [bV.l0, Int.lt_irrefl, ↓reduceIte, jh]
        exact Ev.some)
    (fun i hi ih => by
        refine Ev.shift ?_
        have c1 : (i : Int) < (l.length : Int) := by omega
        have c0 : (0 : Int) ≤ (i : Int) := by omega
        rw [ix _ _ _ hi]
        simp only [bV.l0, c1, c0, ↓reduceIte, w1 hi hl]
        by_cases h0 : i = 0
        · subst h0
          simp only [show ¬ ((0 : Nat) : Int) > 0 by omega, ↓reduceIte, mU, beq_self_eq_true, Bool.true_or, Bool.true_and]
          exact ih
        · have c2 : (i : Int) > 0 := by omega
          have e : wrap64 ((i : Int) - 1) = ((i - 1 : Nat) : Int) := by rw [w64 (by omega) (by omega)]; omega
          have c3 : (0 : Int) ≤ ((i - 1 : Nat) : Int) := by omega
          have c4 : ((i - 1 : Nat) : Int) < (l.length : Int) := by omega
          have hb : (i == 0) = false := by simp [h0]
          simp only [c2, ↓reduceIte, e, c3, c4, fU, mU, hb, Bool.false_or]
          by_cases h1 : l.getD (i - 1) 0 < l.getD i 0
          · have h2 : ¬ l.getD i 0 ≤ l.getD (i - 1) 0 := by omega
            simp only [h1, h2, ↓reduceIte, decide_true, Bool.true_and]
            exact ih
          · have h2 : l.getD i 0 ≤ l.getD (i - 1) 0 := by omega
            simp only [h1, h2, ↓reduceIte, decide_false, Bool.false_and]
            exact Ev.some)
  exact key 0 (Nat.zero_le _)
theorem dq.ev (l : List Int) (n : Int) (hl : l.length ≤ 9223372036854775807) (h0 : -9000 ≤ n) (h1 : n ≤ 9223372036854775807) : Ev (fun k => dq.f k l n) (ep l n) := by
  unfold dq.f ep
  rw [w64 (by omega) (by omega)]
  refine Ev.bind (dZ.ev l 0 (n - 1) hl) ?_
  cases l.all (inI 0 (n - 1)) with
  | false => exact Ev.some
  | true =>
    simp only [↓reduceIte, Bool.true_and]
    exact Ev.bind (bV.ev l hl) Ev.some
theorem fz.ev (l : List Int) (n : Int) (hl : l.length ≤ 9223372036854775807) (h0 : -9000 ≤ n) (h1 : n ≤ 9223372036854775807) : Ev (fun k => fz.f k n l) (ep l n) := by
  unfold fz.f ep
  rw [w64 (by omega) (by omega)]
  refine Ev.bind (a := l.all (inI 0 (n - 1)) && iQ (mU l) l.length 0) ?_ Ev.some
  have e : (l.all (inI 0 (n - 1)) && iQ (mU l) l.length 0) = iQ (fun j => inI 0 (n - 1) (l.getD j 0) && mU l j) l.length 0 := by
    rw [allF_and, na (inI 0 (n - 1)) l 0 0 (Nat.zero_le _), List.drop_zero]
  rw [e]
  have key := Ev.down (G := fun i k => de.l0 k l 0 (n - 1) l (l.length : Int) (i : Int)) (R := fun i => iQ (fun j => inI 0 (n - 1) (l.getD j 0) && mU l j) l.length i) l.length
    (by refine Ev.shift ?_
        simp only [de.l0, Int.lt_irrefl, ↓reduceIte, jh]
        exact Ev.some)
    (fun i hi ih => by
        refine Ev.shift ?_
        have c1 : (i : Int) < (l.length : Int) := by omega
        have c0 : (0 : Int) ≤ (i : Int) := by omega
        rw [ix _ _ _ hi]
        simp only [de.l0, c1, c0, ↓reduceIte, w1 hi hl, cp.eq, Option.bind_some, fU]
        cases inI 0 (n - 1) (l.getD i 0) with
        | false => simp only [Bool.false_eq_true, ↓reduceIte, Bool.false_and]; exact Ev.some
        | true =>
          simp only [↓reduceIte, Bool.true_and]
          by_cases h0 : i = 0
          · subst h0
            simp only [show ¬ ((0 : Nat) : Int) > 0 by omega, ↓reduceIte, mU, beq_self_eq_true, Bool.true_or, Bool.true_and]
            exact ih
          · have c2 : (i : Int) > 0 := by omega
            have e : wrap64 ((i : Int) - 1) = ((i - 1 : Nat) : Int) := by rw [w64 (by omega) (by omega)]; omega
            have c3 : (0 : Int) ≤ ((i - 1 : Nat) : Int) := by omega
            have c4 : ((i - 1 : Nat) : Int) < (l.length : Int) := by omega
            have hb : (i == 0) = false := by simp [h0]
            simp only [c2, ↓reduceIte, e, c3, c4, fU, mU, hb, Bool.false_or]
            by_cases h1 : l.getD (i - 1) 0 < l.getD i 0
            · have h2 : ¬ l.getD (i - 1) 0 ≥ l.getD i 0 := by omega
              simp only [h1, h2, ↓reduceIte, decide_true, Bool.true_and]
              exact ih
            · have h2 : l.getD (i - 1) 0 ≥ l.getD i 0 := by omega
              simp only [h1, h2, ↓reduceIte, decide_false, Bool.false_and]
              exact Ev.some)
  exact key 0 (Nat.zero_le _)
theorem bK.ev (l : List Int) (hl : l.length ≤ 1048576) (h : ∀ x ∈ l, 0 ≤ x ∧ x < 62) : Ev (fun k => bK.f k l) (bitsOf l : Int) := by
  have key := Ev.down (G := fun i k => bK.l0 k (((l.take i).foldl (fun m x => m ||| 2 ^ x.toNat) 0 : Nat) : Int) l (l.length : Int) (i : Int)) (R := fun _ => (bitsOf l : Int)) l.length
    (by refine Ev.shift ?_
        simp only [bK.l0, Int.lt_irrefl, ↓reduceIte, List.take_length]
        exact Ev.some)
    (fun i hi ih => by
        refine Ev.shift ?_
        have c1 : (i : Int) < (l.length : Int) := by omega
        have c0 : (0 : Int) ≤ (i : Int) := by omega
        have hx := h _ (dw l 0 i hi)
        have hm : (l.take i).foldl (fun m x => m ||| 2 ^ x.toNat) 0 < 2 ^ 62 := je _ 62 (fun y hy => h y (List.mem_of_mem_take hy)) 0 (by decide)
        rw [gy _ _ l 0 i hi] at ih
        simp only [bK.l0, c1, c0, ↓reduceIte, w1 hi (show l.length ≤ 9223372036854775807 by omega), fU, hx.1]
        obtain ⟨j, hj⟩ : ∃ j : Nat, l.getD i 0 = (j : Int) := ⟨(l.getD i 0).toNat, by omega⟩
        rw [hj] at ih hx ⊢
        have hp : 2 ^ j < 2 ^ 63 := Nat.pow_lt_pow_right (by omega) (by omega)
        rw [ic j (by omega), ow _ _ (Nat.lt_of_lt_of_le hm (by decide)) hp]
        exact ih)
  exact key 0 (Nat.zero_le _)
theorem cQ.ev (l : List Int) (hl : l.length ≤ 1048576) (h : ∀ x ∈ l, 0 ≤ x ∧ x < 62) : Ev (fun k => cQ.f k l) (bitsOf l : Int) := by
  have key := Ev.down (G := fun i k => cQ.l0 k (((l.take i).foldl (fun m x => m ||| 2 ^ x.toNat) 0 : Nat) : Int) l (l.length : Int) (i : Int)) (R := fun _ => (bitsOf l : Int)) l.length
    (by refine Ev.shift ?_
        simp only [cQ.l0, Int.lt_irrefl, ↓reduceIte, List.take_length]
        exact Ev.some)
    (fun i hi ih => by
        refine Ev.shift ?_
        have c1 : (i : Int) < (l.length : Int) := by omega
        have c0 : (0 : Int) ≤ (i : Int) := by omega
        have hx := h _ (dw l 0 i hi)
        have hm : (l.take i).foldl (fun m x => m ||| 2 ^ x.toNat) 0 < 2 ^ 62 := je _ 62 (fun y hy => h y (List.mem_of_mem_take hy)) 0 (by decide)
        rw [gy _ _ l 0 i hi] at ih
        simp only [cQ.l0, c1, c0, ↓reduceIte, w1 hi (show l.length ≤ 9223372036854775807 by omega), fU, hx.1]
        obtain ⟨j, hj⟩ : ∃ j : Nat, l.getD i 0 = (j : Int) := ⟨(l.getD i 0).toNat, by omega⟩
        rw [hj] at ih hx ⊢
        have hp : 2 ^ j < 2 ^ 63 := Nat.pow_lt_pow_right (by omega) (by omega)
        rw [ic j (by omega), ow _ _ (Nat.lt_of_lt_of_le hm (by decide)) hp]
        exact ih)
  exact key 0 (Nat.zero_le _)
theorem gi (l : List (List Int)) (i : Nat) : eR l (i : Int) = l.getD i [] := by simp [eR]
def setG (n : Int) (s : List Int) : Bool := decide (s ≠ []) && ep s n
def fY (ws : List (List Int)) (i : Nat) : Bool := i == 0 || decide (gE (ws.getD (i - 1) []) (ws.getD i []) < 0)
def mk (ws : List (List Int)) (i : Nat) : Nat := bitsOf (ws.getD i [])
def nn (a b : Nat) : Bool := !decide (a &&& b = a) && !decide (a &&& b = b)
def lL (ws : List (List Int)) (i : Nat) : Bool := iQ (fun k => nn (mk ws i) (mk ws k)) i 0
def iR (n : Int) (ws : List (List Int)) : Bool := inI 1 9 n && decide (ws ≠ []) && ws.all (setG n) && iQ (fun i => fY ws i && lL ws i) ws.length 0
theorem j9 {n : Int} {ws : List (List Int)} (h : iR n ws = true) : ∃ m : Nat, n = (m : Int) ∧ 1 ≤ m ∧ m ≤ 9 ∧ 0 < ws.length ∧ (∀ s ∈ ws, s ≠ [] ∧ ep s n = true) ∧ ∀ i, i < ws.length → fY ws i = true ∧ lL ws i = true := by
  simp only [iR, inI, setG, Bool.and_eq_true, decide_eq_true_eq, List.all_eq_true, hZ] at h
  obtain ⟨⟨⟨⟨h1, h2⟩, h3⟩, h4⟩, h5⟩ := h
  exact ⟨n.toNat, by omega, by omega, by omega, List.length_pos_iff.2 h3, h4, h5⟩
theorem kg {m : Nat} {s : List Int} (h : ep s m = true) : bitsOf s < 2 ^ m := je s m (fun x hx => gT h x hx) 0 (Nat.two_pow_pos m)
theorem nW {s : List Int} {n : Int} (hn : n ≤ 9) (h : ep s n = true) : ∀ x ∈ s, 0 ≤ x ∧ x < 62 := fun x hx => by have := gT h x hx; omega
theorem oo {s : List Int} {n : Int} (hn : n ≤ 9) (h : ep s n = true) : s.length ≤ 9 := by
  rcases kD h with h | rfl
  · omega
  · simp
theorem aU.ev (l : List (List Int)) (hm : l.length ≤ 9223372036854775807) (p : Nat → List Int → Option Bool) (P : List Int → Bool) (h : ∀ x ∈ l, Ev (fun k => p k x) (P x)) : Ev (fun k => aU.f k l (p k)) (idxFrom P 0 l) := by
  refine Ev.ask (F := fun k q => aU.f k l q) l h ⟨l.length + 1, fun k hk q hq => ?_⟩
  unfold aU.f
  have := mH (G := fun i k => aU.l0 k l q (l.length : Int) (i : Int)) (R := fun i => idxFrom P i (l.drop i)) l.length
    (by intro k; simp only [aU.l0, Int.lt_irrefl, ↓reduceIte, List.drop_length, idxFrom])
    (fun i hi k ih => by
      have c1 : (i : Int) < (l.length : Int) := by omega
      have c0 : (0 : Int) ≤ (i : Int) := by omega
      simp only [aU.l0, c1, c0, ↓reduceIte, w1 hi hm, gi, hq _ (dw l [] i hi), Option.bind_some]
      rw [dv l [] i hi, idxFrom, ih]
      split <;> rfl) 0 (Nat.zero_le _) k (by omega)
  rwa [List.drop_zero] at this
theorem b6.ev (l : List (List Int)) (hm : l.length ≤ 9223372036854775807) (p : Nat → List Int → Option Bool) (P : List Int → Bool) (h : ∀ x ∈ l, Ev (fun k => p k x) (P x)) : Ev (fun k => b6.f k l (p k)) (l.any P) := by
  unfold b6.f
  refine Ev.bind (aU.ev l hm p P h) ?_
  rw [iJ]
  exact Ev.some
theorem len_ne {s : List Int} : ((s.length : Int) = 0) = (s = []) := by
  rw [eq_iff_iff]
  constructor
  · intro h; exact List.length_eq_zero_iff.1 (by omega)
  · rintro rfl; rfl
theorem eM.ev (ws : List (List Int)) (n : Int) (hl : ws.length ≤ 9223372036854775807) (hx : ∀ s ∈ ws, s.length ≤ 9223372036854775807) (h0 : 1 ≤ n) (h1 : n ≤ 9) : Ev (fun k => eM.f k ws n) (ws.all (setG n)) := by
  unfold eM.f
  refine Ev.bind (b6.ev ws hl (fun k y => dQ.f k y n) (fun s => !setG n s) (fun s hs => ?_)) ?_
  · unfold dQ.f setG
    simp only [len_ne]
    by_cases he : s = []
    · subst he; exact Ev.eq Ev.some rfl
    · simp only [he, ↓reduceIte, ne_eq, not_false_eq_true, decide_true, Bool.true_and]
      exact Ev.bind (dq.ev s n (hx s hs) (by omega) (by omega)) Ev.some
  · rw [l5]; exact Ev.some
theorem nk (ws : List (List Int)) : (iQ (fun i => fY ws i && iQ (fun k => k == i || !decide (mk ws i &&& mk ws k = mk ws k)) ws.length 0) ws.length 0) = iQ (fun i => fY ws i && lL ws i) ws.length 0 := by
  rw [Bool.eq_iff_iff, hZ, hZ]
  simp only [Bool.and_eq_true, lL, hZ, nn, Bool.or_eq_true, beq_iff_eq, Bool.not_eq_true', decide_eq_false_iff_not]
  constructor
  · intro h i hi
    refine ⟨(h i hi).1, fun k hk => ⟨?_, ?_⟩⟩
    · have := (h k (by omega)).2 i hi
      rcases this with e | e
      · omega
      · rwa [Nat.and_comm] at e
    · rcases (h i hi).2 k (by omega) with e | e
      · omega
      · exact e
  · intro h i hi
    refine ⟨(h i hi).1, fun k hk => ?_⟩
    rcases Nat.lt_trichotomy k i with hlt | rfl | hgt
    · exact .inr ((h i hi).2 k hlt).2
    · exact .inl rfl
    · right
      have := ((h k hk).2 i hgt).1
      rwa [Nat.and_comm]
theorem pred_nat {i : Nat} (h : 0 < i) (hi : i ≤ 9223372036854775807) : wrap64 ((i : Int) - 1) = ((i - 1 : Nat) : Int) := by rw [w64 (by omega) (by omega)]; omega
theorem nF (a b : Nat) (ha : a < 2 ^ 9) (hb : b < 2 ^ 9) : Go.bits .and .i64 (a : Int) (b : Int) = ((a &&& b : Nat) : Int) := nB a b (Nat.lt_of_lt_of_le ha (by decide)) (Nat.lt_of_lt_of_le hb (by decide))
theorem mz {a b : Nat} : ((a : Int) = (b : Int)) = (a = b) := by rw [eq_iff_iff]; exact Int.ofNat_inj
theorem aK.ev (n : Int) (ws : List (List Int)) (hl : ws.length ≤ 1048576) (hx : ∀ s ∈ ws, s.length ≤ 1048576) : Ev (fun k => aK.f k n ws) (iR n ws) := by
  have off : Ev (fun k => aK.j0 k true n ws) false := by
    refine Ev.shift ?_
    simp only [aK.j0, ↓reduceIte]
    exact Ev.some
  unfold aK.f iR
  refine Ev.bind (Ev.one (b4.eq n 1 9)) ?_
  cases hn : inI 1 9 n with
  | false => simp only [Bool.false_eq_true, ↓reduceIte, Bool.false_and]; exact off
  | true =>
    have hn' : 1 ≤ n ∧ n ≤ 9 := by simpa only [inI, Bool.and_eq_true, decide_eq_true_eq] using hn
    by_cases he : ws = []
    · subst he; simp only [List.length_nil, Int.natCast_zero, ↓reduceIte, ne_eq, not_true_eq_false, decide_false, Bool.and_false, Bool.false_and]; exact off
    · have c0 : ¬ (ws.length : Int) = 0 := by
        have := List.length_pos_iff.2 he
        omega
      simp only [c0, ↓reduceIte, he, ne_eq, not_false_eq_true, decide_true, Bool.true_and]
      refine Ev.bind (eM.ev ws n (by omega) (fun s hs => by have := hx s hs; omega) hn'.1 hn'.2) ?_
      cases hs : ws.all (setG n) with
      | false => simp only [Bool.not_false, Bool.false_and]; exact off
      | true =>
        simp only [Bool.not_true, Bool.true_and]
        refine Ev.shift ?_
        simp only [aK.j0, Bool.false_eq_true, ↓reduceIte]
        have hset : ∀ i, i < ws.length → ep (ws.getD i []) n = true := fun i hi => by
          rw [List.all_eq_true] at hs
          have := hs _ (dw ws [] i hi)
          simp only [setG, Bool.and_eq_true] at this
          exact this.2
        obtain ⟨m, rfl⟩ : ∃ m : Nat, n = (m : Int) := ⟨n.toNat, by omega⟩
        have hb9 : ∀ i, i < ws.length → mk ws i < 2 ^ 9 := fun i hi => Nat.lt_of_lt_of_le (kg (hset i hi)) (db (by omega))
        have hM : ws.length ≤ 9223372036854775807 := by omega
        have hmo : ∀ i, i < ws.length → Ev (fun k => bK.f k (ws.getD i [])) ((mk ws i : Nat) : Int) := fun i hi =>
          bK.ev _ (hx _ (dw ws [] i hi)) (nW hn'.2 (hset i hi))
        rw [← nk]
        have key := Ev.down (G := fun i k => aK.l0 k ws (ws.length : Int) (i : Int) (m : Int) ws) (R := fun i => iQ (fun i => fY ws i && iQ (fun k => k == i || !decide (mk ws i &&& mk ws k = mk ws k)) ws.length 0) ws.length i) ws.length
          (by refine Ev.shift ?_
              simp only [aK.l0, Int.lt_irrefl, ↓reduceIte, jh]
              exact Ev.some)
          (fun i hi ih => by
            have inner := Ev.down (G := fun j k => aK.l1 k (i : Int) (ws.getD i []) ws (ws.length : Int) (i : Int) ws (ws.length : Int) (j : Int) (m : Int) ws) (R := fun j => iQ (fun k => k == i || !decide (mk ws i &&& mk ws k = mk ws k)) ws.length j && iQ (fun i => fY ws i && iQ (fun k => k == i || !decide (mk ws i &&& mk ws k = mk ws k)) ws.length 0) ws.length (i + 1)) ws.length
              (by refine Ev.shift ?_
                  simp only [aK.l1, Int.lt_irrefl, ↓reduceIte, jh, Bool.true_and, w1 hi hM]
                  exact ih)
              (fun j hj ihj => by
                refine Ev.shift ?_
                have c1 : (j : Int) < (ws.length : Int) := by omega
                have c0 : (0 : Int) ≤ (j : Int) := by omega
                rw [ix _ _ _ hj]
                simp only [aK.l1, c1, c0, ↓reduceIte, gi, w1 hj hM, mz]
                by_cases hji : j = i
                · have hb : (j == i) = true := by simp [hji]
                  simp only [hb, Bool.true_or, Bool.true_and]
                  exact Ev.aV hji ihj
                · have hb : (j == i) = false := by simp [hji]
                  simp only [hji, ↓reduceIte, hb, Bool.false_or]
                  refine Ev.bind (hmo i hi) (Ev.bind (hmo j hj) (Ev.bind (hmo j hj) ?_))
                  simp only [nF _ _ (hb9 i hi) (hb9 j hj), mz]
                  by_cases ha : mk ws i &&& mk ws j = mk ws j
                  · simp only [ha, ↓reduceIte, decide_true, Bool.not_true, Bool.false_and]
                    exact Ev.some
                  · simp only [ha, ↓reduceIte, decide_false, Bool.not_false, Bool.true_and]
                    exact ihj)
            have j2 : ∀ b : Bool, Ev (fun k => aK.j2 k (i : Int) (ws.getD i []) ws (ws.length : Int) (i : Int) (!b) (m : Int) ws) ((b && iQ (fun k => k == i || !decide (mk ws i &&& mk ws k = mk ws k)) ws.length 0) && iQ (fun i => fY ws i && iQ (fun k => k == i || !decide (mk ws i &&& mk ws k = mk ws k)) ws.length 0) ws.length (i + 1)) := by
              intro b
              refine Ev.shift ?_
              cases b with
              | false => simp only [aK.j2, Bool.not_false, ↓reduceIte, Bool.false_and]; exact Ev.some
              | true => simp only [aK.j2, Bool.not_true, Bool.false_eq_true, ↓reduceIte, Bool.true_and]; exact inner 0 (Nat.zero_le _)
            refine Ev.shift ?_
            have c1 : (i : Int) < (ws.length : Int) := by omega
            have c0 : (0 : Int) ≤ (i : Int) := by omega
            rw [ix _ _ _ hi]
            by_cases h0 : i = 0
            · have c2 : ¬ (i : Int) > 0 := by omega
              have hr : fY ws i = true := by simp [fY, h0]
              simp only [aK.l0, c1, c0, c2, ↓reduceIte, gi, hr]
              exact j2 true
            · have c2 : (i : Int) > 0 := by omega
              have c3 : (0 : Int) ≤ ((i - 1 : Nat) : Int) := by omega
              have c4 : ((i - 1 : Nat) : Int) < (ws.length : Int) := by omega
              have hb : (i == 0) = false := by simp [h0]
              have hr : fY ws i = !decide (gE (ws.getD (i - 1) []) (ws.getD i []) ≥ 0) := by
                rw [fY, hb, Bool.false_or, ← decide_not, decide_eq_decide]; omega
              simp only [aK.l0, c1, c0, c2, ↓reduceIte, pred_nat (show 0 < i by omega) (show i ≤ 9223372036854775807 by omega), c3, c4, gi]
              refine Ev.bind (aN.ev _ _ (by have := hx _ (dw ws [] (i - 1) (by omega)); omega)) ?_
              have := j2 (fY ws i)
              rw [hr, Bool.not_not] at this
              rw [hr]
              exact this)
        exact key 0 (Nat.zero_le _)
def hasSub (b : Nat) (s : List Int) : Bool := decide (b &&& bitsOf s = bitsOf s)
def mT (ws : List (List Int)) (b : Nat) : Bool := ws.any (hasSub b)
theorem beq_nat (a b : Nat) : (((a : Nat) : Int) == ((b : Nat) : Int)) = decide (a = b) := by
  rw [Bool.eq_iff_iff]; simp only [beq_iff_eq, decide_eq_true_eq]; exact Int.ofNat_inj
theorem cO.ev (n : Nat) (ws : List (List Int)) (hn : n ≤ 9) (hl : ws.length ≤ 1048576) (hx : ∀ s ∈ ws, s.length ≤ 1048576) (hs : ∀ s ∈ ws, ep s n = true) :
    Ev (fun k => cO.f k (n : Int) ws) ((n : Int), tab n (mT ws)) := by
  have hM : ws.length ≤ 9223372036854775807 := by omega
  have hb9 : ∀ s ∈ ws, bitsOf s < 2 ^ 9 := fun s h => Nat.lt_of_lt_of_le (kg (hs s h)) (db hn)
  have key := Ev.down (G := fun i k => cO.l0 k (n : Int) ws (ws.length : Int) (i : Int) ((ws.take i).map fun s => ((bitsOf s : Nat) : Int))) (R := fun _ => ((n : Int), tab n (mT ws))) ws.length
    (by refine Ev.shift ?_
        simp only [cO.l0, Int.lt_irrefl, ↓reduceIte, List.take_length]
        refine Ev.bind (bc.ev n (by omega) (fun k y => d7.f k y (ws.map fun s => ((bitsOf s : Nat) : Int))) (mT ws) (fun b hb => ?_)) Ev.some
        have hb9' : b < 2 ^ 9 := Nat.lt_of_lt_of_le hb (db hn)
        unfold d7.f
        refine Ev.bind (bu.ev (ws.map fun s => ((bitsOf s : Nat) : Int)) (by rw [List.length_map]; omega) (fun _ x => dA.f x (b : Int)) (fun x => decide (b &&& x.toNat = x.toNat)) (fun x hx => ?_)) ?_
        · obtain ⟨s, hsm, rfl⟩ := List.mem_map.1 hx
          simp only [dA.f, nF b (bitsOf s) hb9' (hb9 s hsm), beq_nat, Int.toNat_natCast]
          exact Ev.some
        · refine Ev.eq Ev.some ?_
          rw [List.any_map]
          rfl)
    (fun i hi ih => by
        refine Ev.shift ?_
        have c1 : (i : Int) < (ws.length : Int) := by omega
        have c0 : (0 : Int) ≤ (i : Int) := by omega
        have c2 : ((ws.take i).map fun s => ((bitsOf s : Nat) : Int)).length < 17592186044416 := by rw [List.length_map, List.length_take]; omega
        have hm := dw ws [] i hi
        rw [fq ws [] i hi, List.map_append] at ih
        simp only [cO.l0, c1, c0, ↓reduceIte, gi, w1 hi hM]
        refine Ev.bind (bK.ev _ (hx _ hm) (nW (by omega) (hs _ hm))) ?_
        simp only [c2, ↓reduceIte]
        exact ih)
  exact key 0 (Nat.zero_le _)
theorem cF.ev (n : Nat) (ws : List (List Int)) (hn : n ≤ 9) (hl : ws.length ≤ 1048576) (hx : ∀ s ∈ ws, s.length ≤ 1048576) (hs : ∀ s ∈ ws, ep s n = true) :
    Ev (fun k => cF.f k (n : Int) ws) ((n : Int), tab n (mT ws)) := by
  unfold cF.f
  exact Ev.bind (cO.ev n ws hn hl hx hs) Ev.some
theorem lm (n d m : Nat) (h : m < 2 ^ n) : sel (n + d) m.testBit = sel n m.testBit := by
  induction d with
  | zero => rfl
  | succ d ih =>
    rw [show n + (d + 1) = (n + d) + 1 from rfl, iL, ih, Nat.testBit_lt_two_pow (Nat.lt_of_lt_of_le h (Nat.pow_le_pow_right (by omega) (by omega)))]
    simp
theorem cx.ev (m : Nat) (h : m < 512) : Ev (fun k => cx.f k (m : Int)) (sel 9 m.testBit) := by
  unfold cx.f
  have key := Ev.down (G := fun i k => cx.l0 k (m : Int) (sel i m.testBit) (i : Int)) (R := fun _ => sel 9 m.testBit) 9
    (by refine Ev.shift ?_
        have c0 : (0 : Int) ≤ ((9 : Nat) : Int) := by omega
        have e : m / 2 ^ 9 = 0 := Nat.div_eq_of_lt h
        have c : ¬ (((0 : Nat) : Int) > 0) := by omega
        simp only [cx.l0, c0, ↓reduceIte, iW m 9 (by omega), e, c]
        exact Ev.some)
    (fun i hi ih => by
      refine Ev.shift ?_
      have c0 : (0 : Int) ≤ (i : Int) := by omega
      have c2 : (sel i m.testBit).length < 17592186044416 := by have := iw i m.testBit; omega
      rw [iL] at ih
      simp only [cx.l0, c0, ↓reduceIte, iW m i (by omega), kN, c2, w1 hi (by omega)]
      by_cases hz : m / 2 ^ i = 0
      · have c : ¬ (((m / 2 ^ i : Nat) : Int) > 0) := by rw [hz]; decide
        simp only [c, ↓reduceIte]
        refine Ev.eq Ev.some ?_
        have hlt : m < 2 ^ i := by
          rcases Nat.div_eq_zero_iff.1 hz with h | h
          · exact absurd h (by have := Nat.two_pow_pos i; omega)
          · exact h
        have := lm i (9 - i) m hlt
        rw [show i + (9 - i) = 9 by omega] at this
        exact this.symm
      · have c : (((m / 2 ^ i : Nat) : Int) > 0) := Int.natCast_pos.2 (Nat.pos_of_ne_zero hz)
        simp only [c, ↓reduceIte]
        cases hb : m.testBit i with
        | true =>
          rw [fW, decide_eq_true_eq] at hb
          have c3 : ((m / 2 ^ i % 2 : Nat) : Int) = 1 := by omega
          rw [fW, show decide (m / 2 ^ i % 2 = 1) = true from decide_eq_true hb, if_pos rfl] at ih
          simp only [c3, ↓reduceIte]
          exact ih
        | false =>
          rw [hb, if_neg (by decide), List.append_nil] at ih
          rw [fW, decide_eq_false_iff_not] at hb
          have c3 : ¬ ((m / 2 ^ i % 2 : Nat) : Int) = 1 := by omega
          simp only [c3, ↓reduceIte]
          exact ih)
  exact key 0 (by omega)
end Go.Proofs.YthipiojpoklpgaaGreat.P

namespace Go.Proofs.YthipiojpoklpgaaGreat.P
def pcR : Nat → Nat → Nat
  | 0, _ => 0
  | n + 1, m => pcR n m + if m.testBit n = true then 1 else 0
theorem pcR_le (n m : Nat) : pcR n m ≤ n := by
  induction n with
  | zero => exact Nat.le_refl _
  | succ n ih => rw [pcR]; split <;> omega
theorem mr (n d m : Nat) (h : m < 2 ^ n) : pcR (n + d) m = pcR n m := by
  induction d with
  | zero => rfl
  | succ d ih =>
    rw [show n + (d + 1) = (n + d) + 1 from rfl, pcR, ih, Nat.testBit_lt_two_pow (Nat.lt_of_lt_of_le h (Nat.pow_le_pow_right (by omega) (by omega)))]
    rfl
theorem jb (m k j : Nat) (hb : m.testBit k = false) : (m + 2 ^ k).testBit j = (m.testBit j || decide (k = j)) := by
  rw [← my hb, Nat.testBit_or, Nat.testBit_two_pow]
theorem pcR_with (n m k : Nat) (hk : k < n) (hb : m.testBit k = false) : pcR n (m + 2 ^ k) = pcR n m + 1 := by
  have off : ∀ n, n ≤ k → pcR n (m + 2 ^ k) = pcR n m := by
    intro n
    induction n with
    | zero => intro _; rfl
    | succ n ih =>
      intro h
      rw [pcR, pcR, ih (by omega), jb m k n hb, show decide (k = n) = false from decide_eq_false (by omega), Bool.or_false]
  induction n with
  | zero => omega
  | succ n ih =>
    rw [pcR, pcR, jb m k n hb]
    by_cases e : k = n
    · subst e
      rw [off k (Nat.le_refl _), hb, show decide (k = k) = true from decide_eq_true rfl]
      simp
    · rw [ih (by omega), show decide (k = n) = false from decide_eq_false e, Bool.or_false]
      omega
end Go.Proofs.YthipiojpoklpgaaGreat.P

namespace Go.Proofs.YthipiojpoklpgaaGreat.P
open Go.RowKit Go.Proofs.YthipiojpoklpgaaGreatW.PrintWords Go.Proofs.YthipiojpoklpgaaGreatW.PrintLast Go.Proofs.YthipiojpoklpgaaGreatW.PrintMore
def hasN (s : List Int) (v : Int) : Bool := s.any fun x => decide (v = x)
theorem cE.ev (n : Nat) (hn : n ≤ 1000000) (p : Nat → Int → Option Bool) (P : Nat → Bool) (h : ∀ b : Nat, b < n → Ev (fun k => p k (b : Int)) (P b)) : Ev (fun k => cE.f k (n : Int) (p k)) (sel n P) := by
  obtain ⟨K, hK⟩ := Ev.all (p := fun k (b : Nat) => p k (b : Int)) (P := P) (List.range n) (fun b hb => h b (List.mem_range.1 hb))
  refine ⟨K + n + 1, fun k hk => ?_⟩
  have hq := hK k (by omega)
  show cE.f k (n : Int) (p k) = _
  generalize p k = q at hq ⊢
  have hq : ∀ b : Nat, b < n → q (b : Int) = some (P b) := fun b hb => hq b (List.mem_range.2 hb)
  exact mH (G := fun i k => cE.l0 k q (sel i P) (n : Int) (i : Int)) (R := fun _ => sel n P) n
    (by intro k; simp only [cE.l0, Int.lt_irrefl, ↓reduceIte])
    (fun i hi k ih => by
      have c1 : (i : Int) < (n : Int) := by omega
      have c2 : (sel i P).length < 17592186044416 := by have := iw i P; omega
      rw [iL] at ih
      simp only [cE.l0, c1, ↓reduceIte, hq i hi, Option.bind_some, w1 hi (show n ≤ 9223372036854775807 by omega)]
      cases hP : P i with
      | true => simp only [hP, ↓reduceIte] at ih; simp only [↓reduceIte, c2]; exact ih
      | false => simp only [hP, Bool.false_eq_true, ↓reduceIte, List.append_nil] at ih; simp only [Bool.false_eq_true, ↓reduceIte]; exact ih) 0 (Nat.zero_le _) k (by omega)
def ig (q : Int) (l : List Int) (b : Nat) : Bool := decide (wt l b ≥ q)
theorem b9.ev (q : Int) (l : List Int) (h : ∀ x ∈ l, 0 ≤ x ∧ x ≤ 1000) (hl : l.length ≤ 40) : Ev (fun k => b9.f k q l) ((l.length : Int), tab l.length (ig q l)) := by
  unfold b9.f
  refine Ev.bind (bc.ev l.length hl (fun k y => cC.f k y q l) (ig q l) (fun b hb => ?_)) Ev.some
  unfold cC.f
  have h40 : 2 ^ l.length ≤ 1099511627776 := db hl
  exact Ev.bind (a6.ev q l b h (by omega) (by omega)) Ev.some
theorem ar.ev (l : List aa) (hm : l.length ≤ 9223372036854775807) (p : Nat → Int → List Int → Option Bool) (P : aa → Bool) (h : ∀ x ∈ l, Ev (fun k => p k x.f0 x.f1) (P x)) : Ev (fun k => ar.f k l (p k)) (idxFrom P 0 l) := by
  obtain ⟨K, hK⟩ := Ev.all (p := fun k (x : aa) => p k x.f0 x.f1) (P := P) l h
  refine ⟨K + l.length + 1, fun k hk => ?_⟩
  have hq := hK k (by omega)
  show ar.f k l (p k) = _
  generalize p k = q at hq ⊢
  unfold ar.f
  have := mH (G := fun i k => ar.l0 k l q (l.length : Int) (i : Int)) (R := fun i => idxFrom P i (l.drop i)) l.length
    (by intro k; simp only [ar.l0, Int.lt_irrefl, ↓reduceIte, List.drop_length, idxFrom])
    (fun i hi k ih => by
      have c1 : (i : Int) < (l.length : Int) := by omega
      have c0 : (0 : Int) ≤ (i : Int) := by omega
      simp only [ar.l0, c1, c0, ↓reduceIte, w1 hi hm, dJ, hq _ (dw l aG i hi), Option.bind_some]
      rw [dv l aG i hi, idxFrom, ih]
      split <;> rfl) 0 (Nat.zero_le _) k (by omega)
  rwa [List.drop_zero] at this
theorem aZ.ev (l : List aa) (hm : l.length ≤ 9223372036854775807) (p : Nat → Int → List Int → Option Bool) (P : aa → Bool) (h : ∀ x ∈ l, Ev (fun k => p k x.f0 x.f1) (P x)) : Ev (fun k => aZ.f k l (p k)) (l.any P) := by
  unfold aZ.f
  refine Ev.bind (ar.ev l hm p P h) ?_
  rw [iJ]
  exact Ev.some
def place : List aa → Nat → Int → Int × Int × Bool
  | [], _, _ => (0, 0, false)
  | x :: xs, i, k => if k < x.f1.length then ((i : Int), k, true) else place xs (i + 1) (k - x.f1.length)
theorem set_len9 {s : List Int} {n : Nat} (hn : n ≤ 9) (h : ep s n = true) : s.length ≤ 1048576 := by
  rcases kD h with h | rfl
  · omega
  · simp
theorem bW.ev' (q : Int) (l : List Int) (h : ∀ x ∈ l, 0 ≤ x ∧ x ≤ 1000) (hl : l.length ≤ 40) : Ev (fun k => bW.f k q l) (tab l.length (fun b => decide (wt l b ≥ q))) := by
  have h40 : 2 ^ l.length ≤ 1099511627776 := db hl
  have hp := Nat.two_pow_pos l.length
  have tl := dp l.length (fun b => decide (wt l b ≥ q))
  generalize ht : tab l.length (fun b => decide (wt l b ≥ q)) = t at tl ⊢
  have key := Ev.down (G := fun i k => bW.l0 k (t.take i) (i : Int) q l) (R := fun _ => t) (2 ^ l.length)
    (by refine Ev.shift ?_
        have c : ¬ (((2 ^ l.length : Nat) : Int) ≤ ((2 ^ l.length - 1 : Nat) : Int)) := by omega
        simp only [bW.l0, fe.eq l.length (by omega), Option.bind_some, c, ↓reduceIte]
        rw [← tl, List.take_length]
        exact Ev.some)
    (fun i hi ih => by
        refine Ev.shift ?_
        have c : (i : Int) ≤ ((2 ^ l.length - 1 : Nat) : Int) := by omega
        simp only [bW.l0, fe.eq l.length (by omega), Option.bind_some, c, ↓reduceIte]
        refine Ev.bind (cJ.ev q l i h (by omega)) ?_
        have c2 : (t.take i).length < 140737488355328 := by rw [List.length_take]; omega
        have e : t.take i ++ [decide (wt l i ≥ q)] = t.take (i + 1) := by
          rw [fq t false i (by omega), ← ht, fo _ _ i hi]
        simp only [c2, ↓reduceIte, w1 hi (show 2 ^ l.length ≤ 9223372036854775807 by omega), e]
        exact ih)
  exact key 0 (Nat.zero_le _)
theorem bn.ev (n : Int) (l : List Bool) (hl : l.length ≤ 9223372036854775807) : Ev (fun k => bn.f k n l) (l.count true : Int) := by
  have key := back (P := fun i => ∀ s : Nat, s ≤ i → Ev (fun k => bn.l0 k (s : Int) l (l.length : Int) (i : Int)) ((s + (l.drop i).count true : Nat) : Int)) l.length
    (by intro s hs
        refine Ev.shift ?_
        simp only [bn.l0, Int.lt_irrefl, ↓reduceIte, List.drop_length, List.count_nil, Nat.add_zero]
        exact Ev.some)
    (by intro i hi ih s hs
        refine Ev.shift ?_
        have c1 : (i : Int) < (l.length : Int) := by omega
        have c0 : (0 : Int) ≤ (i : Int) := by omega
        simp only [bn.l0, c1, c0, ↓reduceIte, w1 hi hl, fa]
        rw [dv l false i hi, List.count_cons]
        cases l.getD i false with
        | true =>
          simp only [↓reduceIte, beq_self_eq_true]
          rw [show wrap64 ((s : Int) + 1) = ((s + 1 : Nat) : Int) by rw [w64 (by omega) (by omega)]; omega]
          exact Ev.eq (ih _ (by omega)) (by omega)
        | false =>
          simp only [Bool.false_eq_true, ↓reduceIte, show (false == true) = false from rfl]
          exact Ev.eq (ih _ (by omega)) (by omega))
  unfold bn.f
  have := key 0 (Nat.zero_le _) 0 (by omega)
  rw [List.drop_zero, Nat.zero_add] at this
  exact this
theorem du.eq (n : Nat) (w : List Bool) (m i : Nat) (hw : w.length = 2 ^ n) (hn : n ≤ 40) (hm : m < 2 ^ n) (hi : i < n) : du.f (n : Int) w (m : Int) (i : Int) = some (fQ w i m) := by
  have h40 : 2 ^ n ≤ 1099511627776 := db hn
  have c0 : (0 : Int) ≤ (m : Int) := by omega
  have c1 : (0 : Int) ≤ (i : Int) := by omega
  have c2 : (m : Int) < (w.length : Int) := by omega
  have hp : 2 ^ i < 2 ^ 63 := Nat.pow_lt_pow_right (by omega) (by omega)
  unfold du.f fQ
  rw [dh.eq m i (by omega) (by omega), Option.bind_some]
  cases hb : m.testBit i with
  | true => simp
  | false =>
    have e : Go.bits .or .i64 (m : Int) (shl .i64 1 (i : Int)) = ((m + 2 ^ i : Nat) : Int) := by
      rw [ic i (by omega), ow m (2 ^ i) (by omega) hp, my hb]
    have hlt := ou hm hi hb
    have hpos := Nat.two_pow_pos i
    have c3 : (0 : Int) ≤ ((m + 2 ^ i : Nat) : Int) := by omega
    have c4 : ((m + 2 ^ i : Nat) : Int) < (w.length : Int) := by omega
    simp only [e, c0, c1, c2, c3, c4, ↓reduceIte, fa, Bool.false_eq_true, Bool.not_false, Bool.true_and]
    cases w.getD m false <;> simp
theorem a7.ev (n : Nat) (w : List Bool) (hw : w.length = 2 ^ n) (hn : n ≤ 40) : Ev (fun k => a7.f k (n : Int) w) (swl n w) := by
  have h40 : 2 ^ n ≤ 1099511627776 := db hn
  have c0 : (0 : Int) ≤ (n : Int) := by omega
  have c1 : n ≤ 35184372088832 := by omega
  have sl := kU n w
  unfold a7.f
  simp only [c0, c1, ↓reduceIte, Int.toNat_natCast, Option.bind_some, List.length_replicate]
  have key := Ev.down (G := fun i k => a7.l0 k (filled (swl n w) 0 i) (n : Int) (i : Int) (n : Int) w) (R := fun _ => swl n w) n
    (by refine Ev.shift ?_
        have : filled (swl n w) 0 n = swl n w := by have := kF (swl n w) 0; rwa [sl] at this
        simp only [a7.l0, Int.lt_irrefl, ↓reduceIte, this]
        exact Ev.some)
    (fun i hi ih => by
      have hfl := kH (swl n w) 0 i (by omega)
      have inner := back (P := fun m => Ev (fun k => a7.l1 k ((filled (swl n w) 0 i).set i (((List.range m).countP (fQ w i) : Nat) : Int)) (i : Int) (n : Int) (i : Int) (w.length : Int) (m : Int) (n : Int) w) (swl n w)) (2 ^ n)
        (by refine Ev.shift ?_
            have e := ky (swl n w) 0 0 i (by omega)
            rw [ng n w i hi] at e
            simp only [a7.l1, hw, Int.lt_irrefl, ↓reduceIte, e, w1 hi (show n ≤ 9223372036854775807 by omega)]
            exact ih)
        (fun m hm ihm => by
          refine Ev.shift ?_
          have d1 : (m : Int) < (w.length : Int) := by omega
          have d0 : (0 : Int) ≤ (i : Int) := by omega
          have d2 : (i : Int) < ((filled (swl n w) 0 i).length : Int) := by omega
          simp only [a7.l1, d1, ↓reduceIte, du.eq n w m i hw hn hm hi, Option.bind_some, List.length_set, d0, d2, w1 hm (show 2 ^ n ≤ 9223372036854775807 by omega), fU, Int.toNat_natCast, List.set_set]
          rw [List.range_succ, List.countP_append, List.countP_singleton] at ihm
          have hc : (List.range m).countP (fQ w i) ≤ m := by
            have := List.countP_le_length (p := fQ w i) (l := List.range m)
            rwa [List.length_range] at this
          cases hs : fQ w i m with
          | true =>
            have eg : ((filled (swl n w) 0 i).set i (((List.range m).countP (fQ w i) : Nat) : Int)).getD i 0 = (((List.range m).countP (fQ w i) : Nat) : Int) := by
              rw [List.getD_eq_getElem?_getD, List.getElem?_set_self (by omega)]; rfl
            simp only [hs, ↓reduceIte] at ihm
            simp only [↓reduceIte, eg]
            rw [show wrap64 ((((List.range m).countP (fQ w i) : Nat) : Int) + 1) = (((List.range m).countP (fQ w i) + 1 : Nat) : Int) by rw [w64 (by omega) (by omega)]; omega]
            exact ihm
          | false =>
            simp only [hs, Bool.false_eq_true, ↓reduceIte, Nat.add_zero] at ihm
            simp only [Bool.false_eq_true, ↓reduceIte]
            exact ihm)
      refine Ev.shift ?_
      have d1 : (i : Int) < (n : Int) := by omega
      simp only [a7.l0, d1, ↓reduceIte]
      have i0 := inner 0 (Nat.zero_le _)
      have e0 : (filled (swl n w) 0 i).set i 0 = filled (swl n w) 0 i := by
        apply List.ext_getElem?
        intro j
        rw [List.getElem?_set]
        split
        · rename_i h; subst h
          rw [if_pos (by omega)]
          unfold filled
          rw [List.getElem?_append_right (by simp; omega), List.getElem?_replicate]
          rw [if_pos (by simp; omega)]
        · rfl
      rw [List.range_zero, List.countP_nil] at i0
      simp only [Int.natCast_zero, e0] at i0
      exact i0)
  have := key 0 (Nat.zero_le _)
  rw [jZ, sl] at this
  exact this
theorem ck.ev (n : Nat) (w : List Bool) (i : Nat) (hw : w.length = 2 ^ n) (hn : n ≤ 40) (hi : i < n) : Ev (fun k => ck.f k w (i : Int)) (((List.range (2 ^ n)).filter (fQ w i)).map fun m : Nat => (m : Int)) := by
  have h40 : 2 ^ n ≤ 1099511627776 := db hn
  have c0 : (0 : Int) ≤ (i : Int) := by omega
  have key := back (P := fun m => Ev (fun k => ck.l0 k w (i : Int) (((List.range m).filter (fQ w i)).map fun m : Nat => (m : Int)) w (w.length : Int) (m : Int)) (((List.range (2 ^ n)).filter (fQ w i)).map fun m : Nat => (m : Int))) (2 ^ n)
    (by refine Ev.shift ?_
        simp only [ck.l0, hw, Int.lt_irrefl, ↓reduceIte]
        exact Ev.some)
    (fun m hm ih => by
      refine Ev.shift ?_
      have d1 : (m : Int) < (w.length : Int) := by omega
      have d0 : (0 : Int) ≤ (m : Int) := by omega
      rw [List.range_succ, List.filter_append, List.map_append] at ih
      have hc : (((List.range m).filter (fQ w i)).map fun m : Nat => (m : Int)).length < 17592186044416 := by
        have := List.length_filter_le (fQ w i) (List.range m)
        rw [List.length_range] at this
        rw [List.length_map]; omega
      have hp : 2 ^ i < 2 ^ 63 := Nat.pow_lt_pow_right (by omega) (by omega)
      simp only [ck.l0, d1, d0, c0, ↓reduceIte, iW m i (by omega), kN, fa, ic i (by omega), w1 hm (show 2 ^ n ≤ 9223372036854775807 by omega)]
      have off : fQ w i m = false → Ev (fun k => ck.l0 k w (i : Int) (((List.range m).filter (fQ w i)).map fun m : Nat => (m : Int)) w (w.length : Int) ((m + 1 : Nat) : Int)) (((List.range (2 ^ n)).filter (fQ w i)).map fun m : Nat => (m : Int)) := by
        intro hs
        rw [List.filter_cons_of_neg (by simp [hs]), List.filter_nil, List.map_nil, List.append_nil] at ih
        exact ih
      have on : fQ w i m = true → Ev (fun k => ck.l0 k w (i : Int) ((((List.range m).filter (fQ w i)).map fun m : Nat => (m : Int)) ++ [(m : Int)]) w (w.length : Int) ((m + 1 : Nat) : Int)) (((List.range (2 ^ n)).filter (fQ w i)).map fun m : Nat => (m : Int)) := by
        intro hs
        rw [List.filter_cons_of_pos hs, List.filter_nil] at ih
        exact ih
      cases hb : m.testBit i with
      | true =>
        rw [fW, decide_eq_true_eq] at hb
        have hb' : ¬ ((m / 2 ^ i % 2 : Nat) : Int) = 0 := by omega
        simp only [hb', ↓reduceIte]
        exact off (by unfold fQ; rw [fW, hb]; rfl)
      | false =>
        have hlt := ou hm hi hb
        have hpos := Nat.two_pow_pos i
        have hb0 := hb
        rw [fW, decide_eq_false_iff_not] at hb
        have hb' : ((m / 2 ^ i % 2 : Nat) : Int) = 0 := by omega
        simp only [hb', ↓reduceIte]
        cases h1 : w.getD m false with
        | true =>
          simp only [↓reduceIte]
          exact off (by unfold fQ; rw [hb0, h1]; rfl)
        | false =>
          have ew : wrap64 ((m : Int) + ((2 ^ i : Nat) : Int)) = ((m + 2 ^ i : Nat) : Int) := by rw [w64 (by omega) (by omega)]; omega
          have d3 : (0 : Int) ≤ ((m + 2 ^ i : Nat) : Int) := by omega
          have d4 : ((m + 2 ^ i : Nat) : Int) < (w.length : Int) := by omega
          simp only [Bool.false_eq_true, ↓reduceIte, ew, d3, d4, fa, hc]
          cases h2 : w.getD (m + 2 ^ i) false with
          | true =>
            simp only [↓reduceIte]
            exact on (by unfold fQ; rw [hb0, h1, h2]; rfl)
          | false =>
            simp only [Bool.false_eq_true, ↓reduceIte]
            exact off (by unfold fQ; rw [hb0, h1, h2]; rfl))
  exact key 0 (Nat.zero_le _)
theorem cH.ev (n : Nat) (w : List Bool) (hw : w.length = 2 ^ n) (hn : n ≤ 40) : Ev (fun k => cH.f k w (n : Int)) (swl n w) := by
  have sl := kU n w
  have key := back (P := fun i => Ev (fun k => cH.l0 k w (n : Int) ((swl n w).take i) (i : Int)) (swl n w)) n
    (by refine Ev.shift ?_
        have : (swl n w).take n = swl n w := by rw [List.take_of_length_le (by omega)]
        simp only [cH.l0, Int.lt_irrefl, ↓reduceIte, this]
        exact Ev.some)
    (fun i hi ih => by
      refine Ev.shift ?_
      have d1 : (i : Int) < (n : Int) := by omega
      simp only [cH.l0, d1, ↓reduceIte]
      refine Ev.bind (ck.ev n w i hw hn hi) ?_
      have hc : ((swl n w).take i).length < 17592186044416 := by rw [List.length_take]; omega
      have e : (swl n w).take i ++ [(((((List.range (2 ^ n)).filter (fQ w i)).map fun m : Nat => (m : Int)).length : Nat) : Int)] = (swl n w).take (i + 1) := by
        rw [fq (swl n w) 0 i (by omega), ng n w i hi, List.length_map, List.countP_eq_length_filter]
      simp only [hc, ↓reduceIte, e, w1 hi (show n ≤ 9223372036854775807 by omega)]
      exact ih)
  exact key 0 (Nat.zero_le _)
theorem bS.ev (l : List Int) (hl : l.length ≤ 9223372036854775807) : Ev (fun k => bS.f k l l) true := by
  unfold bS.f
  refine Ev.aV rfl ?_
  have key := Ev.down (G := fun i k => bS.l0 k l l (l.length : Int) (i : Int)) (R := fun _ => true) l.length
    (by refine Ev.shift ?_
        simp only [bS.l0, Int.lt_irrefl, ↓reduceIte]
        exact Ev.some)
    (fun i hi ih => by
      refine Ev.shift ?_
      have c1 : (i : Int) < (l.length : Int) := by omega
      have c0 : (0 : Int) ≤ (i : Int) := by omega
      simp only [bS.l0, c1, c0, ↓reduceIte, w1 hi hl]
      exact ih)
  exact key 0 (Nat.zero_le _)
theorem cN.ev (l : List (List Int)) (hl : l.length ≤ 9223372036854775807) (hx : ∀ x ∈ l, x.length ≤ 9223372036854775807) : Ev (fun k => cN.f k l l) true := by
  unfold cN.f
  refine Ev.aV rfl ?_
  have key := Ev.down (G := fun i k => cN.l0 k l l (l.length : Int) (i : Int)) (R := fun _ => true) l.length
    (by refine Ev.shift ?_
        simp only [cN.l0, Int.lt_irrefl, ↓reduceIte]
        exact Ev.some)
    (fun i hi ih => by
      refine Ev.shift ?_
      have c1 : (i : Int) < (l.length : Int) := by omega
      have c0 : (0 : Int) ≤ (i : Int) := by omega
      simp only [cN.l0, c1, c0, ↓reduceIte, w1 hi hl, gi]
      refine Ev.bind (bS.ev _ (hx _ (dw l [] i hi))) ?_
      simp only [↓reduceIte]
      exact ih)
  exact key 0 (Nat.zero_le _)
theorem cn.ev (n : Int) (l : List (List Int)) (hl : l.length ≤ 9223372036854775807) (hx : ∀ x ∈ l, x.length ≤ 9223372036854775807) : Ev (fun k => cn.f k n l n l) true := by
  unfold cn.f
  exact Ev.aV rfl (Ev.bind (cN.ev l hl hx) Ev.some)
theorem dt.ev (l : List Int) (v : Int) (hl : l.length ≤ 9223372036854775807) : Ev (fun k => dt.f k l v) (hasN l v) := by
  unfold dt.f hasN
  have key := Ev.down (G := fun i k => dt.l0 k v l (l.length : Int) (i : Int)) (R := fun i => (l.drop i).any fun x => decide (v = x)) l.length
    (by refine Ev.shift ?_
        simp only [dt.l0, Int.lt_irrefl, ↓reduceIte, List.drop_length, List.any_nil]
        exact Ev.some)
    (fun i hi ih => by
      refine Ev.shift ?_
      have c1 : (i : Int) < (l.length : Int) := by omega
      have c0 : (0 : Int) ≤ (i : Int) := by omega
      rw [dv l 0 i hi, List.any_cons]
      simp only [dt.l0, c1, c0, ↓reduceIte, w1 hi hl, fU]
      by_cases e : l.getD i 0 = v
      · refine Ev.aV e ?_
        rw [decide_eq_true e.symm]
        exact Ev.some
      · refine Ev.cd e ?_
        rw [decide_eq_false (fun h => e h.symm), Bool.false_or]
        exact ih)
  exact key 0 (Nat.zero_le _)
theorem bS.evd (a b : List Int) (ha : a.length ≤ 9223372036854775807) : Ev (fun k => bS.f k a b) (decide (a = b)) := by
  unfold bS.f
  by_cases hl : (a.length : Int) = (b.length : Int)
  · refine Ev.aV hl ?_
    have hl' : a.length = b.length := by omega
    have key := Ev.down (G := fun i k => bS.l0 k a b (a.length : Int) (i : Int)) (R := fun i => decide (a.drop i = b.drop i)) a.length
      (by refine Ev.shift ?_
          have e : decide (a.drop a.length = b.drop a.length) = true := by rw [List.drop_length, hl', List.drop_length]; rfl
          simp only [bS.l0, Int.lt_irrefl, ↓reduceIte, e]
          exact Ev.some)
      (fun i hi ih => by
        refine Ev.shift ?_
        have hb : i < b.length := by omega
        rw [dv a 0 i hi, dv b 0 i hb]
        simp only [bS.l0]
        refine Ev.aV (by omega) (Ev.aV (by omega) (Ev.aV (by omega) (Ev.aV (by omega) ?_)))
        rw [fU, fU, w1 hi ha]
        by_cases e : a.getD i 0 = b.getD i 0
        · refine Ev.aV e (Ev.eq ih ?_)
          rw [decide_eq_decide, List.cons.injEq]
          exact ⟨fun h => ⟨e, h⟩, fun h => h.2⟩
        · refine Ev.cd e (Ev.eq Ev.some ?_)
          rw [eq_comm, decide_eq_false_iff_not, List.cons.injEq]
          exact fun h => e h.1)
    exact key 0 (Nat.zero_le _)
  · refine Ev.cd hl (Ev.eq Ev.some ?_)
    rw [eq_comm, decide_eq_false_iff_not]
    rintro rfl
    exact hl rfl
theorem cN.evd (a b : List (List Int)) (ha : a.length ≤ 9223372036854775807) (hx : ∀ x ∈ a, x.length ≤ 9223372036854775807) : Ev (fun k => cN.f k a b) (decide (a = b)) := by
  unfold cN.f
  by_cases hl : (a.length : Int) = (b.length : Int)
  · refine Ev.aV hl ?_
    have hl' : a.length = b.length := by omega
    have key := Ev.down (G := fun i k => cN.l0 k a b (a.length : Int) (i : Int)) (R := fun i => decide (a.drop i = b.drop i)) a.length
      (by refine Ev.shift ?_
          have e : decide (a.drop a.length = b.drop a.length) = true := by rw [List.drop_length, hl', List.drop_length]; rfl
          simp only [cN.l0, Int.lt_irrefl, ↓reduceIte, e]
          exact Ev.some)
      (fun i hi ih => by
        refine Ev.shift ?_
        have hb : i < b.length := by omega
        rw [dv a [] i hi, dv b [] i hb]
        simp only [cN.l0]
        refine Ev.aV (by omega) (Ev.aV (by omega) (Ev.aV (by omega) (Ev.aV (by omega) ?_)))
        rw [gi, gi, w1 hi ha]
        refine Ev.bind (bS.evd _ _ (hx _ (dw a [] i hi))) ?_
        by_cases e : a.getD i [] = b.getD i []
        · refine Ev.aV (decide_eq_true e) (Ev.eq ih ?_)
          rw [decide_eq_decide, List.cons.injEq]
          exact ⟨fun h => ⟨e, h⟩, fun h => h.2⟩
        · refine Ev.cd (by rw [decide_eq_false e]; decide) (Ev.eq Ev.some ?_)
          rw [eq_comm, decide_eq_false_iff_not, List.cons.injEq]
          exact fun h => e h.1)
    exact key 0 (Nat.zero_le _)
  · refine Ev.cd hl (Ev.eq Ev.some ?_)
    rw [eq_comm, decide_eq_false_iff_not]
    rintro rfl
    exact hl rfl
theorem cn.evd (n : Int) (a b : List (List Int)) (ha : a.length ≤ 9223372036854775807) (hx : ∀ x ∈ a, x.length ≤ 9223372036854775807) : Ev (fun k => cn.f k n a n b) (decide (a = b)) := by
  unfold cn.f
  exact Ev.aV rfl (Ev.bind (cN.evd a b ha hx) Ev.some)
theorem eD.ev (q : Int) (l s : List Int) (hm : l.length ≤ 9223372036854775807) (hs : s.length ≤ 9223372036854775807) : Ev (fun k => eD.f k q l s) (isComm q l && ep s l.length) := by
  unfold eD.f
  refine Ev.bind (aH.ev q l hm) ?_
  cases h : isComm q l with
  | false => exact Ev.some
  | true => simp only [↓reduceIte, Bool.true_and]; exact Ev.bind (dq.ev s l.length hs (by omega) (by omega)) Ev.some
theorem count512 : ((List.range 512).all fun m => d6.f (m : Int) == some ((pcR 9 m : Nat) : Int)) = true := by decide +kernel
theorem d6.eq (m : Nat) (h : m < 512) : d6.f (m : Int) = some ((pcR 9 m : Nat) : Int) := by
  have h1 := count512
  rw [List.all_eq_true] at h1
  simpa using h1 m (List.mem_range.2 h)
theorem sel_pc (n m : Nat) : (sel n m.testBit).length = pcR n m := by
  induction n with
  | zero => rfl
  | succ n ih => rw [iL, List.length_append, ih, pcR]; cases m.testBit n <;> rfl
theorem cP.eq (l : List Int) (h : l.length < 17592186044416) : cP.f l = some l := by
  unfold cP.f
  rw [if_pos h]
def al (xs : List aa) : Nat := (xs.getD 0 aG).f1.length
def dP (xs : List aa) : Bool := inI 1 4 (xs.length : Int) && xs.all fun c => oq c && decide (c.f1.length = al xs)
theorem dT {xs : List aa} (h : dP xs = true) : 1 ≤ xs.length ∧ xs.length ≤ 4 ∧ ∀ x ∈ xs, oq x = true ∧ x.f1.length = al xs := by
  simp only [dP, inI, Bool.and_eq_true, decide_eq_true_eq, List.all_eq_true] at h
  exact ⟨by omega, by omega, h.2⟩
theorem aQ.ev (xs : List aa) (hl : xs.length ≤ 1048576) (hx : ∀ x ∈ xs, x.f1.length ≤ 9223372036854775807) : Ev (fun k => aQ.f k xs) (dP xs) := by
  unfold aQ.f dP
  simp only [b4.eq, Option.bind_some]
  cases hin : inI 1 4 (xs.length : Int) with
  | false => exact Ev.some
  | true =>
    have h0 : (0 : Int) < (xs.length : Int) := by
      simp only [inI, Bool.and_eq_true, decide_eq_true_eq] at hin; omega
    simp only [↓reduceIte, Bool.true_and]
    refine Ev.bind (aZ.ev xs (by omega) (fun k a b => bz.f k a b xs) (fun x => !(oq x && decide (x.f1.length = al xs))) (fun x h => ?_)) ?_
    · unfold bz.f
      refine Ev.bind (aH.ev _ _ (hx x h)) ?_
      have e : isComm x.f0 x.f1 = oq x := rfl
      rw [e]
      cases oq x with
      | false => exact Ev.some
      | true =>
        simp only [↓reduceIte, h0, Bool.true_and]
        refine Ev.eq Ev.some ?_
        have : ae xs 0 = xs.getD 0 aG := dJ xs 0
        rw [this]
        unfold al
        rw [Bool.eq_iff_iff]
        simp
        omega
    · rw [l5]; exact Ev.some
theorem aW.ev (xs : List aa) (hl : xs.length ≤ 1048576) (hx : ∀ x ∈ xs, x.f1.length ≤ 9223372036854775807) : Ev (fun k => aW.f k xs) (dP xs) := by
  unfold aW.f dP
  simp only [cp.eq, Option.bind_some]
  cases hin : inI 1 4 (xs.length : Int) with
  | false => exact Ev.some
  | true =>
    have h0 : (0 : Int) < (xs.length : Int) := by
      simp only [inI, Bool.and_eq_true, decide_eq_true_eq] at hin; omega
    simp only [↓reduceIte, Bool.true_and]
    have key := Ev.down (G := fun i k => aW.l0 k xs xs (xs.length : Int) (i : Int)) (R := fun i => (xs.drop i).all fun c => oq c && decide (c.f1.length = al xs)) xs.length
      (by refine Ev.shift ?_
          simp only [aW.l0, Int.lt_irrefl, ↓reduceIte, List.drop_length, List.all_nil]
          exact Ev.some)
      (fun i hi ih => by
          refine Ev.shift ?_
          have c1 : (i : Int) < (xs.length : Int) := by omega
          have c0 : (0 : Int) ≤ (i : Int) := by omega
          simp only [aW.l0, c1, c0, ↓reduceIte, dJ]
          rw [dv xs aG i hi, List.all_cons]
          refine Ev.bind (cy.ev _ _ (hx _ (dw xs aG i hi))) ?_
          have e : isComm (xs.getD i aG).f0 (xs.getD i aG).f1 = oq (xs.getD i aG) := rfl
          rw [e]
          cases oq (xs.getD i aG) with
          | false => exact Ev.some
          | true =>
            have er : ae xs 0 = xs.getD 0 aG := dJ xs 0
            simp only [↓reduceIte, h0, Bool.true_and, er]
            by_cases he : (xs.getD i aG).f1.length = al xs
            · have he' : ((al xs : Nat) : Int) = ((xs.getD 0 aG).f1.length : Int) := rfl
              simp only [he, he', decide_true, Bool.true_and, ↓reduceIte, w1 hi (show xs.length ≤ 9223372036854775807 by omega)]
              exact ih
            · have he' : ¬ ((xs.getD i aG).f1.length : Int) = ((xs.getD 0 aG).f1.length : Int) := by unfold al at he; omega
              simp only [he', he, decide_false, Bool.false_and, ↓reduceIte]
              exact Ev.some)
    exact key 0 (Nat.zero_le _)
theorem cZ {xs : List aa} (h : dP xs = true) : al xs ≤ 9 := by
  obtain ⟨h1, h4, hx⟩ := dT h
  have h0 := hx _ (dw xs aG 0 (by omega))
  have := gH h0.1
  omega
theorem jD (l : List bp) (i : Nat) : cm l (i : Int) = l.getD i fw := by simp [cm]
theorem aD.ev (l : List bp) (hm : l.length ≤ 9223372036854775807) (p : Nat → Int → List Bool → Option Bool) (P : bp → Bool) (h : ∀ x ∈ l, Ev (fun k => p k x.f0 x.f1) (P x)) : Ev (fun k => aD.f k l (p k)) (idxFrom P 0 l) := by
  obtain ⟨K, hK⟩ := Ev.all (p := fun k (x : bp) => p k x.f0 x.f1) (P := P) l h
  refine ⟨K + l.length + 1, fun k hk => ?_⟩
  have hq := hK k (by omega)
  show aD.f k l (p k) = _
  generalize p k = q at hq ⊢
  unfold aD.f
  have := mH (G := fun i k => aD.l0 k l q (l.length : Int) (i : Int)) (R := fun i => idxFrom P i (l.drop i)) l.length
    (by intro k; simp only [aD.l0, Int.lt_irrefl, ↓reduceIte, List.drop_length, idxFrom])
    (fun i hi k ih => by
      have c1 : (i : Int) < (l.length : Int) := by omega
      have c0 : (0 : Int) ≤ (i : Int) := by omega
      simp only [aD.l0, c1, c0, ↓reduceIte, w1 hi hm, jD, hq _ (dw l fw i hi), Option.bind_some]
      rw [dv l fw i hi, idxFrom, ih]
      split <;> rfl) 0 (Nat.zero_le _) k (by omega)
  rwa [List.drop_zero] at this
theorem bj.ev (l : List bp) (hm : l.length ≤ 9223372036854775807) (p : Nat → Int → List Bool → Option Bool) (P : bp → Bool) (h : ∀ x ∈ l, Ev (fun k => p k x.f0 x.f1) (P x)) : Ev (fun k => bj.f k l (p k)) (l.any P) := by
  unfold bj.f
  refine Ev.bind (aD.ev l hm p P h) ?_
  rw [iJ]
  exact Ev.some
def tv (c : aa) : bp := ⟨(c.f1.length : Int), tab c.f1.length (ig c.f0 c.f1)⟩
def cw (c : aa) (b : Nat) : Bool := ig c.f0 c.f1 b
def chW (s : Bool) (xs : List aa) (b : Nat) : Bool := (xs.any fun c => cw c b == s) == s
theorem fI {x : aa} (h : oq x = true) : isComm x.f0 x.f1 = true := h
theorem aJ.ev (s : Bool) (xs : List aa) (h : dP xs = true) : Ev (fun k => aJ.f k xs s) ((al xs : Int), tab (al xs) (chW s xs)) := by
  obtain ⟨h1, h4, hx⟩ := dT h
  have hf9 : al xs ≤ 9 := by
    have h0 := hx _ (dw xs aG 0 (by omega))
    have := gH h0.1
    omega
  have hp9 : 2 ^ al xs ≤ 512 := db (m := 9) hf9
  have key := Ev.down (G := fun i k => aJ.l0 k xs (xs.length : Int) (i : Int) s ((xs.take i).map tv)) (R := fun _ => ((al xs : Int), tab (al xs) (chW s xs))) xs.length
    (by refine Ev.shift ?_
        have c0 : (0 : Int) < ((xs.map tv).length : Int) := by rw [List.length_map]; omega
        have e0 : (cm (xs.map tv) 0).f0 = (al xs : Int) := by
          have : cm (xs.map tv) 0 = (xs.map tv).getD 0 fw := jD _ 0
          rw [this]
          cases xs with
          | nil => simp at h1
          | cons x xs => rfl
        simp only [aJ.l0, Int.lt_irrefl, ↓reduceIte, List.take_length, c0, e0]
        refine Ev.bind (bc.ev (al xs) (by omega) (fun k y => dm.f k y (xs.map tv) s) (chW s xs) (fun b hb => ?_)) Ev.some
        unfold dm.f
        refine Ev.bind (bj.ev (xs.map tv) (by rw [List.length_map]; omega) (fun k a l => cL.f a l (b : Int) s) (fun v => v.f1.getD b false == s) (fun v hv => ?_)) ?_
        · obtain ⟨x, hxm, rfl⟩ := List.mem_map.1 hv
          have hl : (tv x).f1.length = 2 ^ al xs := by
            show (tab x.f1.length _).length = _
            rw [dp, (hx x hxm).2]
          have d0 : (0 : Int) ≤ (b : Int) := Int.natCast_nonneg b
          have d1 : (b : Int) < ((tv x).f1.length : Int) := by rw [hl]; exact Int.ofNat_lt.2 hb
          simp only [cL.f, d0, d1, ↓reduceIte, fa]
          exact Ev.some
        · refine Ev.eq Ev.some ?_
          unfold chW
          rw [List.any_map]
          congr 1
          rw [Bool.eq_iff_iff, List.any_eq_true, List.any_eq_true]
          have e : ∀ x ∈ xs, (tv x).f1.getD b false = cw x b := fun x hxm => fo x.f1.length _ b (by rw [(hx x hxm).2]; exact hb)
          constructor
          · rintro ⟨x, hxm, hh⟩; exact ⟨x, hxm, by rw [← e x hxm]; exact hh⟩
          · rintro ⟨x, hxm, hh⟩; exact ⟨x, hxm, by rw [← e x hxm] at hh; exact hh⟩)
    (fun i hi ih => by
        refine Ev.shift ?_
        have c1 : (i : Int) < (xs.length : Int) := by omega
        have c0 : (0 : Int) ≤ (i : Int) := by omega
        have hg := (hx _ (dw xs aG i hi)).1
        have hl := gH hg
        have hm := eX (fI hg)
        have c2 : ((xs.take i).map tv).length < 4398046511104 := by rw [List.length_map, List.length_take]; omega
        have hw := w1 hi (show xs.length ≤ 9223372036854775807 by omega)
        simp only [aJ.l0, c1, c0, ↓reduceIte, dJ]
        refine Ev.bind (b9.ev _ _ hm (by omega)) ?_
        rw [fq xs aG i hi, List.map_append] at ih
        simp only [c2, ↓reduceIte, hw]
        exact ih)
  exact key 0 (Nat.zero_le _)
def opA (a x y : Bool) : Bool := if a = true then x && y else x || y
def chF (a : Bool) (c : aa) (xs : List aa) (b : Nat) : Bool := xs.foldl (fun z c => opA a z (cw c b)) (cw c b)
theorem chF_eq (s : Bool) (c : aa) (xs : List aa) (b : Nat) : chF (!s) c xs b = chW s (c :: xs) b := by
  have key : ∀ (xs : List aa) (z : Bool), xs.foldl (fun z c => opA (!s) z (cw c b)) z = ((z == s || xs.any fun c => cw c b == s) == s) := by
    intro xs
    induction xs with
    | nil => intro z; cases z <;> cases s <;> rfl
    | cons x xs ih =>
      intro z
      rw [List.foldl_cons, ih, List.any_cons]
      generalize (xs.any fun c => cw c b == s) = u
      cases cw x b <;> cases z <;> cases s <;> cases u <;> rfl
  unfold chF chW
  rw [key, List.any_cons]
theorem aT.inner (a : Bool) (rest : List aa) (i N : Int) (t old new : List Bool) (p : Nat) (res : List Bool) (hp : p ≤ 512) (tl : t.length = p) (ol : old.length = p) (hno : new.length = old.length)
    (hs : ∀ b, b < p → new.getD b false = opA a (old.getD b false) (t.getD b false)) (hcont : Ev (fun k => aT.l0 k a new rest N (wrap64 (i + 1))) res) :
    Ev (fun k => aT.l1 k a old rest N i t (t.length : Int) 0) res := by
  have inner := back (P := fun b => Ev (fun k => aT.l1 k a (over new old b) rest N i t (t.length : Int) (b : Int)) res) p
    (by refine Ev.shift ?_
        have hov : over new old p = new := by rw [← ol]; exact over_all new old hno
        simp only [aT.l1, tl, Int.lt_irrefl, ↓reduceIte, hov]
        exact hcont)
    (fun b hb ihb => by
      refine Ev.shift ?_
      have ov := over_len new old b hno
      have f1 : (b : Int) < (t.length : Int) := by omega
      have f0 : (0 : Int) ≤ (b : Int) := by omega
      have f2 : (b : Int) < ((over new old b).length : Int) := by omega
      have hwb := w1 hb (show p ≤ 9223372036854775807 by omega)
      have hget : (over new old b).getD b false = old.getD b false := over_get new old false b hno (by omega)
      have hset := over_set new old false b hno (by omega)
      rw [hs b hb] at hset
      simp only [aT.l1, f1, f0, f2, ↓reduceIte, fa, hget, hwb, Int.toNat_natCast]
      cases a with
      | true =>
        cases ho : old.getD b false with
        | true =>
          simp only [ho, opA, ↓reduceIte, Bool.true_and] at hset
          simp only [↓reduceIte, hset]
          exact ihb
        | false =>
          simp only [ho, opA, ↓reduceIte, Bool.false_and] at hset
          simp only [↓reduceIte, Bool.false_eq_true, hset]
          exact ihb
      | false =>
        cases ho : old.getD b false with
        | true =>
          simp only [ho, opA, ↓reduceIte, Bool.false_eq_true, Bool.true_or] at hset
          simp only [↓reduceIte, Bool.false_eq_true, hset]
          exact ihb
        | false =>
          simp only [ho, opA, ↓reduceIte, Bool.false_eq_true, Bool.false_or] at hset
          simp only [↓reduceIte, Bool.false_eq_true, hset]
          exact ihb)
  have i0 := inner 0 (Nat.zero_le _)
  rw [nV] at i0
  exact i0
theorem aT.ev (s : Bool) (xs : List aa) (h : dP xs = true) : Ev (fun k => aT.f k xs (!s)) (tab (al xs) (chW s xs)) := by
  obtain ⟨h1, h4, hx⟩ := dT h
  cases xs with
  | nil => simp at h1
  | cons c rest =>
    have hc := hx c (by simp)
    have hn : al (c :: rest) = c.f1.length := rfl
    have hlc := gH hc.1
    have hmc := eX (fI hc.1)
    have e1 : chW s (c :: rest) = chF (!s) c rest := by funext b; rw [chF_eq]
    have hr : ∀ x ∈ rest, oq x = true ∧ x.f1.length = c.f1.length := fun x hxm => hx x (by simp [hxm])
    have hlr : rest.length ≤ 9 := by simp at h4; omega
    rw [e1, hn]
    generalize (!s) = a
    have hp9 : 2 ^ c.f1.length ≤ 512 := db (m := 9) hlc.2
    have v0 := bW.ev' c.f0 c.f1 hmc (by omega)
    have c0 : (0 : Int) < ((c :: rest).length : Int) := by rw [List.length_cons]; omega
    have c1 : (1 : Int) ≤ ((c :: rest).length : Int) := by rw [List.length_cons]; omega
    have er : ae (c :: rest) 0 = c := dJ (c :: rest) 0
    have key := Ev.down (G := fun i k => aT.l0 k a (tab c.f1.length (chF a c (rest.take i))) rest (rest.length : Int) (i : Int)) (R := fun _ => tab c.f1.length (chF a c rest)) rest.length
      (by refine Ev.shift ?_
          simp only [aT.l0, Int.lt_irrefl, ↓reduceIte, List.take_length]
          exact Ev.some)
      (fun i hi ih => by
          refine Ev.shift ?_
          have d1 : (i : Int) < (rest.length : Int) := by omega
          have d0 : (0 : Int) ≤ (i : Int) := by omega
          have hg := hr _ (dw rest aG i hi)
          have hm := eX (fI hg.1)
          have hw := w1 hi (show rest.length ≤ 9223372036854775807 by omega)
          have hl2 := gH hg.1
          have vw := bW.ev' (rest.getD i aG).f0 (rest.getD i aG).f1 hm (by omega)
          rw [hg.2] at vw
          simp only [aT.l0, d1, d0, ↓reduceIte, dJ]
          refine Ev.bind vw ?_
          refine aT.inner a rest (i : Int) (rest.length : Int) _ (tab c.f1.length (chF a c (rest.take i))) (tab c.f1.length (chF a c (rest.take (i + 1)))) (2 ^ c.f1.length) _ hp9 (dp _ _) (dp _ _) (by rw [dp, dp]) (fun b hb => ?_) (by rw [hw]; exact ih)
          rw [fo _ _ b hb, fo _ _ b hb, fo _ _ b hb]
          unfold chF
          rw [gy _ _ rest aG i hi]
          rfl)
    unfold aT.f
    simp only [c0, c1, ↓reduceIte, er]
    refine Ev.bind v0 ?_
    refine Ev.bind (Ev.one rfl) ?_
    exact key 0 (Nat.zero_le _)
def gj (s : Bool) (xs : List aa) (l : List Int) : Bool × Bool := if (dP xs && ep l (al xs)) = true then (chW s xs (bitsOf l), true) else (false, false)
theorem iK {l : List Int} {n : Nat} (hn : n ≤ 9) (h : ep l n = true) : bitsOf l < 2 ^ n := je l n (fun x hx => gT h x hx) 0 (Nat.two_pow_pos n)
theorem set62 {l : List Int} {n : Nat} (hn : n ≤ 9) (h : ep l n = true) : ∀ x ∈ l, 0 ≤ x ∧ x < 62 := fun x hx => by have := gT h x hx; omega
theorem bq.ev (s : Bool) (xs : List aa) (l : List Int) (hl : xs.length ≤ 1048576) (hx : ∀ x ∈ xs, x.f1.length ≤ 9223372036854775807) (hs : l.length ≤ 1048576) :
    Ev (fun k => bq.f k xs l s) (gj s xs l) := by
  have off : ∀ v : Bool × Bool, v = (false, false) → Ev (fun k => bq.j0 k xs l s true) v := by
    rintro v rfl
    refine Ev.shift ?_
    simp only [bq.j0, ↓reduceIte]
    exact Ev.some
  unfold bq.f gj
  refine Ev.bind (aQ.ev xs hl hx) ?_
  cases h : dP xs with
  | false => simp only [Bool.false_eq_true, ↓reduceIte, Bool.false_and]; exact off _ rfl
  | true =>
    obtain ⟨h1, h4, _⟩ := dT h
    have h9 := cZ h
    have c0 : (0 : Int) < (xs.length : Int) := by omega
    have er : ae xs 0 = xs.getD 0 aG := dJ xs 0
    have el : ((xs.getD 0 aG).f1.length : Int) = (al xs : Int) := rfl
    simp only [↓reduceIte, Bool.true_and, c0, er, el]
    refine Ev.bind (dq.ev l (al xs) (by omega) (by omega) (by omega)) ?_
    cases hS : ep l (al xs) with
    | false => simp only [Bool.not_false, Bool.false_eq_true, ↓reduceIte]; exact off _ rfl
    | true =>
      simp only [Bool.not_true, ↓reduceIte]
      refine Ev.shift ?_
      simp only [bq.j0, Bool.false_eq_true, ↓reduceIte]
      refine Ev.bind (aJ.ev s xs h) ?_
      refine Ev.bind (bK.ev l hs (set62 h9 hS)) ?_
      have hb := iK h9 hS
      have d0 : (0 : Int) ≤ (bitsOf l : Int) := Int.natCast_nonneg _
      have d1 : (bitsOf l : Int) < ((tab (al xs) (chW s xs)).length : Int) := by rw [dp]; exact Int.ofNat_lt.2 hb
      simp only [d0, d1, ↓reduceIte, fa, fo _ _ _ hb]
      exact Ev.some
theorem d5.ev (xs : List aa) (l : List Int) (hl : xs.length ≤ 1048576) (hx : ∀ x ∈ xs, x.f1.length ≤ 9223372036854775807) (hs : l.length ≤ 1048576) :
    Ev (fun k => d5.f k xs l) (dP xs && ep l (al xs)) := by
  unfold d5.f
  refine Ev.bind (aW.ev xs hl hx) ?_
  cases h : dP xs with
  | false => exact Ev.some
  | true =>
    obtain ⟨h1, h4, _⟩ := dT h
    have h9 := cZ h
    have c0 : (0 : Int) < (xs.length : Int) := by omega
    have er : ae xs 0 = xs.getD 0 aG := dJ xs 0
    have el : ((xs.getD 0 aG).f1.length : Int) = (al xs : Int) := rfl
    simp only [↓reduceIte, Bool.true_and, c0, er, el]
    exact Ev.bind (fz.ev l (al xs) (by omega) (by omega) (by omega)) Ev.some
theorem lv (s : Bool) (xs : List aa) (l : List Int) (h : dP xs = true) (hS : ep l (al xs) = true) (hs : l.length ≤ 1048576) (a : Bool) (ha : a = !s) :
    Ev (fun k => (aT.f k xs a).bind fun t155 => ((cQ.f k l).bind fun t158 => (if 0 ≤ t158 then (if t158 < (t155.length : Int) then (some (dE false t155 t158, true)) else (none)) else (none)))) (chW s xs (bitsOf l), true) := by
  have h9 := cZ h
  subst ha
  refine Ev.bind (aT.ev s xs h) ?_
  refine Ev.bind (cQ.ev l hs (set62 h9 hS)) ?_
  have hb := iK h9 hS
  have d0 : (0 : Int) ≤ (bitsOf l : Int) := Int.natCast_nonneg _
  have d1 : (bitsOf l : Int) < ((tab (al xs) (chW s xs)).length : Int) := by rw [dp]; exact Int.ofNat_lt.2 hb
  simp only [d0, d1, ↓reduceIte, fa, fo _ _ _ hb]
  exact Ev.some
theorem eO.ev (xs : List aa) (l : List Int) (hl : xs.length ≤ 1048576) (hx : ∀ x ∈ xs, x.f1.length ≤ 9223372036854775807) (hs : l.length ≤ 1048576) :
    Ev (fun k => eO.f k xs l) (gj false xs l) := by
  unfold eO.f
  exact Ev.bind (bq.ev false xs l hl hx hs) Ev.some
theorem eL.ev (xs : List aa) (l : List Int) (hl : xs.length ≤ 1048576) (hx : ∀ x ∈ xs, x.f1.length ≤ 9223372036854775807) (hs : l.length ≤ 1048576) :
    Ev (fun k => eL.f k xs l) (gj false xs l) := by
  unfold eL.f gj
  refine Ev.bind (d5.ev xs l hl hx hs) ?_
  cases h : dP xs && ep l (al xs) with
  | false => exact Ev.some
  | true =>
    rw [Bool.and_eq_true] at h
    simp only [↓reduceIte]
    exact lv false xs l h.1 h.2 hs true rfl
theorem eB.ev (xs : List aa) (l : List Int) (hl : xs.length ≤ 1048576) (hx : ∀ x ∈ xs, x.f1.length ≤ 9223372036854775807) (hs : l.length ≤ 1048576) :
    Ev (fun k => eB.f k xs l) (gj true xs l) := by
  unfold eB.f
  exact Ev.bind (bq.ev true xs l hl hx hs) Ev.some
theorem eC.ev (xs : List aa) (l : List Int) (hl : xs.length ≤ 1048576) (hx : ∀ x ∈ xs, x.f1.length ≤ 9223372036854775807) (hs : l.length ≤ 1048576) :
    Ev (fun k => eC.f k xs l) (gj true xs l) := by
  unfold eC.f gj
  refine Ev.bind (d5.ev xs l hl hx hs) ?_
  cases h : dP xs && ep l (al xs) with
  | false => exact Ev.some
  | true =>
    rw [Bool.and_eq_true] at h
    simp only [↓reduceIte]
    exact lv true xs l h.1 h.2 hs false rfl
theorem lD (a b : List Bool) (i : Nat) (ha : i < a.length) (hb : i < b.length) : decide (a.drop i = b.drop i) = (decide (a.getD i false = b.getD i false) && decide (a.drop (i + 1) = b.drop (i + 1))) := by
  rw [dv a false i ha, dv b false i hb, Bool.eq_iff_iff]
  simp
theorem bl.ev (a b : List Bool) (hl : a.length = b.length) (hm : a.length ≤ 1000000) : Ev (fun k => bl.f k a b) (decide (a = b)) := by
  have hl' : (a.length : Int) = (b.length : Int) := by omega
  have key := Ev.down (G := fun i k => bl.l0 k a b (a.length : Int) (i : Int)) (R := fun i => decide (a.drop i = b.drop i)) a.length
    (by refine Ev.shift ?_
        simp only [bl.l0, Int.lt_irrefl, ↓reduceIte, List.drop_length]
        rw [hl, List.drop_length]
        exact Ev.some)
    (fun i hi ih => by
      refine Ev.shift ?_
      have c1 : (i : Int) < (a.length : Int) := by omega
      have c0 : (0 : Int) ≤ (i : Int) := by omega
      have c2 : (i : Int) < (b.length : Int) := by omega
      rw [lD a b i hi (by omega)]
      simp only [bl.l0, c1, c0, c2, ↓reduceIte, fa, w1 hi (show a.length ≤ 9223372036854775807 by omega)]
      cases a.getD i false <;> cases b.getD i false
      · simp only [bne_self_eq_false, Bool.false_eq_true, ↓reduceIte, decide_true, Bool.true_and]; exact ih
      · exact Ev.some
      · exact Ev.some
      · simp only [bne_self_eq_false, Bool.false_eq_true, ↓reduceIte, decide_true, Bool.true_and]; exact ih)
  unfold bl.f
  simp only [hl', ↓reduceIte]
  rw [← hl']
  exact key 0 (Nat.zero_le _)
theorem dD.ev (n m : Int) (a b : List Bool) (hl : a.length = b.length) (hm : a.length ≤ 1000000) : Ev (fun k => dD.f k n a m b) (decide (a = b)) := by
  unfold dD.f
  exact Ev.bind (bl.ev a b hl hm) Ev.some
theorem cK.ev (a b : List Bool) (hl : a.length = b.length) (hm : a.length ≤ 1000000) : Ev (fun k => cK.f k a b) (decide (a = b)) := by
  have hl' : (a.length : Int) = (b.length : Int) := by omega
  have key := Ev.down (G := fun i k => cK.l0 k a b (a.length : Int) (i : Int)) (R := fun i => decide (a.drop i = b.drop i)) a.length
    (by refine Ev.shift ?_
        simp only [cK.l0, Int.lt_irrefl, ↓reduceIte, List.drop_length]
        rw [hl, List.drop_length]
        exact Ev.some)
    (fun i hi ih => by
      refine Ev.shift ?_
      have c1 : (i : Int) < (a.length : Int) := by omega
      have c0 : (0 : Int) ≤ (i : Int) := by omega
      have c2 : (i : Int) < (b.length : Int) := by omega
      rw [lD a b i hi (by omega)]
      simp only [cK.l0, c1, c0, c2, ↓reduceIte, fa, w1 hi (show a.length ≤ 9223372036854775807 by omega)]
      cases a.getD i false <;> cases b.getD i false
      · simp only [bne_self_eq_false, Bool.false_eq_true, ↓reduceIte, decide_true, Bool.true_and]; exact ih
      · exact Ev.some
      · exact Ev.some
      · simp only [bne_self_eq_false, Bool.false_eq_true, ↓reduceIte, decide_true, Bool.true_and]; exact ih)
  unfold cK.f
  simp only [hl', ↓reduceIte]
  rw [← hl']
  exact key 0 (Nat.zero_le _)
def idle (xs : List aa) (i : Nat) : Bool := decide (1 < xs.length) && decide (tab (al xs) (chW false (xs.eraseIdx i)) = tab (al xs) (chW false xs))
def kn (xs : List aa) : List Int × Bool := if dP xs = true then (sel xs.length (idle xs), true) else ([], false)
theorem oe (xs : List aa) : (kn xs).1.length ≤ 4 := by
  unfold kn
  split
  · rename_i h
    obtain ⟨_, h4, _⟩ := dT h
    have := iw xs.length (idle xs)
    simp only
    omega
  · simp
theorem iI {xs : List aa} (h : dP xs = true) (h1 : 1 < xs.length) (i : Nat) (hi : i < xs.length) : dP (xs.eraseIdx i) = true ∧ al (xs.eraseIdx i) = al xs := by
  obtain ⟨_, h4, hx⟩ := dT h
  have hl : (xs.eraseIdx i).length = xs.length - 1 := List.length_eraseIdx_of_lt hi
  have hm : ∀ x ∈ xs.eraseIdx i, x ∈ xs := fun x hx => List.mem_of_mem_eraseIdx hx
  have hf : al (xs.eraseIdx i) = al xs := (hx _ (hm _ (dw (xs.eraseIdx i) aG 0 (by omega)))).2
  refine ⟨?_, hf⟩
  simp only [dP, inI, Bool.and_eq_true, decide_eq_true_eq, List.all_eq_true]
  refine ⟨⟨by omega, by omega⟩, fun x hxm => ?_⟩
  rw [hf]
  exact hx x (hm x hxm)
theorem cT.ev (xs : List aa) (hl : xs.length ≤ 1048576) (hx : ∀ x ∈ xs, x.f1.length ≤ 9223372036854775807) : Ev (fun k => cT.f k xs) (kn xs) := by
  unfold cT.f kn
  refine Ev.bind (aQ.ev xs hl hx) ?_
  cases h : dP xs with
  | false => exact Ev.some
  | true =>
    obtain ⟨h1, h4, _⟩ := dT h
    have h9 := cZ h
    simp only [↓reduceIte]
    refine Ev.bind (aJ.ev false xs h) ?_
    refine Ev.bind (cE.ev xs.length (by omega) (fun k y => ay.f k y xs (al xs : Int) (tab (al xs) (chW false xs))) (idle xs) (fun b hb => ?_)) Ev.some
    unfold ay.f idle
    by_cases c : 1 < xs.length
    · have c' : (xs.length : Int) > 1 := by omega
      have ci : (0 : Int) ≤ (b : Int) ∧ (b : Int) < (xs.length : Int) ∧ xs.length < 1000000 := by omega
      obtain ⟨ha, hf⟩ := iI h c b hb
      have hv := aJ.ev false (xs.eraseIdx b) ha
      rw [hf] at hv
      simp only [c', ci, and_self, ↓reduceIte, Int.toNat_natCast, c, decide_true, Bool.true_and]
      refine Ev.bind hv ?_
      have := db h9
      exact Ev.bind (dD.ev _ _ _ _ (by rw [dp, dp]) (by rw [dp]; omega)) Ev.some
    · have c' : ¬ (xs.length : Int) > 1 := by omega
      simp only [c', c, ↓reduceIte, decide_false, Bool.false_and]
      exact Ev.some
theorem ap.ev (xs : List aa) (hl : xs.length ≤ 1048576) (hx : ∀ x ∈ xs, x.f1.length ≤ 9223372036854775807) : Ev (fun k => ap.f k xs) (kn xs) := by
  unfold ap.f kn
  refine Ev.bind (aW.ev xs hl hx) ?_
  cases h : dP xs with
  | false => exact Ev.some
  | true =>
    obtain ⟨h1, h4, _⟩ := dT h
    have h9 := cZ h
    simp only [↓reduceIte]
    refine Ev.bind (aT.ev false xs h) ?_
    have key := Ev.down (G := fun i k => ap.l0 k xs (tab (al xs) (chW false xs)) (sel i (idle xs)) (xs.length : Int) (i : Int)) (R := fun _ => (sel xs.length (idle xs), true)) xs.length
      (by refine Ev.shift ?_
          simp only [ap.l0, Int.lt_irrefl, ↓reduceIte]
          exact Ev.some)
      (fun i hi ih => by
        refine Ev.shift ?_
        have c1 : (i : Int) < (xs.length : Int) := by omega
        have c0 : (0 : Int) ≤ (i : Int) := by omega
        have c2 : (i : Int) ≤ (xs.length : Int) := by omega
        have hw := w1 hi (show xs.length ≤ 9223372036854775807 by omega)
        have c3 : (0 : Int) ≤ ((i + 1 : Nat) : Int) := by omega
        have c4 : ((i + 1 : Nat) : Int) ≤ (xs.length : Int) := by omega
        have c5 : ([] : List aa).length + (xs.take i).length < 4398046511104 := by rw [List.length_take]; simp; omega
        have c6 : (xs.take i).length + (xs.drop (i + 1)).length < 4398046511104 := by rw [List.length_take, List.length_drop]; omega
        have c7 : (sel i (idle xs)).length < 17592186044416 := by have := iw i (idle xs); omega
        rw [iL] at ih
        simp only [ap.l0, c1, c0, c2, hw, c3, c4, ↓reduceIte, Option.bind_some, Int.toNat_natCast, c5, List.nil_append, c6, ← List.eraseIdx_eq_take_drop_succ]
        have hle : (xs.eraseIdx i).length = xs.length - 1 := List.length_eraseIdx_of_lt hi
        by_cases c : 1 < xs.length
        · have c' : ((xs.eraseIdx i).length : Int) > 0 := by omega
          obtain ⟨ha, hf⟩ := iI h c i hi
          have hv := aT.ev false (xs.eraseIdx i) ha
          rw [hf] at hv
          have hp := db h9
          simp only [c', ↓reduceIte]
          refine Ev.bind hv ?_
          refine Ev.bind (cK.ev _ _ (by rw [dp, dp]) (by rw [dp]; omega)) ?_
          have ei : idle xs i = decide (tab (al xs) (chW false (xs.eraseIdx i)) = tab (al xs) (chW false xs)) := by simp only [idle, c, decide_true, Bool.true_and]
          rw [← ei]
          cases hb : idle xs i with
          | true => rw [hb] at ih; simp only [↓reduceIte, c7] at ih ⊢; exact ih
          | false => rw [hb] at ih; simp only [Bool.false_eq_true, ↓reduceIte, List.append_nil] at ih ⊢; exact ih
        · have c' : ¬ ((xs.eraseIdx i).length : Int) > 0 := by omega
          have ei : idle xs i = false := by simp only [idle, c, decide_false, Bool.false_and]
          rw [ei] at ih
          simp only [Bool.false_eq_true, ↓reduceIte, List.append_nil] at ih
          simp only [c', ↓reduceIte]
          exact ih)
    exact key 0 (Nat.zero_le _)
def nP (xs : List aa) : List Int × Bool := if dP xs = true then (swl (al xs) (tab (al xs) (chW false xs)), true) else ([], false)
theorem swCh_len (xs : List aa) : (nP xs).1.length ≤ 9 := by
  unfold nP
  split
  · rename_i h
    simp only [kU]
    exact cZ h
  · simp
theorem cW.ev (xs : List aa) (hl : xs.length ≤ 1048576) (hx : ∀ x ∈ xs, x.f1.length ≤ 9223372036854775807) : Ev (fun k => cW.f k xs) (nP xs) := by
  unfold cW.f nP
  refine Ev.bind (aQ.ev xs hl hx) ?_
  cases h : dP xs with
  | false => exact Ev.some
  | true =>
    have h9 := cZ h
    simp only [↓reduceIte]
    exact Ev.bind (aJ.ev false xs h) (Ev.bind (a7.ev _ _ (dp _ _) (by omega)) Ev.some)
theorem br.ev (xs : List aa) (hl : xs.length ≤ 1048576) (hx : ∀ x ∈ xs, x.f1.length ≤ 9223372036854775807) : Ev (fun k => br.f k xs) (nP xs) := by
  unfold br.f nP
  refine Ev.bind (aW.ev xs hl hx) ?_
  cases h : dP xs with
  | false => exact Ev.some
  | true =>
    obtain ⟨h1, _, _⟩ := dT h
    have h9 := cZ h
    have c0 : (0 : Int) < (xs.length : Int) := by omega
    have er : ae xs 0 = xs.getD 0 aG := dJ xs 0
    have el : ((xs.getD 0 aG).f1.length : Int) = (al xs : Int) := rfl
    simp only [↓reduceIte, c0, er, el]
    exact Ev.bind (aT.ev false xs h) (Ev.bind (cH.ev _ _ (dp _ _) (by omega)) Ev.some)
end Go.Proofs.YthipiojpoklpgaaGreat.P
