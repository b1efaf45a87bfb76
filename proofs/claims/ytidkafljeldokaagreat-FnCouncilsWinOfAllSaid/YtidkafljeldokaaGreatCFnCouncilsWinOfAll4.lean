/- Part 4 of the texts below the law FnCouncilsWinOfAll. Printed by this session's driver over the kit's printer, but for the hand contracts and the plain laws. -/
import Derived.Tactics
import Derived.ProofKit
import Derived.Deep.Slices
import Derived.Test.YtidkafljeldokaaGreatCFnCouncilsWinOfAll0
import Derived.Test.YtidkafljeldokaaGreatCFnCouncilsWinOfAll1
import Derived.Test.YtidkafljeldokaaGreatCFnCouncilsWinOfAll2
import Derived.Test.YtidkafljeldokaaGreatCFnCouncilsWinOfAll3
set_option linter.unusedVariables false
set_option linter.unusedSimpArgs false
/- How two numbers and two lists compare. No program in sight. -/
namespace Go.Proofs.YtidkafljeldokaaGreat.P
def cmpI (x y : Int) : Int := if x < y then -1 else if x > y then 1 else 0
def lexc : List Int → List Int → Int
  | [], [] => 0
  | [], _ :: _ => -1
  | _ :: _, [] => 1
  | x :: a, y :: b => if cmpI x y = 0 then lexc a b else cmpI x y
theorem cmpI_swap (x y : Int) : cmpI y x = - cmpI x y := by
  unfold cmpI
  repeat' split
  all_goals omega
theorem cmpI_zero {x y : Int} : cmpI x y = 0 ↔ x = y := by
  unfold cmpI
  repeat' split
  all_goals constructor
  all_goals intro h
  all_goals omega
theorem cmpI_neg {x y : Int} : cmpI x y < 0 ↔ x < y := by
  unfold cmpI
  repeat' split
  all_goals constructor
  all_goals intro h
  all_goals omega
theorem lexc_swap : ∀ a b : List Int, lexc b a = - lexc a b
  | [], [] => rfl
  | [], _ :: _ => rfl
  | _ :: _, [] => rfl
  | x :: a, y :: b => by
    rw [lexc, lexc, cmpI_swap x y, lexc_swap a b]
    by_cases h : cmpI x y = 0
    · rw [if_pos h, if_pos (by rw [h]; rfl)]
    · rw [if_neg h, if_neg (fun z => h (by omega))]
theorem lexc_zero : ∀ {a b : List Int}, lexc a b = 0 → a = b
  | [], [], _ => rfl
  | [], _ :: _, h => absurd h (by simp [lexc])
  | _ :: _, [], h => absurd h (by simp [lexc])
  | x :: a, y :: b, h => by
    rw [lexc] at h
    by_cases h0 : cmpI x y = 0
    · rw [if_pos h0] at h
      rw [cmpI_zero.1 h0, lexc_zero h]
    · rw [if_neg h0] at h
      exact absurd h h0
theorem lexc_refl : ∀ a : List Int, lexc a a = 0
  | [] => rfl
  | x :: a => by rw [lexc, if_pos (cmpI_zero.2 rfl), lexc_refl a]
theorem lexc_trans : ∀ {a b c : List Int}, lexc a b ≤ 0 → lexc b c ≤ 0 → lexc a c ≤ 0
  | [], _, [], _, _ => by decide
  | [], _, _ :: _, _, _ => by simp [lexc]
  | _ :: _, [], _, h, _ => absurd h (by simp [lexc])
  | _ :: _, _ :: _, [], _, h => absurd h (by simp [lexc])
  | x :: a, y :: b, z :: c, h, k => by
    rw [lexc] at h k ⊢
    have c1 := @cmpI_zero x y
    have c2 := @cmpI_zero y z
    have c3 := @cmpI_zero x z
    have n1 := @cmpI_neg x y
    have n2 := @cmpI_neg y z
    have n3 := @cmpI_neg x z
    by_cases h1 : cmpI x y = 0
    · rw [if_pos h1] at h
      by_cases h2 : cmpI y z = 0
      · rw [if_pos h2] at k
        rw [if_pos (c3.2 ((c1.1 h1).trans (c2.1 h2)))]
        exact lexc_trans h k
      · rw [if_neg h2] at k
        rw [if_neg (fun e => h2 (c2.2 ((c1.1 h1).symm.trans (c3.1 e))))]
        have e := c1.1 h1
        rw [e]
        exact k
    · rw [if_neg h1] at h
      by_cases h2 : cmpI y z = 0
      · rw [if_neg (fun e => h1 (c1.2 ((c3.1 e).trans (c2.1 h2).symm)))]
        rw [← c2.1 h2]
        exact h
      · rw [if_neg h2] at k
        have q1 := n1.1 (by omega)
        have q2 := n2.1 (by omega)
        have q3 := n3.2 (by omega)
        rw [if_neg (by omega)]
        omega
def lexL (a b : List Int) : Bool := decide (lexc a b ≤ 0)
theorem lexL_trans (a b c : List Int) (h : lexL a b = true) (k : lexL b c = true) : lexL a c = true := decide_eq_true (lexc_trans (of_decide_eq_true h) (of_decide_eq_true k))
theorem lexL_total (a b : List Int) : (lexL a b || lexL b a) = true := by
  have := lexc_swap a b
  rw [Bool.or_eq_true]
  by_cases h : lexc a b ≤ 0
  · exact .inl (decide_eq_true h)
  · exact .inr (decide_eq_true (by omega))
theorem lexL_anti {a b : List Int} (h : lexL a b = true) (k : lexL b a = true) : a = b := by
  have := lexc_swap a b
  have h := of_decide_eq_true h
  have k := of_decide_eq_true k
  exact lexc_zero (by omega)
def sorted (l : List (List Int)) : List (List Int) := l.mergeSort lexL
theorem sorted_perm (l : List (List Int)) : (sorted l).Perm l := List.mergeSort_perm l lexL
theorem sorted_pair (l : List (List Int)) : (sorted l).Pairwise (fun a b => lexL a b = true) := List.pairwise_mergeSort lexL_trans lexL_total l
theorem sorted_of {l r : List (List Int)} (hp : r.Perm l) (hs : r.Pairwise (fun a b => lexL a b = true)) : r = sorted l :=
  List.Perm.eq_of_pairwise (fun _ _ _ _ h k => lexL_anti h k) hs (sorted_pair l) (hp.trans (sorted_perm l).symm)
end Go.Proofs.YtidkafljeldokaaGreat.P

/- A call of a function value that has its first arguments already (a method value). No program in sight. -/
namespace Go.Proofs.YtidkafljeldokaaGreat.P
open Go.RowKit Go.Proofs.YtidkafljeldokaaGreatW.PrintWords Go.Proofs.YtidkafljeldokaaGreatW.PrintLast Go.Proofs.YtidkafljeldokaaGreatW.PrintMore
section
variable {P : Program} {ops : Array Oper} {Q : Exit → Act → World → Prop}
theorem run_fnB {oi : Oper} {a : Act} {w : World} {g : FuncId} {bd lb : Array Value} {t : Tmp} {ao : Array Operand} {ts : Array TypeId} (eg : ∀ (args : Array Value) (w : World), (callFunc g args).run P w = .ok (.enter g args) w) (args : Array Value)
    (hop : oi.op = .call { callee := .value (.tmp t), args := ao, argTypes := ts }) (hfn : a.eval (.tmp t) = .func (.func g) bd lb) (hargs : ao.map a.eval = args) : (execOp a.eval oi).run P w = .ok (.enter g ((bd ++ args) ++ lb)) w := by
  unfold execOp
  simp [hop, resolve, Deferred.ofValue, invoke, hfn, hargs, eg]
theorem goesFB_ {rest : List Oper} {oi : Oper} {a : Act} {w : World} (N : Option Tmp) (hd : oi.dst = N) (hg : oi.guard = none) {g : FuncId} {bd lb : Array Value} {t : Tmp} {ao : Array Operand} {ts : Array TypeId} (eg : ∀ (args : Array Value) (w : World), (callFunc g args).run P w = .ok (.enter g args) w) (args : Array Value)
    (hop : oi.op = .call { callee := .value (.tmp t), args := ao, argTypes := ts }) (hfn : a.eval (.tmp t) = .func (.func g) bd lb) (hargs : ao.map a.eval = args)
    (h : Calls P g ((bd ++ args) ++ lb) w fun e w' => ∃ v, e = .returned v ∧ wpList P ops Q rest (a.put N v) w') : wpList P ops Q (oi :: rest) a w := by
  refine wpList_plain hg fun K hK => ?_
  have hrun := run_fnB (w := w) eg args hop hfn hargs
  unfold Oper.wp
  rw [hrun, Oper.upon_enter]
  refine h.mono fun e w'' hh => ?_
  obtain ⟨v, rfl, hk⟩ := hh
  subst hd
  exact hK _ _ hk
end
end Go.Proofs.YtidkafljeldokaaGreat.P

/- Plain laws: loops told by rounds, lists, numbers. No program in sight. -/
namespace Go.Proofs.YtidkafljeldokaaGreat.P
open Go.RowKit Go.Proofs.YtidkafljeldokaaGreatW.PrintWords Go.Proofs.YtidkafljeldokaaGreatW.PrintLast Go.Proofs.YtidkafljeldokaaGreatW.PrintMore
theorem Ev.down {ρ : Type} {G : Nat → Nat → Option ρ} {R : Nat → ρ} (n : Nat) (hend : Ev (G n) (R n)) (hstep : ∀ i, i < n → Ev (G (i + 1)) (R (i + 1)) → Ev (G i) (R i)) : ∀ i, i ≤ n → Ev (G i) (R i) := by
  have key : ∀ d i, i + d = n → Ev (G i) (R i) := by
    intro d
    induction d with
    | zero => intro i hi; obtain rfl : i = n := by omega
              exact hend
    | succ d ih => intro i hi; exact hstep i (by omega) (ih (i + 1) (by omega))
  intro i hi
  exact key (n - i) i (by omega)
theorem back {P : Nat → Prop} (n : Nat) (hend : P n) (hstep : ∀ i, i < n → P (i + 1) → P i) : ∀ i, i ≤ n → P i := by
  have key : ∀ d i, i + d = n → P i := by
    intro d
    induction d with
    | zero => intro i hi; obtain rfl : i = n := by omega
              exact hend
    | succ d ih => intro i hi; exact hstep i (by omega) (ih (i + 1) (by omega))
  intro i hi
  exact key (n - i) i (by omega)
theorem Ev.some {α : Type} {r : α} : Ev (fun _ => Option.some r) r := Ev.now r
theorem Ev.one {α : Type} {g : Option α} {r : α} (h : g = Option.some r) : Ev (fun _ => g) r := ⟨0, fun _ _ => h⟩
theorem Ev.ite_pos {α : Type} {c : Prop} [Decidable c] {g f : Nat → Option α} {r : α} (hc : c) (h : Ev g r) : Ev (fun k => if c then g k else f k) r := by
  obtain ⟨K, h⟩ := h; exact ⟨K, fun k hk => (if_pos hc).trans (h k hk)⟩
theorem Ev.ite_neg {α : Type} {c : Prop} [Decidable c] {g f : Nat → Option α} {r : α} (hc : ¬ c) (h : Ev f r) : Ev (fun k => if c then g k else f k) r := by
  obtain ⟨K, h⟩ := h; exact ⟨K, fun k hk => (if_neg hc).trans (h k hk)⟩
theorem Ev.eq {α : Type} {g : Nat → Option α} {r r' : α} (h : Ev g r) (e : r = r') : Ev g r' := e ▸ h
theorem Ev.shift {α : Type} {g : Nat → Option α} {r : α} (h : Ev (fun k => g (k + 1)) r) : Ev g r := Ev.step (fun _ => rfl) h
theorem w64 {x : Int} (h0 : -9223372036854775808 ≤ x) (h1 : x ≤ 9223372036854775807) : wrap64 x = x := by unfold wrap64; omega
theorem w1 {i n : Nat} (h : i < n) (hn : n ≤ 9223372036854775807) : wrap64 ((i : Int) + 1) = ((i + 1 : Nat) : Int) := by unfold wrap64; omega
theorem rd_nat (l : List Int) (i : Nat) : rd l (i : Int) = l.getD i 0 := by simp [rd]
theorem rdB_nat (l : List Bool) (i : Nat) : rdOf false l (i : Int) = l.getD i false := by simp [rdOf]
/-! ### lists -/
theorem drop_getD {α : Type} (l : List α) (d : α) (i : Nat) (h : i < l.length) : l.drop i = l.getD i d :: l.drop (i + 1) := drop_cons l d i h
theorem take_getD {α : Type} (l : List α) (d : α) (i : Nat) (h : i < l.length) : l.take (i + 1) = l.take i ++ [l.getD i d] := by
  rw [List.take_succ_eq_append_getElem h, List.getD_eq_getElem?_getD, List.getElem?_eq_getElem h]; rfl
theorem getD_mem {α : Type} (l : List α) (d : α) (i : Nat) (h : i < l.length) : l.getD i d ∈ l := by
  rw [List.getD_eq_getElem?_getD, List.getElem?_eq_getElem h]; exact List.getElem_mem h
theorem foldl_take {α β : Type} (f : β → α → β) (b : β) (l : List α) (d : α) (i : Nat) (h : i < l.length) : (l.take (i + 1)).foldl f b = f ((l.take i).foldl f b) (l.getD i d) := by
  rw [take_getD l d i h, List.foldl_append]; rfl
def filled {α : Type} (l : List α) (z : α) (i : Nat) : List α := l.take i ++ List.replicate (l.length - i) z
theorem filled_len {α : Type} (l : List α) (z : α) (i : Nat) (h : i ≤ l.length) : (filled l z i).length = l.length := by unfold filled; simp; omega
theorem filled_zero {α : Type} (l : List α) (z : α) : filled l z 0 = List.replicate l.length z := by simp [filled]
theorem filled_all {α : Type} (l : List α) (z : α) : filled l z l.length = l := by simp [filled]
theorem filled_set {α : Type} (l : List α) (z d : α) (i : Nat) (h : i < l.length) : (filled l z i).set i (l.getD i d) = filled l z (i + 1) := by
  unfold filled
  have e : (l.take i).length = i := by simp; omega
  rw [take_getD l d i h, List.set_append_right i (l.getD i d) (by omega), e, Nat.sub_self, show l.length - i = (l.length - (i + 1)) + 1 by omega, List.replicate_succ]
  simp
/-! ### marks -/
def marks (a : Int) (n : Nat) : List Int := (List.range n).map fun i : Nat => a + (i : Int)
/-! ### committees -/
def inI (a b x : Int) : Bool := decide (a ≤ x) && decide (x ≤ b)
def isComm (q : Int) (l : List Int) : Bool := decide (1 ≤ l.length) && decide (l.length ≤ 9) && l.all (inI 0 1000) && inI 1 l.sum q
theorem isComm_len {q : Int} {l : List Int} (h : isComm q l = true) : 1 ≤ l.length ∧ l.length ≤ 9 := by simp [isComm] at h; exact ⟨h.1.1.1, h.1.1.2⟩
theorem isComm_mem {q : Int} {l : List Int} (h : isComm q l = true) : ∀ x ∈ l, 0 ≤ x ∧ x ≤ 1000 := by
  intro x hx
  simp [isComm, inI] at h
  exact h.1.2 x hx
theorem isComm_q {q : Int} {l : List Int} (h : isComm q l = true) : 1 ≤ q ∧ q ≤ l.sum := by simp [isComm, inI] at h; exact h.2
def wsum (l : List Int) : Int := l.foldl (fun s x => wrap64 (s + x)) 0
theorem wsum_from (l : List Int) (s : Int) (hs : 0 ≤ s) (h : ∀ x ∈ l, 0 ≤ x ∧ x ≤ 1000) (hb : s + 1000 * l.length ≤ 9223372036854775807) : l.foldl (fun s x => wrap64 (s + x)) s = s + l.sum := by
  induction l generalizing s with
  | nil => simp
  | cons x l ih =>
    have h1 := h x (by simp)
    simp only [List.length_cons] at hb
    rw [List.foldl_cons, w64 (by omega) (by omega), ih (s + x) (by omega) (fun y hy => h y (by simp [hy])) (by omega), List.sum_cons]
    omega
theorem wsum_eq (l : List Int) (h : ∀ x ∈ l, 0 ≤ x ∧ x ≤ 1000) (hb : l.length ≤ 9000000) : wsum l = l.sum := by
  unfold wsum; rw [wsum_from l 0 (by omega) h (by omega)]; omega
/-! ### numbers as bits -/
theorem shr_nat (x i : Nat) (h : i ≤ 64) : shr .i64 (x : Int) (i : Int) = ((x / 2 ^ i : Nat) : Int) := by
  unfold shr
  have e : min ((i : Int).toNat) IntKind.i64.bits = i := by
    have : IntKind.i64.bits = 64 := rfl
    omega
  rw [e]; simp
theorem pow63 {i : Nat} (h : i < 63) : 2 ^ i < 9223372036854775808 := Nat.lt_of_lt_of_le (Nat.pow_lt_pow_right (by omega) h) (by decide)
theorem shl_one (i : Nat) (h : i < 63) : shl .i64 1 (i : Int) = ((2 ^ i : Nat) : Int) := by
  unfold shl
  have e : min ((i : Int).toNat) IntKind.i64.bits = i := by
    have : IntKind.i64.bits = 64 := rfl
    omega
  have h1 := pow63 h
  have c : ((2 ^ i : Nat) : Int) = 2 ^ i := by simp
  rw [e, Int.one_mul, IntKind.wrap_i64, ← c]
  generalize 2 ^ i = z at h1
  omega
theorem i64_of (n : Int) (h0 : 0 ≤ n) (h1 : n < 2 ^ 63) : IntKind.i64.wrap n = n := by rw [IntKind.wrap_i64]; omega
theorem and_nat (a b : Nat) (ha : a < 2 ^ 63) (hb : b < 2 ^ 63) : Go.bits .and .i64 (a : Int) (b : Int) = ((a &&& b : Nat) : Int) := (bits_nat .i64 63 (by decide) i64_of a b ha hb).1
theorem or_nat (a b : Nat) (ha : a < 2 ^ 63) (hb : b < 2 ^ 63) : Go.bits .or .i64 (a : Int) (b : Int) = ((a ||| b : Nat) : Int) := (bits_nat .i64 63 (by decide) i64_of a b ha hb).2
theorem and_one (a : Nat) (ha : a < 2 ^ 63) : Go.bits .and .i64 (a : Int) 1 = ((a % 2 : Nat) : Int) := by
  have := and_nat a 1 ha (by decide)
  rw [Nat.and_one_is_mod] at this
  exact this
theorem tmod_two (a : Nat) : Int.tmod (a : Int) 2 = ((a % 2 : Nat) : Int) := by rw [Int.tmod_eq_emod_of_nonneg (by omega)]; omega
theorem bit_nat (b i : Nat) : b.testBit i = decide (b / 2 ^ i % 2 = 1) := by rw [Nat.testBit_eq_decide_div_mod_eq]
theorem or_pow {b i : Nat} (h : b.testBit i = false) : b ||| 2 ^ i = b + 2 ^ i := by
  apply Nat.eq_of_testBit_eq
  intro j
  rw [Nat.testBit_or, Nat.testBit_two_pow, Nat.add_comm]
  rcases Nat.lt_trichotomy j i with hj | hj | hj
  · rw [Nat.testBit_two_pow_add_gt hj]
    have : ¬ i = j := by omega
    simp [this]
  · subst hj
    rw [Nat.testBit_two_pow_add_eq, h]
    simp
  · have hd : (2 ^ i + b) / 2 ^ (i + 1) = b / 2 ^ (i + 1) := by
      have h0 : b / 2 ^ i % 2 = 0 := by
        rw [bit_nat] at h
        have h1 := Nat.mod_two_eq_zero_or_one (b / 2 ^ i)
        rcases h1 with h1 | h1
        · exact h1
        · simp [h1] at h
      rw [Nat.pow_succ, ← Nat.div_div_eq_div_mul, ← Nat.div_div_eq_div_mul, Nat.add_div_left _ (Nat.two_pow_pos i)]
      omega
    obtain ⟨d, rfl⟩ : ∃ d, j = i + 1 + d := ⟨j - (i + 1), by omega⟩
    have e : ∀ x : Nat, x.testBit (i + 1 + d) = (x / 2 ^ (i + 1)).testBit d := fun x => by
      rw [Nat.testBit_div_two_pow, Nat.add_comm d]
    rw [e, e, hd]
    have : ¬ i = i + 1 + d := by omega
    simp [this]
/-! ### weights of sets told by bits -/
def wt : List Int → Nat → Int
  | [], _ => 0
  | x :: l, b => (if b % 2 = 1 then x else 0) + wt l (b / 2)
def tab (n : Nat) (P : Nat → Bool) : List Bool := (List.range (2 ^ n)).map P
theorem tab_len (n : Nat) (P : Nat → Bool) : (tab n P).length = 2 ^ n := by simp [tab]
theorem tab_get (n : Nat) (P : Nat → Bool) (b : Nat) (h : b < 2 ^ n) : (tab n P).getD b false = P b := by simp [tab, List.getD_eq_getElem?_getD, List.getElem?_range h]
theorem pow_small {n m : Nat} (h : n ≤ m) : 2 ^ n ≤ 2 ^ m := Nat.pow_le_pow_right (by omega) h
def sel (n : Nat) (P : Nat → Bool) : List Int := ((List.range n).filter P).map fun i : Nat => (i : Int)
theorem sel_succ (n : Nat) (P : Nat → Bool) : sel (n + 1) P = sel n P ++ (if P n = true then [(n : Int)] else []) := by
  unfold sel
  rw [List.range_succ, List.filter_append, List.map_append]
  congr 1
  cases h : P n <;> simp [h]
theorem sel_len (n : Nat) (P : Nat → Bool) : (sel n P).length ≤ n := by
  have := List.length_filter_le P (List.range n)
  simp [sel] at *; omega
theorem Ev.all {α β : Type} {p : Nat → α → Option β} {P : α → β} (l : List α) (h : ∀ x ∈ l, Ev (fun k => p k x) (P x)) : ∃ K, ∀ k, K ≤ k → ∀ x ∈ l, p k x = Option.some (P x) := by
  induction l with
  | nil => exact ⟨0, fun _ _ _ h => by simp at h⟩
  | cons x l ih =>
    obtain ⟨K, hK⟩ := ih (fun y hy => h y (by simp [hy]))
    obtain ⟨K', hK'⟩ := h x (by simp)
    refine ⟨K + K', fun k hk y hy => ?_⟩
    rcases List.mem_cons.1 hy with rfl | hy
    · exact hK' k (by omega)
    · exact hK k (by omega) y hy
theorem Ev.ask {α β γ : Type} {p : Nat → α → Option β} {P : α → β} (l : List α) (h : ∀ x ∈ l, Ev (fun k => p k x) (P x)) {F : Nat → (α → Option β) → Option γ} {r : γ} (hF : ∃ K, ∀ k, K ≤ k → ∀ q : α → Option β, (∀ x ∈ l, q x = Option.some (P x)) → F k q = Option.some r) : Ev (fun k => F k (p k)) r := by
  obtain ⟨K, hK⟩ := Ev.all l h
  obtain ⟨K', hK'⟩ := hF
  exact ⟨K + K', fun k hk => hK' k (by omega) _ (hK k (by omega))⟩
theorem downq {ρ : Type} {G : Nat → Nat → Option ρ} {R : Nat → ρ} (n : Nat) (hend : ∀ k, G n (k + 1) = Option.some (R n)) (hstep : ∀ i, i < n → ∀ k, G (i + 1) k = Option.some (R (i + 1)) → G i (k + 1) = Option.some (R i)) : ∀ i, i ≤ n → ∀ k, n - i < k → G i k = Option.some (R i) := by
  have key : ∀ d i, i + d = n → ∀ k, d < k → G i k = Option.some (R i) := by
    intro d
    induction d with
    | zero => intro i hi k hk
              obtain rfl : i = n := by omega
              obtain ⟨k, rfl⟩ : ∃ j, k = j + 1 := ⟨k - 1, by omega⟩
              exact hend k
    | succ d ih => intro i hi k hk
                   obtain ⟨k, rfl⟩ : ∃ j, k = j + 1 := ⟨k - 1, by omega⟩
                   exact hstep i (by omega) k (ih (i + 1) (by omega) k (by omega))
  intro i hi k hk
  exact key (n - i) i (by omega) k (by omega)
def idxFrom {α : Type} (P : α → Bool) : Nat → List α → Int
  | _, [] => -1
  | i, x :: l => if P x = true then (i : Int) else idxFrom P (i + 1) l
theorem idxFrom_nn {α : Type} (P : α → Bool) (l : List α) (i : Nat) : decide (idxFrom P i l ≥ 0) = l.any P := by
  induction l generalizing i with
  | nil => rfl
  | cons x l ih =>
    unfold idxFrom
    rw [List.any_cons]
    cases h : P x with
    | true => simp only [↓reduceIte, Bool.true_or, decide_eq_true_eq]; omega
    | false => simp only [Bool.false_eq_true, ↓reduceIte, Bool.false_or]; exact ih (i + 1)
def over {α : Type} (t l : List α) (i : Nat) : List α := t.take i ++ l.drop i
def allF (P : Nat → Bool) (n i : Nat) : Bool := (List.range' i (n - i)).all P
theorem allF_end (P : Nat → Bool) (n : Nat) : allF P n n = true := by simp [allF]
theorem allF_step (P : Nat → Bool) (n i : Nat) (h : i < n) : allF P n i = (P i && allF P n (i + 1)) := by
  unfold allF
  obtain ⟨d, rfl⟩ : ∃ d, n = i + d + 1 := ⟨n - i - 1, by omega⟩
  rw [show i + d + 1 - i = d + 1 by omega, show i + d + 1 - (i + 1) = d by omega, List.range'_succ, List.all_cons]
theorem allF_iff (P : Nat → Bool) (n : Nat) : allF P n 0 = true ↔ ∀ j, j < n → P j = true := by
  simp only [allF, List.all_eq_true, List.mem_range'_1, Nat.sub_zero, Nat.zero_add, Nat.zero_le, true_and]
def bitsOf (l : List Int) : Nat := l.foldl (fun m x => m ||| 2 ^ x.toNat) 0
theorem bitsOf_lt (l : List Int) (n : Nat) (h : ∀ x ∈ l, 0 ≤ x ∧ x < n) (m : Nat) (hm : m < 2 ^ n) : l.foldl (fun m x => m ||| 2 ^ x.toNat) m < 2 ^ n := by
  induction l generalizing m with
  | nil => exact hm
  | cons x l ih =>
    have h1 := h x (by simp)
    rw [List.foldl_cons]
    exact ih (fun y hy => h y (by simp [hy])) _ (Nat.or_lt_two_pow hm (Nat.pow_lt_pow_right (by omega) (by omega)))
def swing (w : List Bool) (i m : Nat) : Bool := !m.testBit i && !w.getD m false && w.getD (m + 2 ^ i) false
def swl (n : Nat) (w : List Bool) : List Int := (List.range n).map fun i => (((List.range (2 ^ n)).countP (swing w i) : Nat) : Int)
theorem swl_len (n : Nat) (w : List Bool) : (swl n w).length = n := by simp [swl]
theorem swl_get (n : Nat) (w : List Bool) (i : Nat) (h : i < n) : (swl n w).getD i 0 = (((List.range (2 ^ n)).countP (swing w i) : Nat) : Int) := by simp [swl, List.getD_eq_getElem?_getD, List.getElem?_range h]
theorem with_lt {n m i : Nat} (hm : m < 2 ^ n) (hi : i < n) (h : m.testBit i = false) : m + 2 ^ i < 2 ^ n := by
  rw [← or_pow h]; exact Nat.or_lt_two_pow hm (Nat.pow_lt_pow_right (by omega) hi)
def incr (l : List Int) (i : Nat) : Bool := i == 0 || decide (l.getD (i - 1) 0 < l.getD i 0)
def isSetN (l : List Int) (n : Int) : Bool := l.all (inI 0 (n - 1)) && allF (incr l) l.length 0
theorem isSetN_mem {l : List Int} {n : Int} (h : isSetN l n = true) : ∀ x ∈ l, 0 ≤ x ∧ x < n := by
  intro x hx
  simp only [isSetN, Bool.and_eq_true, List.all_eq_true, inI, decide_eq_true_eq] at h
  have := h.1 x hx
  omega
theorem isSetN_len {l : List Int} {n : Int} (h : isSetN l n = true) : (l.length : Int) ≤ n ∨ l = [] := by
  by_cases hl : l = []
  · exact .inr hl
  · left
    have hm := isSetN_mem h
    simp only [isSetN, Bool.and_eq_true] at h
    have hi := (allF_iff _ _).1 h.2
    have key : ∀ i, i < l.length → (i : Int) ≤ l.getD i 0 := by
      intro i
      induction i with
      | zero => intro h0; have := hm _ (getD_mem l 0 0 h0); omega
      | succ i ih =>
        intro h1
        have h2 := hi (i + 1) h1
        simp only [incr, Bool.or_eq_true, beq_iff_eq, decide_eq_true_eq, Nat.add_sub_cancel] at h2
        have := ih (by omega)
        omega
    have hpos : 0 < l.length := List.length_pos_iff.2 hl
    have h3 := key (l.length - 1) (by omega)
    have h4 := hm _ (getD_mem l 0 (l.length - 1) (by omega))
    omega
theorem allF_and (P Q : Nat → Bool) (n i : Nat) : allF (fun j => P j && Q j) n i = (allF P n i && allF Q n i) := by
  unfold allF
  induction (List.range' i (n - i)) with
  | nil => rfl
  | cons x l ih => simp only [List.all_cons, ih]; cases P x <;> cases Q x <;> simp
theorem allF_drop {α : Type} (P : α → Bool) (l : List α) (d : α) (i : Nat) (h : i ≤ l.length) : allF (fun j => P (l.getD j d)) l.length i = (l.drop i).all P := by
  refine back (P := fun i => allF (fun j => P (l.getD j d)) l.length i = (l.drop i).all P) l.length ?_ ?_ i h
  · rw [allF_end]; simp
  · intro i hi ih
    rw [allF_step _ _ _ hi, ih, drop_getD l d i hi, List.all_cons]
def bmask : List Bool → Nat
  | [] => 0
  | b :: l => (if b = true then 1 else 0) + 2 * bmask l
theorem or_add {m i : Nat} (h : m < 2 ^ i) : m ||| 2 ^ i = m + 2 ^ i := or_pow (Nat.testBit_lt_two_pow h)
theorem wt_mod (l : List Int) (b n : Nat) (h : l.length ≤ n) : wt l (b % 2 ^ n) = wt l b := by
  induction l generalizing b n with
  | nil => rfl
  | cons x l ih =>
    obtain ⟨n, rfl⟩ : ∃ m, n = m + 1 := ⟨n - 1, by simp at h; omega⟩
    have e1 : b % 2 ^ (n + 1) % 2 = b % 2 := by
      rw [Nat.pow_succ, Nat.mul_comm, Nat.mod_mul_right_mod]
    have e2 : b % 2 ^ (n + 1) / 2 = b / 2 % 2 ^ n := by
      rw [Nat.pow_succ, Nat.mul_comm, Nat.mod_mul_right_div_self]
    rw [wt, wt, e1, e2, ih (b / 2) n (by simp at h; omega)]
end Go.Proofs.YtidkafljeldokaaGreat.P

/- Lists put in order one by one. No program in sight. -/
namespace Go.Proofs.YtidkafljeldokaaGreat.P
section
variable {α : Type} (row : α → List Int)
def ltR (y x : α) : Bool := decide (lexc (row y) (row x) < 0)
def insR (x : α) (o : List α) : List α := o.takeWhile (fun y => ltR row y x) ++ x :: o.dropWhile (fun y => ltR row y x)
def istR (l : List α) : List α := l.foldl (fun o x => insR row x o) []
theorem insR_perm (x : α) (o : List α) : (insR row x o).Perm (x :: o) := by
  unfold insR
  refine List.perm_middle.trans ?_
  rw [List.takeWhile_append_dropWhile]
theorem insR_pair (x : α) (o : List α) (h : o.Pairwise (fun a b => lexL (row a) (row b) = true)) : (insR row x o).Pairwise (fun a b => lexL (row a) (row b) = true) := by
  induction o with
  | nil => simp [insR]
  | cons y o ih =>
    rw [List.pairwise_cons] at h
    by_cases c : ltR row y x = true
    · have e : insR row x (y :: o) = y :: insR row x o := by
        unfold insR
        rw [List.takeWhile_cons_of_pos (by exact c), List.dropWhile_cons_of_pos (by exact c)]
        rfl
      rw [e, List.pairwise_cons]
      refine ⟨fun z hz => ?_, ih h.2⟩
      rcases List.mem_cons.1 ((insR_perm row x o).mem_iff.1 hz) with rfl | hz
      · have := of_decide_eq_true c
        exact decide_eq_true (by omega)
      · exact h.1 z hz
    · have e : insR row x (y :: o) = x :: y :: o := by
        unfold insR
        rw [List.takeWhile_cons_of_neg (by exact c), List.dropWhile_cons_of_neg (by exact c)]
        rfl
      rw [e, List.pairwise_cons]
      have c' : ¬ lexc (row y) (row x) < 0 := fun z => c (decide_eq_true z)
      have s := lexc_swap (row y) (row x)
      have hxy : lexL (row x) (row y) = true := decide_eq_true (by omega)
      refine ⟨fun z hz => ?_, List.pairwise_cons.2 h⟩
      rcases List.mem_cons.1 hz with rfl | hz
      · exact hxy
      · exact lexL_trans _ _ _ hxy (h.1 z hz)
theorem istR_from (l o : List α) (h : o.Pairwise (fun a b => lexL (row a) (row b) = true)) : (l.foldl (fun o x => insR row x o) o).Perm (l ++ o) ∧ (l.foldl (fun o x => insR row x o) o).Pairwise (fun a b => lexL (row a) (row b) = true) := by
  induction l generalizing o with
  | nil => exact ⟨List.Perm.refl _, h⟩
  | cons x l ih =>
    rw [List.foldl_cons]
    obtain ⟨h1, h2⟩ := ih (insR row x o) (insR_pair row x o h)
    refine ⟨h1.trans ?_, h2⟩
    refine (List.Perm.append_left l (insR_perm row x o)).trans ?_
    rw [List.cons_append]
    exact List.perm_middle
theorem istR_perm (l : List α) : (istR row l).Perm l := by have := (istR_from row l [] List.Pairwise.nil).1; rwa [List.append_nil] at this
theorem istR_pair (l : List α) : (istR row l).Pairwise (fun a b => lexL (row a) (row b) = true) := (istR_from row l [] List.Pairwise.nil).2
theorem istR_rows (l : List α) : (istR row l).map row = sorted (l.map row) := by
  refine sorted_of ((istR_perm row l).map row) ?_
  rw [List.pairwise_map]
  exact istR_pair row l
theorem tw_spec (p : α → Bool) (d : α) (o : List α) : (∀ j, j < (o.takeWhile p).length → p (o.getD j d) = true) ∧ ((o.takeWhile p).length < o.length → p (o.getD (o.takeWhile p).length d) = false) ∧ o.takeWhile p = o.take (o.takeWhile p).length ∧ o.dropWhile p = o.drop (o.takeWhile p).length ∧ (o.takeWhile p).length ≤ o.length := by
  induction o with
  | nil => exact ⟨fun j h => absurd h (by simp), fun h => absurd h (by simp), rfl, rfl, Nat.le_refl _⟩
  | cons y o ih =>
    obtain ⟨h1, h2, h3, h4, h5⟩ := ih
    by_cases c : p y = true
    · rw [List.takeWhile_cons_of_pos c, List.dropWhile_cons_of_pos c, List.length_cons, List.length_cons]
      refine ⟨fun j hj => ?_, fun hj => ?_, ?_, ?_, by omega⟩
      · cases j with
        | zero => exact c
        | succ j => rw [List.getD_cons_succ]; exact h1 j (by omega)
      · rw [List.getD_cons_succ]; exact h2 (by omega)
      · rw [List.take_succ_cons, ← h3]
      · rw [List.drop_succ_cons, ← h4]
    · rw [List.takeWhile_cons_of_neg c, List.dropWhile_cons_of_neg c, List.length_nil]
      refine ⟨fun j hj => absurd hj (by omega), fun _ => ?_, rfl, rfl, Nat.zero_le _⟩
      rw [List.getD_cons_zero]
      exact Bool.eq_false_iff.2 c
end
end Go.Proofs.YtidkafljeldokaaGreat.P

/- From a datum's reading to a value that the printed contracts speak of: kind by kind. No program in sight. -/
namespace Go.Proofs.YtidkafljeldokaaGreat.P
open Go.RowKit Go.ChangeShapes Go.WideShapes Go.Proofs.YtidkafljeldokaaGreatW.PrintWords Go.Proofs.YtidkafljeldokaaGreatW.PrintLast Go.Proofs.YtidkafljeldokaaGreatW.PrintMore
def okI (x : Int) : Prop := -9223372036854775808 ≤ x ∧ x ≤ 9223372036854775807
def okL {α : Type} (Ok : α → Prop) (l : List α) : Prop := l.length ≤ 9223372036854775807 ∧ ∀ x ∈ l, Ok x
structure Opens {α : Type} (P : Program) (T : TypeId) (d : Kd α) (Ok : α → Prop) : Prop where
  go : ∀ {H : Type} (enc : TypeId × Value → H) (w : World) (fuel : Nat) (cs : List Value) (x : DataW H × List MemPlace),
    DataW.trod enc P w 0 (fun _ => true) true fuel T cs = some x → ∃ a, d.K w a cs ∧ Ok a
theorem Opens.int {P : Program} {T : TypeId} (h : P.underlying T = some (.int .i64)) : Opens P T (Kd.int .i64) okI := by
  refine ⟨fun enc w fuel cs x hx => ?_⟩
  obtain ⟨n, rfl, _, hw⟩ := DataW.trod_int h hx
  refine ⟨n, rfl, ?_⟩
  have hmin : IntKind.i64.min = -9223372036854775808 := rfl
  have hmax : IntKind.i64.max = 9223372036854775807 := rfl
  simp only [Lit.wf, Bool.and_eq_true, decide_eq_true_eq] at hw
  unfold okI
  omega
theorem cells_get {w : World} {a : Addr} {n : Nat} {cs : List Value} (h : w.cells? 0 a n = some cs) : cs.length = n ∧ ∀ j u, cs[j]? = some u → w.cell? (a.add j) = some u := by
  unfold World.cells? at h
  rw [if_pos (Nat.zero_le _)] at h
  have key : ∀ (l : List Nat) (r : List Value), l.mapM (fun i => w.cell? (a.add i)) = some r → r.length = l.length ∧ ∀ (j : Nat) (u : Value) (i : Nat), r[j]? = some u → l[j]? = some i → w.cell? (a.add i) = some u := by
    intro l
    induction l with
    | nil => intro r hr; simp at hr; subst hr; simp
    | cons i l ih =>
      intro r hr
      simp only [List.mapM_cons, Option.bind_eq_bind, Option.bind_eq_some_iff] at hr
      obtain ⟨v, hv, r', hr', he⟩ := hr
      have he' : v :: r' = r := by simpa using he
      subst he'
      obtain ⟨h1, h2⟩ := ih r' hr'
      refine ⟨by simp [h1], fun j u k hj hk => ?_⟩
      cases j with
      | zero => simp at hj hk; subst hj; subst hk; exact hv
      | succ j => simp at hj hk; exact h2 j u k hj hk
  obtain ⟨h1, h2⟩ := key _ _ h
  refine ⟨by simpa using h1, fun j u hj => ?_⟩
  have hlt : j < cs.length := (List.getElem?_eq_some_iff.1 hj).1
  exact h2 j u j hj (by rw [List.getElem?_range (by simpa [h1] using hlt)])
theorem add_add_ (a : Addr) (i j : Nat) : (a.add i).add j = a.add (i + j) := Go.Deep.add_add a i j
theorem Opens.slice {α : Type} {P : Program} {T e : TypeId} {d : Kd α} {Ok : α → Prop} (h : P.underlying T = some (.slice e)) (hc : P.cellsOf e = d.sz) (hd : Opens P e d Ok) : Opens P T (Kd.slice e d) (okL Ok) := by
  refine ⟨fun enc w fuel cs x hx => ?_⟩
  rcases Go.Deep.open_slice h hx with ⟨rfl, _⟩ | ⟨a, len, cap, m, n, D, Pl, rfl, _, hl, hm, hmm, _, hel⟩
  · exact ⟨[], ⟨none, 0, rfl, Nat.le_refl _, Kd.C_nil _ _⟩, by simp, by simp⟩
  · have hm' : m = cap := by simpa using hmm
    subst hm'
    have hex : ∀ i, i < len → ∃ y : α × List Value, y.2.length = d.sz ∧ d.K w y.1 y.2 ∧ Ok y.1 ∧ ∀ j u, y.2[j]? = some u → w.cell? (a.add (i * d.sz + j)) = some u := by
      intro i hi
      obtain ⟨cs', h1, h2⟩ := hel i (by omega)
      rw [hc] at h1
      obtain ⟨hlen, hcell⟩ := cells_get h1
      obtain ⟨y, hy, ho⟩ := hd.go enc w n cs' _ h2
      exact ⟨(y, cs'), hlen, hy, ho, fun j u hj => by rw [← add_add_]; exact hcell j u hj⟩
    by_cases h0 : len = 0
    · subst h0
      exact ⟨[], ⟨some a, _, rfl, Nat.zero_le _, rfl, by simp, fun h => absurd h (Nat.lt_irrefl 0)⟩, by simp, by simp⟩
    · obtain ⟨y0, _⟩ := hex 0 (by omega)
      have : Inhabited (α × List Value) := ⟨y0⟩
      obtain ⟨f, hf⟩ := Go.Deep.choose_lt (α := α × List Value) hex
      have hlen : ((List.range len).map fun i => (f i).1).length = len := by simp
      have hget : ∀ j p, ((List.range len).map fun i => (f i).1)[j]? = some p → j < len ∧ p = (f j).1 := by
        intro j p hj
        obtain ⟨hlt, he⟩ := List.getElem?_eq_some_iff.1 hj
        simp at hlt he
        exact ⟨hlt, he.symm⟩
      refine ⟨(List.range len).map fun i => (f i).1, ⟨some a, m, by rw [hlen], by rw [hlen]; exact hl, by rw [hlen], by rw [hlen]; unfold maxLen at hm; omega, fun _ => ⟨a, rfl, fun j p hj => ?_⟩⟩, ?_, ?_⟩
      · obtain ⟨hlt, rfl⟩ := hget j p hj
        obtain ⟨h1, h2, _, h3⟩ := hf j hlt
        exact ⟨(f j).2, h1, h2, h3⟩
      · rw [hlen]; unfold maxLen at hm; omega
      · intro p hp
        obtain ⟨j, hj⟩ := List.mem_iff_getElem?.1 hp
        obtain ⟨hlt, rfl⟩ := hget j p hj
        exact (hf j hlt).2.2.1
theorem Opens.struct2 {α β γ : Type} {P : Program} {T : TypeId} {f0 f1 : Field} {d0 : Kd α} {d1 : Kd β} {Ok0 : α → Prop} {Ok1 : β → Prop} {F : γ → α × β} (h : P.underlying T = some (.struct #[f0, f1]))
    (o0 : f0.offset = 0) (s0 : P.cellsOf f0.type = d0.sz) (o1 : f1.offset = d0.sz) (s1 : P.cellsOf f1.type = d1.sz) (sT : P.cellsOf T = d0.sz + d1.sz)
    (h0 : Opens P f0.type d0 Ok0) (h1 : Opens P f1.type d1 Ok1) (sur : ∀ p, ∃ x, F x = p) : Opens P T (Kd.iso (Kd.pair d0 d1) F) (fun x => Ok0 (F x).1 ∧ Ok1 (F x).2) := by
  refine ⟨fun enc w fuel cs x hx => ?_⟩
  obtain ⟨y0, y1, n, _, hlen, r0, r1⟩ := trod_struct2 h hx
  rw [o0, s0, List.drop_zero] at r0
  rw [o1, s1] at r1
  obtain ⟨a0, k0, p0⟩ := h0.go enc w n _ _ r0
  obtain ⟨a1, k1, p1⟩ := h1.go enc w n _ _ r1
  obtain ⟨z, hz⟩ := sur (a0, a1)
  refine ⟨z, ?_, by rw [hz]; exact ⟨p0, p1⟩⟩
  show (Kd.pair d0 d1).K w (F z) cs
  rw [hz]
  refine ⟨_, _, ?_, k0, k1⟩
  rw [List.take_of_length_le (l := cs.drop d0.sz) (by rw [List.length_drop]; omega), List.take_append_drop]
theorem open_agg_ {α : Type} {H : Type} {enc : TypeId × Value → H} {P : Program} {w : World} {r : Reach} {b0 : Nat} {T : TypeId} {fs : Array Field} {d : Kd α} {Ok : α → Prop} {v : Value} {y : DataW H} {p : List MemPlace}
    (h : P.underlying T = some (.struct fs)) (ho : Opens P T d Ok) (hv : Value.okWide P w r b0 T v) (hd : DataW.Trod enc P w 0 (fun _ => true) true T v y p) : ∃ cs x, v = .agg cs ∧ d.K w x cs.toList ∧ Ok x := by
  obtain ⟨cs, rfl, _⟩ := okWide_struct h hv
  obtain ⟨fuel, hf⟩ := hd
  obtain ⟨x, hx, hok⟩ := ho.go enc w fuel _ _ hf
  exact ⟨cs, x, rfl, by simpa [Value.cells] using hx, hok⟩
theorem open_row_ {α : Type} {H : Type} {enc : TypeId × Value → H} {P : Program} {w : World} {r : Reach} {b0 : Nat} {T e : TypeId} {d : Kd α} {Ok : α → Prop} {v : Value} {y : DataW H} {p : List MemPlace}
    (h : P.underlying T = some (.slice e)) (ho : Opens P T (Kd.slice e d) (okL Ok)) (hv : Value.okWide P w r b0 T v) (hd : DataW.Trod enc P w 0 (fun _ => true) true T v y p) : ∃ (A : Option Addr) (c : Nat) (l : List α), v = .slice A l.length c ∧ l.length ≤ c ∧ d.C w A l.length l ∧ okL Ok l := by
  obtain ⟨a, len, cap, rfl⟩ := okWide_slice h hv
  obtain ⟨fuel, hf⟩ := hd
  obtain ⟨l, ⟨A, c, he, hl, hc⟩, hok⟩ := ho.go enc w fuel _ _ hf
  have he' : Value.slice a len cap = .slice A l.length c := by simpa [Value.cells] using he
  exact ⟨A, c, l, he', hl, hc, hok⟩
theorem open_int_ {H : Type} {enc : TypeId × Value → H} {P : Program} {w : World} {r : Reach} {b0 : Nat} {T : TypeId} {v : Value} {y : DataW H} {p : List MemPlace}
    (h : P.underlying T = some (.int .i64)) (hv : Value.okWide P w r b0 T v) (hd : DataW.Trod enc P w 0 (fun _ => true) true T v y p) : ∃ n : Int, v = .int .i64 n ∧ okI n := by
  obtain ⟨n, rfl, _, _, hw⟩ := open_int h hv hd
  refine ⟨n, rfl, ?_⟩
  have hmin : IntKind.i64.min = -9223372036854775808 := rfl
  have hmax : IntKind.i64.max = 9223372036854775807 := rfl
  simp only [Lit.wf, Bool.and_eq_true, decide_eq_true_eq] at hw
  unfold okI
  omega
end Go.Proofs.YtidkafljeldokaaGreat.P

namespace Go.Proofs.YtidkafljeldokaaGreat.P
open Go.RowKit Go.Proofs.YtidkafljeldokaaGreatW.PrintWords Go.Proofs.YtidkafljeldokaaGreatW.PrintLast Go.Proofs.YtidkafljeldokaaGreatW.PrintMore
def ok_impl_Committee (x : S_impl_Committee) : Prop := okI x.f0 ∧ (okL okI) x.f1
theorem op_impl_Committee : Opens Tryz.prog 24 k_impl_Committee ok_impl_Committee :=
  Opens.struct2 (F := fun x : S_impl_Committee => (x.f0, x.f1)) Tryz.underlying24 rfl (by kernel_rfl) rfl (by kernel_rfl) (by kernel_rfl) (Opens.int Tryz.underlying3) (Opens.slice Tryz.underlying22 (by kernel_rfl) (Opens.int Tryz.underlying3)) (fun p => ⟨⟨p.1, p.2⟩, rfl⟩)
end Go.Proofs.YtidkafljeldokaaGreat.P

/- Plain laws of the printed functions on committees: what each answers. -/
namespace Go.Proofs.YtidkafljeldokaaGreat.P
open Go.RowKit Go.Proofs.YtidkafljeldokaaGreatW.PrintWords Go.Proofs.YtidkafljeldokaaGreatW.PrintLast Go.Proofs.YtidkafljeldokaaGreatW.PrintMore
theorem impl_within.eq (a b c : Int) : impl_within.f a b c = some (inI b c a) := by
  unfold impl_within.f inI
  by_cases h : a ≥ b
  · have h' : b ≤ a := h
    simp [h']
  · have h' : ¬ b ≤ a := h
    simp [h']
theorem spec_l1In.eq (a b c : Int) : spec_l1In.f a b c = some (inI b c a) := by
  unfold spec_l1In.f inI
  by_cases h : a ≥ b
  · have h' : b ≤ a := h
    simp [h']
  · have h' : ¬ b ≤ a := h
    simp [h']
theorem impl_sumOf.ev (l : List Int) (hm : l.length ≤ 9223372036854775807) : Ev (fun k => impl_sumOf.f k l) (wsum l) := by
  have key := Ev.down (G := fun i k => impl_sumOf.l0 k ((l.take i).foldl (fun s x => wrap64 (s + x)) 0) l (l.length : Int) (i : Int)) (R := fun _ => wsum l) l.length
    (by refine Ev.shift ?_
        simp only [impl_sumOf.l0, Int.lt_irrefl, ↓reduceIte, List.take_length]
        exact Ev.some)
    (fun i hi ih => by
        refine Ev.shift ?_
        have c1 : (i : Int) < (l.length : Int) := by omega
        have c0 : (0 : Int) ≤ (i : Int) := by omega
        simp only [impl_sumOf.l0, c1, c0, ↓reduceIte, w1 hi hm, rd_nat]
        rw [foldl_take _ _ l 0 i hi] at ih
        exact ih)
  exact key 0 (Nat.zero_le _)
theorem spec_voSum.ev (l : List Int) (hm : l.length ≤ 9223372036854775807) : Ev (fun k => spec_voSum.f k l) (wsum l) := by
  have key := Ev.down (G := fun i k => spec_voSum.l0 k ((l.take i).foldl (fun s x => wrap64 (s + x)) 0) l (l.length : Int) (i : Int)) (R := fun _ => wsum l) l.length
    (by refine Ev.shift ?_
        simp only [spec_voSum.l0, Int.lt_irrefl, ↓reduceIte, List.take_length]
        exact Ev.some)
    (fun i hi ih => by
        refine Ev.shift ?_
        have c1 : (i : Int) < (l.length : Int) := by omega
        have c0 : (0 : Int) ≤ (i : Int) := by omega
        simp only [spec_voSum.l0, c1, c0, ↓reduceIte, w1 hi hm, rd_nat]
        rw [foldl_take _ _ l 0 i hi] at ih
        exact ih)
  exact key 0 (Nat.zero_le _)
theorem isComm_eq (q : Int) (l : List Int) : isComm q l = if (1 ≤ l.length ∧ l.length ≤ 9) ∧ l.all (inI 0 1000) = true then inI 1 (wsum l) q else false := by
  unfold isComm
  by_cases h : (1 ≤ l.length ∧ l.length ≤ 9) ∧ l.all (inI 0 1000) = true
  · have hm : ∀ x ∈ l, 0 ≤ x ∧ x ≤ 1000 := by
      have := h.2
      simp [inI] at this
      exact this
    rw [if_pos h, wsum_eq l hm (by omega)]
    simp only [h.1.1, h.1.2, h.2, decide_true, Bool.true_and]
  · rw [if_neg h]
    by_cases h1 : 1 ≤ l.length
    · by_cases h2 : l.length ≤ 9
      · have h3 : l.all (inI 0 1000) = false := by
          cases h4 : l.all (inI 0 1000) with
          | true => exact absurd ⟨⟨h1, h2⟩, h4⟩ h
          | false => rfl
        simp only [h3, Bool.and_false, Bool.false_and]
      · simp only [h2, decide_false, Bool.and_false, Bool.false_and]
    · simp only [h1, decide_false, Bool.false_and]
theorem slices_IndexFunc_int_int.ev (l : List Int) (hm : l.length ≤ 9223372036854775807) (p : Nat → Int → Option Bool) (P : Int → Bool) (h : ∀ x ∈ l, Ev (fun k => p k x) (P x)) : Ev (fun k => slices_IndexFunc_int_int.f k l (p k)) (idxFrom P 0 l) := by
  refine Ev.ask (F := fun k q => slices_IndexFunc_int_int.f k l q) l h ⟨l.length + 1, fun k hk q hq => ?_⟩
  unfold slices_IndexFunc_int_int.f
  have := downq (G := fun i k => slices_IndexFunc_int_int.l0 k l q (l.length : Int) (i : Int)) (R := fun i => idxFrom P i (l.drop i)) l.length
    (by intro k; simp only [slices_IndexFunc_int_int.l0, Int.lt_irrefl, ↓reduceIte, List.drop_length, idxFrom])
    (fun i hi k ih => by
      have c1 : (i : Int) < (l.length : Int) := by omega
      have c0 : (0 : Int) ≤ (i : Int) := by omega
      simp only [slices_IndexFunc_int_int.l0, c1, c0, ↓reduceIte, w1 hi hm, rd_nat, hq _ (getD_mem l 0 i hi), Option.bind_some]
      rw [drop_getD l 0 i hi, idxFrom, ih]
      split <;> rfl) 0 (Nat.zero_le _) k (by omega)
  rwa [List.drop_zero] at this
theorem slices_ContainsFunc_int_int.ev (l : List Int) (hm : l.length ≤ 9223372036854775807) (p : Nat → Int → Option Bool) (P : Int → Bool) (h : ∀ x ∈ l, Ev (fun k => p k x) (P x)) : Ev (fun k => slices_ContainsFunc_int_int.f k l (p k)) (l.any P) := by
  unfold slices_ContainsFunc_int_int.f
  refine Ev.bind (slices_IndexFunc_int_int.ev l hm p P h) ?_
  rw [idxFrom_nn]
  exact Ev.some
theorem impl_areIn.ev (l : List Int) (a b : Int) (hm : l.length ≤ 9223372036854775807) : Ev (fun k => impl_areIn.f k l a b) (l.all (inI a b)) := by
  unfold impl_areIn.f
  refine Ev.bind (slices_ContainsFunc_int_int.ev l hm (fun _ x => impl_areIn_1.f x a b) (fun x => !inI a b x) (fun x _ => ?_)) ?_
  · simp only [impl_areIn_1.f, impl_within.eq, Option.bind_some]; exact Ev.some
  · rw [all_any]; exact Ev.some
theorem impl_IsCommittee.ev (q : Int) (l : List Int) (hm : l.length ≤ 9223372036854775807) : Ev (fun k => impl_IsCommittee.f k q l) (isComm q l) := by
  rw [isComm_eq]
  unfold impl_IsCommittee.f
  by_cases h1 : 1 ≤ l.length
  · have c1 : (l.length : Int) ≥ 1 := by omega
    by_cases h2 : l.length ≤ 9
    · have c2 : (l.length : Int) ≤ 9 := by omega
      simp only [c1, c2, h1, h2, ↓reduceIte, and_self, true_and]
      refine Ev.bind (impl_areIn.ev l 0 1000 hm) ?_
      by_cases h3 : l.all (inI 0 1000) = true
      · simp only [h3, ↓reduceIte]
        refine Ev.bind (impl_sumOf.ev l hm) ?_
        simp only [impl_within.eq, Option.bind_some]
        exact Ev.some
      · simp only [h3]
        exact Ev.some
    · have c2 : ¬ (l.length : Int) ≤ 9 := by omega
      simp only [c1, c2, h2, ↓reduceIte, and_false, false_and]
      exact Ev.some
  · have c1 : ¬ (l.length : Int) ≥ 1 := by omega
    simp only [c1, h1, ↓reduceIte, false_and]
    exact Ev.some
theorem spec_l1All.ev (l : List Int) (a b : Int) (hm : l.length ≤ 9223372036854775807) : Ev (fun k => spec_l1All.f k l a b) (l.all (inI a b)) := by
  have key := Ev.down (G := fun i k => spec_l1All.l0 k a b l (l.length : Int) (i : Int)) (R := fun i => (l.drop i).all (inI a b)) l.length
    (by refine Ev.shift ?_
        simp only [spec_l1All.l0, Int.lt_irrefl, ↓reduceIte, List.drop_length, List.all_nil]
        exact Ev.some)
    (fun i hi ih => by
        refine Ev.shift ?_
        have c1 : (i : Int) < (l.length : Int) := by omega
        have c0 : (0 : Int) ≤ (i : Int) := by omega
        simp only [spec_l1All.l0, c1, c0, ↓reduceIte, w1 hi hm, rd_nat, spec_l1In.eq, Option.bind_some]
        rw [drop_getD l 0 i hi, List.all_cons]
        cases h : inI a b (l.getD i 0) with
        | true => simp only [↓reduceIte, Bool.true_and]; exact ih
        | false => simp only [Bool.false_eq_true, ↓reduceIte, Bool.false_and]; exact Ev.some)
  exact key 0 (Nat.zero_le _)
theorem spec_voGood.ev (q : Int) (l : List Int) (hm : l.length ≤ 9223372036854775807) : Ev (fun k => spec_voGood.f k q l) (isComm q l) := by
  rw [isComm_eq]
  unfold spec_voGood.f
  simp only [spec_l1In.eq, Option.bind_some]
  have e : inI 1 9 (l.length : Int) = decide (1 ≤ l.length ∧ l.length ≤ 9) := by
    unfold inI; rw [Bool.eq_iff_iff]; simp; omega
  rw [e]
  by_cases h : 1 ≤ l.length ∧ l.length ≤ 9
  · simp only [h, decide_true, ↓reduceIte, and_self, true_and]
    refine Ev.bind (spec_l1All.ev l 0 1000 hm) ?_
    refine Ev.shift ?_
    by_cases h3 : l.all (inI 0 1000) = true
    · simp only [spec_voGood.j0, h3, Bool.not_true, Bool.false_eq_true, ↓reduceIte]
      refine Ev.bind (spec_voSum.ev l hm) ?_
      simp only [spec_l1In.eq, Option.bind_some]
      exact Ev.some
    · have h4 : l.all (inI 0 1000) = false := by simpa using h3
      simp only [spec_voGood.j0, h4, Bool.not_false, Bool.false_eq_true, ↓reduceIte]
      exact Ev.some
  · simp only [h, decide_false, Bool.false_eq_true, ↓reduceIte, false_and]
    refine Ev.shift ?_
    simp only [spec_voGood.j0, ↓reduceIte]
    exact Ev.some
end Go.Proofs.YtidkafljeldokaaGreat.P

/- Plain laws of the printed functions on lists of committees. -/
namespace Go.Proofs.YtidkafljeldokaaGreat.P
open Go.RowKit Go.Proofs.YtidkafljeldokaaGreatW.PrintWords Go.Proofs.YtidkafljeldokaaGreatW.PrintLast Go.Proofs.YtidkafljeldokaaGreatW.PrintMore
def good (x : S_impl_Committee) : Bool := isComm x.f0 x.f1
def heads (xs : List S_impl_Committee) : Int := (xs.map fun x => (x.f1.length : Int)).sum
theorem rd_impl_nat (l : List S_impl_Committee) (i : Nat) : rd_impl_Committee l (i : Int) = l.getD i z_impl_Committee := by simp [rd_impl_Committee]
theorem good_len {x : S_impl_Committee} (h : good x = true) : 1 ≤ x.f1.length ∧ x.f1.length ≤ 9 := isComm_len h
theorem heads_cons (x : S_impl_Committee) (xs : List S_impl_Committee) : heads (x :: xs) = x.f1.length + heads xs := by simp [heads]
theorem heads_bounds (xs : List S_impl_Committee) (h : xs.all good = true) : (xs.length : Int) ≤ heads xs ∧ heads xs ≤ 9 * xs.length := by
  induction xs with
  | nil => simp [heads]
  | cons x xs ih =>
    rw [List.all_cons, Bool.and_eq_true] at h
    have h1 := good_len h.1
    have h2 := ih h.2
    rw [heads_cons]
    simp only [List.length_cons]
    omega
theorem spec_chMembers.ev (xs : List S_impl_Committee) (hl : xs.length ≤ 1048576) (hx : ∀ x ∈ xs, x.f1.length ≤ 9223372036854775807) : Ev (fun k => spec_chMembers.f k xs) (if xs.all good = true then heads xs else -1) := by
  have key := back (P := fun i => ∀ a : Int, 0 ≤ a → a ≤ 9 * i → Ev (fun k => spec_chMembers.l0 k a xs (xs.length : Int) (i : Int)) (if (xs.drop i).all good = true then a + heads (xs.drop i) else -1)) xs.length
    (by intro a h0 h1
        refine Ev.shift ?_
        simp only [spec_chMembers.l0, Int.lt_irrefl, ↓reduceIte, List.drop_length, List.all_nil, heads, List.map_nil, List.sum_nil, Int.add_zero]
        exact Ev.some)
    (by intro i hi ih a h0 h1
        refine Ev.shift ?_
        have c1 : (i : Int) < (xs.length : Int) := by omega
        have c0 : (0 : Int) ≤ (i : Int) := by omega
        simp only [spec_chMembers.l0, c1, c0, ↓reduceIte, rd_impl_nat]
        rw [drop_getD xs z_impl_Committee i hi, List.all_cons, heads_cons]
        generalize he : xs.getD i z_impl_Committee = x
        have hxl := hx x (he ▸ getD_mem xs z_impl_Committee i hi)
        refine Ev.bind (spec_voGood.ev _ _ hxl) ?_
        cases hg : good x with
        | true =>
          have hg' : isComm x.f0 x.f1 = true := hg
          have hlen := good_len hg
          simp only [hg', ↓reduceIte, Bool.true_and, w1 hi (show xs.length ≤ 9223372036854775807 by omega)]
          rw [w64 (by omega) (by omega)]
          refine Ev.eq (ih (a + x.f1.length) (by omega) (by omega)) ?_
          split <;> omega
        | false =>
          have hg' : isComm x.f0 x.f1 = false := hg
          simp only [hg', Bool.false_eq_true, ↓reduceIte, Bool.false_and]
          exact Ev.some)
  refine Ev.eq (key 0 (Nat.zero_le _) 0 (by omega) (by omega)) ?_
  rw [List.drop_zero]
  split <;> omega
end Go.Proofs.YtidkafljeldokaaGreat.P

/- A member of a set, by bits. -/
namespace Go.Proofs.YtidkafljeldokaaGreat.P
open Go.RowKit Go.Proofs.YtidkafljeldokaaGreatW.PrintWords Go.Proofs.YtidkafljeldokaaGreatW.PrintLast Go.Proofs.YtidkafljeldokaaGreatW.PrintMore
theorem impl_has.eq (b i : Nat) (hi : i ≤ 64) (hb : b < 2 ^ 63) : impl_has.f (b : Int) (i : Int) = some (b.testBit i) := by
  have c : (0 : Int) ≤ (i : Int) := by omega
  have hd : b / 2 ^ i < 2 ^ 63 := Nat.lt_of_le_of_lt (Nat.div_le_self _ _) hb
  unfold impl_has.f
  rw [if_pos c, shr_nat b i hi, and_one _ hd, bit_nat]
  congr 1
  rcases Nat.mod_two_eq_zero_or_one (b / 2 ^ i) with h | h <;> rw [h] <;> rfl
end Go.Proofs.YtidkafljeldokaaGreat.P

/- Weights of a set, by bits. -/
namespace Go.Proofs.YtidkafljeldokaaGreat.P
open Go.RowKit Go.Proofs.YtidkafljeldokaaGreatW.PrintWords Go.Proofs.YtidkafljeldokaaGreatW.PrintLast Go.Proofs.YtidkafljeldokaaGreatW.PrintMore
theorem impl_Committee_weight.ev (q : Int) (l : List Int) (b : Nat) (h : ∀ x ∈ l, 0 ≤ x ∧ x ≤ 1000) (hl : l.length ≤ 64) (hb : b < 2 ^ 63) : Ev (fun k => impl_Committee_weight.f k q l (b : Int)) (wt l b) := by
  have key := back (P := fun i => ∀ s : Int, 0 ≤ s → s ≤ 1000 * i → Ev (fun k => impl_Committee_weight.l0 k (b : Int) s l (l.length : Int) (i : Int)) (s + wt (l.drop i) (b / 2 ^ i))) l.length
    (by intro s h0 h1
        refine Ev.shift ?_
        simp only [impl_Committee_weight.l0, Int.lt_irrefl, ↓reduceIte, List.drop_length, wt, Int.add_zero]
        exact Ev.some)
    (by intro i hi ih s h0 h1
        refine Ev.shift ?_
        have c1 : (i : Int) < (l.length : Int) := by omega
        have c0 : (0 : Int) ≤ (i : Int) := by omega
        have hx := h _ (getD_mem l 0 i hi)
        simp only [impl_Committee_weight.l0, c1, c0, ↓reduceIte, impl_has.eq b i (by omega) hb, Option.bind_some, w1 hi (show l.length ≤ 9223372036854775807 by omega), rd_nat, bit_nat]
        rw [drop_getD l 0 i hi, wt, Nat.div_div_eq_div_mul, show (2 ^ i * 2 : Nat) = 2 ^ (i + 1) from rfl]
        by_cases hbit : b / 2 ^ i % 2 = 1
        · simp only [hbit, decide_true, ↓reduceIte]
          rw [w64 (by omega) (by omega)]
          refine Ev.eq (ih _ (by omega) (by omega)) (by omega)
        · simp only [hbit, decide_false, Bool.false_eq_true, ↓reduceIte]
          refine Ev.eq (ih _ (by omega) (by omega)) (by omega))
  have := key 0 (Nat.zero_le _) 0 (by omega) (by omega)
  unfold impl_Committee_weight.f
  rw [List.drop_zero, Nat.pow_zero, Nat.div_one, Int.zero_add] at this
  exact this
end Go.Proofs.YtidkafljeldokaaGreat.P

/- What is told of each set, by a function. -/
namespace Go.Proofs.YtidkafljeldokaaGreat.P
open Go.RowKit Go.Proofs.YtidkafljeldokaaGreatW.PrintWords Go.Proofs.YtidkafljeldokaaGreatW.PrintLast Go.Proofs.YtidkafljeldokaaGreatW.PrintMore
theorem impl_votesOf.ev (n : Nat) (hn : n ≤ 40) (p : Nat → Int → Option Bool) (P : Nat → Bool) (h : ∀ b : Nat, b < 2 ^ n → Ev (fun k => p k (b : Int)) (P b)) : Ev (fun k => impl_votesOf.f k (n : Int) (p k)) ((n : Int), tab n P) := by
  obtain ⟨K, hK⟩ := Ev.all (p := fun k (b : Nat) => p k (b : Int)) (P := P) (List.range (2 ^ n)) (fun b hb => h b (List.mem_range.1 hb))
  have hpos := Nat.two_pow_pos n
  refine ⟨K + 2 ^ n + 1, fun k hk => ?_⟩
  have hq := hK k (by omega)
  show impl_votesOf.f k (n : Int) (p k) = _
  generalize p k = q at hq ⊢
  have hq : ∀ b : Nat, b < 2 ^ n → q (b : Int) = some (P b) := fun b hb => hq b (List.mem_range.2 hb)
  have h40 : 2 ^ n ≤ 1099511627776 := pow_small hn
  have hle : (2 ^ n : Nat) ≤ 281474976710656 := by omega
  have c0 : (0 : Int) ≤ (n : Int) := by omega
  have c1 : (0 : Int) ≤ ((2 ^ n : Nat) : Int) := by omega
  have hl := tab_len n P
  unfold impl_votesOf.f
  simp only [c0, ↓reduceIte, shl_one n (by omega), c1, Int.toNat_natCast, hle, Option.bind_some, List.length_replicate]
  have := downq (G := fun i k => impl_votesOf.l0 k q ((2 ^ n : Nat) : Int) (i : Int) (n : Int) (filled (tab n P) false i)) (R := fun _ => ((n : Int), tab n P)) (2 ^ n)
    (by intro k
        have : filled (tab n P) false (2 ^ n) = tab n P := by rw [← hl]; exact filled_all _ _
        simp only [impl_votesOf.l0, Int.lt_irrefl, ↓reduceIte, this])
    (fun i hi k ih => by
        have c1 : (i : Int) < ((2 ^ n : Nat) : Int) := by omega
        have c0 : (0 : Int) ≤ (i : Int) := by omega
        have c2 : (i : Int) < ((filled (tab n P) false i).length : Int) := by rw [filled_len _ _ _ (by omega)]; omega
        have hs := filled_set (tab n P) false false i (by omega)
        rw [tab_get n P i hi] at hs
        simp only [impl_votesOf.l0, c1, c0, c2, ↓reduceIte, hq i hi, Option.bind_some, w1 hi (show 2 ^ n ≤ 9223372036854775807 by omega), Int.toNat_natCast, hs]
        exact ih) 0 (Nat.zero_le _) k (by omega)
  rw [filled_zero, hl] at this
  exact this
end Go.Proofs.YtidkafljeldokaaGreat.P

/- What sets win in a council. -/
namespace Go.Proofs.YtidkafljeldokaaGreat.P
open Go.RowKit Go.Proofs.YtidkafljeldokaaGreatW.PrintWords Go.Proofs.YtidkafljeldokaaGreatW.PrintLast Go.Proofs.YtidkafljeldokaaGreatW.PrintMore
def csum : List Int → List S_impl_Committee → Nat → Int
  | w :: l, c :: xs, b => (if wt c.f1 b ≥ c.f0 then w else 0) + csum l xs (b / 2 ^ c.f1.length)
  | _, _, _ => 0
def cow (q : Int) (l : List Int) (xs : List S_impl_Committee) (b : Nat) : Bool := decide (csum l xs b ≥ q)
theorem good_mem {x : S_impl_Committee} (h : good x = true) : ∀ y ∈ x.f1, 0 ≤ y ∧ y ≤ 1000 := isComm_mem h
theorem all_good {xs : List S_impl_Committee} (h : xs.all good = true) : ∀ x ∈ xs, good x = true := by rwa [List.all_eq_true] at h
theorem heads_drop (xs : List S_impl_Committee) (i : Nat) (h : i < xs.length) : heads (xs.drop i) = (xs.getD i z_impl_Committee).f1.length + heads (xs.drop (i + 1)) := by
  rw [drop_getD xs z_impl_Committee i h, heads_cons]
theorem heads_nn (xs : List S_impl_Committee) : 0 ≤ heads xs := by
  unfold heads
  induction xs with
  | nil => simp
  | cons y ys ih => simp only [List.map_cons, List.sum_cons]; omega
theorem impl_councilVotes_1.ev (q : Int) (l : List Int) (xs : List S_impl_Committee) (b : Nat) (hl : xs.length = l.length) (hw : ∀ x ∈ l, 0 ≤ x ∧ x ≤ 1000) (hg : xs.all good = true) (h9 : heads xs ≤ 9) (hll : l.length ≤ 9) (hb : b < 9223372036854775808) :
    Ev (fun k => impl_councilVotes_1.f k (b : Int) xs q l) (cow q l xs b) := by
  have key := back (P := fun i => ∀ (s : Int) (f : Nat), 0 ≤ s → s ≤ 1000 * i → (f : Int) + heads (xs.drop i) ≤ 9 → Ev (fun k => impl_councilVotes_1.l0 k (b : Int) s (f : Int) xs (xs.length : Int) (i : Int) q l) (decide (s + csum (l.drop i) (xs.drop i) (b / 2 ^ f) ≥ q))) xs.length
    (by intro s f h0 h1 h2
        refine Ev.shift ?_
        simp only [impl_councilVotes_1.l0, Int.lt_irrefl, ↓reduceIte]
        refine Ev.eq Ev.some ?_
        rw [List.drop_length]
        have : csum (l.drop xs.length) [] (b / 2 ^ f) = 0 := by cases l.drop xs.length <;> rfl
        rw [this, Int.add_zero])
    (by intro i hi ih s f h0 h1 h2
        refine Ev.shift ?_
        have c1 : (i : Int) < (xs.length : Int) := by omega
        have c0 : (0 : Int) ≤ (i : Int) := by omega
        have c2 : (0 : Int) ≤ (f : Int) := by omega
        have c3 : (i : Int) < (l.length : Int) := by omega
        rw [heads_drop xs i hi] at h2
        have hn := heads_nn (xs.drop (i + 1))
        have hgi := all_good hg _ (getD_mem xs z_impl_Committee i hi)
        have hli := good_len hgi
        have hwi := hw _ (getD_mem l 0 i (by omega))
        rw [drop_getD xs z_impl_Committee i hi, drop_getD l 0 i (by omega), csum]
        simp only [impl_councilVotes_1.l0, c1, c0, c2, ↓reduceIte, rd_impl_nat, shr_nat b f (by omega), w1 hi (show xs.length ≤ 9223372036854775807 by omega)]
        have hd : b / 2 ^ f < 9223372036854775808 := Nat.lt_of_le_of_lt (Nat.div_le_self _ _) hb
        have hle3 : ((f + (xs.getD i z_impl_Committee).f1.length : Nat) : Int) + heads (xs.drop (i + 1)) ≤ 9 := by clear hd hb; omega
        refine Ev.bind (impl_Committee_weight.ev _ _ (b / 2 ^ f) (good_mem hgi) (by omega) (by rw [show (2 : Nat) ^ 63 = 9223372036854775808 from rfl]; exact hd)) ?_
        have ef : wrap64 ((f : Int) + ((xs.getD i z_impl_Committee).f1.length : Int)) = ((f + (xs.getD i z_impl_Committee).f1.length : Nat) : Int) := by rw [w64 (by omega) (by omega)]; omega
        have ed : b / 2 ^ f / 2 ^ (xs.getD i z_impl_Committee).f1.length = b / 2 ^ (f + (xs.getD i z_impl_Committee).f1.length) := by rw [Nat.div_div_eq_div_mul, ← Nat.pow_add]
        rw [ed]
        by_cases hwin : wt (xs.getD i z_impl_Committee).f1 (b / 2 ^ f) ≥ (xs.getD i z_impl_Committee).f0
        · simp only [hwin, c3, ↓reduceIte, rd_nat, ef]
          rw [w64 (by omega) (by omega)]
          have h3 := ih (s + l.getD i 0) (f + (xs.getD i z_impl_Committee).f1.length) (by omega) (by omega) hle3
          rw [Int.add_assoc] at h3
          exact h3
        · simp only [hwin, ↓reduceIte, ef, Int.zero_add]
          exact ih s (f + (xs.getD i z_impl_Committee).f1.length) (by omega) (by omega) hle3)
  have := key 0 (Nat.zero_le _) 0 0 (by omega) (by omega) (by rw [List.drop_zero]; omega)
  unfold impl_councilVotes_1.f cow
  rw [List.drop_zero, List.drop_zero, Nat.pow_zero, Nat.div_one, Int.zero_add] at this
  exact this
theorem impl_councilVotes.ev (q : Int) (l : List Int) (xs : List S_impl_Committee) (hl : xs.length = l.length) (hw : ∀ x ∈ l, 0 ≤ x ∧ x ≤ 1000) (hg : xs.all good = true) (h9 : heads xs ≤ 9) (hll : l.length ≤ 9) :
    Ev (fun k => impl_councilVotes.f k q l xs) (heads xs, tab (heads xs).toNat (cow q l xs)) := by
  have hn0 := heads_nn xs
  have key := back (P := fun i => ∀ s : Int, 0 ≤ s → s + heads (xs.drop i) = heads xs → Ev (fun k => impl_councilVotes.l0 k s xs (xs.length : Int) (i : Int) q l xs) (heads xs, tab (heads xs).toNat (cow q l xs))) xs.length
    (by intro s h0 h1
        refine Ev.shift ?_
        have hs : s = heads xs := by simpa [heads] using h1
        obtain ⟨n, hn⟩ : ∃ n : Nat, heads xs = (n : Int) := ⟨(heads xs).toNat, by omega⟩
        simp only [impl_councilVotes.l0, Int.lt_irrefl, ↓reduceIte]
        rw [hs, hn, Int.toNat_natCast]
        refine Ev.bind (impl_votesOf.ev n (by omega) (fun k y => impl_councilVotes_1.f k y xs q l) (cow q l xs) (fun b hb => ?_)) Ev.some
        have hp9 : 2 ^ n ≤ 2 ^ 9 := pow_small (by omega)
        exact impl_councilVotes_1.ev q l xs b hl hw hg h9 hll (by omega))
    (by intro i hi ih s h0 h1
        refine Ev.shift ?_
        have c1 : (i : Int) < (xs.length : Int) := by omega
        have c0 : (0 : Int) ≤ (i : Int) := by omega
        rw [heads_drop xs i hi] at h1
        have hn := heads_nn (xs.drop (i + 1))
        simp only [impl_councilVotes.l0, c1, c0, ↓reduceIte, rd_impl_nat, w1 hi (show xs.length ≤ 9223372036854775807 by omega)]
        rw [w64 (by omega) (by omega)]
        exact ih _ (by omega) (by omega))
  exact key 0 (Nat.zero_le _) 0 (by omega) (by rw [List.drop_zero]; omega)
end Go.Proofs.YtidkafljeldokaaGreat.P

/- Weights of a set, by bits. -/
namespace Go.Proofs.YtidkafljeldokaaGreat.P
open Go.RowKit Go.Proofs.YtidkafljeldokaaGreatW.PrintWords Go.Proofs.YtidkafljeldokaaGreatW.PrintLast Go.Proofs.YtidkafljeldokaaGreatW.PrintMore
theorem spec_voWeight.ev (q : Int) (l : List Int) (b : Nat) (h : ∀ x ∈ l, 0 ≤ x ∧ x ≤ 1000) (hl : l.length ≤ 64) : Ev (fun k => spec_voWeight.f k q l (b : Int)) (wt l b) := by
  have key := back (P := fun i => ∀ s : Int, 0 ≤ s → s ≤ 1000 * i → Ev (fun k => spec_voWeight.l0 k (b : Int) s l (l.length : Int) (i : Int)) (s + wt (l.drop i) (b / 2 ^ i))) l.length
    (by intro s h0 h1
        refine Ev.shift ?_
        simp only [spec_voWeight.l0, Int.lt_irrefl, ↓reduceIte, List.drop_length, wt, Int.add_zero]
        exact Ev.some)
    (by intro i hi ih s h0 h1
        refine Ev.shift ?_
        have c1 : (i : Int) < (l.length : Int) := by omega
        have c0 : (0 : Int) ≤ (i : Int) := by omega
        have hx := h _ (getD_mem l 0 i hi)
        simp only [spec_voWeight.l0, c1, c0, ↓reduceIte, shr_nat b i (by omega), tmod_two, w1 hi (show l.length ≤ 9223372036854775807 by omega), rd_nat]
        rw [drop_getD l 0 i hi, wt, Nat.div_div_eq_div_mul, show (2 ^ i * 2 : Nat) = 2 ^ (i + 1) from rfl]
        by_cases hbit : b / 2 ^ i % 2 = 1
        · have hbit' : ((b / 2 ^ i % 2 : Nat) : Int) = 1 := by omega
          simp only [hbit, hbit', ↓reduceIte]
          rw [w64 (by omega) (by omega)]
          refine Ev.eq (ih _ (by omega) (by omega)) (by omega)
        · have hbit' : ¬ ((b / 2 ^ i % 2 : Nat) : Int) = 1 := by omega
          simp only [hbit, hbit', ↓reduceIte]
          refine Ev.eq (ih _ (by omega) (by omega)) (by omega))
  have := key 0 (Nat.zero_le _) 0 (by omega) (by omega)
  unfold spec_voWeight.f
  rw [List.drop_zero, Nat.pow_zero, Nat.div_one, Int.zero_add] at this
  exact this
end Go.Proofs.YtidkafljeldokaaGreat.P

/- All members, by bits. -/
namespace Go.Proofs.YtidkafljeldokaaGreat.P
open Go.RowKit Go.Proofs.YtidkafljeldokaaGreatW.PrintWords Go.Proofs.YtidkafljeldokaaGreatW.PrintLast Go.Proofs.YtidkafljeldokaaGreatW.PrintMore
theorem spec_voAll.eq (n : Nat) (hn : n < 63) : spec_voAll.f (n : Int) = some ((2 ^ n - 1 : Nat) : Int) := by
  have c0 : (0 : Int) ≤ (n : Int) := by omega
  have h1 := pow63 hn
  have h2 : 0 < 2 ^ n := Nat.two_pow_pos n
  unfold spec_voAll.f
  rw [if_pos c0, shl_one n hn, w64 (by omega) (by omega)]
  congr 1
  omega
end Go.Proofs.YtidkafljeldokaaGreat.P

/- What sets win in a council. -/
namespace Go.Proofs.YtidkafljeldokaaGreat.P
open Go.RowKit Go.Proofs.YtidkafljeldokaaGreatW.PrintWords Go.Proofs.YtidkafljeldokaaGreatW.PrintLast Go.Proofs.YtidkafljeldokaaGreatW.PrintMore
def wonB : List S_impl_Committee → Nat → List Bool
  | [], _ => []
  | c :: xs, b => decide (wt c.f1 b ≥ c.f0) :: wonB xs (b / 2 ^ c.f1.length)
theorem wonB_lt (xs : List S_impl_Committee) (b : Nat) : bmask (wonB xs b) < 2 ^ xs.length := by
  induction xs generalizing b with
  | nil => simp [wonB, bmask]
  | cons c xs ih =>
    have := ih (b / 2 ^ c.f1.length)
    simp only [wonB, bmask, List.length_cons, Nat.pow_succ]
    split <;> omega
theorem wt_won (l : List Int) (xs : List S_impl_Committee) (b : Nat) (h : xs.length = l.length) : wt l (bmask (wonB xs b)) = csum l xs b := by
  induction l generalizing xs b with
  | nil =>
    cases xs <;> rfl
  | cons x l ih =>
    cases xs with
    | nil => simp at h
    | cons c xs =>
      have e1 : bmask (wonB (c :: xs) b) % 2 = if decide (wt c.f1 b ≥ c.f0) = true then 1 else 0 := by
        simp only [wonB, bmask]
        split <;> omega
      have e2 : bmask (wonB (c :: xs) b) / 2 = bmask (wonB xs (b / 2 ^ c.f1.length)) := by
        simp only [wonB, bmask]
        split <;> omega
      rw [wt, csum, e1, e2, ih xs _ (by simpa using h)]
      by_cases hw : wt c.f1 b ≥ c.f0 <;> simp [hw]
theorem w_pow {p2 : Nat} (h : p2 ≤ 512) (h0 : 0 < p2) : wrap64 (((p2 - 1 : Nat) : Int) + 1) = (p2 : Int) := by rw [w64 (by omega) (by omega)]; omega
theorem w_nat {r : Nat} (hr : r < 4611686018427387904) : wrap64 (r : Int) = (r : Int) := by rw [w64 (by omega) (by omega)]
theorem ne0 {p2 : Nat} (h : 0 < p2) : ¬ (p2 : Int) = 0 := by omega
theorem tmod_nat (r p2 : Nat) : Int.tmod (r : Int) (p2 : Int) = ((r % p2 : Nat) : Int) := by rw [Int.tmod_eq_emod_of_nonneg (by omega)]; exact (Int.natCast_emod _ _).symm
theorem tdiv_nat (r p2 : Nat) : Int.tdiv (r : Int) (p2 : Int) = ((r / p2 : Nat) : Int) := by rw [Int.tdiv_eq_ediv_of_nonneg (by omega)]; exact (Int.natCast_ediv _ _).symm
theorem lt_succ {o i : Nat} (h : o < 2 ^ i) : o < 2 ^ (i + 1) := by rw [Nat.pow_succ]; omega
theorem lt_add {o i : Nat} (h : o < 2 ^ i) : o + 2 ^ i < 2 ^ (i + 1) := by rw [Nat.pow_succ]; omega
theorem won_step1 {c p2 o bw : Nat} {B : Bool} (hB : B = true) (hE : o + c * ((if B = true then 1 else 0) + 2 * bw) = p2) : o + c + c * 2 * bw = p2 := by
  rw [← hE, if_pos hB, Nat.mul_add, Nat.mul_one, Nat.mul_assoc, Nat.add_assoc]
theorem won_step0 {c p2 o bw : Nat} {B : Bool} (hB : B = false) (hE : o + c * ((if B = true then 1 else 0) + 2 * bw) = p2) : o + c * 2 * bw = p2 := by
  rw [← hE, hB, if_neg (by decide), Nat.zero_add, Nat.mul_assoc]
theorem pow9 {i : Nat} (h : i ≤ 9) : 2 ^ i ≤ 512 := pow_small (m := 9) h
theorem spec_chCouncil.inner (q : Int) (l : List Int) (xs : List S_impl_Committee) (hl : xs.length = l.length) (hw : ∀ x ∈ l, 0 ≤ x ∧ x ≤ 1000) (hg : xs.all good = true) (hll : l.length ≤ 9)
    (m : Nat) (row : List Bool) (N : Int) (res : List Bool) (hm : m < row.length) (hrow : row.length ≤ 512) (hcont : Ev (fun k => spec_chCouncil.l0 k xs (row.set m (cow q l xs m)) N ((m + 1 : Nat) : Int) q l) res) :
    ∀ i, i ≤ xs.length → ∀ (r o : Nat), r < 4611686018427387904 → o < 2 ^ i → o + 2 ^ i * bmask (wonB (xs.drop i) r) = bmask (wonB xs m) →
          Ev (fun k => spec_chCouncil.l1 k xs row (m : Int) (r : Int) (o : Int) N (m : Int) xs (xs.length : Int) (i : Int) q l) res := by
  have h64 : l.length ≤ 64 := by omega
  have hxl9 : xs.length ≤ 9 := by omega
  have hxlM : xs.length ≤ 9223372036854775807 := by omega
  have hrl : row.length ≤ 9223372036854775807 := by omega
  refine back (P := fun i => ∀ (r o : Nat), r < 4611686018427387904 → o < 2 ^ i → o + 2 ^ i * bmask (wonB (xs.drop i) r) = bmask (wonB xs m) →
          Ev (fun k => spec_chCouncil.l1 k xs row (m : Int) (r : Int) (o : Int) N (m : Int) xs (xs.length : Int) (i : Int) q l) res) xs.length ?_ ?_
  · intro r o hr ho hE
    refine Ev.shift ?_
    rw [List.drop_length] at hE
    simp only [wonB, bmask, Nat.mul_zero, Nat.add_zero] at hE
    have d0 : (0 : Int) ≤ (m : Int) := Int.natCast_nonneg m
    have d1 : (m : Int) < (row.length : Int) := Int.ofNat_lt.2 hm
    simp only [spec_chCouncil.l1, Int.lt_irrefl, ↓reduceIte, d0, d1]
    refine Ev.bind (spec_voWeight.ev q l o hw h64) ?_
    rw [hE, wt_won l xs m hl]
    have ec : decide (csum l xs m ≥ q) = cow q l xs m := rfl
    simp only [ec, Int.toNat_natCast, w1 hm hrl]
    exact hcont
  · intro i hi ihi r o hr ho hE
    refine Ev.shift ?_
    have d0 : (0 : Int) ≤ (i : Int) := Int.natCast_nonneg i
    have d1 : (i : Int) < (xs.length : Int) := Int.ofNat_lt.2 hi
    have hi9 : i ≤ 9 := Nat.le_trans (Nat.le_of_lt hi) hxl9
    have hpi2 := pow9 hi9
    have hgi := all_good hg _ (getD_mem xs z_impl_Committee i hi)
    have hli := good_len hgi
    have hgm := good_mem hgi
    rw [drop_getD xs z_impl_Committee i hi] at hE
    simp only [wonB, bmask] at hE
    have e1 := w1 hi hxlM
    simp only [spec_chCouncil.l1, d0, d1, ↓reduceIte, rd_impl_nat, e1]
    generalize xs.getD i z_impl_Committee = c at hE hli hgm ⊢
    have hl64 : c.f1.length ≤ 64 := Nat.le_trans hli.2 (by decide)
    have hvo := spec_voAll.eq c.f1.length (Nat.lt_of_le_of_lt hli.2 (by decide))
    have hpi := pow9 hli.2
    have hppos := Nat.two_pow_pos c.f1.length
    have hwm := wt_mod c.f1 r c.f1.length (Nat.le_refl _)
    generalize 2 ^ c.f1.length = p2 at hE hvo hpi hppos hwm
    have ea : wrap64 (((p2 - 1 : Nat) : Int) + 1) = (p2 : Int) := w_pow hpi hppos
    have d2 : ¬ (p2 : Int) = 0 := ne0 hppos
    have hrd2 : r / p2 < 4611686018427387904 := Nat.lt_of_le_of_lt (Nat.div_le_self _ _) hr
    refine Ev.bind (Ev.one hvo) ?_
    simp only [ea, d2, ↓reduceIte, tmod_nat r p2, tdiv_nat r p2, w_nat hrd2]
    refine Ev.bind (spec_voWeight.ev _ _ _ hgm hl64) ?_
    rw [hwm]
    have ho63 : o < 2 ^ 63 := Nat.lt_of_lt_of_le ho (Nat.le_trans hpi2 (by decide))
    have hp63 : 2 ^ i < 2 ^ 63 := Nat.lt_of_le_of_lt hpi2 (by decide)
    have hor := or_nat o (2 ^ i) ho63 hp63
    rw [or_add ho] at hor
    have hsh := shl_one i (Nat.lt_of_le_of_lt hi9 (by decide))
    have hlt0 := lt_succ ho
    have hlt1 := lt_add ho
    have hps : 2 ^ (i + 1) = 2 ^ i * 2 := Nat.pow_succ ..
    by_cases hwin : wt c.f1 r ≥ c.f0
    · simp only [hwin, ↓reduceIte, hsh, hor]
      refine ihi _ _ hrd2 hlt1 ?_
      rw [hps]
      exact won_step1 (by simp only [hwin, decide_true]) hE
    · simp only [hwin, ↓reduceIte]
      refine ihi _ _ hrd2 hlt0 ?_
      rw [hps]
      exact won_step0 (by simp only [hwin, decide_false]) hE
theorem w_pow1 {p : Nat} (h : p ≤ 512) (h0 : 0 < p) : wrap64 (((p - 1 : Nat) : Int) + 1) = (p : Int) := w_pow h h0
theorem spec_chCouncil.ev (q : Int) (l : List Int) (xs : List S_impl_Committee) (hl : xs.length = l.length) (hw : ∀ x ∈ l, 0 ≤ x ∧ x ≤ 1000) (hg : xs.all good = true) (h9 : heads xs ≤ 9) (hll : l.length ≤ 9) :
    Ev (fun k => spec_chCouncil.f k q l xs) (tab (heads xs).toNat (cow q l xs)) := by
  have hn0 := heads_nn xs
  have hx : ∀ x ∈ xs, x.f1.length ≤ 9223372036854775807 := fun x h => by have := good_len (all_good hg x h); omega
  unfold spec_chCouncil.f
  refine Ev.bind (spec_chMembers.ev xs (by omega) hx) ?_
  obtain ⟨n, hn⟩ : ∃ n : Nat, heads xs = (n : Int) := ⟨(heads xs).toNat, by omega⟩
  have hn9 : n ≤ 9 := by omega
  have hvo := spec_voAll.eq n (by omega)
  have hp9 := pow9 hn9
  have hpos := Nat.two_pow_pos n
  have tl := tab_len n (cow q l xs)
  have tg := tab_get n (cow q l xs)
  rw [hg, hn]
  simp only [↓reduceIte, Int.toNat_natCast]
  generalize tab n (cow q l xs) = t at tl tg ⊢
  generalize 2 ^ n = p at hvo hp9 hpos tl tg
  have e1 := w_pow1 hp9 hpos
  have c0 : (0 : Int) ≤ (p : Int) := Int.natCast_nonneg p
  have c1 : p ≤ 281474976710656 := by omega
  refine Ev.bind (Ev.one hvo) ?_
  simp only [e1, c0, ↓reduceIte, Int.toNat_natCast, c1]
  refine Ev.bind (Ev.one rfl) ?_
  simp only [List.length_replicate]
  have key := Ev.down (G := fun m k => spec_chCouncil.l0 k xs (filled t false m) (p : Int) (m : Int) q l) (R := fun _ => t) p
    (by refine Ev.shift ?_
        have : filled t false p = t := by rw [← tl]; exact filled_all _ _
        simp only [spec_chCouncil.l0, Int.lt_irrefl, ↓reduceIte, this]
        exact Ev.some)
    (fun m hm ih => by
      have hfl := filled_len t false m (by omega)
      have hs := filled_set t false false m (by omega)
      rw [tg m hm] at hs
      rw [← hs] at ih
      refine Ev.shift ?_
      have d1 : (m : Int) < (p : Int) := Int.ofNat_lt.2 hm
      simp only [spec_chCouncil.l0, d1, ↓reduceIte]
      exact spec_chCouncil.inner q l xs hl hw hg hll m (filled t false m) (p : Int) t (by omega) (by omega) ih 0 (Nat.zero_le _) m 0 (by omega) (by omega) (by rw [List.drop_zero, Nat.pow_zero, Nat.one_mul, Nat.zero_add]))
  have := key 0 (Nat.zero_le _)
  rw [filled_zero, tl] at this
  exact this
end Go.Proofs.YtidkafljeldokaaGreat.P

/- Councils. -/
namespace Go.Proofs.YtidkafljeldokaaGreat.P
open Go.RowKit Go.Proofs.YtidkafljeldokaaGreatW.PrintWords Go.Proofs.YtidkafljeldokaaGreatW.PrintLast Go.Proofs.YtidkafljeldokaaGreatW.PrintMore
def areCouncil (q : Int) (l : List Int) (xs : List S_impl_Committee) : Bool := isComm q l && decide (xs.length = l.length) && xs.all good && decide (heads xs ≤ 9)
theorem spec_AreCouncil.ev (q : Int) (l : List Int) (xs : List S_impl_Committee) (hl : l.length ≤ 9223372036854775807) (hl' : xs.length ≤ 1048576) (hx : ∀ x ∈ xs, x.f1.length ≤ 9223372036854775807) :
    Ev (fun k => spec_AreCouncil.f k q l xs) (areCouncil q l xs) := by
  unfold spec_AreCouncil.f areCouncil
  refine Ev.bind (spec_voGood.ev q l hl) ?_
  cases h : isComm q l with
  | false => simp only [Bool.false_eq_true, ↓reduceIte, Bool.false_and]; exact Ev.some
  | true =>
    have hlen := isComm_len h
    by_cases he : xs.length = l.length
    · have he' : (xs.length : Int) = (l.length : Int) := by omega
      simp only [he', ↓reduceIte]
      refine Ev.bind (spec_chMembers.ev xs hl' hx) ?_
      simp only [spec_l1In.eq, Option.bind_some]
      refine Ev.eq Ev.some ?_
      cases hg : xs.all good with
      | true =>
        have hb := heads_bounds xs hg
        simp only [↓reduceIte, inI, he, decide_true, Bool.true_and]
        have : (1 : Int) ≤ heads xs := by omega
        simp only [this, decide_true, Bool.true_and]
      | false => simp [inI]
    · have he' : ¬ (xs.length : Int) = (l.length : Int) := by omega
      simp only [he', he, ↓reduceIte, decide_false, Bool.and_false, Bool.false_and]
      exact Ev.some
theorem impl_AreCouncil.ev (q : Int) (l : List Int) (xs : List S_impl_Committee) (hl : l.length ≤ 9223372036854775807) (hl' : xs.length ≤ 1048576) (hx : ∀ x ∈ xs, x.f1.length ≤ 9223372036854775807) :
    Ev (fun k => impl_AreCouncil.f k q l xs) (areCouncil q l xs) := by
  have key := back (P := fun i => ∀ a : Int, 0 ≤ a → a ≤ 9 * i → Ev (fun k => impl_AreCouncil.l0 k a xs (xs.length : Int) (i : Int)) ((xs.drop i).all good && decide (a + heads (xs.drop i) ≤ 9))) xs.length
    (by intro a h0 h1
        refine Ev.shift ?_
        simp only [impl_AreCouncil.l0, Int.lt_irrefl, ↓reduceIte, List.drop_length, List.all_nil, heads, List.map_nil, List.sum_nil, Int.add_zero, Bool.true_and]
        exact Ev.some)
    (by intro i hi ih a h0 h1
        refine Ev.shift ?_
        have c1 : (i : Int) < (xs.length : Int) := by omega
        have c0 : (0 : Int) ≤ (i : Int) := by omega
        simp only [impl_AreCouncil.l0, c1, c0, ↓reduceIte, rd_impl_nat]
        rw [drop_getD xs z_impl_Committee i hi, List.all_cons, heads_cons]
        generalize he : xs.getD i z_impl_Committee = x
        have hxl := hx x (he ▸ getD_mem xs z_impl_Committee i hi)
        refine Ev.bind (impl_IsCommittee.ev _ _ hxl) ?_
        cases hg : good x with
        | true =>
          have hg' : isComm x.f0 x.f1 = true := hg
          have hlen := good_len hg
          simp only [hg', ↓reduceIte, Bool.true_and, w1 hi (show xs.length ≤ 9223372036854775807 by omega)]
          rw [w64 (by omega) (by omega)]
          refine Ev.eq (ih (a + x.f1.length) (by omega) (by omega)) ?_
          rw [show a + (x.f1.length + heads (xs.drop (i + 1))) = a + x.f1.length + heads (xs.drop (i + 1)) by omega]
        | false =>
          have hg' : isComm x.f0 x.f1 = false := hg
          simp only [hg', Bool.false_eq_true, ↓reduceIte, Bool.false_and]
          exact Ev.some)
  have k0 := key 0 (Nat.zero_le _) 0 (by omega) (by omega)
  rw [List.drop_zero, Int.zero_add] at k0
  unfold impl_AreCouncil.f areCouncil
  refine Ev.bind (impl_IsCommittee.ev q l hl) ?_
  cases h : isComm q l with
  | false =>
    simp only [Bool.false_eq_true, ↓reduceIte, Bool.false_and]
    refine Ev.shift ?_
    simp only [impl_AreCouncil.j0, ↓reduceIte]
    exact Ev.some
  | true =>
    simp only [↓reduceIte, Bool.true_and]
    refine Ev.shift ?_
    by_cases he : xs.length = l.length
    · simp only [impl_AreCouncil.j0, he, bne_self_eq_false, decide_true, Bool.false_eq_true, ↓reduceIte, Bool.true_and]
      rw [← he]
      exact k0
    · have he' : ((xs.length : Int) != (l.length : Int)) = true := by simp; omega
      simp only [impl_AreCouncil.j0, he', he, decide_false, ↓reduceIte, Bool.false_and]
      exact Ev.some
theorem areCouncil_at {q : Int} {l : List Int} {xs : List S_impl_Committee} (h : areCouncil q l xs = true) : isComm q l = true ∧ xs.length = l.length ∧ xs.all good = true ∧ heads xs ≤ 9 := by
  simp only [areCouncil, Bool.and_eq_true, decide_eq_true_eq] at h
  exact ⟨h.1.1.1, h.1.1.2, h.1.2, h.2⟩
end Go.Proofs.YtidkafljeldokaaGreat.P

/- Weights of sets with one more member, and of all. -/
namespace Go.Proofs.YtidkafljeldokaaGreat.P
open Go.RowKit Go.Proofs.YtidkafljeldokaaGreatW.PrintWords Go.Proofs.YtidkafljeldokaaGreatW.PrintLast Go.Proofs.YtidkafljeldokaaGreatW.PrintMore
theorem wt_nil0 (l : List Int) : wt l 0 = 0 := by
  induction l with
  | nil => rfl
  | cons x l ih => rw [wt, Nat.zero_div, ih]; rfl
theorem wt_with (l : List Int) (m k : Nat) (hk : k < l.length) (hb : m.testBit k = false) : wt l (m + 2 ^ k) = wt l m + l.getD k 0 := by
  induction l generalizing m k with
  | nil => simp at hk
  | cons x l ih =>
    cases k with
    | zero =>
      have h2 : m % 2 = 0 := by
        rw [bit_nat, Nat.pow_zero, Nat.div_one, decide_eq_false_iff_not] at hb
        omega
      have e1 : (m + 2 ^ 0) % 2 = 1 := by rw [Nat.pow_zero]; omega
      have e2 : (m + 2 ^ 0) / 2 = m / 2 := by rw [Nat.pow_zero]; omega
      rw [wt, wt, e1, e2, if_pos rfl, if_neg (by omega)]
      simp only [List.getD_cons_zero]
      omega
    | succ k =>
      have e1 : (m + 2 ^ (k + 1)) % 2 = m % 2 := by rw [Nat.pow_succ]; omega
      have e2 : (m + 2 ^ (k + 1)) / 2 = m / 2 + 2 ^ k := by rw [Nat.pow_succ]; omega
      have hb2 : (m / 2).testBit k = false := by rw [Nat.testBit_succ] at hb; exact hb
      rw [wt, wt, e1, e2, ih (m / 2) k (by simpa using hk) hb2, List.getD_cons_succ]
      omega
theorem wt_full (l : List Int) : wt l (2 ^ l.length - 1) = l.sum := by
  induction l with
  | nil => rfl
  | cons x l ih =>
    have hp := Nat.two_pow_pos l.length
    have e1 : (2 ^ (l.length + 1) - 1) % 2 = 1 := by rw [Nat.pow_succ]; omega
    have e2 : (2 ^ (l.length + 1) - 1) / 2 = 2 ^ l.length - 1 := by rw [Nat.pow_succ]; omega
    rw [List.length_cons, wt, e1, e2, ih, if_pos rfl, List.sum_cons]
end Go.Proofs.YtidkafljeldokaaGreat.P

/- Sets of which none holds another: of nine members there are at most 126. No program in sight. -/
namespace Go.Proofs.YtidkafljeldokaaGreat.P
end Go.Proofs.YtidkafljeldokaaGreat.P

/- How two numbers compare. -/
namespace Go.Proofs.YtidkafljeldokaaGreat.P
open Go.RowKit Go.Proofs.YtidkafljeldokaaGreatW.PrintWords Go.Proofs.YtidkafljeldokaaGreatW.PrintLast Go.Proofs.YtidkafljeldokaaGreatW.PrintMore
theorem cmp_Compare_int.eq (x y : Int) : cmp_Compare_int.f x y = some (cmpI x y) := by
  have e : ∀ z, cmp_isNaN_int.f z = some false := fun z => by simp [cmp_isNaN_int.f]
  unfold cmp_Compare_int.f cmpI
  rw [e, e]
  simp only [Option.bind_some, Bool.false_eq_true, ↓reduceIte]
  split
  · rfl
  · split <;> rfl
end Go.Proofs.YtidkafljeldokaaGreat.P

/- Lists in order. -/
namespace Go.Proofs.YtidkafljeldokaaGreat.P
open Go.RowKit Go.Proofs.YtidkafljeldokaaGreatW.PrintWords Go.Proofs.YtidkafljeldokaaGreatW.PrintLast Go.Proofs.YtidkafljeldokaaGreatW.PrintMore
theorem lexc_drop (a b : List Int) (i : Nat) (h : i < a.length) : lexc (a.drop i) (b.drop i) = if i < b.length then (if cmpI (a.getD i 0) (b.getD i 0) = 0 then lexc (a.drop (i + 1)) (b.drop (i + 1)) else cmpI (a.getD i 0) (b.getD i 0)) else 1 := by
  rw [drop_getD a 0 i h]
  by_cases hb : i < b.length
  · rw [if_pos hb, drop_getD b 0 i hb, lexc]
  · rw [if_neg hb, List.drop_eq_nil_of_le (show b.length ≤ i by omega), lexc]
theorem slices_Compare_int_int.ev (a b : List Int) (ha : a.length ≤ 9223372036854775807) : Ev (fun k => slices_Compare_int_int.f k a b) (lexc a b) := by
  unfold slices_Compare_int_int.f
  have key := Ev.down (G := fun i k => slices_Compare_int_int.l0 k a b a (a.length : Int) (i : Int)) (R := fun i => lexc (a.drop i) (b.drop i)) a.length
    (by refine Ev.shift ?_
        simp only [slices_Compare_int_int.l0, Int.lt_irrefl, ↓reduceIte, List.drop_length]
        by_cases h : (a.length : Int) < (b.length : Int)
        · simp only [h, ↓reduceIte]
          refine Ev.eq Ev.some ?_
          rw [drop_getD b 0 a.length (by omega)]
          rfl
        · simp only [h, ↓reduceIte]
          refine Ev.eq Ev.some ?_
          rw [List.drop_eq_nil_of_le (show b.length ≤ a.length by omega)]
          rfl)
    (fun i hi ih => by
        refine Ev.shift ?_
        have c1 : (i : Int) < (a.length : Int) := by omega
        have c0 : (0 : Int) ≤ (i : Int) := by omega
        rw [lexc_drop a b i hi]
        simp only [slices_Compare_int_int.l0, c1, c0, ↓reduceIte]
        by_cases hb : i < b.length
        · have c2 : ¬ (i : Int) ≥ (b.length : Int) := by omega
          have c3 : (i : Int) < (b.length : Int) := by omega
          simp only [c2, c3, hb, ↓reduceIte, rd_nat]
          refine Ev.bind (Ev.one (cmp_Compare_int.eq _ _)) ?_
          by_cases hc : cmpI (a.getD i 0) (b.getD i 0) = 0
          · simp only [hc, ↓reduceIte, w1 hi ha]
            exact ih
          · simp only [hc, ↓reduceIte]
            exact Ev.some
        · have c2 : (i : Int) ≥ (b.length : Int) := by omega
          simp only [c2, hb, ↓reduceIte]
          exact Ev.some)
  exact key 0 (Nat.zero_le _)
theorem spec_voBefore.ev (a b : List Int) (ha : a.length ≤ 9223372036854775807) : Ev (fun k => spec_voBefore.f k a b) (decide (lexc a b < 0)) := by
  unfold spec_voBefore.f
  have fin : ∀ i, i ≤ a.length → (¬ i < a.length ∨ ¬ i < b.length) → i ≤ b.length → Ev (fun k => spec_voBefore.j1 k a b (i : Int) false) (decide (lexc (a.drop i) (b.drop i) < 0)) := by
    intro i h1 h2 h3
    refine Ev.shift ?_
    simp only [spec_voBefore.j1, Bool.false_eq_true, ↓reduceIte]
    refine Ev.eq Ev.some ?_
    rw [decide_eq_decide]
    by_cases hb : i < b.length
    · have ea : i = a.length := by omega
      rw [ea, List.drop_length, drop_getD b 0 a.length (by omega), lexc]
      omega
    · rw [List.drop_eq_nil_of_le (show b.length ≤ i by omega)]
      by_cases hai : i < a.length
      · rw [drop_getD a 0 i hai, lexc]; omega
      · rw [List.drop_eq_nil_of_le (show a.length ≤ i by omega), lexc]; omega
  have key := back (P := fun i => i ≤ b.length → Ev (fun k => spec_voBefore.l0 k a b (i : Int)) (decide (lexc (a.drop i) (b.drop i) < 0))) a.length
    (by intro h3
        refine Ev.shift ?_
        simp only [spec_voBefore.l0, Int.lt_irrefl, ↓reduceIte]
        exact fin a.length (Nat.le_refl _) (.inl (by omega)) h3)
    (by intro i hi ih h3
        refine Ev.shift ?_
        have c1 : (i : Int) < (a.length : Int) := by omega
        have c0 : (0 : Int) ≤ (i : Int) := by omega
        simp only [spec_voBefore.l0, c1, ↓reduceIte]
        by_cases hb : i < b.length
        · have c2 : (i : Int) < (b.length : Int) := by omega
          simp only [c2, decide_true]
          refine Ev.shift ?_
          rw [lexc_drop a b i hi, if_pos hb]
          simp only [spec_voBefore.j1, ↓reduceIte, c0, c1, c2, rd_nat, w1 hi ha]
          by_cases he : a.getD i 0 = b.getD i 0
          · have hc : cmpI (b.getD i 0) (b.getD i 0) = 0 := by simp [cmpI]
            simp only [he, ↓reduceIte, hc]
            exact ih (by omega)
          · have hc : ¬ cmpI (a.getD i 0) (b.getD i 0) = 0 := by unfold cmpI; split; omega; split <;> omega
            simp only [he, ↓reduceIte, hc]
            refine Ev.eq Ev.some ?_
            rw [decide_eq_decide]
            unfold cmpI
            split
            · omega
            · split <;> omega
        · have c2 : ¬ (i : Int) < (b.length : Int) := by omega
          simp only [c2, decide_false]
          exact fin i (by omega) (.inr hb) h3)
  exact key 0 (Nat.zero_le _) (Nat.zero_le _)
end Go.Proofs.YtidkafljeldokaaGreat.P

/- Sets. -/
namespace Go.Proofs.YtidkafljeldokaaGreat.P
open Go.RowKit Go.Proofs.YtidkafljeldokaaGreatW.PrintWords Go.Proofs.YtidkafljeldokaaGreatW.PrintLast Go.Proofs.YtidkafljeldokaaGreatW.PrintMore
theorem impl_isIncreasing.ev (l : List Int) (hl : l.length ≤ 9223372036854775807) : Ev (fun k => impl_isIncreasing.f k l) (allF (incr l) l.length 0) := by
  have key := Ev.down (G := fun i k => impl_isIncreasing.l0 k l (l.length : Int) (i : Int)) (R := fun i => allF (incr l) l.length i) l.length
    (by refine Ev.shift ?_
        simp only [impl_isIncreasing.l0, Int.lt_irrefl, ↓reduceIte, allF_end]
        exact Ev.some)
    (fun i hi ih => by
        refine Ev.shift ?_
        have c1 : (i : Int) < (l.length : Int) := by omega
        have c0 : (0 : Int) ≤ (i : Int) := by omega
        rw [allF_step _ _ _ hi]
        simp only [impl_isIncreasing.l0, c1, c0, ↓reduceIte, w1 hi hl]
        by_cases h0 : i = 0
        · subst h0
          simp only [show ¬ ((0 : Nat) : Int) > 0 by omega, ↓reduceIte, incr, beq_self_eq_true, Bool.true_or, Bool.true_and]
          exact ih
        · have c2 : (i : Int) > 0 := by omega
          have e : wrap64 ((i : Int) - 1) = ((i - 1 : Nat) : Int) := by rw [w64 (by omega) (by omega)]; omega
          have c3 : (0 : Int) ≤ ((i - 1 : Nat) : Int) := by omega
          have c4 : ((i - 1 : Nat) : Int) < (l.length : Int) := by omega
          have hb : (i == 0) = false := by simp [h0]
          simp only [c2, ↓reduceIte, e, c3, c4, rd_nat, incr, hb, Bool.false_or]
          by_cases h1 : l.getD (i - 1) 0 < l.getD i 0
          · have h2 : ¬ l.getD i 0 ≤ l.getD (i - 1) 0 := by omega
            simp only [h1, h2, ↓reduceIte, decide_true, Bool.true_and]
            exact ih
          · have h2 : l.getD i 0 ≤ l.getD (i - 1) 0 := by omega
            simp only [h1, h2, ↓reduceIte, decide_false, Bool.false_and]
            exact Ev.some)
  exact key 0 (Nat.zero_le _)
theorem impl_isSet.ev (l : List Int) (n : Int) (hl : l.length ≤ 9223372036854775807) (h0 : -9000 ≤ n) (h1 : n ≤ 9223372036854775807) : Ev (fun k => impl_isSet.f k l n) (isSetN l n) := by
  unfold impl_isSet.f isSetN
  rw [w64 (by omega) (by omega)]
  refine Ev.bind (impl_areIn.ev l 0 (n - 1) hl) ?_
  cases l.all (inI 0 (n - 1)) with
  | false => exact Ev.some
  | true =>
    simp only [↓reduceIte, Bool.true_and]
    exact Ev.bind (impl_isIncreasing.ev l hl) Ev.some
end Go.Proofs.YtidkafljeldokaaGreat.P

/- Sets. -/
namespace Go.Proofs.YtidkafljeldokaaGreat.P
open Go.RowKit Go.Proofs.YtidkafljeldokaaGreatW.PrintWords Go.Proofs.YtidkafljeldokaaGreatW.PrintLast Go.Proofs.YtidkafljeldokaaGreatW.PrintMore
theorem spec_voSet.ev (l : List Int) (n : Int) (hl : l.length ≤ 9223372036854775807) (h0 : -9000 ≤ n) (h1 : n ≤ 9223372036854775807) : Ev (fun k => spec_voSet.f k n l) (isSetN l n) := by
  unfold spec_voSet.f isSetN
  rw [w64 (by omega) (by omega)]
  refine Ev.bind (a := l.all (inI 0 (n - 1)) && allF (incr l) l.length 0) ?_ Ev.some
  have e : (l.all (inI 0 (n - 1)) && allF (incr l) l.length 0) = allF (fun j => inI 0 (n - 1) (l.getD j 0) && incr l j) l.length 0 := by
    rw [allF_and, allF_drop (inI 0 (n - 1)) l 0 0 (Nat.zero_le _), List.drop_zero]
  rw [e]
  have key := Ev.down (G := fun i k => spec_l1Rising.l0 k l 0 (n - 1) l (l.length : Int) (i : Int)) (R := fun i => allF (fun j => inI 0 (n - 1) (l.getD j 0) && incr l j) l.length i) l.length
    (by refine Ev.shift ?_
        simp only [spec_l1Rising.l0, Int.lt_irrefl, ↓reduceIte, allF_end]
        exact Ev.some)
    (fun i hi ih => by
        refine Ev.shift ?_
        have c1 : (i : Int) < (l.length : Int) := by omega
        have c0 : (0 : Int) ≤ (i : Int) := by omega
        rw [allF_step _ _ _ hi]
        simp only [spec_l1Rising.l0, c1, c0, ↓reduceIte, w1 hi hl, spec_l1In.eq, Option.bind_some, rd_nat]
        cases inI 0 (n - 1) (l.getD i 0) with
        | false => simp only [Bool.false_eq_true, ↓reduceIte, Bool.false_and]; exact Ev.some
        | true =>
          simp only [↓reduceIte, Bool.true_and]
          by_cases h0 : i = 0
          · subst h0
            simp only [show ¬ ((0 : Nat) : Int) > 0 by omega, ↓reduceIte, incr, beq_self_eq_true, Bool.true_or, Bool.true_and]
            exact ih
          · have c2 : (i : Int) > 0 := by omega
            have e : wrap64 ((i : Int) - 1) = ((i - 1 : Nat) : Int) := by rw [w64 (by omega) (by omega)]; omega
            have c3 : (0 : Int) ≤ ((i - 1 : Nat) : Int) := by omega
            have c4 : ((i - 1 : Nat) : Int) < (l.length : Int) := by omega
            have hb : (i == 0) = false := by simp [h0]
            simp only [c2, ↓reduceIte, e, c3, c4, rd_nat, incr, hb, Bool.false_or]
            by_cases h1 : l.getD (i - 1) 0 < l.getD i 0
            · have h2 : ¬ l.getD (i - 1) 0 ≥ l.getD i 0 := by omega
              simp only [h1, h2, ↓reduceIte, decide_true, Bool.true_and]
              exact ih
            · have h2 : l.getD (i - 1) 0 ≥ l.getD i 0 := by omega
              simp only [h1, h2, ↓reduceIte, decide_false, Bool.false_and]
              exact Ev.some)
  exact key 0 (Nat.zero_le _)
end Go.Proofs.YtidkafljeldokaaGreat.P

/- A set as bits. -/
namespace Go.Proofs.YtidkafljeldokaaGreat.P
open Go.RowKit Go.Proofs.YtidkafljeldokaaGreatW.PrintWords Go.Proofs.YtidkafljeldokaaGreatW.PrintLast Go.Proofs.YtidkafljeldokaaGreatW.PrintMore
theorem impl_maskOf.ev (l : List Int) (hl : l.length ≤ 1048576) (h : ∀ x ∈ l, 0 ≤ x ∧ x < 62) : Ev (fun k => impl_maskOf.f k l) (bitsOf l : Int) := by
  have key := Ev.down (G := fun i k => impl_maskOf.l0 k (((l.take i).foldl (fun m x => m ||| 2 ^ x.toNat) 0 : Nat) : Int) l (l.length : Int) (i : Int)) (R := fun _ => (bitsOf l : Int)) l.length
    (by refine Ev.shift ?_
        simp only [impl_maskOf.l0, Int.lt_irrefl, ↓reduceIte, List.take_length]
        exact Ev.some)
    (fun i hi ih => by
        refine Ev.shift ?_
        have c1 : (i : Int) < (l.length : Int) := by omega
        have c0 : (0 : Int) ≤ (i : Int) := by omega
        have hx := h _ (getD_mem l 0 i hi)
        have hm : (l.take i).foldl (fun m x => m ||| 2 ^ x.toNat) 0 < 2 ^ 62 := bitsOf_lt _ 62 (fun y hy => h y (List.mem_of_mem_take hy)) 0 (by decide)
        rw [foldl_take _ _ l 0 i hi] at ih
        simp only [impl_maskOf.l0, c1, c0, ↓reduceIte, w1 hi (show l.length ≤ 9223372036854775807 by omega), rd_nat, hx.1]
        obtain ⟨j, hj⟩ : ∃ j : Nat, l.getD i 0 = (j : Int) := ⟨(l.getD i 0).toNat, by omega⟩
        rw [hj] at ih hx ⊢
        have hp : 2 ^ j < 2 ^ 63 := Nat.pow_lt_pow_right (by omega) (by omega)
        rw [shl_one j (by omega), or_nat _ _ (Nat.lt_of_lt_of_le hm (by decide)) hp]
        exact ih)
  exact key 0 (Nat.zero_le _)
end Go.Proofs.YtidkafljeldokaaGreat.P

/- A set as bits. -/
namespace Go.Proofs.YtidkafljeldokaaGreat.P
open Go.RowKit Go.Proofs.YtidkafljeldokaaGreatW.PrintWords Go.Proofs.YtidkafljeldokaaGreatW.PrintLast Go.Proofs.YtidkafljeldokaaGreatW.PrintMore
theorem spec_voBits.ev (l : List Int) (hl : l.length ≤ 1048576) (h : ∀ x ∈ l, 0 ≤ x ∧ x < 62) : Ev (fun k => spec_voBits.f k l) (bitsOf l : Int) := by
  have key := Ev.down (G := fun i k => spec_voBits.l0 k (((l.take i).foldl (fun m x => m ||| 2 ^ x.toNat) 0 : Nat) : Int) l (l.length : Int) (i : Int)) (R := fun _ => (bitsOf l : Int)) l.length
    (by refine Ev.shift ?_
        simp only [spec_voBits.l0, Int.lt_irrefl, ↓reduceIte, List.take_length]
        exact Ev.some)
    (fun i hi ih => by
        refine Ev.shift ?_
        have c1 : (i : Int) < (l.length : Int) := by omega
        have c0 : (0 : Int) ≤ (i : Int) := by omega
        have hx := h _ (getD_mem l 0 i hi)
        have hm : (l.take i).foldl (fun m x => m ||| 2 ^ x.toNat) 0 < 2 ^ 62 := bitsOf_lt _ 62 (fun y hy => h y (List.mem_of_mem_take hy)) 0 (by decide)
        rw [foldl_take _ _ l 0 i hi] at ih
        simp only [spec_voBits.l0, c1, c0, ↓reduceIte, w1 hi (show l.length ≤ 9223372036854775807 by omega), rd_nat, hx.1]
        obtain ⟨j, hj⟩ : ∃ j : Nat, l.getD i 0 = (j : Int) := ⟨(l.getD i 0).toNat, by omega⟩
        rw [hj] at ih hx ⊢
        have hp : 2 ^ j < 2 ^ 63 := Nat.pow_lt_pow_right (by omega) (by omega)
        rw [shl_one j (by omega), or_nat _ _ (Nat.lt_of_lt_of_le hm (by decide)) hp]
        exact ih)
  exact key 0 (Nat.zero_le _)
end Go.Proofs.YtidkafljeldokaaGreat.P

/- Plain laws of the printed functions on lists of lists of numbers. -/
namespace Go.Proofs.YtidkafljeldokaaGreat.P
open Go.RowKit Go.Proofs.YtidkafljeldokaaGreatW.PrintWords Go.Proofs.YtidkafljeldokaaGreatW.PrintLast Go.Proofs.YtidkafljeldokaaGreatW.PrintMore
theorem rd_LI_nat (l : List (List Int)) (i : Nat) : rd_LI l (i : Int) = l.getD i [] := by simp [rd_LI]
end Go.Proofs.YtidkafljeldokaaGreat.P

/- Games. -/
namespace Go.Proofs.YtidkafljeldokaaGreat.P
open Go.RowKit Go.Proofs.YtidkafljeldokaaGreatW.PrintWords Go.Proofs.YtidkafljeldokaaGreatW.PrintLast Go.Proofs.YtidkafljeldokaaGreatW.PrintMore
def setG (n : Int) (s : List Int) : Bool := decide (s ≠ []) && isSetN s n
def risesAt (ws : List (List Int)) (i : Nat) : Bool := i == 0 || decide (lexc (ws.getD (i - 1) []) (ws.getD i []) < 0)
def mk (ws : List (List Int)) (i : Nat) : Nat := bitsOf (ws.getD i [])
def apartB (a b : Nat) : Bool := !decide (a &&& b = a) && !decide (a &&& b = b)
def freeAt (ws : List (List Int)) (i : Nat) : Bool := allF (fun k => apartB (mk ws i) (mk ws k)) i 0
def isGame (n : Int) (ws : List (List Int)) : Bool := inI 1 9 n && decide (ws ≠ []) && ws.all (setG n) && allF (fun i => risesAt ws i && freeAt ws i) ws.length 0
theorem isGame_at {n : Int} {ws : List (List Int)} (h : isGame n ws = true) : ∃ m : Nat, n = (m : Int) ∧ 1 ≤ m ∧ m ≤ 9 ∧ 0 < ws.length ∧ (∀ s ∈ ws, s ≠ [] ∧ isSetN s n = true) ∧ ∀ i, i < ws.length → risesAt ws i = true ∧ freeAt ws i = true := by
  simp only [isGame, inI, setG, Bool.and_eq_true, decide_eq_true_eq, List.all_eq_true, allF_iff] at h
  obtain ⟨⟨⟨⟨h1, h2⟩, h3⟩, h4⟩, h5⟩ := h
  exact ⟨n.toNat, by omega, by omega, by omega, List.length_pos_iff.2 h3, h4, h5⟩
theorem setG_mask {m : Nat} {s : List Int} (h : isSetN s m = true) : bitsOf s < 2 ^ m := bitsOf_lt s m (fun x hx => isSetN_mem h x hx) 0 (Nat.two_pow_pos m)
theorem set62' {s : List Int} {n : Int} (hn : n ≤ 9) (h : isSetN s n = true) : ∀ x ∈ s, 0 ≤ x ∧ x < 62 := fun x hx => by have := isSetN_mem h x hx; omega
theorem slices_IndexFunc_LLint_int.ev (l : List (List Int)) (hm : l.length ≤ 9223372036854775807) (p : Nat → List Int → Option Bool) (P : List Int → Bool) (h : ∀ x ∈ l, Ev (fun k => p k x) (P x)) : Ev (fun k => slices_IndexFunc_LLint_int.f k l (p k)) (idxFrom P 0 l) := by
  refine Ev.ask (F := fun k q => slices_IndexFunc_LLint_int.f k l q) l h ⟨l.length + 1, fun k hk q hq => ?_⟩
  unfold slices_IndexFunc_LLint_int.f
  have := downq (G := fun i k => slices_IndexFunc_LLint_int.l0 k l q (l.length : Int) (i : Int)) (R := fun i => idxFrom P i (l.drop i)) l.length
    (by intro k; simp only [slices_IndexFunc_LLint_int.l0, Int.lt_irrefl, ↓reduceIte, List.drop_length, idxFrom])
    (fun i hi k ih => by
      have c1 : (i : Int) < (l.length : Int) := by omega
      have c0 : (0 : Int) ≤ (i : Int) := by omega
      simp only [slices_IndexFunc_LLint_int.l0, c1, c0, ↓reduceIte, w1 hi hm, rd_LI_nat, hq _ (getD_mem l [] i hi), Option.bind_some]
      rw [drop_getD l [] i hi, idxFrom, ih]
      split <;> rfl) 0 (Nat.zero_le _) k (by omega)
  rwa [List.drop_zero] at this
theorem slices_ContainsFunc_LLint_int.ev (l : List (List Int)) (hm : l.length ≤ 9223372036854775807) (p : Nat → List Int → Option Bool) (P : List Int → Bool) (h : ∀ x ∈ l, Ev (fun k => p k x) (P x)) : Ev (fun k => slices_ContainsFunc_LLint_int.f k l (p k)) (l.any P) := by
  unfold slices_ContainsFunc_LLint_int.f
  refine Ev.bind (slices_IndexFunc_LLint_int.ev l hm p P h) ?_
  rw [idxFrom_nn]
  exact Ev.some
theorem len_ne {s : List Int} : ((s.length : Int) = 0) = (s = []) := by
  rw [eq_iff_iff]
  constructor
  · intro h; exact List.length_eq_zero_iff.1 (by omega)
  · rintro rfl; rfl
theorem impl_areSets.ev (ws : List (List Int)) (n : Int) (hl : ws.length ≤ 9223372036854775807) (hx : ∀ s ∈ ws, s.length ≤ 9223372036854775807) (h0 : 1 ≤ n) (h1 : n ≤ 9) : Ev (fun k => impl_areSets.f k ws n) (ws.all (setG n)) := by
  unfold impl_areSets.f
  refine Ev.bind (slices_ContainsFunc_LLint_int.ev ws hl (fun k y => impl_areSets_1.f k y n) (fun s => !setG n s) (fun s hs => ?_)) ?_
  · unfold impl_areSets_1.f setG
    simp only [len_ne]
    by_cases he : s = []
    · subst he; exact Ev.eq Ev.some rfl
    · simp only [he, ↓reduceIte, ne_eq, not_false_eq_true, decide_true, Bool.true_and]
      exact Ev.bind (impl_isSet.ev s n (hx s hs) (by omega) (by omega)) Ev.some
  · rw [all_any]; exact Ev.some
theorem holds_iff (ws : List (List Int)) : (allF (fun i => risesAt ws i && allF (fun k => k == i || !decide (mk ws i &&& mk ws k = mk ws k)) ws.length 0) ws.length 0) = allF (fun i => risesAt ws i && freeAt ws i) ws.length 0 := by
  rw [Bool.eq_iff_iff, allF_iff, allF_iff]
  simp only [Bool.and_eq_true, freeAt, allF_iff, apartB, Bool.or_eq_true, beq_iff_eq, Bool.not_eq_true', decide_eq_false_iff_not]
  constructor
  · intro h i hi
    refine ⟨(h i hi).1, fun k hk => ⟨?_, ?_⟩⟩
    · have := (h k (by omega)).2 i hi
      rcases this with e | e
      · omega
      · rwa [Nat.and_comm] at e
    · rcases (h i hi).2 k (by omega) with e | e
      · omega
      · exact e
  · intro h i hi
    refine ⟨(h i hi).1, fun k hk => ?_⟩
    rcases Nat.lt_trichotomy k i with hlt | rfl | hgt
    · exact .inr ((h i hi).2 k hlt).2
    · exact .inl rfl
    · right
      have := ((h k hk).2 i hgt).1
      rwa [Nat.and_comm]
theorem pred_nat {i : Nat} (h : 0 < i) (hi : i ≤ 9223372036854775807) : wrap64 ((i : Int) - 1) = ((i - 1 : Nat) : Int) := by rw [w64 (by omega) (by omega)]; omega
theorem and_eqB (a b : Nat) (ha : a < 2 ^ 9) (hb : b < 2 ^ 9) : Go.bits .and .i64 (a : Int) (b : Int) = ((a &&& b : Nat) : Int) := and_nat a b (Nat.lt_of_lt_of_le ha (by decide)) (Nat.lt_of_lt_of_le hb (by decide))
theorem cast_eqN {a b : Nat} : ((a : Int) = (b : Int)) = (a = b) := by rw [eq_iff_iff]; exact Int.ofNat_inj
theorem impl_IsGame.ev (n : Int) (ws : List (List Int)) (hl : ws.length ≤ 1048576) (hx : ∀ s ∈ ws, s.length ≤ 1048576) : Ev (fun k => impl_IsGame.f k n ws) (isGame n ws) := by
  have off : Ev (fun k => impl_IsGame.j0 k true n ws) false := by
    refine Ev.shift ?_
    simp only [impl_IsGame.j0, ↓reduceIte]
    exact Ev.some
  unfold impl_IsGame.f isGame
  refine Ev.bind (Ev.one (impl_within.eq n 1 9)) ?_
  cases hn : inI 1 9 n with
  | false => simp only [Bool.false_eq_true, ↓reduceIte, Bool.false_and]; exact off
  | true =>
    have hn' : 1 ≤ n ∧ n ≤ 9 := by simpa only [inI, Bool.and_eq_true, decide_eq_true_eq] using hn
    by_cases he : ws = []
    · subst he; simp only [List.length_nil, Int.natCast_zero, ↓reduceIte, ne_eq, not_true_eq_false, decide_false, Bool.and_false, Bool.false_and]; exact off
    · have c0 : ¬ (ws.length : Int) = 0 := by
        have := List.length_pos_iff.2 he
        omega
      simp only [c0, ↓reduceIte, he, ne_eq, not_false_eq_true, decide_true, Bool.true_and]
      refine Ev.bind (impl_areSets.ev ws n (by omega) (fun s hs => by have := hx s hs; omega) hn'.1 hn'.2) ?_
      cases hs : ws.all (setG n) with
      | false => simp only [Bool.not_false, Bool.false_and]; exact off
      | true =>
        simp only [Bool.not_true, Bool.true_and]
        refine Ev.shift ?_
        simp only [impl_IsGame.j0, Bool.false_eq_true, ↓reduceIte]
        have hset : ∀ i, i < ws.length → isSetN (ws.getD i []) n = true := fun i hi => by
          rw [List.all_eq_true] at hs
          have := hs _ (getD_mem ws [] i hi)
          simp only [setG, Bool.and_eq_true] at this
          exact this.2
        obtain ⟨m, rfl⟩ : ∃ m : Nat, n = (m : Int) := ⟨n.toNat, by omega⟩
        have hb9 : ∀ i, i < ws.length → mk ws i < 2 ^ 9 := fun i hi => Nat.lt_of_lt_of_le (setG_mask (hset i hi)) (pow_small (by omega))
        have hM : ws.length ≤ 9223372036854775807 := by omega
        have hmo : ∀ i, i < ws.length → Ev (fun k => impl_maskOf.f k (ws.getD i [])) ((mk ws i : Nat) : Int) := fun i hi =>
          impl_maskOf.ev _ (hx _ (getD_mem ws [] i hi)) (set62' hn'.2 (hset i hi))
        rw [← holds_iff]
        have key := Ev.down (G := fun i k => impl_IsGame.l0 k ws (ws.length : Int) (i : Int) (m : Int) ws) (R := fun i => allF (fun i => risesAt ws i && allF (fun k => k == i || !decide (mk ws i &&& mk ws k = mk ws k)) ws.length 0) ws.length i) ws.length
          (by refine Ev.shift ?_
              simp only [impl_IsGame.l0, Int.lt_irrefl, ↓reduceIte, allF_end]
              exact Ev.some)
          (fun i hi ih => by
            have inner := Ev.down (G := fun j k => impl_IsGame.l1 k (i : Int) (ws.getD i []) ws (ws.length : Int) (i : Int) ws (ws.length : Int) (j : Int) (m : Int) ws) (R := fun j => allF (fun k => k == i || !decide (mk ws i &&& mk ws k = mk ws k)) ws.length j && allF (fun i => risesAt ws i && allF (fun k => k == i || !decide (mk ws i &&& mk ws k = mk ws k)) ws.length 0) ws.length (i + 1)) ws.length
              (by refine Ev.shift ?_
                  simp only [impl_IsGame.l1, Int.lt_irrefl, ↓reduceIte, allF_end, Bool.true_and, w1 hi hM]
                  exact ih)
              (fun j hj ihj => by
                refine Ev.shift ?_
                have c1 : (j : Int) < (ws.length : Int) := by omega
                have c0 : (0 : Int) ≤ (j : Int) := by omega
                rw [allF_step _ _ _ hj]
                simp only [impl_IsGame.l1, c1, c0, ↓reduceIte, rd_LI_nat, w1 hj hM, cast_eqN]
                by_cases hji : j = i
                · have hb : (j == i) = true := by simp [hji]
                  simp only [hb, Bool.true_or, Bool.true_and]
                  exact Ev.ite_pos hji ihj
                · have hb : (j == i) = false := by simp [hji]
                  simp only [hji, ↓reduceIte, hb, Bool.false_or]
                  refine Ev.bind (hmo i hi) (Ev.bind (hmo j hj) (Ev.bind (hmo j hj) ?_))
                  simp only [and_eqB _ _ (hb9 i hi) (hb9 j hj), cast_eqN]
                  by_cases ha : mk ws i &&& mk ws j = mk ws j
                  · simp only [ha, ↓reduceIte, decide_true, Bool.not_true, Bool.false_and]
                    exact Ev.some
                  · simp only [ha, ↓reduceIte, decide_false, Bool.not_false, Bool.true_and]
                    exact ihj)
            have j2 : ∀ b : Bool, Ev (fun k => impl_IsGame.j2 k (i : Int) (ws.getD i []) ws (ws.length : Int) (i : Int) (!b) (m : Int) ws) ((b && allF (fun k => k == i || !decide (mk ws i &&& mk ws k = mk ws k)) ws.length 0) && allF (fun i => risesAt ws i && allF (fun k => k == i || !decide (mk ws i &&& mk ws k = mk ws k)) ws.length 0) ws.length (i + 1)) := by
              intro b
              refine Ev.shift ?_
              cases b with
              | false => simp only [impl_IsGame.j2, Bool.not_false, ↓reduceIte, Bool.false_and]; exact Ev.some
              | true => simp only [impl_IsGame.j2, Bool.not_true, Bool.false_eq_true, ↓reduceIte, Bool.true_and]; exact inner 0 (Nat.zero_le _)
            refine Ev.shift ?_
            have c1 : (i : Int) < (ws.length : Int) := by omega
            have c0 : (0 : Int) ≤ (i : Int) := by omega
            rw [allF_step _ _ _ hi]
            by_cases h0 : i = 0
            · have c2 : ¬ (i : Int) > 0 := by omega
              have hr : risesAt ws i = true := by simp [risesAt, h0]
              simp only [impl_IsGame.l0, c1, c0, c2, ↓reduceIte, rd_LI_nat, hr]
              exact j2 true
            · have c2 : (i : Int) > 0 := by omega
              have c3 : (0 : Int) ≤ ((i - 1 : Nat) : Int) := by omega
              have c4 : ((i - 1 : Nat) : Int) < (ws.length : Int) := by omega
              have hb : (i == 0) = false := by simp [h0]
              have hr : risesAt ws i = !decide (lexc (ws.getD (i - 1) []) (ws.getD i []) ≥ 0) := by
                rw [risesAt, hb, Bool.false_or, ← decide_not, decide_eq_decide]; omega
              simp only [impl_IsGame.l0, c1, c0, c2, ↓reduceIte, pred_nat (show 0 < i by omega) (show i ≤ 9223372036854775807 by omega), c3, c4, rd_LI_nat]
              refine Ev.bind (slices_Compare_int_int.ev _ _ (by have := hx _ (getD_mem ws [] (i - 1) (by omega)); omega)) ?_
              have := j2 (risesAt ws i)
              rw [hr, Bool.not_not] at this
              rw [hr]
              exact this)
        exact key 0 (Nat.zero_le _)
theorem take_getD_lt {α : Type} (l : List α) (d : α) (i j : Nat) (h : j < i) : (l.take i).getD j d = l.getD j d := by
  rw [List.getD_eq_getElem?_getD, List.getD_eq_getElem?_getD, List.getElem?_take, if_pos h]
end Go.Proofs.YtidkafljeldokaaGreat.P

/- What sets win in a game. -/
namespace Go.Proofs.YtidkafljeldokaaGreat.P
open Go.RowKit Go.Proofs.YtidkafljeldokaaGreatW.PrintWords Go.Proofs.YtidkafljeldokaaGreatW.PrintLast Go.Proofs.YtidkafljeldokaaGreatW.PrintMore
def hasSub (b : Nat) (s : List Int) : Bool := decide (b &&& bitsOf s = bitsOf s)
def gwin (ws : List (List Int)) (b : Nat) : Bool := ws.any (hasSub b)
theorem beq_nat (a b : Nat) : (((a : Nat) : Int) == ((b : Nat) : Int)) = decide (a = b) := by
  rw [Bool.eq_iff_iff]; simp only [beq_iff_eq, decide_eq_true_eq]; exact Int.ofNat_inj
theorem impl_votesBy.ev (n : Nat) (ws : List (List Int)) (hn : n ≤ 9) (hl : ws.length ≤ 1048576) (hx : ∀ s ∈ ws, s.length ≤ 1048576) (hs : ∀ s ∈ ws, isSetN s n = true) :
    Ev (fun k => impl_votesBy.f k (n : Int) ws) ((n : Int), tab n (gwin ws)) := by
  have hM : ws.length ≤ 9223372036854775807 := by omega
  have hb9 : ∀ s ∈ ws, bitsOf s < 2 ^ 9 := fun s h => Nat.lt_of_lt_of_le (setG_mask (hs s h)) (pow_small hn)
  have key := Ev.down (G := fun i k => impl_votesBy.l0 k (n : Int) ws (ws.length : Int) (i : Int) ((ws.take i).map fun s => ((bitsOf s : Nat) : Int))) (R := fun _ => ((n : Int), tab n (gwin ws))) ws.length
    (by refine Ev.shift ?_
        simp only [impl_votesBy.l0, Int.lt_irrefl, ↓reduceIte, List.take_length]
        refine Ev.bind (impl_votesOf.ev n (by omega) (fun k y => impl_votesBy_1.f k y (ws.map fun s => ((bitsOf s : Nat) : Int))) (gwin ws) (fun b hb => ?_)) Ev.some
        have hb9' : b < 2 ^ 9 := Nat.lt_of_lt_of_le hb (pow_small hn)
        unfold impl_votesBy_1.f
        refine Ev.bind (slices_ContainsFunc_int_int.ev (ws.map fun s => ((bitsOf s : Nat) : Int)) (by rw [List.length_map]; omega) (fun _ x => impl_votesBy_1_1.f x (b : Int)) (fun x => decide (b &&& x.toNat = x.toNat)) (fun x hx => ?_)) ?_
        · obtain ⟨s, hsm, rfl⟩ := List.mem_map.1 hx
          simp only [impl_votesBy_1_1.f, and_eqB b (bitsOf s) hb9' (hb9 s hsm), beq_nat, Int.toNat_natCast]
          exact Ev.some
        · refine Ev.eq Ev.some ?_
          rw [List.any_map]
          rfl)
    (fun i hi ih => by
        refine Ev.shift ?_
        have c1 : (i : Int) < (ws.length : Int) := by omega
        have c0 : (0 : Int) ≤ (i : Int) := by omega
        have c2 : ((ws.take i).map fun s => ((bitsOf s : Nat) : Int)).length < 17592186044416 := by rw [List.length_map, List.length_take]; omega
        have hm := getD_mem ws [] i hi
        rw [take_getD ws [] i hi, List.map_append] at ih
        simp only [impl_votesBy.l0, c1, c0, ↓reduceIte, rd_LI_nat, w1 hi hM]
        refine Ev.bind (impl_maskOf.ev _ (hx _ hm) (set62' (by omega) (hs _ hm))) ?_
        simp only [c2, ↓reduceIte]
        exact ih)
  exact key 0 (Nat.zero_le _)
theorem impl_Game_votes.ev (n : Nat) (ws : List (List Int)) (hn : n ≤ 9) (hl : ws.length ≤ 1048576) (hx : ∀ s ∈ ws, s.length ≤ 1048576) (hs : ∀ s ∈ ws, isSetN s n = true) :
    Ev (fun k => impl_Game_votes.f k (n : Int) ws) ((n : Int), tab n (gwin ws)) := by
  unfold impl_Game_votes.f
  exact Ev.bind (impl_votesBy.ev n ws hn hl hx hs) Ev.some
end Go.Proofs.YtidkafljeldokaaGreat.P

/- The members of a set, by its bits. -/
namespace Go.Proofs.YtidkafljeldokaaGreat.P
open Go.RowKit Go.Proofs.YtidkafljeldokaaGreatW.PrintWords Go.Proofs.YtidkafljeldokaaGreatW.PrintLast Go.Proofs.YtidkafljeldokaaGreatW.PrintMore
theorem sel_more (n d m : Nat) (h : m < 2 ^ n) : sel (n + d) m.testBit = sel n m.testBit := by
  induction d with
  | zero => rfl
  | succ d ih =>
    rw [show n + (d + 1) = (n + d) + 1 from rfl, sel_succ, ih, Nat.testBit_lt_two_pow (Nat.lt_of_lt_of_le h (Nat.pow_le_pow_right (by omega) (by omega)))]
    simp
theorem spec_voList.ev (m : Nat) (h : m < 512) : Ev (fun k => spec_voList.f k (m : Int)) (sel 9 m.testBit) := by
  unfold spec_voList.f
  have key := Ev.down (G := fun i k => spec_voList.l0 k (m : Int) (sel i m.testBit) (i : Int)) (R := fun _ => sel 9 m.testBit) 9
    (by refine Ev.shift ?_
        have c0 : (0 : Int) ≤ ((9 : Nat) : Int) := by omega
        have e : m / 2 ^ 9 = 0 := Nat.div_eq_of_lt h
        have c : ¬ (((0 : Nat) : Int) > 0) := by omega
        simp only [spec_voList.l0, c0, ↓reduceIte, shr_nat m 9 (by omega), e, c]
        exact Ev.some)
    (fun i hi ih => by
      refine Ev.shift ?_
      have c0 : (0 : Int) ≤ (i : Int) := by omega
      have c2 : (sel i m.testBit).length < 17592186044416 := by have := sel_len i m.testBit; omega
      rw [sel_succ] at ih
      simp only [spec_voList.l0, c0, ↓reduceIte, shr_nat m i (by omega), tmod_two, c2, w1 hi (by omega)]
      by_cases hz : m / 2 ^ i = 0
      · have c : ¬ (((m / 2 ^ i : Nat) : Int) > 0) := by rw [hz]; decide
        simp only [c, ↓reduceIte]
        refine Ev.eq Ev.some ?_
        have hlt : m < 2 ^ i := by
          rcases Nat.div_eq_zero_iff.1 hz with h | h
          · exact absurd h (by have := Nat.two_pow_pos i; omega)
          · exact h
        have := sel_more i (9 - i) m hlt
        rw [show i + (9 - i) = 9 by omega] at this
        exact this.symm
      · have c : (((m / 2 ^ i : Nat) : Int) > 0) := Int.natCast_pos.2 (Nat.pos_of_ne_zero hz)
        simp only [c, ↓reduceIte]
        cases hb : m.testBit i with
        | true =>
          rw [bit_nat, decide_eq_true_eq] at hb
          have c3 : ((m / 2 ^ i % 2 : Nat) : Int) = 1 := by omega
          rw [bit_nat, show decide (m / 2 ^ i % 2 = 1) = true from decide_eq_true hb, if_pos rfl] at ih
          simp only [c3, ↓reduceIte]
          exact ih
        | false =>
          rw [hb, if_neg (by decide), List.append_nil] at ih
          rw [bit_nat, decide_eq_false_iff_not] at hb
          have c3 : ¬ ((m / 2 ^ i % 2 : Nat) : Int) = 1 := by omega
          simp only [c3, ↓reduceIte]
          exact ih)
  exact key 0 (by omega)
end Go.Proofs.YtidkafljeldokaaGreat.P

/- Pivots: all members together are pivots of all orders, once each. No program in sight. -/
namespace Go.Proofs.YtidkafljeldokaaGreat.P
theorem bit_with (m k j : Nat) (hb : m.testBit k = false) : (m + 2 ^ k).testBit j = (m.testBit j || decide (k = j)) := by
  rw [← or_pow hb, Nat.testBit_or, Nat.testBit_two_pow]
end Go.Proofs.YtidkafljeldokaaGreat.P

/- Whether a number is in a list. -/
namespace Go.Proofs.YtidkafljeldokaaGreat.P
open Go.RowKit Go.Proofs.YtidkafljeldokaaGreatW.PrintWords Go.Proofs.YtidkafljeldokaaGreatW.PrintLast Go.Proofs.YtidkafljeldokaaGreatW.PrintMore
def hasN (s : List Int) (v : Int) : Bool := s.any fun x => decide (v = x)
theorem slices_Contains_int_int.ev (l : List Int) (v : Int) (hm : l.length ≤ 9223372036854775807) : Ev (fun k => slices_Contains_int_int.f k l v) (hasN l v) := by
  unfold slices_Contains_int_int.f slices_Index_int_int.f hasN
  have key := Ev.down (G := fun i k => slices_Index_int_int.l0 k l v (l.length : Int) (i : Int)) (R := fun i => idxFrom (fun x => decide (v = x)) i (l.drop i)) l.length
    (by refine Ev.shift ?_
        simp only [slices_Index_int_int.l0, Int.lt_irrefl, ↓reduceIte, List.drop_length, idxFrom]
        exact Ev.some)
    (fun i hi ih => by
        refine Ev.shift ?_
        have c1 : (i : Int) < (l.length : Int) := by omega
        have c0 : (0 : Int) ≤ (i : Int) := by omega
        simp only [slices_Index_int_int.l0, c1, c0, ↓reduceIte, w1 hi hm, rd_nat]
        rw [drop_getD l 0 i hi, idxFrom]
        by_cases hv : v = l.getD i 0
        · simp only [← hv, ↓reduceIte, decide_true]; exact Ev.some
        · simp only [hv, ↓reduceIte, decide_false, Bool.false_eq_true]; exact ih)
  have k0 := key 0 (Nat.zero_le _)
  rw [List.drop_zero] at k0
  refine Ev.bind k0 ?_
  rw [idxFrom_nn]
  exact Ev.some
end Go.Proofs.YtidkafljeldokaaGreat.P

/- The members for which something is true. -/
namespace Go.Proofs.YtidkafljeldokaaGreat.P
open Go.RowKit Go.Proofs.YtidkafljeldokaaGreatW.PrintWords Go.Proofs.YtidkafljeldokaaGreatW.PrintLast Go.Proofs.YtidkafljeldokaaGreatW.PrintMore
theorem impl_members.ev (n : Nat) (hn : n ≤ 1000000) (p : Nat → Int → Option Bool) (P : Nat → Bool) (h : ∀ b : Nat, b < n → Ev (fun k => p k (b : Int)) (P b)) : Ev (fun k => impl_members.f k (n : Int) (p k)) (sel n P) := by
  obtain ⟨K, hK⟩ := Ev.all (p := fun k (b : Nat) => p k (b : Int)) (P := P) (List.range n) (fun b hb => h b (List.mem_range.1 hb))
  refine ⟨K + n + 1, fun k hk => ?_⟩
  have hq := hK k (by omega)
  show impl_members.f k (n : Int) (p k) = _
  generalize p k = q at hq ⊢
  have hq : ∀ b : Nat, b < n → q (b : Int) = some (P b) := fun b hb => hq b (List.mem_range.2 hb)
  exact downq (G := fun i k => impl_members.l0 k q (sel i P) (n : Int) (i : Int)) (R := fun _ => sel n P) n
    (by intro k; simp only [impl_members.l0, Int.lt_irrefl, ↓reduceIte])
    (fun i hi k ih => by
      have c1 : (i : Int) < (n : Int) := by omega
      have c2 : (sel i P).length < 17592186044416 := by have := sel_len i P; omega
      rw [sel_succ] at ih
      simp only [impl_members.l0, c1, ↓reduceIte, hq i hi, Option.bind_some, w1 hi (show n ≤ 9223372036854775807 by omega)]
      cases hP : P i with
      | true => simp only [hP, ↓reduceIte] at ih; simp only [↓reduceIte, c2]; exact ih
      | false => simp only [hP, Bool.false_eq_true, ↓reduceIte, List.append_nil] at ih; simp only [Bool.false_eq_true, ↓reduceIte]; exact ih) 0 (Nat.zero_le _) k (by omega)
end Go.Proofs.YtidkafljeldokaaGreat.P

/- The votes of a committee. -/
namespace Go.Proofs.YtidkafljeldokaaGreat.P
open Go.RowKit Go.Proofs.YtidkafljeldokaaGreatW.PrintWords Go.Proofs.YtidkafljeldokaaGreatW.PrintLast Go.Proofs.YtidkafljeldokaaGreatW.PrintMore
def cwin (q : Int) (l : List Int) (b : Nat) : Bool := decide (wt l b ≥ q)
theorem impl_Committee_votes.ev (q : Int) (l : List Int) (h : ∀ x ∈ l, 0 ≤ x ∧ x ≤ 1000) (hl : l.length ≤ 40) : Ev (fun k => impl_Committee_votes.f k q l) ((l.length : Int), tab l.length (cwin q l)) := by
  unfold impl_Committee_votes.f
  refine Ev.bind (impl_votesOf.ev l.length hl (fun k y => impl_Committee_votes_1.f k y q l) (cwin q l) (fun b hb => ?_)) Ev.some
  unfold impl_Committee_votes_1.f
  have h40 : 2 ^ l.length ≤ 1099511627776 := pow_small hl
  exact Ev.bind (impl_Committee_weight.ev q l b h (by omega) (by omega)) Ev.some
end Go.Proofs.YtidkafljeldokaaGreat.P

/- Whether something is true for one of some committees. -/
namespace Go.Proofs.YtidkafljeldokaaGreat.P
open Go.RowKit Go.Proofs.YtidkafljeldokaaGreatW.PrintWords Go.Proofs.YtidkafljeldokaaGreatW.PrintLast Go.Proofs.YtidkafljeldokaaGreatW.PrintMore
theorem slices_IndexFunc_impl_Committee_impl_Committee.ev (l : List S_impl_Committee) (hm : l.length ≤ 9223372036854775807) (p : Nat → Int → List Int → Option Bool) (P : S_impl_Committee → Bool) (h : ∀ x ∈ l, Ev (fun k => p k x.f0 x.f1) (P x)) : Ev (fun k => slices_IndexFunc_impl_Committee_impl_Committee.f k l (p k)) (idxFrom P 0 l) := by
  obtain ⟨K, hK⟩ := Ev.all (p := fun k (x : S_impl_Committee) => p k x.f0 x.f1) (P := P) l h
  refine ⟨K + l.length + 1, fun k hk => ?_⟩
  have hq := hK k (by omega)
  show slices_IndexFunc_impl_Committee_impl_Committee.f k l (p k) = _
  generalize p k = q at hq ⊢
  unfold slices_IndexFunc_impl_Committee_impl_Committee.f
  have := downq (G := fun i k => slices_IndexFunc_impl_Committee_impl_Committee.l0 k l q (l.length : Int) (i : Int)) (R := fun i => idxFrom P i (l.drop i)) l.length
    (by intro k; simp only [slices_IndexFunc_impl_Committee_impl_Committee.l0, Int.lt_irrefl, ↓reduceIte, List.drop_length, idxFrom])
    (fun i hi k ih => by
      have c1 : (i : Int) < (l.length : Int) := by omega
      have c0 : (0 : Int) ≤ (i : Int) := by omega
      simp only [slices_IndexFunc_impl_Committee_impl_Committee.l0, c1, c0, ↓reduceIte, w1 hi hm, rd_impl_nat, hq _ (getD_mem l z_impl_Committee i hi), Option.bind_some]
      rw [drop_getD l z_impl_Committee i hi, idxFrom, ih]
      split <;> rfl) 0 (Nat.zero_le _) k (by omega)
  rwa [List.drop_zero] at this
theorem slices_ContainsFunc_impl_Committee_impl_Committee.ev (l : List S_impl_Committee) (hm : l.length ≤ 9223372036854775807) (p : Nat → Int → List Int → Option Bool) (P : S_impl_Committee → Bool) (h : ∀ x ∈ l, Ev (fun k => p k x.f0 x.f1) (P x)) : Ev (fun k => slices_ContainsFunc_impl_Committee_impl_Committee.f k l (p k)) (l.any P) := by
  unfold slices_ContainsFunc_impl_Committee_impl_Committee.f
  refine Ev.bind (slices_IndexFunc_impl_Committee_impl_Committee.ev l hm p P h) ?_
  rw [idxFrom_nn]
  exact Ev.some
end Go.Proofs.YtidkafljeldokaaGreat.P

/- Committees, one to nine of them. -/
namespace Go.Proofs.YtidkafljeldokaaGreat.P
open Go.RowKit Go.Proofs.YtidkafljeldokaaGreatW.PrintWords Go.Proofs.YtidkafljeldokaaGreatW.PrintLast Go.Proofs.YtidkafljeldokaaGreatW.PrintMore
def areC (xs : List S_impl_Committee) : Bool := inI 1 9 (xs.length : Int) && xs.all good
theorem impl_areCommittees.ev (xs : List S_impl_Committee) (hl : xs.length ≤ 1048576) (hx : ∀ x ∈ xs, x.f1.length ≤ 9223372036854775807) : Ev (fun k => impl_areCommittees.f k xs) (areC xs) := by
  unfold impl_areCommittees.f areC
  simp only [impl_within.eq, Option.bind_some]
  cases inI 1 9 (xs.length : Int) with
  | false => exact Ev.some
  | true =>
    simp only [↓reduceIte, Bool.true_and]
    refine Ev.bind (slices_ContainsFunc_impl_Committee_impl_Committee.ev xs (by omega) (fun k a b => impl_areCommittees_1.f k a b) (fun x => !good x) (fun x h => ?_)) ?_
    · unfold impl_areCommittees_1.f
      exact Ev.bind (impl_IsCommittee.ev _ _ (hx x h)) Ev.some
    · rw [all_any]; exact Ev.some
theorem spec_chInners.ev (xs : List S_impl_Committee) (hl : xs.length ≤ 1048576) (hx : ∀ x ∈ xs, x.f1.length ≤ 9223372036854775807) : Ev (fun k => spec_chInners.f k xs) (areC xs) := by
  unfold spec_chInners.f areC
  simp only [spec_l1In.eq, Option.bind_some]
  cases h : inI 1 9 (xs.length : Int) with
  | false => exact Ev.some
  | true =>
    simp only [↓reduceIte, Bool.true_and]
    refine Ev.bind (spec_chMembers.ev xs hl hx) (Ev.eq Ev.some ?_)
    simp only [inI, Bool.and_eq_true, decide_eq_true_eq] at h
    cases hg : xs.all good with
    | true =>
      have := heads_bounds xs hg
      simp only [↓reduceIte, decide_eq_true_eq]; omega
    | false => simp
end Go.Proofs.YtidkafljeldokaaGreat.P

/- The pure statement of FnExactPlaceInCouncil. -/
namespace Go.Proofs.YtidkafljeldokaaGreat.P
open Go.RowKit Go.Proofs.YtidkafljeldokaaGreatW.PrintWords Go.Proofs.YtidkafljeldokaaGreatW.PrintLast Go.Proofs.YtidkafljeldokaaGreatW.PrintMore
def place : List S_impl_Committee → Nat → Int → Int × Int × Bool
  | [], _, _ => (0, 0, false)
  | x :: xs, i, k => if k < x.f1.length then ((i : Int), k, true) else place xs (i + 1) (k - x.f1.length)
theorem place_out (xs : List S_impl_Committee) (i : Nat) (k : Int) (h : heads xs ≤ k) (h0 : 0 ≤ k) : place xs i k = (0, 0, false) := by
  induction xs generalizing i k with
  | nil => rfl
  | cons x xs ih =>
    rw [heads_cons] at h
    have hn : 0 ≤ heads xs := by
      unfold heads
      clear ih h
      induction xs with
      | nil => simp
      | cons y ys ih => simp only [List.map_cons, List.sum_cons]; omega
    unfold place
    rw [if_neg (by omega)]
    exact ih _ _ (by omega) (by omega)
def placeIn (xs : List S_impl_Committee) (k : Int) : Int × Int × Bool := if (areC xs && decide (0 ≤ k)) = true then place xs 0 k else (0, 0, false)
theorem impl_PlaceInCouncil.ev (xs : List S_impl_Committee) (a : Int) (ha : okI a) (hl : xs.length ≤ 1048576) (hx : ∀ x ∈ xs, x.f1.length ≤ 9223372036854775807) : Ev (fun k => impl_PlaceInCouncil.f k xs a) (placeIn xs a) := by
  have hx' : ∀ x ∈ xs, x.f1.length ≤ 9223372036854775807 := fun x h => by have := hx x h; omega
  unfold impl_PlaceInCouncil.f placeIn
  refine Ev.bind (impl_areCommittees.ev xs hl hx') ?_
  cases areC xs with
  | false =>
    simp only [Bool.false_eq_true, ↓reduceIte, Bool.false_and]
    refine Ev.shift ?_
    simp only [impl_PlaceInCouncil.j0, ↓reduceIte]
    exact Ev.some
  | true =>
    simp only [↓reduceIte, Bool.true_and]
    refine Ev.shift ?_
    by_cases h0 : 0 ≤ a
    · have h0' : ¬ a < 0 := by omega
      simp only [impl_PlaceInCouncil.j0, h0, h0', decide_false, decide_true, Bool.false_eq_true, ↓reduceIte]
      have hm : a ≤ 9223372036854775807 := by unfold okI at ha; omega
      have key := back (P := fun i => ∀ a : Int, 0 ≤ a → a ≤ 9223372036854775807 → Ev (fun k => impl_PlaceInCouncil.l0 k a xs (xs.length : Int) (i : Int)) (place (xs.drop i) i a)) xs.length
        (by intro a h0 h1
            refine Ev.shift ?_
            simp only [impl_PlaceInCouncil.l0, Int.lt_irrefl, ↓reduceIte, List.drop_length, place]
            exact Ev.some)
        (by intro i hi ih a h0 h1
            refine Ev.shift ?_
            have c1 : (i : Int) < (xs.length : Int) := by omega
            have c0 : (0 : Int) ≤ (i : Int) := by omega
            simp only [impl_PlaceInCouncil.l0, c1, c0, ↓reduceIte, rd_impl_nat]
            rw [drop_getD xs z_impl_Committee i hi, place]
            by_cases hk : a < ((xs.getD i z_impl_Committee).f1.length : Int)
            · simp only [hk, ↓reduceIte]; exact Ev.some
            · have hlen := hx _ (getD_mem xs z_impl_Committee i hi)
              simp only [hk, ↓reduceIte, w1 hi (show xs.length ≤ 9223372036854775807 by omega)]
              rw [w64 (by omega) (by omega)]
              exact ih _ (by omega) (by omega))
      exact key 0 (Nat.zero_le _) a h0 hm
    · have h0' : a < 0 := by omega
      simp only [impl_PlaceInCouncil.j0, h0, h0', decide_false, decide_true, Bool.false_eq_true, ↓reduceIte]
      exact Ev.some
theorem spec_PlaceInCouncil.ev (xs : List S_impl_Committee) (a : Int) (hl : xs.length ≤ 1048576) (hx : ∀ x ∈ xs, x.f1.length ≤ 9223372036854775807) : Ev (fun k => spec_PlaceInCouncil.f k xs a) (placeIn xs a) := by
  have hx' : ∀ x ∈ xs, x.f1.length ≤ 9223372036854775807 := fun x h => by have := hx x h; omega
  have off : ∀ v : Int × Int × Bool, v = (0, 0, false) → Ev (fun k => spec_PlaceInCouncil.j0 k xs a true) v := by
    rintro v rfl
    refine Ev.shift ?_
    simp only [spec_PlaceInCouncil.j0, ↓reduceIte]
    exact Ev.some
  unfold spec_PlaceInCouncil.f placeIn
  refine Ev.bind (spec_chInners.ev xs hl hx') ?_
  cases hc : areC xs with
  | false =>
    simp only [Bool.false_eq_true, ↓reduceIte, Bool.false_and]
    exact off _ rfl
  | true =>
    simp only [↓reduceIte, Bool.true_and]
    refine Ev.bind (spec_chMembers.ev xs hl hx') ?_
    have hg : xs.all good = true := by
      simp only [areC, Bool.and_eq_true] at hc; exact hc.2
    have hb := heads_bounds xs hg
    simp only [hg, ↓reduceIte, spec_l1In.eq, Option.bind_some]
    rw [w64 (by omega) (by omega)]
    by_cases h0 : 0 ≤ a
    · by_cases h1 : a < heads xs
      · have hin : inI 0 (heads xs - 1) a = true := by simp [inI]; omega
        simp only [hin, h0, decide_true, ↓reduceIte, Bool.not_true]
        have key := back (P := fun i => ∀ a : Int, 0 ≤ a → a < heads (xs.drop i) → Ev (fun k => spec_PlaceInCouncil.l0 k xs a (i : Int)) (place (xs.drop i) i a)) xs.length
          (by intro a h0 h1
              simp only [List.drop_length, heads, List.map_nil, List.sum_nil] at h1
              omega)
          (by intro i hi ih a h0 h1
              refine Ev.shift ?_
              have c1 : (i : Int) < (xs.length : Int) := by omega
              have c0 : (0 : Int) ≤ (i : Int) := by omega
              rw [drop_getD xs z_impl_Committee i hi, heads_cons] at h1
              have hlen := hx _ (getD_mem xs z_impl_Committee i hi)
              have hbd := heads_bounds (xs.drop (i + 1)) (by
                rw [List.all_eq_true] at hg ⊢
                exact fun x h => hg x (List.mem_of_mem_drop h))
              rw [List.length_drop] at hbd
              simp only [spec_PlaceInCouncil.l0, c1, c0, ↓reduceIte, rd_impl_nat]
              rw [drop_getD xs z_impl_Committee i hi, place]
              by_cases hk : a < ((xs.getD i z_impl_Committee).f1.length : Int)
              · have hk' : ¬ a ≥ ((xs.getD i z_impl_Committee).f1.length : Int) := by omega
                simp only [hk, hk', ↓reduceIte]; exact Ev.some
              · have hk' : a ≥ ((xs.getD i z_impl_Committee).f1.length : Int) := by omega
                simp only [hk, hk', ↓reduceIte, w1 hi (show xs.length ≤ 9223372036854775807 by omega)]
                rw [w64 (by omega) (by omega)]
                exact ih _ (by omega) (by omega))
        refine Ev.shift ?_
        simp only [spec_PlaceInCouncil.j0, Bool.false_eq_true, ↓reduceIte]
        exact key 0 (Nat.zero_le _) a h0 h1
      · have hin : inI 0 (heads xs - 1) a = false := by simp [inI]; omega
        simp only [hin, h0, decide_true, ↓reduceIte, Bool.not_false]
        rw [place_out xs 0 a (by omega) h0]
        exact off _ rfl
    · have hin : inI 0 (heads xs - 1) a = false := by simp [inI]; omega
      simp only [hin, h0, decide_false, Bool.false_eq_true, ↓reduceIte, Bool.not_false]
      exact off _ rfl
end Go.Proofs.YtidkafljeldokaaGreat.P

/- The pure statement of FnExactWinsCouncil. -/
namespace Go.Proofs.YtidkafljeldokaaGreat.P
open Go.RowKit Go.Proofs.YtidkafljeldokaaGreatW.PrintWords Go.Proofs.YtidkafljeldokaaGreatW.PrintLast Go.Proofs.YtidkafljeldokaaGreatW.PrintMore
def sumP (l : List Int) (P : Nat → Bool) : Nat → Int
  | 0 => 0
  | i + 1 => sumP l P i + if P i = true then l.getD i 0 else 0
def maskP (P : Nat → Bool) : Nat → Nat
  | 0 => 0
  | i + 1 => maskP P i + if P i = true then 2 ^ i else 0
theorem maskP_lt (P : Nat → Bool) (i : Nat) : maskP P i < 2 ^ i := by
  induction i with
  | zero => simp [maskP]
  | succ i ih => rw [maskP, Nat.pow_succ]; split <;> omega
theorem wt_zero (l : List Int) : wt l 0 = 0 := by
  induction l with
  | nil => rfl
  | cons x l ih => rw [wt, Nat.zero_div, ih]; rfl
theorem wt_add (l : List Int) (b i : Nat) (hb : b < 2 ^ i) (hi : i < l.length) : wt l (b + 2 ^ i) = wt l b + l.getD i 0 := by
  induction l generalizing b i with
  | nil => simp at hi
  | cons x l ih =>
    cases i with
    | zero =>
      obtain rfl : b = 0 := by rw [Nat.pow_zero] at hb; omega
      rw [wt_zero, wt, Nat.pow_zero, Nat.zero_add, if_pos (by decide), show (1 : Nat) / 2 = 0 from rfl, wt_zero, Int.zero_add, Int.add_zero]
      rfl
    | succ i =>
      have e1 : (b + 2 ^ (i + 1)) % 2 = b % 2 := by rw [Nat.pow_succ]; omega
      have e2 : (b + 2 ^ (i + 1)) / 2 = b / 2 + 2 ^ i := by rw [Nat.pow_succ]; omega
      rw [wt, e1, e2, ih (b / 2) i (by rw [Nat.pow_succ] at hb; omega) (by simpa using hi), wt, Int.add_assoc]
      rfl
theorem wt_mask (l : List Int) (P : Nat → Bool) (i : Nat) (hi : i ≤ l.length) : wt l (maskP P i) = sumP l P i := by
  induction i with
  | zero => exact wt_zero l
  | succ i ih =>
    rw [maskP, sumP, ← ih (by omega)]
    cases P i with
    | false => simp
    | true => simp only [↓reduceIte]; exact wt_add l _ i (maskP_lt P i) (by omega)
theorem sumP_bounds (l : List Int) (P : Nat → Bool) (hw : ∀ x ∈ l, 0 ≤ x ∧ x ≤ 1000) (i : Nat) : 0 ≤ sumP l P i ∧ sumP l P i ≤ 1000 * i := by
  induction i with
  | zero => simp [sumP]
  | succ i ih =>
    have h : 0 ≤ l.getD i 0 ∧ l.getD i 0 ≤ 1000 := by
      by_cases h : i < l.length
      · exact hw _ (getD_mem l 0 i h)
      · rw [List.getD_eq_getElem?_getD, List.getElem?_eq_none (by omega)]; simp
    rw [sumP]
    split <;> omega
def okSet (xs : List S_impl_Committee) (ss : List (List Int)) (i : Nat) : Bool := isSetN (ss.getD i []) (xs.getD i z_impl_Committee).f1.length
def wonAt (xs : List S_impl_Committee) (ss : List (List Int)) (i : Nat) : Bool := decide (wt (xs.getD i z_impl_Committee).f1 (bitsOf (ss.getD i [])) ≥ (xs.getD i z_impl_Committee).f0)
def winsCo (q : Int) (l : List Int) (xs : List S_impl_Committee) (ss : List (List Int)) : Bool × Bool :=
  if (areCouncil q l xs && decide (ss.length = xs.length)) = true then (if allF (okSet xs ss) xs.length 0 = true then (decide (sumP l (wonAt xs ss) xs.length ≥ q), true) else (false, false)) else (false, false)
theorem good_mem' {x : S_impl_Committee} (h : good x = true) : ∀ y ∈ x.f1, 0 ≤ y ∧ y ≤ 1000 := isComm_mem h
theorem set_len9 {s : List Int} {n : Nat} (hn : n ≤ 9) (h : isSetN s n = true) : s.length ≤ 1048576 := by
  rcases isSetN_len h with h | rfl
  · omega
  · simp
theorem impl_WinsCouncil.ev (q : Int) (l : List Int) (xs : List S_impl_Committee) (ss : List (List Int)) (hl : l.length ≤ 9223372036854775807) (hl' : xs.length ≤ 1048576) (hx : ∀ x ∈ xs, x.f1.length ≤ 9223372036854775807) (hs : ∀ s ∈ ss, s.length ≤ 9223372036854775807) :
    Ev (fun k => impl_WinsCouncil.f k q l xs ss) (winsCo q l xs ss) := by
  have off : Ev (fun k => impl_WinsCouncil.j0 k xs ss true q l) (false, false) := by
    refine Ev.shift ?_
    simp only [impl_WinsCouncil.j0, ↓reduceIte]
    exact Ev.some
  unfold impl_WinsCouncil.f winsCo
  refine Ev.bind (impl_AreCouncil.ev q l xs hl hl' hx) ?_
  cases h : areCouncil q l xs with
  | false => simp only [Bool.false_eq_true, ↓reduceIte, Bool.false_and]; exact off
  | true =>
    simp only [↓reduceIte, Bool.true_and]
    by_cases he : ss.length = xs.length
    · obtain ⟨hc, hxl, hg, _⟩ := areCouncil_at h
      have hlen := isComm_len hc
      have hw := isComm_mem hc
      simp only [he, bne_self_eq_false, decide_true, ↓reduceIte]
      refine Ev.shift ?_
      simp only [impl_WinsCouncil.j0, Bool.false_eq_true, ↓reduceIte]
      rw [List.all_eq_true] at hg
      have key := Ev.down (G := fun i k => impl_WinsCouncil.l0 k ss (sumP l (wonAt xs ss) i) xs (xs.length : Int) (i : Int) q l) (R := fun i => if allF (okSet xs ss) xs.length i = true then (decide (sumP l (wonAt xs ss) xs.length ≥ q), true) else (false, false)) xs.length
        (by refine Ev.shift ?_
            simp only [impl_WinsCouncil.l0, Int.lt_irrefl, ↓reduceIte, allF_end]
            exact Ev.some)
        (fun i hi ih => by
          refine Ev.shift ?_
          have c0 : (0 : Int) ≤ (i : Int) := by omega
          have c1 : (i : Int) < (xs.length : Int) := by omega
          have c2 : (i : Int) < (ss.length : Int) := by omega
          have c3 : (i : Int) < (l.length : Int) := by omega
          have hgi := hg _ (getD_mem xs z_impl_Committee i hi)
          have hli := good_len hgi
          have hsi := hs _ (getD_mem ss [] i (by omega))
          have hsb := sumP_bounds l (wonAt xs ss) hw i
          have hwi := hw _ (getD_mem l 0 i (by omega))
          rw [allF_step _ _ _ hi]
          rw [sumP] at ih
          simp only [impl_WinsCouncil.l0, c0, c1, c2, c3, ↓reduceIte, rd_LI_nat, rd_impl_nat, rd_nat, w1 hi (show xs.length ≤ 9223372036854775807 by omega)]
          refine Ev.bind (impl_isSet.ev _ _ (by omega) (by omega) (by omega)) ?_
          have eo : isSetN (ss.getD i []) ((xs.getD i z_impl_Committee).f1.length : Int) = okSet xs ss i := rfl
          rw [eo]
          cases ho : okSet xs ss i with
          | false => simp only [Bool.false_eq_true, ↓reduceIte, Bool.false_and]; exact Ev.some
          | true =>
            rw [← eo] at ho
            have hmem := isSetN_mem ho
            simp only [↓reduceIte, Bool.true_and]
            refine Ev.bind (impl_maskOf.ev _ (set_len9 (by omega) ho) (fun x hx => by have := hmem x hx; omega)) ?_
            have hbl : bitsOf (ss.getD i []) < 2 ^ 9 := bitsOf_lt _ 9 (fun x hx => by have := hmem x hx; omega) 0 (by decide)
            refine Ev.bind (impl_Committee_weight.ev _ _ _ (good_mem' hgi) (by omega) (Nat.lt_of_lt_of_le hbl (by decide))) ?_
            have ew : decide (wt (xs.getD i z_impl_Committee).f1 (bitsOf (ss.getD i [])) ≥ (xs.getD i z_impl_Committee).f0) = wonAt xs ss i := rfl
            by_cases hwin : wt (xs.getD i z_impl_Committee).f1 (bitsOf (ss.getD i [])) ≥ (xs.getD i z_impl_Committee).f0
            · have hv : wonAt xs ss i = true := by rw [← ew]; simp only [hwin, decide_true]
              rw [hv, if_pos rfl] at ih
              simp only [hwin, ↓reduceIte]
              rw [w64 (by omega) (by omega)]
              exact ih
            · have hv : wonAt xs ss i = false := by rw [← ew]; simp only [hwin, decide_false]
              rw [hv, if_neg (by decide), Int.add_zero] at ih
              simp only [hwin, ↓reduceIte]
              exact ih)
      exact key 0 (Nat.zero_le _)
    · have hb : ((ss.length : Int) != (xs.length : Int)) = true := by simp; omega
      simp only [hb, he, decide_false, Bool.false_eq_true, ↓reduceIte]
      exact off
theorem spec_WinsCouncil.ev (q : Int) (l : List Int) (xs : List S_impl_Committee) (ss : List (List Int)) (hl : l.length ≤ 9223372036854775807) (hl' : xs.length ≤ 1048576) (hx : ∀ x ∈ xs, x.f1.length ≤ 9223372036854775807) (hs : ∀ s ∈ ss, s.length ≤ 9223372036854775807) :
    Ev (fun k => spec_WinsCouncil.f k q l xs ss) (winsCo q l xs ss) := by
  have off : Ev (fun k => spec_WinsCouncil.j0 k xs ss true q l) (false, false) := by
    refine Ev.shift ?_
    simp only [spec_WinsCouncil.j0, ↓reduceIte]
    exact Ev.some
  unfold spec_WinsCouncil.f winsCo
  refine Ev.bind (spec_AreCouncil.ev q l xs hl hl' hx) ?_
  cases h : areCouncil q l xs with
  | false => simp only [Bool.false_eq_true, ↓reduceIte, Bool.false_and]; exact off
  | true =>
    simp only [↓reduceIte, Bool.true_and]
    by_cases he : ss.length = xs.length
    · obtain ⟨hc, hxl, hg, _⟩ := areCouncil_at h
      have hlen := isComm_len hc
      have hw := isComm_mem hc
      simp only [he, bne_self_eq_false, decide_true, ↓reduceIte]
      refine Ev.shift ?_
      simp only [spec_WinsCouncil.j0, Bool.false_eq_true, ↓reduceIte]
      rw [List.all_eq_true] at hg
      have key := Ev.down (G := fun i k => spec_WinsCouncil.l0 k ss ((maskP (wonAt xs ss) i : Nat) : Int) xs (xs.length : Int) (i : Int) q l) (R := fun i => if allF (okSet xs ss) xs.length i = true then (decide (sumP l (wonAt xs ss) xs.length ≥ q), true) else (false, false)) xs.length
        (by refine Ev.shift ?_
            simp only [spec_WinsCouncil.l0, Int.lt_irrefl, ↓reduceIte, allF_end]
            refine Ev.bind (spec_voWeight.ev q l _ hw (by omega)) ?_
            rw [wt_mask l _ xs.length (by omega)]
            exact Ev.some)
        (fun i hi ih => by
          refine Ev.shift ?_
          have c0 : (0 : Int) ≤ (i : Int) := by omega
          have c1 : (i : Int) < (xs.length : Int) := by omega
          have c2 : (i : Int) < (ss.length : Int) := by omega
          have hgi := hg _ (getD_mem xs z_impl_Committee i hi)
          have hli := good_len hgi
          have hsi := hs _ (getD_mem ss [] i (by omega))
          have hml := maskP_lt (wonAt xs ss) i
          have hp9 : 2 ^ i ≤ 2 ^ 9 := pow_small (by omega)
          rw [allF_step _ _ _ hi]
          rw [maskP] at ih
          simp only [spec_WinsCouncil.l0, c0, c1, c2, ↓reduceIte, rd_LI_nat, rd_impl_nat, w1 hi (show xs.length ≤ 9223372036854775807 by omega)]
          refine Ev.bind (spec_voSet.ev _ _ (by omega) (by omega) (by omega)) ?_
          have eo : isSetN (ss.getD i []) ((xs.getD i z_impl_Committee).f1.length : Int) = okSet xs ss i := rfl
          rw [eo]
          cases ho : okSet xs ss i with
          | false => simp only [Bool.false_eq_true, ↓reduceIte, Bool.false_and]; exact Ev.some
          | true =>
            rw [← eo] at ho
            have hmem := isSetN_mem ho
            simp only [↓reduceIte, Bool.true_and]
            refine Ev.bind (spec_voBits.ev _ (set_len9 (by omega) ho) (fun x hx => by have := hmem x hx; omega)) ?_
            refine Ev.bind (spec_voWeight.ev _ _ _ (good_mem' hgi) (by omega)) ?_
            have ew : decide (wt (xs.getD i z_impl_Committee).f1 (bitsOf (ss.getD i [])) ≥ (xs.getD i z_impl_Committee).f0) = wonAt xs ss i := rfl
            by_cases hwin : wt (xs.getD i z_impl_Committee).f1 (bitsOf (ss.getD i [])) ≥ (xs.getD i z_impl_Committee).f0
            · have hv : wonAt xs ss i = true := by rw [← ew]; simp only [hwin, decide_true]
              rw [hv, if_pos rfl] at ih
              simp only [hwin, ↓reduceIte]
              rw [shl_one i (by omega), or_nat _ _ (Nat.lt_of_lt_of_le hml (Nat.le_trans hp9 (by decide))) (Nat.lt_of_le_of_lt hp9 (by decide)), or_add hml]
              exact ih
            · have hv : wonAt xs ss i = false := by rw [← ew]; simp only [hwin, decide_false]
              rw [hv, if_neg (by decide), Nat.add_zero] at ih
              simp only [hwin, ↓reduceIte]
              exact ih)
      exact key 0 (Nat.zero_le _)
    · have hb : ((ss.length : Int) != (xs.length : Int)) = true := by simp; omega
      simp only [hb, he, decide_false, Bool.false_eq_true, ↓reduceIte]
      exact off
end Go.Proofs.YtidkafljeldokaaGreat.P

/- The votes of a committee. -/
namespace Go.Proofs.YtidkafljeldokaaGreat.P
open Go.RowKit Go.Proofs.YtidkafljeldokaaGreatW.PrintWords Go.Proofs.YtidkafljeldokaaGreatW.PrintLast Go.Proofs.YtidkafljeldokaaGreatW.PrintMore
theorem spec_voWins.ev' (q : Int) (l : List Int) (h : ∀ x ∈ l, 0 ≤ x ∧ x ≤ 1000) (hl : l.length ≤ 40) : Ev (fun k => spec_voWins.f k q l) (tab l.length (fun b => decide (wt l b ≥ q))) := by
  have h40 : 2 ^ l.length ≤ 1099511627776 := pow_small hl
  have hp := Nat.two_pow_pos l.length
  have tl := tab_len l.length (fun b => decide (wt l b ≥ q))
  generalize ht : tab l.length (fun b => decide (wt l b ≥ q)) = t at tl ⊢
  have key := Ev.down (G := fun i k => spec_voWins.l0 k (t.take i) (i : Int) q l) (R := fun _ => t) (2 ^ l.length)
    (by refine Ev.shift ?_
        have c : ¬ (((2 ^ l.length : Nat) : Int) ≤ ((2 ^ l.length - 1 : Nat) : Int)) := by omega
        simp only [spec_voWins.l0, spec_voAll.eq l.length (by omega), Option.bind_some, c, ↓reduceIte]
        rw [← tl, List.take_length]
        exact Ev.some)
    (fun i hi ih => by
        refine Ev.shift ?_
        have c : (i : Int) ≤ ((2 ^ l.length - 1 : Nat) : Int) := by omega
        simp only [spec_voWins.l0, spec_voAll.eq l.length (by omega), Option.bind_some, c, ↓reduceIte]
        refine Ev.bind (spec_voWeight.ev q l i h (by omega)) ?_
        have c2 : (t.take i).length < 140737488355328 := by rw [List.length_take]; omega
        have e : t.take i ++ [decide (wt l i ≥ q)] = t.take (i + 1) := by
          rw [take_getD t false i (by omega), ← ht, tab_get _ _ i hi]
        simp only [c2, ↓reduceIte, w1 hi (show 2 ^ l.length ≤ 9223372036854775807 by omega), e]
        exact ih)
  exact key 0 (Nat.zero_le _)
end Go.Proofs.YtidkafljeldokaaGreat.P

/- How many sets win. -/
namespace Go.Proofs.YtidkafljeldokaaGreat.P
open Go.RowKit Go.Proofs.YtidkafljeldokaaGreatW.PrintWords Go.Proofs.YtidkafljeldokaaGreatW.PrintLast Go.Proofs.YtidkafljeldokaaGreatW.PrintMore
theorem impl_votes_countWins.ev (n : Int) (l : List Bool) (hl : l.length ≤ 9223372036854775807) : Ev (fun k => impl_votes_countWins.f k n l) (l.count true : Int) := by
  have key := back (P := fun i => ∀ s : Nat, s ≤ i → Ev (fun k => impl_votes_countWins.l0 k (s : Int) l (l.length : Int) (i : Int)) ((s + (l.drop i).count true : Nat) : Int)) l.length
    (by intro s hs
        refine Ev.shift ?_
        simp only [impl_votes_countWins.l0, Int.lt_irrefl, ↓reduceIte, List.drop_length, List.count_nil, Nat.add_zero]
        exact Ev.some)
    (by intro i hi ih s hs
        refine Ev.shift ?_
        have c1 : (i : Int) < (l.length : Int) := by omega
        have c0 : (0 : Int) ≤ (i : Int) := by omega
        simp only [impl_votes_countWins.l0, c1, c0, ↓reduceIte, w1 hi hl, rdB_nat]
        rw [drop_getD l false i hi, List.count_cons]
        cases l.getD i false with
        | true =>
          simp only [↓reduceIte, beq_self_eq_true]
          rw [show wrap64 ((s : Int) + 1) = ((s + 1 : Nat) : Int) by rw [w64 (by omega) (by omega)]; omega]
          exact Ev.eq (ih _ (by omega)) (by omega)
        | false =>
          simp only [Bool.false_eq_true, ↓reduceIte, show (false == true) = false from rfl]
          exact Ev.eq (ih _ (by omega)) (by omega))
  unfold impl_votes_countWins.f
  have := key 0 (Nat.zero_le _) 0 (by omega)
  rw [List.drop_zero, Nat.zero_add] at this
  exact this
end Go.Proofs.YtidkafljeldokaaGreat.P

/- Shares in lowest terms. -/
namespace Go.Proofs.YtidkafljeldokaaGreat.P
open Go.RowKit Go.Proofs.YtidkafljeldokaaGreatW.PrintWords Go.Proofs.YtidkafljeldokaaGreatW.PrintLast Go.Proofs.YtidkafljeldokaaGreatW.PrintMore
theorem tmodN (a b : Nat) : Int.tmod (a : Int) (b : Int) = ((a % b : Nat) : Int) := by rw [Int.tmod_eq_emod_of_nonneg (by omega)]; exact (Int.natCast_emod _ _).symm
theorem tdivN (a b : Nat) : Int.tdiv (a : Int) (b : Int) = ((a / b : Nat) : Int) := by rw [Int.tdiv_eq_ediv_of_nonneg (by omega)]; exact (Int.natCast_ediv _ _).symm
theorem gcd_step (a b : Nat) : Nat.gcd b (a % b) = Nat.gcd a b := by rw [Nat.gcd_comm b, ← Nat.gcd_rec, Nat.gcd_comm]
theorem impl_gcd.ev (a b : Nat) : Ev (fun k => impl_gcd.f k (a : Int) (b : Int)) ((Nat.gcd a b : Nat) : Int) := by
  unfold impl_gcd.f
  induction b using Nat.strongRecOn generalizing a with
  | _ b ih =>
    refine Ev.shift ?_
    by_cases hb : b = 0
    · subst hb
      simp only [impl_gcd.l0, Int.natCast_zero, ↓reduceIte, Nat.gcd_zero_right]
      exact Ev.some
    · have c : ¬ (b : Int) = 0 := by omega
      simp only [impl_gcd.l0, c, ↓reduceIte, tmodN]
      exact Ev.eq (ih (a % b) (Nat.mod_lt _ (by omega)) b) (congrArg _ (gcd_step a b))
theorem spec_pwCommon.ev (a b : Nat) : Ev (fun k => spec_pwCommon.f k (a : Int) (b : Int)) ((Nat.gcd a b : Nat) : Int) := by
  unfold spec_pwCommon.f
  induction b using Nat.strongRecOn generalizing a with
  | _ b ih =>
    refine Ev.shift ?_
    by_cases hb : b = 0
    · subst hb
      have c : ¬ ((0 : Nat) : Int) > 0 := by omega
      simp only [spec_pwCommon.l0, c, ↓reduceIte, Nat.gcd_zero_right]
      exact Ev.some
    · have c : ¬ (b : Int) = 0 := by omega
      have c2 : (b : Int) > 0 := by omega
      simp only [spec_pwCommon.l0, c, c2, ↓reduceIte, tmodN]
      exact Ev.eq (ih (a % b) (Nat.mod_lt _ (by omega)) b) (congrArg _ (gcd_step a b))
theorem wN (x : Nat) (h : x ≤ 1099511627776) : wrap64 (x : Int) = (x : Int) := w64 (by omega) (by omega)
def shareN (n d : Nat) : Int × Int := (((n / Nat.gcd n d : Nat) : Int), ((d / Nat.gcd n d : Nat) : Int))
theorem impl_shareOf.ev (n d : Nat) (hd : 0 < d) (hn : n ≤ 1099511627776) (hd2 : d ≤ 1099511627776) : Ev (fun k => impl_shareOf.f k (n : Int) (d : Int)) (shareN n d) := by
  have hg : 0 < Nat.gcd n d := Nat.gcd_pos_of_pos_right n hd
  have h1 := Nat.div_le_self n (Nat.gcd n d)
  have h2 := Nat.div_le_self d (Nat.gcd n d)
  unfold impl_shareOf.f shareN
  refine Ev.bind (impl_gcd.ev n d) ?_
  have c : ¬ ((Nat.gcd n d : Nat) : Int) = 0 := by omega
  simp only [c, ↓reduceIte, tdivN]
  rw [wN _ (Nat.le_trans h1 hn), wN _ (Nat.le_trans h2 hd2)]
  exact Ev.some
theorem spec_pwShare.ev (n d : Nat) (hd : 0 < d) (hn : n ≤ 1099511627776) (hd2 : d ≤ 1099511627776) : Ev (fun k => spec_pwShare.f k (n : Int) (d : Int)) (shareN n d) := by
  have hg : 0 < Nat.gcd n d := Nat.gcd_pos_of_pos_right n hd
  have h1 := Nat.div_le_self n (Nat.gcd n d)
  have h2 := Nat.div_le_self d (Nat.gcd n d)
  unfold spec_pwShare.f shareN
  refine Ev.bind (spec_pwCommon.ev n d) ?_
  have c : ¬ ((Nat.gcd n d : Nat) : Int) = 0 := by omega
  simp only [c, ↓reduceIte, tdivN]
  rw [wN _ (Nat.le_trans h1 hn), wN _ (Nat.le_trans h2 hd2)]
  exact Ev.some
end Go.Proofs.YtidkafljeldokaaGreat.P

/- Plain laws of the laws' own words on rows of shares. -/
namespace Go.Proofs.YtidkafljeldokaaGreat.P
open Go.RowKit Go.Proofs.YtidkafljeldokaaGreatW.PrintWords Go.Proofs.YtidkafljeldokaaGreatW.PrintLast Go.Proofs.YtidkafljeldokaaGreatW.PrintMore
def asShare (p : Int × Int) : S_impl_Share := ⟨p.1, p.2⟩
theorem rd_share_nat (l : List S_impl_Share) (i : Nat) : rd_impl_Share l (i : Int) = l.getD i z_impl_Share := by simp [rd_impl_Share]
end Go.Proofs.YtidkafljeldokaaGreat.P

/- What marking a row, and looking at the marks, answers. -/
namespace Go.Proofs.YtidkafljeldokaaGreat.P
open Go.RowKit Go.Proofs.YtidkafljeldokaaGreatW.PrintWords Go.Proofs.YtidkafljeldokaaGreatW.PrintLast Go.Proofs.YtidkafljeldokaaGreatW.PrintMore
end Go.Proofs.YtidkafljeldokaaGreat.P

/- What marking a row of committees answers. -/
namespace Go.Proofs.YtidkafljeldokaaGreat.P
open Go.RowKit Go.Proofs.YtidkafljeldokaaGreatW.PrintWords Go.Proofs.YtidkafljeldokaaGreatW.PrintLast Go.Proofs.YtidkafljeldokaaGreatW.PrintMore
end Go.Proofs.YtidkafljeldokaaGreat.P

/- The pure statement of FnExactInnerChances. -/
namespace Go.Proofs.YtidkafljeldokaaGreat.P
open Go.RowKit Go.Proofs.YtidkafljeldokaaGreatW.PrintWords Go.Proofs.YtidkafljeldokaaGreatW.PrintLast Go.Proofs.YtidkafljeldokaaGreatW.PrintMore
def chance (c : S_impl_Committee) : S_impl_Share := asShare (shareN ((tab c.f1.length (cwin c.f0 c.f1)).count true) (2 ^ c.f1.length))
def innerR (xs : List S_impl_Committee) : List S_impl_Share × Bool := if areC xs = true then (xs.map chance, true) else ([], false)
theorem areC_at {xs : List S_impl_Committee} (h : areC xs = true) : xs.length ≤ 9 ∧ ∀ x ∈ xs, good x = true := by
  simp only [areC, inI, Bool.and_eq_true, decide_eq_true_eq, List.all_eq_true] at h
  exact ⟨by omega, h.2⟩
theorem innerR_len (xs : List S_impl_Committee) : (innerR xs).1.length ≤ 9 := by
  unfold innerR
  split
  · rename_i h
    have := (areC_at h).1
    simp only [List.length_map]; omega
  · simp
theorem chance_n (c : S_impl_Committee) : (tab c.f1.length (cwin c.f0 c.f1)).count true ≤ 2 ^ c.f1.length := by
  have := List.count_le_length (a := true) (l := tab c.f1.length (cwin c.f0 c.f1))
  rwa [tab_len] at this
theorem impl_InnerChances.ev (xs : List S_impl_Committee) (hl : xs.length ≤ 1048576) (hx : ∀ x ∈ xs, x.f1.length ≤ 9223372036854775807) : Ev (fun k => impl_InnerChances.f k xs) (innerR xs) := by
  unfold impl_InnerChances.f innerR
  refine Ev.bind (impl_areCommittees.ev xs hl hx) ?_
  cases h : areC xs with
  | false => exact Ev.some
  | true =>
    obtain ⟨h9, hg⟩ := areC_at h
    simp only [↓reduceIte]
    have key := Ev.down (G := fun i k => impl_InnerChances.l0 k ((xs.take i).map chance) xs (xs.length : Int) (i : Int)) (R := fun _ => (xs.map chance, true)) xs.length
      (by refine Ev.shift ?_
          simp only [impl_InnerChances.l0, Int.lt_irrefl, ↓reduceIte, List.take_length]
          exact Ev.some)
      (fun i hi ih => by
        refine Ev.shift ?_
        have c1 : (i : Int) < (xs.length : Int) := by omega
        have c0 : (0 : Int) ≤ (i : Int) := by omega
        have c2 : ((xs.take i).map chance).length < 8796093022208 := by rw [List.length_map, List.length_take]; omega
        have hgi := hg _ (getD_mem xs z_impl_Committee i hi)
        have hli := good_len hgi
        have hp : 2 ^ (xs.getD i z_impl_Committee).f1.length ≤ 512 := pow_small (m := 9) hli.2
        have hp0 := Nat.two_pow_pos (xs.getD i z_impl_Committee).f1.length
        have hcn := chance_n (xs.getD i z_impl_Committee)
        rw [take_getD xs z_impl_Committee i hi, List.map_append] at ih
        simp only [impl_InnerChances.l0, c1, c0, ↓reduceIte, rd_impl_nat, w1 hi (show xs.length ≤ 9223372036854775807 by omega)]
        refine Ev.bind (impl_Committee_votes.ev _ _ (isComm_mem hgi) (by omega)) ?_
        refine Ev.bind (impl_votes_countWins.ev _ _ (by rw [tab_len]; omega)) ?_
        have hsh := impl_shareOf.ev ((tab (xs.getD i z_impl_Committee).f1.length (cwin (xs.getD i z_impl_Committee).f0 (xs.getD i z_impl_Committee).f1)).count true) (2 ^ (xs.getD i z_impl_Committee).f1.length) hp0 (by omega) (by omega)
        simp only [tab_len]
        refine Ev.bind hsh ?_
        simp only [c2, ↓reduceIte]
        exact ih)
    exact key 0 (Nat.zero_le _)
theorem spec_InnerChances.ev (xs : List S_impl_Committee) (hl : xs.length ≤ 1048576) (hx : ∀ x ∈ xs, x.f1.length ≤ 9223372036854775807) : Ev (fun k => spec_InnerChances.f k xs) (innerR xs) := by
  unfold spec_InnerChances.f innerR
  refine Ev.bind (spec_chInners.ev xs hl hx) ?_
  cases h : areC xs with
  | false => exact Ev.some
  | true =>
    obtain ⟨h9, hg⟩ := areC_at h
    simp only [↓reduceIte]
    have key := Ev.down (G := fun i k => spec_InnerChances.l0 k ((xs.take i).map chance) xs (xs.length : Int) (i : Int)) (R := fun _ => (xs.map chance, true)) xs.length
      (by refine Ev.shift ?_
          simp only [spec_InnerChances.l0, Int.lt_irrefl, ↓reduceIte, List.take_length]
          exact Ev.some)
      (fun i hi ih => by
        have c2 : ((xs.take i).map chance).length < 8796093022208 := by rw [List.length_map, List.length_take]; omega
        have hgi := hg _ (getD_mem xs z_impl_Committee i hi)
        have hli := good_len hgi
        have hp : 2 ^ (xs.getD i z_impl_Committee).f1.length ≤ 512 := pow_small (m := 9) hli.2
        have hp0 := Nat.two_pow_pos (xs.getD i z_impl_Committee).f1.length
        have hcn := chance_n (xs.getD i z_impl_Committee)
        have hsh := spec_pwShare.ev ((tab (xs.getD i z_impl_Committee).f1.length (cwin (xs.getD i z_impl_Committee).f0 (xs.getD i z_impl_Committee).f1)).count true) (2 ^ (xs.getD i z_impl_Committee).f1.length) hp0 (by omega) (by omega)
        have tl := tab_len (xs.getD i z_impl_Committee).f1.length (cwin (xs.getD i z_impl_Committee).f0 (xs.getD i z_impl_Committee).f1)
        rw [take_getD xs z_impl_Committee i hi, List.map_append] at ih
        have inner : Ev (fun k => spec_InnerChances.l1 k ((xs.take i).map chance) 0 (tab (xs.getD i z_impl_Committee).f1.length (cwin (xs.getD i z_impl_Committee).f0 (xs.getD i z_impl_Committee).f1)) xs (xs.length : Int) (i : Int) (tab (xs.getD i z_impl_Committee).f1.length (cwin (xs.getD i z_impl_Committee).f0 (xs.getD i z_impl_Committee).f1)) ((tab (xs.getD i z_impl_Committee).f1.length (cwin (xs.getD i z_impl_Committee).f0 (xs.getD i z_impl_Committee).f1)).length : Int) 0) (xs.map chance, true) := by
          have ih' : Ev (fun k => spec_InnerChances.l0 k ((xs.take i).map chance ++ [asShare (shareN ((tab (xs.getD i z_impl_Committee).f1.length (cwin (xs.getD i z_impl_Committee).f0 (xs.getD i z_impl_Committee).f1)).count true) (2 ^ (xs.getD i z_impl_Committee).f1.length))]) xs (xs.length : Int) ((i + 1 : Nat) : Int)) (xs.map chance, true) := ih
          clear ih
          generalize tab (xs.getD i z_impl_Committee).f1.length (cwin (xs.getD i z_impl_Committee).f0 (xs.getD i z_impl_Committee).f1) = t at ih' hsh tl ⊢
          generalize 2 ^ (xs.getD i z_impl_Committee).f1.length = p at ih' hsh tl hp
          have k2 := back (P := fun j => ∀ s : Nat, s ≤ j → s + (t.drop j).count true = t.count true → Ev (fun k => spec_InnerChances.l1 k ((xs.take i).map chance) (s : Int) t xs (xs.length : Int) (i : Int) t (t.length : Int) (j : Int)) (xs.map chance, true)) t.length
            (by intro s hs he
                refine Ev.shift ?_
                rw [List.drop_length, List.count_nil, Nat.add_zero] at he
                simp only [spec_InnerChances.l1, Int.lt_irrefl, ↓reduceIte]
                rw [he, tl]
                refine Ev.bind hsh ?_
                simp only [c2, ↓reduceIte, w1 hi (show xs.length ≤ 9223372036854775807 by omega)]
                exact ih')
            (by intro j hj ihj s hs he
                refine Ev.shift ?_
                have d1 : (j : Int) < (t.length : Int) := by omega
                have d0 : (0 : Int) ≤ (j : Int) := by omega
                rw [drop_getD t false j hj, List.count_cons] at he
                simp only [spec_InnerChances.l1, d1, d0, ↓reduceIte, rdB_nat, w1 hj (show t.length ≤ 9223372036854775807 by omega)]
                cases hb : t.getD j false with
                | true =>
                  rw [hb] at he
                  simp only [beq_self_eq_true, ↓reduceIte] at he
                  simp only [↓reduceIte]
                  rw [show wrap64 ((s : Int) + 1) = ((s + 1 : Nat) : Int) by rw [w64 (by omega) (by omega)]; omega]
                  exact ihj _ (by omega) (by omega)
                | false =>
                  rw [hb] at he
                  simp only [show (false == true) = false from rfl, Bool.false_eq_true, ↓reduceIte, Nat.add_zero] at he
                  simp only [Bool.false_eq_true, ↓reduceIte]
                  exact ihj _ (by omega) he)
          exact k2 0 (Nat.zero_le _) 0 (by omega) (by rw [List.drop_zero, Nat.zero_add])
        refine Ev.shift ?_
        have c1 : (i : Int) < (xs.length : Int) := by omega
        have c0 : (0 : Int) ≤ (i : Int) := by omega
        simp only [spec_InnerChances.l0, c1, c0, ↓reduceIte, rd_impl_nat]
        refine Ev.bind (spec_voWins.ev' _ _ (isComm_mem hgi) (by omega)) ?_
        exact inner)
    exact key 0 (Nat.zero_le _)
end Go.Proofs.YtidkafljeldokaaGreat.P

/- Marks of a committee. -/
namespace Go.Proofs.YtidkafljeldokaaGreat.P
open Go.RowKit Go.Proofs.YtidkafljeldokaaGreatW.PrintWords Go.Proofs.YtidkafljeldokaaGreatW.PrintLast Go.Proofs.YtidkafljeldokaaGreatW.PrintMore
end Go.Proofs.YtidkafljeldokaaGreat.P

/- Plain laws of the laws' own words on games. -/
namespace Go.Proofs.YtidkafljeldokaaGreat.P
open Go.RowKit Go.Proofs.YtidkafljeldokaaGreatW.PrintWords Go.Proofs.YtidkafljeldokaaGreatW.PrintLast Go.Proofs.YtidkafljeldokaaGreatW.PrintMore
end Go.Proofs.YtidkafljeldokaaGreat.P

/- What marking a row of rows answers. -/
namespace Go.Proofs.YtidkafljeldokaaGreat.P
open Go.RowKit Go.Proofs.YtidkafljeldokaaGreatW.PrintWords Go.Proofs.YtidkafljeldokaaGreatW.PrintLast Go.Proofs.YtidkafljeldokaaGreatW.PrintMore
end Go.Proofs.YtidkafljeldokaaGreat.P

/- What marking a game answers. -/
namespace Go.Proofs.YtidkafljeldokaaGreat.P
open Go.RowKit Go.Proofs.YtidkafljeldokaaGreatW.PrintWords Go.Proofs.YtidkafljeldokaaGreatW.PrintLast Go.Proofs.YtidkafljeldokaaGreatW.PrintMore
end Go.Proofs.YtidkafljeldokaaGreat.P

/- What looking at the marks of a row of rows answers. -/
namespace Go.Proofs.YtidkafljeldokaaGreat.P
open Go.RowKit Go.Proofs.YtidkafljeldokaaGreatW.PrintWords Go.Proofs.YtidkafljeldokaaGreatW.PrintLast Go.Proofs.YtidkafljeldokaaGreatW.PrintMore
end Go.Proofs.YtidkafljeldokaaGreat.P

/- How many swings each member has. -/
namespace Go.Proofs.YtidkafljeldokaaGreat.P
open Go.RowKit Go.Proofs.YtidkafljeldokaaGreatW.PrintWords Go.Proofs.YtidkafljeldokaaGreatW.PrintLast Go.Proofs.YtidkafljeldokaaGreatW.PrintMore
theorem impl_votes_isSwing.eq (n : Nat) (w : List Bool) (m i : Nat) (hw : w.length = 2 ^ n) (hn : n ≤ 40) (hm : m < 2 ^ n) (hi : i < n) : impl_votes_isSwing.f (n : Int) w (m : Int) (i : Int) = some (swing w i m) := by
  have h40 : 2 ^ n ≤ 1099511627776 := pow_small hn
  have c0 : (0 : Int) ≤ (m : Int) := by omega
  have c1 : (0 : Int) ≤ (i : Int) := by omega
  have c2 : (m : Int) < (w.length : Int) := by omega
  have hp : 2 ^ i < 2 ^ 63 := Nat.pow_lt_pow_right (by omega) (by omega)
  unfold impl_votes_isSwing.f swing
  rw [impl_has.eq m i (by omega) (by omega), Option.bind_some]
  cases hb : m.testBit i with
  | true => simp
  | false =>
    have e : Go.bits .or .i64 (m : Int) (shl .i64 1 (i : Int)) = ((m + 2 ^ i : Nat) : Int) := by
      rw [shl_one i (by omega), or_nat m (2 ^ i) (by omega) hp, or_pow hb]
    have hlt := with_lt hm hi hb
    have hpos := Nat.two_pow_pos i
    have c3 : (0 : Int) ≤ ((m + 2 ^ i : Nat) : Int) := by omega
    have c4 : ((m + 2 ^ i : Nat) : Int) < (w.length : Int) := by omega
    simp only [e, c0, c1, c2, c3, c4, ↓reduceIte, rdB_nat, Bool.false_eq_true, Bool.not_false, Bool.true_and]
    cases w.getD m false <;> simp
theorem impl_votes_swings.ev (n : Nat) (w : List Bool) (hw : w.length = 2 ^ n) (hn : n ≤ 40) : Ev (fun k => impl_votes_swings.f k (n : Int) w) (swl n w) := by
  have h40 : 2 ^ n ≤ 1099511627776 := pow_small hn
  have c0 : (0 : Int) ≤ (n : Int) := by omega
  have c1 : n ≤ 35184372088832 := by omega
  have sl := swl_len n w
  unfold impl_votes_swings.f
  simp only [c0, c1, ↓reduceIte, Int.toNat_natCast, Option.bind_some, List.length_replicate]
  have key := Ev.down (G := fun i k => impl_votes_swings.l0 k (filled (swl n w) 0 i) (n : Int) (i : Int) (n : Int) w) (R := fun _ => swl n w) n
    (by refine Ev.shift ?_
        have : filled (swl n w) 0 n = swl n w := by have := filled_all (swl n w) 0; rwa [sl] at this
        simp only [impl_votes_swings.l0, Int.lt_irrefl, ↓reduceIte, this]
        exact Ev.some)
    (fun i hi ih => by
      have hfl := filled_len (swl n w) 0 i (by omega)
      have inner := back (P := fun m => Ev (fun k => impl_votes_swings.l1 k ((filled (swl n w) 0 i).set i (((List.range m).countP (swing w i) : Nat) : Int)) (i : Int) (n : Int) (i : Int) (w.length : Int) (m : Int) (n : Int) w) (swl n w)) (2 ^ n)
        (by refine Ev.shift ?_
            have e := filled_set (swl n w) 0 0 i (by omega)
            rw [swl_get n w i hi] at e
            simp only [impl_votes_swings.l1, hw, Int.lt_irrefl, ↓reduceIte, e, w1 hi (show n ≤ 9223372036854775807 by omega)]
            exact ih)
        (fun m hm ihm => by
          refine Ev.shift ?_
          have d1 : (m : Int) < (w.length : Int) := by omega
          have d0 : (0 : Int) ≤ (i : Int) := by omega
          have d2 : (i : Int) < ((filled (swl n w) 0 i).length : Int) := by omega
          simp only [impl_votes_swings.l1, d1, ↓reduceIte, impl_votes_isSwing.eq n w m i hw hn hm hi, Option.bind_some, List.length_set, d0, d2, w1 hm (show 2 ^ n ≤ 9223372036854775807 by omega), rd_nat, Int.toNat_natCast, List.set_set]
          rw [List.range_succ, List.countP_append, List.countP_singleton] at ihm
          have hc : (List.range m).countP (swing w i) ≤ m := by
            have := List.countP_le_length (p := swing w i) (l := List.range m)
            rwa [List.length_range] at this
          cases hs : swing w i m with
          | true =>
            have eg : ((filled (swl n w) 0 i).set i (((List.range m).countP (swing w i) : Nat) : Int)).getD i 0 = (((List.range m).countP (swing w i) : Nat) : Int) := by
              rw [List.getD_eq_getElem?_getD, List.getElem?_set_self (by omega)]; rfl
            simp only [hs, ↓reduceIte] at ihm
            simp only [↓reduceIte, eg]
            rw [show wrap64 ((((List.range m).countP (swing w i) : Nat) : Int) + 1) = (((List.range m).countP (swing w i) + 1 : Nat) : Int) by rw [w64 (by omega) (by omega)]; omega]
            exact ihm
          | false =>
            simp only [hs, Bool.false_eq_true, ↓reduceIte, Nat.add_zero] at ihm
            simp only [Bool.false_eq_true, ↓reduceIte]
            exact ihm)
      refine Ev.shift ?_
      have d1 : (i : Int) < (n : Int) := by omega
      simp only [impl_votes_swings.l0, d1, ↓reduceIte]
      have i0 := inner 0 (Nat.zero_le _)
      have e0 : (filled (swl n w) 0 i).set i 0 = filled (swl n w) 0 i := by
        apply List.ext_getElem?
        intro j
        rw [List.getElem?_set]
        split
        · rename_i h; subst h
          rw [if_pos (by omega)]
          unfold filled
          rw [List.getElem?_append_right (by simp; omega), List.getElem?_replicate]
          rw [if_pos (by simp; omega)]
        · rfl
      rw [List.range_zero, List.countP_nil] at i0
      simp only [Int.natCast_zero, e0] at i0
      exact i0)
  have := key 0 (Nat.zero_le _)
  rw [filled_zero, sl] at this
  exact this
end Go.Proofs.YtidkafljeldokaaGreat.P

/- How many swings each member has. -/
namespace Go.Proofs.YtidkafljeldokaaGreat.P
open Go.RowKit Go.Proofs.YtidkafljeldokaaGreatW.PrintWords Go.Proofs.YtidkafljeldokaaGreatW.PrintLast Go.Proofs.YtidkafljeldokaaGreatW.PrintMore
theorem spec_pwSwings.ev (n : Nat) (w : List Bool) (i : Nat) (hw : w.length = 2 ^ n) (hn : n ≤ 40) (hi : i < n) : Ev (fun k => spec_pwSwings.f k w (i : Int)) (((List.range (2 ^ n)).filter (swing w i)).map fun m : Nat => (m : Int)) := by
  have h40 : 2 ^ n ≤ 1099511627776 := pow_small hn
  have c0 : (0 : Int) ≤ (i : Int) := by omega
  have key := back (P := fun m => Ev (fun k => spec_pwSwings.l0 k w (i : Int) (((List.range m).filter (swing w i)).map fun m : Nat => (m : Int)) w (w.length : Int) (m : Int)) (((List.range (2 ^ n)).filter (swing w i)).map fun m : Nat => (m : Int))) (2 ^ n)
    (by refine Ev.shift ?_
        simp only [spec_pwSwings.l0, hw, Int.lt_irrefl, ↓reduceIte]
        exact Ev.some)
    (fun m hm ih => by
      refine Ev.shift ?_
      have d1 : (m : Int) < (w.length : Int) := by omega
      have d0 : (0 : Int) ≤ (m : Int) := by omega
      rw [List.range_succ, List.filter_append, List.map_append] at ih
      have hc : (((List.range m).filter (swing w i)).map fun m : Nat => (m : Int)).length < 17592186044416 := by
        have := List.length_filter_le (swing w i) (List.range m)
        rw [List.length_range] at this
        rw [List.length_map]; omega
      have hp : 2 ^ i < 2 ^ 63 := Nat.pow_lt_pow_right (by omega) (by omega)
      simp only [spec_pwSwings.l0, d1, d0, c0, ↓reduceIte, shr_nat m i (by omega), tmod_two, rdB_nat, shl_one i (by omega), w1 hm (show 2 ^ n ≤ 9223372036854775807 by omega)]
      have off : swing w i m = false → Ev (fun k => spec_pwSwings.l0 k w (i : Int) (((List.range m).filter (swing w i)).map fun m : Nat => (m : Int)) w (w.length : Int) ((m + 1 : Nat) : Int)) (((List.range (2 ^ n)).filter (swing w i)).map fun m : Nat => (m : Int)) := by
        intro hs
        rw [List.filter_cons_of_neg (by simp [hs]), List.filter_nil, List.map_nil, List.append_nil] at ih
        exact ih
      have on : swing w i m = true → Ev (fun k => spec_pwSwings.l0 k w (i : Int) ((((List.range m).filter (swing w i)).map fun m : Nat => (m : Int)) ++ [(m : Int)]) w (w.length : Int) ((m + 1 : Nat) : Int)) (((List.range (2 ^ n)).filter (swing w i)).map fun m : Nat => (m : Int)) := by
        intro hs
        rw [List.filter_cons_of_pos hs, List.filter_nil] at ih
        exact ih
      cases hb : m.testBit i with
      | true =>
        rw [bit_nat, decide_eq_true_eq] at hb
        have hb' : ¬ ((m / 2 ^ i % 2 : Nat) : Int) = 0 := by omega
        simp only [hb', ↓reduceIte]
        exact off (by unfold swing; rw [bit_nat, hb]; rfl)
      | false =>
        have hlt := with_lt hm hi hb
        have hpos := Nat.two_pow_pos i
        have hb0 := hb
        rw [bit_nat, decide_eq_false_iff_not] at hb
        have hb' : ((m / 2 ^ i % 2 : Nat) : Int) = 0 := by omega
        simp only [hb', ↓reduceIte]
        cases h1 : w.getD m false with
        | true =>
          simp only [↓reduceIte]
          exact off (by unfold swing; rw [hb0, h1]; rfl)
        | false =>
          have ew : wrap64 ((m : Int) + ((2 ^ i : Nat) : Int)) = ((m + 2 ^ i : Nat) : Int) := by rw [w64 (by omega) (by omega)]; omega
          have d3 : (0 : Int) ≤ ((m + 2 ^ i : Nat) : Int) := by omega
          have d4 : ((m + 2 ^ i : Nat) : Int) < (w.length : Int) := by omega
          simp only [Bool.false_eq_true, ↓reduceIte, ew, d3, d4, rdB_nat, hc]
          cases h2 : w.getD (m + 2 ^ i) false with
          | true =>
            simp only [↓reduceIte]
            exact on (by unfold swing; rw [hb0, h1, h2]; rfl)
          | false =>
            simp only [Bool.false_eq_true, ↓reduceIte]
            exact off (by unfold swing; rw [hb0, h1, h2]; rfl))
  exact key 0 (Nat.zero_le _)
theorem spec_pwCounts.ev (n : Nat) (w : List Bool) (hw : w.length = 2 ^ n) (hn : n ≤ 40) : Ev (fun k => spec_pwCounts.f k w (n : Int)) (swl n w) := by
  have sl := swl_len n w
  have key := back (P := fun i => Ev (fun k => spec_pwCounts.l0 k w (n : Int) ((swl n w).take i) (i : Int)) (swl n w)) n
    (by refine Ev.shift ?_
        have : (swl n w).take n = swl n w := by rw [List.take_of_length_le (by omega)]
        simp only [spec_pwCounts.l0, Int.lt_irrefl, ↓reduceIte, this]
        exact Ev.some)
    (fun i hi ih => by
      refine Ev.shift ?_
      have d1 : (i : Int) < (n : Int) := by omega
      simp only [spec_pwCounts.l0, d1, ↓reduceIte]
      refine Ev.bind (spec_pwSwings.ev n w i hw hn hi) ?_
      have hc : ((swl n w).take i).length < 17592186044416 := by rw [List.length_take]; omega
      have e : (swl n w).take i ++ [(((((List.range (2 ^ n)).filter (swing w i)).map fun m : Nat => (m : Int)).length : Nat) : Int)] = (swl n w).take (i + 1) := by
        rw [take_getD (swl n w) 0 i (by omega), swl_get n w i hi, List.length_map, List.countP_eq_length_filter]
      simp only [hc, ↓reduceIte, e, w1 hi (show n ≤ 9223372036854775807 by omega)]
      exact ih)
  exact key 0 (Nat.zero_le _)
end Go.Proofs.YtidkafljeldokaaGreat.P

/- The pure statement of FnExactCouncilPowers. -/
namespace Go.Proofs.YtidkafljeldokaaGreat.P
open Go.RowKit Go.Proofs.YtidkafljeldokaaGreatW.PrintWords Go.Proofs.YtidkafljeldokaaGreatW.PrintLast Go.Proofs.YtidkafljeldokaaGreatW.PrintMore
def sharesL (l : List Int) (d : Nat) : List S_impl_Share := l.map fun x => asShare (shareN x.toNat d)
theorem impl_sharesOf.ev (l : List Int) (d : Nat) (hd : 0 < d) (hd2 : d ≤ 1099511627776) (hl : l.length ≤ 1048576) (hx : ∀ x ∈ l, 0 ≤ x ∧ x ≤ 1099511627776) : Ev (fun k => impl_sharesOf.f k l (d : Int)) (sharesL l d) := by
  unfold impl_sharesOf.f
  have key := Ev.down (G := fun i k => impl_sharesOf.l0 k (d : Int) (sharesL (l.take i) d) l (l.length : Int) (i : Int)) (R := fun _ => sharesL l d) l.length
    (by refine Ev.shift ?_
        simp only [impl_sharesOf.l0, Int.lt_irrefl, ↓reduceIte, List.take_length]
        exact Ev.some)
    (fun i hi ih => by
      refine Ev.shift ?_
      have c1 : (i : Int) < (l.length : Int) := by omega
      have c0 : (0 : Int) ≤ (i : Int) := by omega
      have c2 : (sharesL (l.take i) d).length < 8796093022208 := by unfold sharesL; rw [List.length_map, List.length_take]; omega
      have hxi := hx _ (getD_mem l 0 i hi)
      obtain ⟨j, hj⟩ : ∃ j : Nat, l.getD i 0 = (j : Int) := ⟨(l.getD i 0).toNat, by omega⟩
      have es : sharesL (l.take (i + 1)) d = sharesL (l.take i) d ++ [asShare (shareN j d)] := by
        unfold sharesL
        rw [take_getD l 0 i hi, List.map_append, hj]
        rfl
      rw [es] at ih
      simp only [impl_sharesOf.l0, c1, c0, ↓reduceIte, rd_nat, hj, w1 hi (show l.length ≤ 9223372036854775807 by omega)]
      refine Ev.bind (impl_shareOf.ev j d hd (by omega) hd2) ?_
      simp only [c2, ↓reduceIte]
      exact ih)
  exact key 0 (Nat.zero_le _)
theorem swl_mem (n : Nat) (w : List Bool) (h : n ≤ 9) : ∀ x ∈ swl n w, 0 ≤ x ∧ x ≤ 512 := by
  intro x hx
  simp only [swl, List.mem_map, List.mem_range] at hx
  obtain ⟨i, _, rfl⟩ := hx
  have h1 := List.countP_le_length (p := swing w i) (l := List.range (2 ^ n))
  rw [List.length_range] at h1
  have h2 : 2 ^ n ≤ 512 := pow_small (m := 9) h
  omega
def councilP (q : Int) (l : List Int) (xs : List S_impl_Committee) : List S_impl_Share × Bool :=
  if areCouncil q l xs = true then (sharesL (swl (heads xs).toNat (tab (heads xs).toNat (cow q l xs))) (2 ^ ((heads xs).toNat - 1)), true) else ([], false)
theorem heads_at {q : Int} {l : List Int} {xs : List S_impl_Committee} (h : areCouncil q l xs = true) : ∃ m : Nat, heads xs = ((m + 1 : Nat) : Int) ∧ m < 9 := by
  obtain ⟨h1, h2, h3, h4⟩ := areCouncil_at h
  have hlen := isComm_len h1
  have hb := heads_bounds xs h3
  exact ⟨(heads xs).toNat - 1, by omega, by omega⟩
theorem councilP_len (q : Int) (l : List Int) (xs : List S_impl_Committee) : (councilP q l xs).1.length ≤ 9 := by
  unfold councilP
  split
  · rename_i h
    obtain ⟨m, hm, h9⟩ := heads_at h
    simp only [sharesL, List.length_map, swl_len]
    omega
  · simp
theorem half_pow (m : Nat) (hm : m < 9) : wrap64 (((2 ^ (m + 1) : Nat) : Int) / 2) = ((2 ^ m : Nat) : Int) := by
  have h : 2 ^ m ≤ 512 := pow_small (m := 9) (by omega)
  rw [Nat.pow_succ]
  generalize 2 ^ m = p at h
  rw [w64 (by omega) (by omega)]
  omega
theorem impl_CouncilPowers.ev (q : Int) (l : List Int) (xs : List S_impl_Committee) (hl : l.length ≤ 9223372036854775807) (hl' : xs.length ≤ 1048576) (hx : ∀ x ∈ xs, x.f1.length ≤ 9223372036854775807) :
    Ev (fun k => impl_CouncilPowers.f k q l xs) (councilP q l xs) := by
  unfold impl_CouncilPowers.f councilP
  refine Ev.bind (impl_AreCouncil.ev q l xs hl hl' hx) ?_
  cases h : areCouncil q l xs with
  | false => exact Ev.some
  | true =>
    obtain ⟨h1, h2, h3, h4⟩ := areCouncil_at h
    have hlen := isComm_len h1
    obtain ⟨m, hm, h9⟩ := heads_at h
    simp only [↓reduceIte]
    have iv := impl_councilVotes.ev q l xs h2 (isComm_mem h1) h3 h4 hlen.2
    rw [hm] at iv ⊢
    simp only [Int.toNat_natCast, Nat.add_sub_cancel] at iv ⊢
    refine Ev.bind iv (Ev.bind (impl_votes_swings.ev (m + 1) _ (tab_len _ _) (by omega)) ?_)
    simp only [tab_len, half_pow m h9]
    have hp : 2 ^ m ≤ 512 := pow_small (m := 9) (by omega)
    exact Ev.bind (impl_sharesOf.ev _ _ (Nat.two_pow_pos m) (by omega) (by rw [swl_len]; omega) (fun x hx => by have := swl_mem _ _ (by omega) x hx; omega)) Ev.some
theorem spec_CouncilPowers.ev (q : Int) (l : List Int) (xs : List S_impl_Committee) (hl : l.length ≤ 9223372036854775807) (hl' : xs.length ≤ 1048576) (hx : ∀ x ∈ xs, x.f1.length ≤ 9223372036854775807) :
    Ev (fun k => spec_CouncilPowers.f k q l xs) (councilP q l xs) := by
  unfold spec_CouncilPowers.f councilP
  refine Ev.bind (spec_AreCouncil.ev q l xs hl hl' hx) ?_
  cases h : areCouncil q l xs with
  | false => exact Ev.some
  | true =>
    obtain ⟨h1, h2, h3, h4⟩ := areCouncil_at h
    have hlen := isComm_len h1
    obtain ⟨m, hm, h9⟩ := heads_at h
    simp only [↓reduceIte]
    have sm := spec_chMembers.ev xs hl' hx
    rw [h3] at sm
    simp only [↓reduceIte] at sm
    have sc := spec_chCouncil.ev q l xs h2 (isComm_mem h1) h3 h4 hlen.2
    rw [hm] at sm sc ⊢
    simp only [Int.toNat_natCast, Nat.add_sub_cancel] at sc ⊢
    refine Ev.bind sm (Ev.bind sc (Ev.bind (spec_pwCounts.ev (m + 1) _ (tab_len _ _) (by omega)) ?_))
    have hp : 2 ^ m ≤ 512 := pow_small (m := 9) (by omega)
    have hsl := swl_len (m + 1) (tab (m + 1) (cow q l xs))
    have hsm := swl_mem (m + 1) (tab (m + 1) (cow q l xs)) (by omega)
    generalize swl (m + 1) (tab (m + 1) (cow q l xs)) = s at hsl hsm ⊢
    have em : wrap64 (((m + 1 : Nat) : Int) - 1) = (m : Int) := by rw [w64 (by omega) (by omega)]; omega
    have cm : (0 : Int) ≤ (m : Int) := by omega
    have key := Ev.down (G := fun i k => spec_CouncilPowers.l0 k ((m + 1 : Nat) : Int) (sharesL (s.take i) (2 ^ m)) s (s.length : Int) (i : Int)) (R := fun _ => (sharesL s (2 ^ m), true)) s.length
      (by refine Ev.shift ?_
          simp only [spec_CouncilPowers.l0, Int.lt_irrefl, ↓reduceIte, List.take_length]
          exact Ev.some)
      (fun i hi ih => by
        refine Ev.shift ?_
        have c1 : (i : Int) < (s.length : Int) := by omega
        have c0 : (0 : Int) ≤ (i : Int) := by omega
        have c2 : (sharesL (s.take i) (2 ^ m)).length < 8796093022208 := by unfold sharesL; rw [List.length_map, List.length_take]; omega
        have hxi := hsm _ (getD_mem s 0 i hi)
        obtain ⟨j, hj⟩ : ∃ j : Nat, s.getD i 0 = (j : Int) := ⟨(s.getD i 0).toNat, by omega⟩
        have es : sharesL (s.take (i + 1)) (2 ^ m) = sharesL (s.take i) (2 ^ m) ++ [asShare (shareN j (2 ^ m))] := by
          unfold sharesL
          rw [take_getD s 0 i hi, List.map_append, hj]
          rfl
        rw [es] at ih
        simp only [spec_CouncilPowers.l0, c1, c0, em, cm, ↓reduceIte, rd_nat, hj, shl_one m (show m < 63 by omega), w1 hi (show s.length ≤ 9223372036854775807 by omega)]
        refine Ev.bind (spec_pwShare.ev j (2 ^ m) (Nat.two_pow_pos m) (by omega) (by omega)) ?_
        simp only [c2, ↓reduceIte]
        exact ih)
    exact key 0 (Nat.zero_le _)
end Go.Proofs.YtidkafljeldokaaGreat.P

/- The pure statement of FnExactCountCouncilWins. -/
namespace Go.Proofs.YtidkafljeldokaaGreat.P
open Go.RowKit Go.Proofs.YtidkafljeldokaaGreatW.PrintWords Go.Proofs.YtidkafljeldokaaGreatW.PrintLast Go.Proofs.YtidkafljeldokaaGreatW.PrintMore
def councilCount (q : Int) (l : List Int) (xs : List S_impl_Committee) : Int × Bool := if areCouncil q l xs = true then (((tab (heads xs).toNat (cow q l xs)).count true : Int), true) else (0, false)
theorem impl_CountCouncilWins.ev (q : Int) (l : List Int) (xs : List S_impl_Committee) (hl : l.length ≤ 9223372036854775807) (hl' : xs.length ≤ 1048576) (hx : ∀ x ∈ xs, x.f1.length ≤ 9223372036854775807) :
    Ev (fun k => impl_CountCouncilWins.f k q l xs) (councilCount q l xs) := by
  unfold impl_CountCouncilWins.f councilCount
  refine Ev.bind (impl_AreCouncil.ev q l xs hl hl' hx) ?_
  cases h : areCouncil q l xs with
  | false => exact Ev.some
  | true =>
    obtain ⟨h1, h2, h3, h4⟩ := areCouncil_at h
    have hlen := isComm_len h1
    have hp9 : 2 ^ (heads xs).toNat ≤ 2 ^ 9 := pow_small (by omega)
    simp only [↓reduceIte]
    exact Ev.bind (impl_councilVotes.ev q l xs h2 (isComm_mem h1) h3 h4 hlen.2) (Ev.bind (impl_votes_countWins.ev _ _ (by rw [tab_len]; omega)) Ev.some)
theorem spec_CountCouncilWins.ev (q : Int) (l : List Int) (xs : List S_impl_Committee) (hl : l.length ≤ 9223372036854775807) (hl' : xs.length ≤ 1048576) (hx : ∀ x ∈ xs, x.f1.length ≤ 9223372036854775807) :
    Ev (fun k => spec_CountCouncilWins.f k q l xs) (councilCount q l xs) := by
  unfold spec_CountCouncilWins.f councilCount
  refine Ev.bind (spec_AreCouncil.ev q l xs hl hl' hx) ?_
  cases h : areCouncil q l xs with
  | false => exact Ev.some
  | true =>
    obtain ⟨h1, h2, h3, h4⟩ := areCouncil_at h
    have hlen := isComm_len h1
    have hp9 : 2 ^ (heads xs).toNat ≤ 2 ^ 9 := pow_small (by omega)
    simp only [↓reduceIte]
    refine Ev.bind (spec_chCouncil.ev q l xs h2 (isComm_mem h1) h3 h4 hlen.2) ?_
    have tl := tab_len (heads xs).toNat (cow q l xs)
    generalize tab (heads xs).toNat (cow q l xs) = t at tl ⊢
    have key := back (P := fun i => ∀ s : Nat, s ≤ i → Ev (fun k => spec_CountCouncilWins.l0 k (s : Int) t (t.length : Int) (i : Int)) (((s + (t.drop i).count true : Nat) : Int), true)) t.length
      (by intro s hs
          refine Ev.shift ?_
          simp only [spec_CountCouncilWins.l0, Int.lt_irrefl, ↓reduceIte, List.drop_length, List.count_nil, Nat.add_zero]
          exact Ev.some)
      (by intro i hi ih s hs
          refine Ev.shift ?_
          have c1 : (i : Int) < (t.length : Int) := by omega
          have c0 : (0 : Int) ≤ (i : Int) := by omega
          simp only [spec_CountCouncilWins.l0, c1, c0, ↓reduceIte, w1 hi (show t.length ≤ 9223372036854775807 by omega), rdB_nat]
          rw [drop_getD t false i hi, List.count_cons]
          cases t.getD i false with
          | true =>
            simp only [↓reduceIte, beq_self_eq_true]
            rw [show wrap64 ((s : Int) + 1) = ((s + 1 : Nat) : Int) by rw [w64 (by omega) (by omega)]; omega]
            refine Ev.eq (ih _ (by omega)) ?_
            congr 2; omega
          | false =>
            simp only [Bool.false_eq_true, ↓reduceIte, show (false == true) = false from rfl]
            refine Ev.eq (ih _ (by omega)) ?_
            congr 2)
    have := key 0 (Nat.zero_le _) 0 (by omega)
    rw [List.drop_zero, Nat.zero_add] at this
    exact this
end Go.Proofs.YtidkafljeldokaaGreat.P

/- The laws' own words on lists. -/
namespace Go.Proofs.YtidkafljeldokaaGreat.P
open Go.RowKit Go.Proofs.YtidkafljeldokaaGreatW.PrintWords Go.Proofs.YtidkafljeldokaaGreatW.PrintLast Go.Proofs.YtidkafljeldokaaGreatW.PrintMore
theorem laws_mSame.ev (l : List Int) (hl : l.length ≤ 9223372036854775807) : Ev (fun k => laws_mSame.f k l l) true := by
  unfold laws_mSame.f
  refine Ev.ite_pos rfl ?_
  have key := Ev.down (G := fun i k => laws_mSame.l0 k l l (l.length : Int) (i : Int)) (R := fun _ => true) l.length
    (by refine Ev.shift ?_
        simp only [laws_mSame.l0, Int.lt_irrefl, ↓reduceIte]
        exact Ev.some)
    (fun i hi ih => by
      refine Ev.shift ?_
      have c1 : (i : Int) < (l.length : Int) := by omega
      have c0 : (0 : Int) ≤ (i : Int) := by omega
      simp only [laws_mSame.l0, c1, c0, ↓reduceIte, w1 hi hl]
      exact ih)
  exact key 0 (Nat.zero_le _)
theorem laws_mSets.ev (l : List (List Int)) (hl : l.length ≤ 9223372036854775807) (hx : ∀ x ∈ l, x.length ≤ 9223372036854775807) : Ev (fun k => laws_mSets.f k l l) true := by
  unfold laws_mSets.f
  refine Ev.ite_pos rfl ?_
  have key := Ev.down (G := fun i k => laws_mSets.l0 k l l (l.length : Int) (i : Int)) (R := fun _ => true) l.length
    (by refine Ev.shift ?_
        simp only [laws_mSets.l0, Int.lt_irrefl, ↓reduceIte]
        exact Ev.some)
    (fun i hi ih => by
      refine Ev.shift ?_
      have c1 : (i : Int) < (l.length : Int) := by omega
      have c0 : (0 : Int) ≤ (i : Int) := by omega
      simp only [laws_mSets.l0, c1, c0, ↓reduceIte, w1 hi hl, rd_LI_nat]
      refine Ev.bind (laws_mSame.ev _ (hx _ (getD_mem l [] i hi))) ?_
      simp only [↓reduceIte]
      exact ih)
  exact key 0 (Nat.zero_le _)
theorem laws_mGame.ev (n : Int) (l : List (List Int)) (hl : l.length ≤ 9223372036854775807) (hx : ∀ x ∈ l, x.length ≤ 9223372036854775807) : Ev (fun k => laws_mGame.f k n l n l) true := by
  unfold laws_mGame.f
  exact Ev.ite_pos rfl (Ev.bind (laws_mSets.ev l hl hx) Ev.some)
theorem laws_mShares.ev (l : List S_impl_Share) (hl : l.length ≤ 9223372036854775807) : Ev (fun k => laws_mShares.f k l l) true := by
  unfold laws_mShares.f
  refine Ev.ite_pos rfl ?_
  have key := Ev.down (G := fun i k => laws_mShares.l0 k l l (l.length : Int) (i : Int)) (R := fun _ => true) l.length
    (by refine Ev.shift ?_
        simp only [laws_mShares.l0, Int.lt_irrefl, ↓reduceIte]
        exact Ev.some)
    (fun i hi ih => by
      refine Ev.shift ?_
      have c1 : (i : Int) < (l.length : Int) := by omega
      have c0 : (0 : Int) ≤ (i : Int) := by omega
      simp only [laws_mShares.l0, c1, c0, ↓reduceIte, w1 hi hl, beq_self_eq_true, Bool.not_true, Bool.or_self, Bool.false_eq_true]
      exact ih)
  exact key 0 (Nat.zero_le _)
theorem laws_mHas.ev (l : List Int) (v : Int) (hl : l.length ≤ 9223372036854775807) : Ev (fun k => laws_mHas.f k l v) (hasN l v) := by
  unfold laws_mHas.f hasN
  have key := Ev.down (G := fun i k => laws_mHas.l0 k v l (l.length : Int) (i : Int)) (R := fun i => (l.drop i).any fun x => decide (v = x)) l.length
    (by refine Ev.shift ?_
        simp only [laws_mHas.l0, Int.lt_irrefl, ↓reduceIte, List.drop_length, List.any_nil]
        exact Ev.some)
    (fun i hi ih => by
      refine Ev.shift ?_
      have c1 : (i : Int) < (l.length : Int) := by omega
      have c0 : (0 : Int) ≤ (i : Int) := by omega
      rw [drop_getD l 0 i hi, List.any_cons]
      simp only [laws_mHas.l0, c1, c0, ↓reduceIte, w1 hi hl, rd_nat]
      by_cases e : l.getD i 0 = v
      · refine Ev.ite_pos e ?_
        rw [decide_eq_true e.symm]
        exact Ev.some
      · refine Ev.ite_neg e ?_
        rw [decide_eq_false (fun h => e h.symm), Bool.false_or]
        exact ih)
  exact key 0 (Nat.zero_le _)
theorem laws_mSum.ev (l : List Int) (hl : l.length ≤ 9223372036854775807) : Ev (fun k => laws_mSum.f k l) (wsum l) := by
  unfold laws_mSum.f wsum
  have key := Ev.down (G := fun i k => laws_mSum.l0 k ((l.take i).foldl (fun s x => wrap64 (s + x)) 0) l (l.length : Int) (i : Int)) (R := fun _ => l.foldl (fun s x => wrap64 (s + x)) 0) l.length
    (by refine Ev.shift ?_
        simp only [laws_mSum.l0, Int.lt_irrefl, ↓reduceIte, List.take_length]
        exact Ev.some)
    (fun i hi ih => by
      refine Ev.shift ?_
      have c1 : (i : Int) < (l.length : Int) := by omega
      have c0 : (0 : Int) ≤ (i : Int) := by omega
      rw [foldl_take _ _ l 0 i hi] at ih
      simp only [laws_mSum.l0, c1, c0, ↓reduceIte, w1 hi hl, rd_nat]
      exact ih)
  exact key 0 (Nat.zero_le _)
end Go.Proofs.YtidkafljeldokaaGreat.P
