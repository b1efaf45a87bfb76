/- Part 5 of the texts below the law FnExactNeedlessChambers. Printed by this session's driver over the kit's printer, but for the hand contracts and the plain laws. -/
import Derived.ProofKit
import Derived.Deep.Slices
import Derived.Test.YthkbaolpiigioaaCNeedlessChambers0
import Derived.Test.YthkbaolpiigioaaCNeedlessChambers1
import Derived.Test.YthkbaolpiigioaaCNeedlessChambers2
import Derived.Test.YthkbaolpiigioaaCNeedlessChambers3
import Derived.Test.YthkbaolpiigioaaCNeedlessChambers4
set_option linter.unusedVariables false
set_option linter.unusedSimpArgs false
/- From a datum's reading to a value that the printed contracts speak of: kind by kind. No program in sight. -/
namespace Go.Proofs.Ythkbaolpiigioaa.P
open Go.RowKit Go.ChangeShapes Go.WideShapes Go.Proofs.YthkbaolpiigioaaW.PrintWords Go.Proofs.YthkbaolpiigioaaW.PrintLast Go.Proofs.YthkbaolpiigioaaW.PrintMore
def okI (x : Int) : Prop := -9223372036854775808 ≤ x ∧ x ≤ 9223372036854775807
def okL {α : Type} (Ok : α → Prop) (l : List α) : Prop := l.length ≤ 9223372036854775807 ∧ ∀ x ∈ l, Ok x
structure Opens {α : Type} (P : Program) (T : TypeId) (d : Kd α) (Ok : α → Prop) : Prop where
  go : ∀ {H : Type} (enc : TypeId × Value → H) (w : World) (fuel : Nat) (cs : List Value) (x : DataW H × List MemPlace),
    DataW.trod enc P w 0 (fun _ => true) true fuel T cs = some x → ∃ a, d.K w a cs ∧ Ok a
theorem Opens.int {P : Program} {T : TypeId} (h : P.underlying T = some (.int .i64)) : Opens P T (Kd.int .i64) okI := by
  refine ⟨fun enc w fuel cs x hx => ?_⟩
  obtain ⟨n, rfl, _, hw⟩ := DataW.trod_int h hx
  refine ⟨n, rfl, ?_⟩
  have hmin : IntKind.i64.min = -9223372036854775808 := rfl
  have hmax : IntKind.i64.max = 9223372036854775807 := rfl
  simp only [Lit.wf, Bool.and_eq_true, decide_eq_true_eq] at hw
  unfold okI
  omega
theorem cells_get {w : World} {a : Addr} {n : Nat} {cs : List Value} (h : w.cells? 0 a n = some cs) : cs.length = n ∧ ∀ j u, cs[j]? = some u → w.cell? (a.add j) = some u := by
  unfold World.cells? at h
  rw [if_pos (Nat.zero_le _)] at h
  have key : ∀ (l : List Nat) (r : List Value), l.mapM (fun i => w.cell? (a.add i)) = some r → r.length = l.length ∧ ∀ (j : Nat) (u : Value) (i : Nat), r[j]? = some u → l[j]? = some i → w.cell? (a.add i) = some u := by
    intro l
    induction l with
    | nil => intro r hr; simp at hr; subst hr; simp
    | cons i l ih =>
      intro r hr
      simp only [List.mapM_cons, Option.bind_eq_bind, Option.bind_eq_some_iff] at hr
      obtain ⟨v, hv, r', hr', he⟩ := hr
      have he' : v :: r' = r := by simpa using he
      subst he'
      obtain ⟨h1, h2⟩ := ih r' hr'
      refine ⟨by simp [h1], fun j u k hj hk => ?_⟩
      cases j with
      | zero => simp at hj hk; subst hj; subst hk; exact hv
      | succ j => simp at hj hk; exact h2 j u k hj hk
  obtain ⟨h1, h2⟩ := key _ _ h
  refine ⟨by simpa using h1, fun j u hj => ?_⟩
  have hlt : j < cs.length := (List.getElem?_eq_some_iff.1 hj).1
  exact h2 j u j hj (by rw [List.getElem?_range (by simpa [h1] using hlt)])
theorem add_add_ (a : Addr) (i j : Nat) : (a.add i).add j = a.add (i + j) := Go.Deep.add_add a i j
theorem Opens.slice {α : Type} {P : Program} {T e : TypeId} {d : Kd α} {Ok : α → Prop} (h : P.underlying T = some (.slice e)) (hc : P.cellsOf e = d.sz) (hd : Opens P e d Ok) : Opens P T (Kd.slice e d) (okL Ok) := by
  refine ⟨fun enc w fuel cs x hx => ?_⟩
  rcases Go.Deep.open_slice h hx with ⟨rfl, _⟩ | ⟨a, len, cap, m, n, D, Pl, rfl, _, hl, hm, hmm, _, hel⟩
  · exact ⟨[], ⟨none, 0, rfl, Nat.le_refl _, Kd.C_nil _ _⟩, by simp, by simp⟩
  · have hm' : m = cap := by simpa using hmm
    subst hm'
    have hex : ∀ i, i < len → ∃ y : α × List Value, y.2.length = d.sz ∧ d.K w y.1 y.2 ∧ Ok y.1 ∧ ∀ j u, y.2[j]? = some u → w.cell? (a.add (i * d.sz + j)) = some u := by
      intro i hi
      obtain ⟨cs', h1, h2⟩ := hel i (by omega)
      rw [hc] at h1
      obtain ⟨hlen, hcell⟩ := cells_get h1
      obtain ⟨y, hy, ho⟩ := hd.go enc w n cs' _ h2
      exact ⟨(y, cs'), hlen, hy, ho, fun j u hj => by rw [← add_add_]; exact hcell j u hj⟩
    by_cases h0 : len = 0
    · subst h0
      exact ⟨[], ⟨some a, _, rfl, Nat.zero_le _, rfl, by simp, fun h => absurd h (Nat.lt_irrefl 0)⟩, by simp, by simp⟩
    · obtain ⟨y0, _⟩ := hex 0 (by omega)
      have : Inhabited (α × List Value) := ⟨y0⟩
      obtain ⟨f, hf⟩ := Go.Deep.choose_lt (α := α × List Value) hex
      have hlen : ((List.range len).map fun i => (f i).1).length = len := by simp
      have hget : ∀ j p, ((List.range len).map fun i => (f i).1)[j]? = some p → j < len ∧ p = (f j).1 := by
        intro j p hj
        obtain ⟨hlt, he⟩ := List.getElem?_eq_some_iff.1 hj
        simp at hlt he
        exact ⟨hlt, he.symm⟩
      refine ⟨(List.range len).map fun i => (f i).1, ⟨some a, m, by rw [hlen], by rw [hlen]; exact hl, by rw [hlen], by rw [hlen]; unfold maxLen at hm; omega, fun _ => ⟨a, rfl, fun j p hj => ?_⟩⟩, ?_, ?_⟩
      · obtain ⟨hlt, rfl⟩ := hget j p hj
        obtain ⟨h1, h2, _, h3⟩ := hf j hlt
        exact ⟨(f j).2, h1, h2, h3⟩
      · rw [hlen]; unfold maxLen at hm; omega
      · intro p hp
        obtain ⟨j, hj⟩ := List.mem_iff_getElem?.1 hp
        obtain ⟨hlt, rfl⟩ := hget j p hj
        exact (hf j hlt).2.2.1
theorem Opens.struct2 {α β γ : Type} {P : Program} {T : TypeId} {f0 f1 : Field} {d0 : Kd α} {d1 : Kd β} {Ok0 : α → Prop} {Ok1 : β → Prop} {F : γ → α × β} (h : P.underlying T = some (.struct #[f0, f1]))
    (o0 : f0.offset = 0) (s0 : P.cellsOf f0.type = d0.sz) (o1 : f1.offset = d0.sz) (s1 : P.cellsOf f1.type = d1.sz) (sT : P.cellsOf T = d0.sz + d1.sz)
    (h0 : Opens P f0.type d0 Ok0) (h1 : Opens P f1.type d1 Ok1) (sur : ∀ p, ∃ x, F x = p) : Opens P T (Kd.iso (Kd.pair d0 d1) F) (fun x => Ok0 (F x).1 ∧ Ok1 (F x).2) := by
  refine ⟨fun enc w fuel cs x hx => ?_⟩
  obtain ⟨y0, y1, n, _, hlen, r0, r1⟩ := trod_struct2 h hx
  rw [o0, s0, List.drop_zero] at r0
  rw [o1, s1] at r1
  obtain ⟨a0, k0, p0⟩ := h0.go enc w n _ _ r0
  obtain ⟨a1, k1, p1⟩ := h1.go enc w n _ _ r1
  obtain ⟨z, hz⟩ := sur (a0, a1)
  refine ⟨z, ?_, by rw [hz]; exact ⟨p0, p1⟩⟩
  show (Kd.pair d0 d1).K w (F z) cs
  rw [hz]
  refine ⟨_, _, ?_, k0, k1⟩
  rw [List.take_of_length_le (l := cs.drop d0.sz) (by rw [List.length_drop]; omega), List.take_append_drop]
theorem open_row_ {α : Type} {H : Type} {enc : TypeId × Value → H} {P : Program} {w : World} {r : Reach} {b0 : Nat} {T e : TypeId} {d : Kd α} {Ok : α → Prop} {v : Value} {y : DataW H} {p : List MemPlace}
    (h : P.underlying T = some (.slice e)) (ho : Opens P T (Kd.slice e d) (okL Ok)) (hv : Value.okWide P w r b0 T v) (hd : DataW.Trod enc P w 0 (fun _ => true) true T v y p) : ∃ (A : Option Addr) (c : Nat) (l : List α), v = .slice A l.length c ∧ l.length ≤ c ∧ d.C w A l.length l ∧ okL Ok l := by
  obtain ⟨a, len, cap, rfl⟩ := okWide_slice h hv
  obtain ⟨fuel, hf⟩ := hd
  obtain ⟨l, ⟨A, c, he, hl, hc⟩, hok⟩ := ho.go enc w fuel _ _ hf
  have he' : Value.slice a len cap = .slice A l.length c := by simpa [Value.cells] using he
  exact ⟨A, c, l, he', hl, hc, hok⟩
end Go.Proofs.Ythkbaolpiigioaa.P

namespace Go.Proofs.Ythkbaolpiigioaa.P
open Go.RowKit Go.Proofs.YthkbaolpiigioaaW.PrintWords Go.Proofs.YthkbaolpiigioaaW.PrintLast Go.Proofs.YthkbaolpiigioaaW.PrintMore
def ok_laws_Committee (x : S_laws_Committee) : Prop := okI x.f0 ∧ (okL okI) x.f1
theorem op_laws_Committee : Opens Try.prog 24 k_laws_Committee ok_laws_Committee :=
  Opens.struct2 (F := fun x : S_laws_Committee => (x.f0, x.f1)) Try.underlying24 rfl (by kernel_rfl) rfl (by kernel_rfl) (by kernel_rfl) (Opens.int Try.underlying3) (Opens.slice Try.underlying22 (by kernel_rfl) (Opens.int Try.underlying3)) (fun p => ⟨⟨p.1, p.2⟩, rfl⟩)
end Go.Proofs.Ythkbaolpiigioaa.P

/- Plain laws: loops told by rounds, lists, numbers. No program in sight. -/
namespace Go.Proofs.Ythkbaolpiigioaa.P
open Go.RowKit Go.Proofs.YthkbaolpiigioaaW.PrintWords Go.Proofs.YthkbaolpiigioaaW.PrintLast Go.Proofs.YthkbaolpiigioaaW.PrintMore
/-- A loop over 0 .. n - 1, told backwards: G i: the loop from i on, by rounds; R i: what it answers from there. -/
theorem Ev.down {ρ : Type} {G : Nat → Nat → Option ρ} {R : Nat → ρ} (n : Nat) (hend : Ev (G n) (R n)) (hstep : ∀ i, i < n → Ev (G (i + 1)) (R (i + 1)) → Ev (G i) (R i)) : ∀ i, i ≤ n → Ev (G i) (R i) := by
  have key : ∀ d i, i + d = n → Ev (G i) (R i) := by
    intro d
    induction d with
    | zero => intro i hi; obtain rfl : i = n := by omega
              exact hend
    | succ d ih => intro i hi; exact hstep i (by omega) (ih (i + 1) (by omega))
  intro i hi
  exact key (n - i) i (by omega)
theorem back {P : Nat → Prop} (n : Nat) (hend : P n) (hstep : ∀ i, i < n → P (i + 1) → P i) : ∀ i, i ≤ n → P i := by
  have key : ∀ d i, i + d = n → P i := by
    intro d
    induction d with
    | zero => intro i hi; obtain rfl : i = n := by omega
              exact hend
    | succ d ih => intro i hi; exact hstep i (by omega) (ih (i + 1) (by omega))
  intro i hi
  exact key (n - i) i (by omega)
theorem Ev.some {α : Type} {r : α} : Ev (fun _ => Option.some r) r := Ev.now r
theorem Ev.one {α : Type} {g : Option α} {r : α} (h : g = Option.some r) : Ev (fun _ => g) r := ⟨0, fun _ _ => h⟩
theorem Ev.eq {α : Type} {g : Nat → Option α} {r r' : α} (h : Ev g r) (e : r = r') : Ev g r' := e ▸ h
theorem Ev.shift {α : Type} {g : Nat → Option α} {r : α} (h : Ev (fun k => g (k + 1)) r) : Ev g r := Ev.step (fun _ => rfl) h
theorem w64 {x : Int} (h0 : -9223372036854775808 ≤ x) (h1 : x ≤ 9223372036854775807) : wrap64 x = x := by unfold wrap64; omega
theorem w1 {i n : Nat} (h : i < n) (hn : n ≤ 9223372036854775807) : wrap64 ((i : Int) + 1) = ((i + 1 : Nat) : Int) := by unfold wrap64; omega
theorem rd_nat (l : List Int) (i : Nat) : rd l (i : Int) = l.getD i 0 := by simp [rd]
theorem rdB_nat (l : List Bool) (i : Nat) : rdOf false l (i : Int) = l.getD i false := by simp [rdOf]
/-! ### lists -/
theorem drop_getD {α : Type} (l : List α) (d : α) (i : Nat) (h : i < l.length) : l.drop i = l.getD i d :: l.drop (i + 1) := drop_cons l d i h
theorem take_getD {α : Type} (l : List α) (d : α) (i : Nat) (h : i < l.length) : l.take (i + 1) = l.take i ++ [l.getD i d] := by
  rw [List.take_succ_eq_append_getElem h, List.getD_eq_getElem?_getD, List.getElem?_eq_getElem h]; rfl
theorem getD_mem {α : Type} (l : List α) (d : α) (i : Nat) (h : i < l.length) : l.getD i d ∈ l := by
  rw [List.getD_eq_getElem?_getD, List.getElem?_eq_getElem h]; exact List.getElem_mem h
theorem foldl_take {α β : Type} (f : β → α → β) (b : β) (l : List α) (d : α) (i : Nat) (h : i < l.length) : (l.take (i + 1)).foldl f b = f ((l.take i).foldl f b) (l.getD i d) := by
  rw [take_getD l d i h, List.foldl_append]; rfl
/-- A row that is being filled. -/
def filled {α : Type} (l : List α) (z : α) (i : Nat) : List α := l.take i ++ List.replicate (l.length - i) z
theorem filled_len {α : Type} (l : List α) (z : α) (i : Nat) (h : i ≤ l.length) : (filled l z i).length = l.length := by unfold filled; simp; omega
theorem filled_zero {α : Type} (l : List α) (z : α) : filled l z 0 = List.replicate l.length z := by simp [filled]
theorem filled_all {α : Type} (l : List α) (z : α) : filled l z l.length = l := by simp [filled]
theorem filled_set {α : Type} (l : List α) (z d : α) (i : Nat) (h : i < l.length) : (filled l z i).set i (l.getD i d) = filled l z (i + 1) := by
  unfold filled
  have e : (l.take i).length = i := by simp; omega
  rw [take_getD l d i h, List.set_append_right i (l.getD i d) (by omega), e, Nat.sub_self, show l.length - i = (l.length - (i + 1)) + 1 by omega, List.replicate_succ]
  simp
/-! ### marks -/
def marks (a : Int) (n : Nat) : List Int := (List.range n).map fun i : Nat => a + (i : Int)
theorem marks_len (a : Int) (n : Nat) : (marks a n).length = n := by simp [marks]
theorem marks_get (a : Int) (n i : Nat) (h : i < n) : (marks a n).getD i 0 = a + (i : Int) := by simp [marks, List.getD_eq_getElem?_getD, List.getElem?_range h]
/-! ### committees -/
def inI (a b x : Int) : Bool := decide (a ≤ x) && decide (x ≤ b)
def isComm (q : Int) (l : List Int) : Bool := decide (1 ≤ l.length) && decide (l.length ≤ 9) && l.all (inI 0 1000) && inI 1 l.sum q
theorem isComm_len {q : Int} {l : List Int} (h : isComm q l = true) : 1 ≤ l.length ∧ l.length ≤ 9 := by simp [isComm] at h; exact ⟨h.1.1.1, h.1.1.2⟩
theorem isComm_mem {q : Int} {l : List Int} (h : isComm q l = true) : ∀ x ∈ l, 0 ≤ x ∧ x ≤ 1000 := by
  intro x hx
  simp [isComm, inI] at h
  exact h.1.2 x hx
/-- Wrapping sums of few small numbers do not wrap. -/
def wsum (l : List Int) : Int := l.foldl (fun s x => wrap64 (s + x)) 0
theorem wsum_from (l : List Int) (s : Int) (hs : 0 ≤ s) (h : ∀ x ∈ l, 0 ≤ x ∧ x ≤ 1000) (hb : s + 1000 * l.length ≤ 9223372036854775807) : l.foldl (fun s x => wrap64 (s + x)) s = s + l.sum := by
  induction l generalizing s with
  | nil => simp
  | cons x l ih =>
    have h1 := h x (by simp)
    simp only [List.length_cons] at hb
    rw [List.foldl_cons, w64 (by omega) (by omega), ih (s + x) (by omega) (fun y hy => h y (by simp [hy])) (by omega), List.sum_cons]
    omega
theorem wsum_eq (l : List Int) (h : ∀ x ∈ l, 0 ≤ x ∧ x ≤ 1000) (hb : l.length ≤ 9000000) : wsum l = l.sum := by
  unfold wsum; rw [wsum_from l 0 (by omega) h (by omega)]; omega
/-! ### numbers as bits -/
theorem shr_nat (x i : Nat) (h : i ≤ 64) : shr .i64 (x : Int) (i : Int) = ((x / 2 ^ i : Nat) : Int) := by
  unfold shr
  have e : min ((i : Int).toNat) IntKind.i64.bits = i := by
    have : IntKind.i64.bits = 64 := rfl
    omega
  rw [e]; simp
theorem pow63 {i : Nat} (h : i < 63) : 2 ^ i < 9223372036854775808 := Nat.lt_of_lt_of_le (Nat.pow_lt_pow_right (by omega) h) (by decide)
theorem shl_one (i : Nat) (h : i < 63) : shl .i64 1 (i : Int) = ((2 ^ i : Nat) : Int) := by
  unfold shl
  have e : min ((i : Int).toNat) IntKind.i64.bits = i := by
    have : IntKind.i64.bits = 64 := rfl
    omega
  have h1 := pow63 h
  have c : ((2 ^ i : Nat) : Int) = 2 ^ i := by simp
  rw [e, Int.one_mul, IntKind.wrap_i64, ← c]
  generalize 2 ^ i = z at h1
  omega
theorem i64_of (n : Int) (h0 : 0 ≤ n) (h1 : n < 2 ^ 63) : IntKind.i64.wrap n = n := by rw [IntKind.wrap_i64]; omega
theorem and_nat (a b : Nat) (ha : a < 2 ^ 63) (hb : b < 2 ^ 63) : Go.bits .and .i64 (a : Int) (b : Int) = ((a &&& b : Nat) : Int) := (bits_nat .i64 63 (by decide) i64_of a b ha hb).1
theorem and_one (a : Nat) (ha : a < 2 ^ 63) : Go.bits .and .i64 (a : Int) 1 = ((a % 2 : Nat) : Int) := by
  have := and_nat a 1 ha (by decide)
  rw [Nat.and_one_is_mod] at this
  exact this
theorem tmod_two (a : Nat) : Int.tmod (a : Int) 2 = ((a % 2 : Nat) : Int) := by rw [Int.tmod_eq_emod_of_nonneg (by omega)]; omega
theorem bit_nat (b i : Nat) : b.testBit i = decide (b / 2 ^ i % 2 = 1) := by rw [Nat.testBit_eq_decide_div_mod_eq]
/-! ### weights of sets told by bits -/
def wt : List Int → Nat → Int
  | [], _ => 0
  | x :: l, b => (if b % 2 = 1 then x else 0) + wt l (b / 2)
/-- What is told of each set of n members, by bits. -/
def tab (n : Nat) (P : Nat → Bool) : List Bool := (List.range (2 ^ n)).map P
theorem tab_len (n : Nat) (P : Nat → Bool) : (tab n P).length = 2 ^ n := by simp [tab]
theorem tab_get (n : Nat) (P : Nat → Bool) (b : Nat) (h : b < 2 ^ n) : (tab n P).getD b false = P b := by simp [tab, List.getD_eq_getElem?_getD, List.getElem?_range h]
theorem pow_small {n m : Nat} (h : n ≤ m) : 2 ^ n ≤ 2 ^ m := Nat.pow_le_pow_right (by omega) h
/-- The members for which something is true. -/
def sel (n : Nat) (P : Nat → Bool) : List Int := ((List.range n).filter P).map fun i : Nat => (i : Int)
theorem sel_succ (n : Nat) (P : Nat → Bool) : sel (n + 1) P = sel n P ++ (if P n = true then [(n : Int)] else []) := by
  unfold sel
  rw [List.range_succ, List.filter_append, List.map_append]
  congr 1
  cases h : P n <;> simp [h]
theorem sel_len (n : Nat) (P : Nat → Bool) : (sel n P).length ≤ n := by
  have := List.length_filter_le P (List.range n)
  simp [sel] at *; omega
/-- Of what is told by rounds for each of a list, from one round on all is told. -/
theorem Ev.all {α β : Type} {p : Nat → α → Option β} {P : α → β} (l : List α) (h : ∀ x ∈ l, Ev (fun k => p k x) (P x)) : ∃ K, ∀ k, K ≤ k → ∀ x ∈ l, p k x = Option.some (P x) := by
  induction l with
  | nil => exact ⟨0, fun _ _ _ h => by simp at h⟩
  | cons x l ih =>
    obtain ⟨K, hK⟩ := ih (fun y hy => h y (by simp [hy]))
    obtain ⟨K', hK'⟩ := h x (by simp)
    refine ⟨K + K', fun k hk y hy => ?_⟩
    rcases List.mem_cons.1 hy with rfl | hy
    · exact hK' k (by omega)
    · exact hK k (by omega) y hy
/-- A loop that asks what is told by rounds: from one round on, what is told stands, and the loop is told with it held. -/
theorem Ev.ask {α β γ : Type} {p : Nat → α → Option β} {P : α → β} (l : List α) (h : ∀ x ∈ l, Ev (fun k => p k x) (P x)) {F : Nat → (α → Option β) → Option γ} {r : γ} (hF : ∃ K, ∀ k, K ≤ k → ∀ q : α → Option β, (∀ x ∈ l, q x = Option.some (P x)) → F k q = Option.some r) : Ev (fun k => F k (p k)) r := by
  obtain ⟨K, hK⟩ := Ev.all l h
  obtain ⟨K', hK'⟩ := hF
  exact ⟨K + K', fun k hk => hK' k (by omega) _ (hK k (by omega))⟩
/-- A loop over 0 .. n - 1, told backwards, by so many rounds. -/
theorem downq {ρ : Type} {G : Nat → Nat → Option ρ} {R : Nat → ρ} (n : Nat) (hend : ∀ k, G n (k + 1) = Option.some (R n)) (hstep : ∀ i, i < n → ∀ k, G (i + 1) k = Option.some (R (i + 1)) → G i (k + 1) = Option.some (R i)) : ∀ i, i ≤ n → ∀ k, n - i < k → G i k = Option.some (R i) := by
  have key : ∀ d i, i + d = n → ∀ k, d < k → G i k = Option.some (R i) := by
    intro d
    induction d with
    | zero => intro i hi k hk
              obtain rfl : i = n := by omega
              obtain ⟨k, rfl⟩ : ∃ j, k = j + 1 := ⟨k - 1, by omega⟩
              exact hend k
    | succ d ih => intro i hi k hk
                   obtain ⟨k, rfl⟩ : ∃ j, k = j + 1 := ⟨k - 1, by omega⟩
                   exact hstep i (by omega) k (ih (i + 1) (by omega) k (by omega))
  intro i hi k hk
  exact key (n - i) i (by omega) k (by omega)
/-- Where the first of a list is for which something is true, or -1. -/
def idxFrom {α : Type} (P : α → Bool) : Nat → List α → Int
  | _, [] => -1
  | i, x :: l => if P x = true then (i : Int) else idxFrom P (i + 1) l
theorem idxFrom_nn {α : Type} (P : α → Bool) (l : List α) (i : Nat) : decide (idxFrom P i l ≥ 0) = l.any P := by
  induction l generalizing i with
  | nil => rfl
  | cons x l ih =>
    unfold idxFrom
    rw [List.any_cons]
    cases h : P x with
    | true => simp only [↓reduceIte, Bool.true_or, decide_eq_true_eq]; omega
    | false => simp only [Bool.false_eq_true, ↓reduceIte, Bool.false_or]; exact ih (i + 1)
/-- A row that is written over, from its head on. -/
def over {α : Type} (t l : List α) (i : Nat) : List α := t.take i ++ l.drop i
theorem over_zero {α : Type} (t l : List α) : over t l 0 = l := by simp [over]
theorem over_all {α : Type} (t l : List α) (h : t.length = l.length) : over t l l.length = t := by simp [over, ← h]
theorem over_len {α : Type} (t l : List α) (i : Nat) (h : t.length = l.length) : (over t l i).length = l.length := by simp [over]; omega
theorem over_set {α : Type} (t l : List α) (d : α) (i : Nat) (h : t.length = l.length) (hi : i < l.length) : (over t l i).set i (t.getD i d) = over t l (i + 1) := by
  unfold over
  have e : (t.take i).length = i := by simp; omega
  rw [take_getD t d i (by omega), List.set_append_right i (t.getD i d) (by omega), e, Nat.sub_self, List.drop_eq_getElem_cons hi, List.set_cons_zero, List.append_assoc]
  rfl
theorem one_lt (n : Nat) : ((1 : Int) + (n : Int) < 0) = False := by simp; omega
theorem one_lt2 (n m : Nat) : ((1 : Int) + (n : Int) + (m : Int) < 0) = False := by simp; omega
theorem over_get {α : Type} (t l : List α) (d : α) (i : Nat) (h : t.length = l.length) (hi : i < l.length) : (over t l i).getD i d = l.getD i d := by
  unfold over
  rw [List.getD_eq_getElem?_getD, List.getD_eq_getElem?_getD, List.getElem?_append_right (by simp; omega), List.length_take, Nat.min_eq_left (by omega), Nat.sub_self, List.getElem?_drop, Nat.add_zero]
end Go.Proofs.Ythkbaolpiigioaa.P

namespace Go.Proofs.Ythkbaolpiigioaa.P
/-- The pure statement of FnExactNeedlessChambers. -/
def laws_FnExactNeedlessChambers.Pure : Prop := ∀ (l0 : List (S_laws_Committee)), (okL ok_laws_Committee) l0 → ∃ k, laws_FnExactNeedlessChambers.f k l0 = some true
end Go.Proofs.Ythkbaolpiigioaa.P

/- Plain laws of the printed functions on committees: what each answers. -/
namespace Go.Proofs.Ythkbaolpiigioaa.P
open Go.RowKit Go.Proofs.YthkbaolpiigioaaW.PrintWords Go.Proofs.YthkbaolpiigioaaW.PrintLast Go.Proofs.YthkbaolpiigioaaW.PrintMore
theorem impl_within.eq (a b c : Int) : impl_within.f a b c = some (inI b c a) := by
  unfold impl_within.f inI
  by_cases h : a ≥ b
  · have h' : b ≤ a := h
    simp [h']
  · have h' : ¬ b ≤ a := h
    simp [h']
theorem spec_l1In.eq (a b c : Int) : spec_l1In.f a b c = some (inI b c a) := by
  unfold spec_l1In.f inI
  by_cases h : a ≥ b
  · have h' : b ≤ a := h
    simp [h']
  · have h' : ¬ b ≤ a := h
    simp [h']
theorem impl_sumOf.ev (l : List Int) (hm : l.length ≤ 9223372036854775807) : Ev (fun k => impl_sumOf.f k l) (wsum l) := by
  have key := Ev.down (G := fun i k => impl_sumOf.l0 k ((l.take i).foldl (fun s x => wrap64 (s + x)) 0) l (l.length : Int) (i : Int)) (R := fun _ => wsum l) l.length
    (by refine Ev.shift ?_
        simp only [impl_sumOf.l0, Int.lt_irrefl, ↓reduceIte, List.take_length]
        exact Ev.some)
    (fun i hi ih => by
        refine Ev.shift ?_
        have c1 : (i : Int) < (l.length : Int) := by omega
        have c0 : (0 : Int) ≤ (i : Int) := by omega
        simp only [impl_sumOf.l0, c1, c0, ↓reduceIte, w1 hi hm, rd_nat]
        rw [foldl_take _ _ l 0 i hi] at ih
        exact ih)
  exact key 0 (Nat.zero_le _)
theorem spec_voSum.ev (l : List Int) (hm : l.length ≤ 9223372036854775807) : Ev (fun k => spec_voSum.f k l) (wsum l) := by
  have key := Ev.down (G := fun i k => spec_voSum.l0 k ((l.take i).foldl (fun s x => wrap64 (s + x)) 0) l (l.length : Int) (i : Int)) (R := fun _ => wsum l) l.length
    (by refine Ev.shift ?_
        simp only [spec_voSum.l0, Int.lt_irrefl, ↓reduceIte, List.take_length]
        exact Ev.some)
    (fun i hi ih => by
        refine Ev.shift ?_
        have c1 : (i : Int) < (l.length : Int) := by omega
        have c0 : (0 : Int) ≤ (i : Int) := by omega
        simp only [spec_voSum.l0, c1, c0, ↓reduceIte, w1 hi hm, rd_nat]
        rw [foldl_take _ _ l 0 i hi] at ih
        exact ih)
  exact key 0 (Nat.zero_le _)
theorem isComm_eq (q : Int) (l : List Int) : isComm q l = if (1 ≤ l.length ∧ l.length ≤ 9) ∧ l.all (inI 0 1000) = true then inI 1 (wsum l) q else false := by
  unfold isComm
  by_cases h : (1 ≤ l.length ∧ l.length ≤ 9) ∧ l.all (inI 0 1000) = true
  · have hm : ∀ x ∈ l, 0 ≤ x ∧ x ≤ 1000 := by
      have := h.2
      simp [inI] at this
      exact this
    rw [if_pos h, wsum_eq l hm (by omega)]
    simp only [h.1.1, h.1.2, h.2, decide_true, Bool.true_and]
  · rw [if_neg h]
    by_cases h1 : 1 ≤ l.length
    · by_cases h2 : l.length ≤ 9
      · have h3 : l.all (inI 0 1000) = false := by
          cases h4 : l.all (inI 0 1000) with
          | true => exact absurd ⟨⟨h1, h2⟩, h4⟩ h
          | false => rfl
        simp only [h3, Bool.and_false, Bool.false_and]
      · simp only [h2, decide_false, Bool.and_false, Bool.false_and]
    · simp only [h1, decide_false, Bool.false_and]
theorem slices_IndexFunc_int_int.ev (l : List Int) (hm : l.length ≤ 9223372036854775807) (p : Nat → Int → Option Bool) (P : Int → Bool) (h : ∀ x ∈ l, Ev (fun k => p k x) (P x)) : Ev (fun k => slices_IndexFunc_int_int.f k l (p k)) (idxFrom P 0 l) := by
  refine Ev.ask (F := fun k q => slices_IndexFunc_int_int.f k l q) l h ⟨l.length + 1, fun k hk q hq => ?_⟩
  unfold slices_IndexFunc_int_int.f
  have := downq (G := fun i k => slices_IndexFunc_int_int.l0 k l q (l.length : Int) (i : Int)) (R := fun i => idxFrom P i (l.drop i)) l.length
    (by intro k; simp only [slices_IndexFunc_int_int.l0, Int.lt_irrefl, ↓reduceIte, List.drop_length, idxFrom])
    (fun i hi k ih => by
      have c1 : (i : Int) < (l.length : Int) := by omega
      have c0 : (0 : Int) ≤ (i : Int) := by omega
      simp only [slices_IndexFunc_int_int.l0, c1, c0, ↓reduceIte, w1 hi hm, rd_nat, hq _ (getD_mem l 0 i hi), Option.bind_some]
      rw [drop_getD l 0 i hi, idxFrom, ih]
      split <;> rfl) 0 (Nat.zero_le _) k (by omega)
  rwa [List.drop_zero] at this
theorem slices_ContainsFunc_int_int.ev (l : List Int) (hm : l.length ≤ 9223372036854775807) (p : Nat → Int → Option Bool) (P : Int → Bool) (h : ∀ x ∈ l, Ev (fun k => p k x) (P x)) : Ev (fun k => slices_ContainsFunc_int_int.f k l (p k)) (l.any P) := by
  unfold slices_ContainsFunc_int_int.f
  refine Ev.bind (slices_IndexFunc_int_int.ev l hm p P h) ?_
  rw [idxFrom_nn]
  exact Ev.some
theorem impl_areIn.ev (l : List Int) (a b : Int) (hm : l.length ≤ 9223372036854775807) : Ev (fun k => impl_areIn.f k l a b) (l.all (inI a b)) := by
  unfold impl_areIn.f
  refine Ev.bind (slices_ContainsFunc_int_int.ev l hm (fun _ x => impl_areIn_1.f x a b) (fun x => !inI a b x) (fun x _ => ?_)) ?_
  · simp only [impl_areIn_1.f, impl_within.eq, Option.bind_some]; exact Ev.some
  · rw [all_any]; exact Ev.some
theorem impl_IsCommittee.ev (q : Int) (l : List Int) (hm : l.length ≤ 9223372036854775807) : Ev (fun k => impl_IsCommittee.f k q l) (isComm q l) := by
  rw [isComm_eq]
  unfold impl_IsCommittee.f
  by_cases h1 : 1 ≤ l.length
  · have c1 : (l.length : Int) ≥ 1 := by omega
    by_cases h2 : l.length ≤ 9
    · have c2 : (l.length : Int) ≤ 9 := by omega
      simp only [c1, c2, h1, h2, ↓reduceIte, and_self, true_and]
      refine Ev.bind (impl_areIn.ev l 0 1000 hm) ?_
      by_cases h3 : l.all (inI 0 1000) = true
      · simp only [h3, ↓reduceIte]
        refine Ev.bind (impl_sumOf.ev l hm) ?_
        simp only [impl_within.eq, Option.bind_some]
        exact Ev.some
      · simp only [h3]
        exact Ev.some
    · have c2 : ¬ (l.length : Int) ≤ 9 := by omega
      simp only [c1, c2, h2, ↓reduceIte, and_false, false_and]
      exact Ev.some
  · have c1 : ¬ (l.length : Int) ≥ 1 := by omega
    simp only [c1, h1, ↓reduceIte, false_and]
    exact Ev.some
theorem spec_l1All.ev (l : List Int) (a b : Int) (hm : l.length ≤ 9223372036854775807) : Ev (fun k => spec_l1All.f k l a b) (l.all (inI a b)) := by
  have key := Ev.down (G := fun i k => spec_l1All.l0 k a b l (l.length : Int) (i : Int)) (R := fun i => (l.drop i).all (inI a b)) l.length
    (by refine Ev.shift ?_
        simp only [spec_l1All.l0, Int.lt_irrefl, ↓reduceIte, List.drop_length, List.all_nil]
        exact Ev.some)
    (fun i hi ih => by
        refine Ev.shift ?_
        have c1 : (i : Int) < (l.length : Int) := by omega
        have c0 : (0 : Int) ≤ (i : Int) := by omega
        simp only [spec_l1All.l0, c1, c0, ↓reduceIte, w1 hi hm, rd_nat, spec_l1In.eq, Option.bind_some]
        rw [drop_getD l 0 i hi, List.all_cons]
        cases h : inI a b (l.getD i 0) with
        | true => simp only [↓reduceIte, Bool.true_and]; exact ih
        | false => simp only [Bool.false_eq_true, ↓reduceIte, Bool.false_and]; exact Ev.some)
  exact key 0 (Nat.zero_le _)
theorem spec_voGood.ev (q : Int) (l : List Int) (hm : l.length ≤ 9223372036854775807) : Ev (fun k => spec_voGood.f k q l) (isComm q l) := by
  rw [isComm_eq]
  unfold spec_voGood.f
  simp only [spec_l1In.eq, Option.bind_some]
  have e : inI 1 9 (l.length : Int) = decide (1 ≤ l.length ∧ l.length ≤ 9) := by
    unfold inI; rw [Bool.eq_iff_iff]; simp; omega
  rw [e]
  by_cases h : 1 ≤ l.length ∧ l.length ≤ 9
  · simp only [h, decide_true, ↓reduceIte, and_self, true_and]
    refine Ev.bind (spec_l1All.ev l 0 1000 hm) ?_
    refine Ev.shift ?_
    by_cases h3 : l.all (inI 0 1000) = true
    · simp only [spec_voGood.j0, h3, Bool.not_true, Bool.false_eq_true, ↓reduceIte]
      refine Ev.bind (spec_voSum.ev l hm) ?_
      simp only [spec_l1In.eq, Option.bind_some]
      exact Ev.some
    · have h4 : l.all (inI 0 1000) = false := by simpa using h3
      simp only [spec_voGood.j0, h4, Bool.not_false, Bool.false_eq_true, ↓reduceIte]
      exact Ev.some
  · simp only [h, decide_false, Bool.false_eq_true, ↓reduceIte, false_and]
    refine Ev.shift ?_
    simp only [spec_voGood.j0, ↓reduceIte]
    exact Ev.some
/-! ### the law's own words -/
theorem laws_toIntS.ev (l : List Int) (hm : l.length ≤ 1048576) : Ev (fun k => laws_toIntS.f k l) l := by
  unfold laws_toIntS.f
  have c1 : (0 : Int) ≤ (l.length : Int) := by omega
  have c2 : l.length ≤ 35184372088832 := by omega
  simp only [c1, c2, ↓reduceIte, Int.toNat_natCast]
  have key := Ev.down (G := fun i k => laws_toIntS.l0 k l (filled l 0 i) (i : Int)) (R := fun _ => l) l.length
    (by refine Ev.shift ?_
        simp only [laws_toIntS.l0, Int.lt_irrefl, ↓reduceIte, filled_all]
        exact Ev.some)
    (fun i hi ih => by
        refine Ev.shift ?_
        have c1 : (i : Int) < (l.length : Int) := by omega
        have c0 : (0 : Int) ≤ (i : Int) := by omega
        simp only [laws_toIntS.l0, filled_len l 0 i (by omega), c1, c0, ↓reduceIte, w1 hi (by omega), rd_nat, Int.toNat_natCast, filled_set l 0 0 i hi]
        exact ih)
  have := key 0 (Nat.zero_le _)
  rw [filled_zero] at this
  exact this
theorem laws_toCommittee.ev (q : Int) (l : List Int) (hm : l.length ≤ 1048576) : Ev (fun k => laws_toCommittee.f k q l) (q, l) := by
  unfold laws_toCommittee.f
  exact Ev.bind (laws_toIntS.ev l hm) Ev.some
theorem laws_eqIntS.ev (l : List Int) (hm : l.length ≤ 9223372036854775807) : Ev (fun k => laws_eqIntS.f k l l) true := by
  unfold laws_eqIntS.f
  simp only [↓reduceIte]
  have key := Ev.down (G := fun i k => laws_eqIntS.l0 k l l (i : Int)) (R := fun _ => true) l.length
    (by refine Ev.shift ?_
        simp only [laws_eqIntS.l0, Int.lt_irrefl, ↓reduceIte]
        exact Ev.some)
    (fun i hi ih => by
        refine Ev.shift ?_
        have c1 : (i : Int) < (l.length : Int) := by omega
        have c0 : (0 : Int) ≤ (i : Int) := by omega
        simp only [laws_eqIntS.l0, c1, c0, ↓reduceIte, w1 hi hm]
        exact ih)
  exact key 0 (Nat.zero_le _)
theorem laws_eqCommittee.ev (q : Int) (l : List Int) (hm : l.length ≤ 9223372036854775807) : Ev (fun k => laws_eqCommittee.f k q l q l) true := by
  unfold laws_eqCommittee.f
  simp only [↓reduceIte]
  refine Ev.bind (laws_eqIntS.ev l hm) ?_
  simp only [↓reduceIte]
  exact Ev.some
/-- What is left of the size that is let by. -/
theorem laws_szIntS.eq (l : List Int) (n : Int) (hm : l.length ≤ 9223372036854775807) (h0 : 0 ≤ n) (h1 : n ≤ 1048576) : laws_szIntS.f l n = some (if n < l.length then -1 else n - l.length) := by
  unfold laws_szIntS.f
  rw [w64 (by omega) (by omega)]
  by_cases h : n < l.length
  · rw [if_pos (by omega), if_pos h]
  · rw [if_neg (by omega), if_neg h]
theorem laws_szCommittee.eq (q : Int) (l : List Int) (n : Int) (hm : l.length ≤ 9223372036854775807) (h0 : 0 ≤ n) (h1 : n ≤ 1048576) : laws_szCommittee.f q l n = some (if n < l.length then -1 else n - l.length) := by
  unfold laws_szCommittee.f
  rw [laws_szIntS.eq l n hm h0 h1, Option.bind_some]
  by_cases h : n < l.length
  · rw [if_pos h, if_pos (by omega)]
  · rw [if_neg h, if_neg (by omega)]
end Go.Proofs.Ythkbaolpiigioaa.P

/- Plain laws of the printed functions on lists of committees. -/
namespace Go.Proofs.Ythkbaolpiigioaa.P
open Go.RowKit Go.Proofs.YthkbaolpiigioaaW.PrintWords Go.Proofs.YthkbaolpiigioaaW.PrintLast Go.Proofs.YthkbaolpiigioaaW.PrintMore
def conv (x : S_laws_Committee) : S_impl_Committee := ⟨x.f0, x.f1⟩
def good (x : S_impl_Committee) : Bool := isComm x.f0 x.f1
/-- How many members committees have together. -/
def heads (xs : List S_impl_Committee) : Int := (xs.map fun x => (x.f1.length : Int)).sum
theorem rd_impl_nat (l : List S_impl_Committee) (i : Nat) : rd_impl_Committee l (i : Int) = l.getD i z_impl_Committee := by simp [rd_impl_Committee]
theorem rd_laws_nat (l : List S_laws_Committee) (i : Nat) : rd_laws_Committee l (i : Int) = l.getD i z_laws_Committee := by simp [rd_laws_Committee]
/-- Sizes that are let by: what each holds is short. -/
theorem laws_szCommitteeS.ev (l : List S_laws_Committee) (n : Int) (hm : okL ok_laws_Committee l) (h0 : 0 ≤ n) (h1 : n ≤ 1048576) :
    ∃ r, Ev (fun k => laws_szCommitteeS.f k l n) r ∧ r ≤ n ∧ (0 ≤ r → (l.length : Int) ≤ n ∧ ∀ x ∈ l, x.f1.length ≤ 1048576) := by
  obtain ⟨hl, hx⟩ := hm
  unfold laws_szCommitteeS.f
  rw [w64 (by omega) (by omega)]
  by_cases h : n - (l.length : Int) < 0
  · refine ⟨-1, ?_, by omega, by omega⟩
    simp only [h, ↓reduceIte]
    exact Ev.some
  · simp only [h, ↓reduceIte]
    have key := back (P := fun i => ∀ a : Int, 0 ≤ a → a ≤ 1048576 → ∃ r, Ev (fun k => laws_szCommitteeS.l0 k l a (i : Int)) r ∧ r ≤ a ∧ (0 ≤ r → ∀ x ∈ l.drop i, x.f1.length ≤ 1048576)) l.length
      (by intro a ha hb
          refine ⟨a, ?_, by omega, by simp⟩
          refine Ev.shift ?_
          simp only [laws_szCommitteeS.l0, Int.lt_irrefl, ↓reduceIte]
          exact Ev.some)
      (by intro i hi ih a ha hb
          have c1 : (i : Int) < (l.length : Int) := by omega
          have c0 : (0 : Int) ≤ (i : Int) := by omega
          have ho := hx _ (getD_mem l z_laws_Committee i hi)
          have hlen := ho.2.1
          have e := laws_szCommittee.eq (l.getD i z_laws_Committee).f0 (l.getD i z_laws_Committee).f1 a hlen ha hb
          by_cases hs : a < ((l.getD i z_laws_Committee).f1.length : Int)
          · refine ⟨-1, ?_, by omega, by omega⟩
            refine Ev.shift ?_
            simp only [laws_szCommitteeS.l0, c1, c0, ↓reduceIte, rd_laws_nat, e, hs, Option.bind_some, show ((-1 : Int) < 0) from by omega]
            exact Ev.some
          · obtain ⟨r, hr, hle, hp⟩ := ih (a - ((l.getD i z_laws_Committee).f1.length : Int)) (by omega) (by omega)
            refine ⟨r, ?_, by omega, fun h0 x hxm => ?_⟩
            · refine Ev.shift ?_
              have c2 : ¬ (a - ((l.getD i z_laws_Committee).f1.length : Int) < 0) := by omega
              simp only [laws_szCommitteeS.l0, c1, c0, ↓reduceIte, rd_laws_nat, e, hs, Option.bind_some, c2, w1 hi hl]
              exact hr
            · rw [drop_getD l z_laws_Committee i hi] at hxm
              rcases List.mem_cons.1 hxm with rfl | hxm
              · omega
              · exact hp h0 x hxm)
    obtain ⟨r, hr, hle, hp⟩ := key 0 (Nat.zero_le _) (n - l.length) (by omega) (by omega)
    exact ⟨r, hr, by omega, fun h0 => ⟨by omega, by simpa using hp h0⟩⟩
theorem laws_toCommitteeS.ev (l : List S_laws_Committee) (hl : l.length ≤ 1048576) (hx : ∀ x ∈ l, x.f1.length ≤ 1048576) : Ev (fun k => laws_toCommitteeS.f k l) (l.map conv) := by
  unfold laws_toCommitteeS.f
  have c1 : (0 : Int) ≤ (l.length : Int) := by omega
  have c2 : l.length ≤ 8796093022208 := by omega
  simp only [c1, c2, ↓reduceIte, Int.toNat_natCast]
  have el : (l.map conv).length = l.length := by simp
  have key := Ev.down (G := fun i k => laws_toCommitteeS.l0 k l (filled (l.map conv) z_impl_Committee i) (i : Int)) (R := fun _ => l.map conv) l.length
    (by refine Ev.shift ?_
        simp only [laws_toCommitteeS.l0, Int.lt_irrefl, ↓reduceIte]
        rw [← el, filled_all]
        exact Ev.some)
    (fun i hi ih => by
        refine Ev.shift ?_
        have c1 : (i : Int) < (l.length : Int) := by omega
        have c0 : (0 : Int) ≤ (i : Int) := by omega
        have hd : (l.map conv).getD i z_impl_Committee = conv (l.getD i z_laws_Committee) := by
          simp [List.getD_eq_getElem?_getD, List.getElem?_eq_getElem hi]
        simp only [laws_toCommitteeS.l0, c1, c0, ↓reduceIte, rd_laws_nat]
        refine Ev.bind (laws_toCommittee.ev _ _ (hx _ (getD_mem l z_laws_Committee i hi))) ?_
        have c3 : (i : Int) < ((filled (l.map conv) z_impl_Committee i).length : Int) := by rw [filled_len _ _ i (by omega), el]; omega
        simp only [c3, ↓reduceIte, w1 hi (show l.length ≤ 9223372036854775807 by omega), Int.toNat_natCast]
        have := filled_set (l.map conv) z_impl_Committee z_impl_Committee i (by omega)
        rw [hd] at this
        rw [show (⟨(l.getD i z_laws_Committee).f0, (l.getD i z_laws_Committee).f1⟩ : S_impl_Committee) = conv (l.getD i z_laws_Committee) from rfl, this]
        exact ih)
  have := key 0 (Nat.zero_le _)
  rw [filled_zero, el] at this
  exact this
theorem laws_eqCommitteeS.ev (l : List S_impl_Committee) (hl : l.length ≤ 9223372036854775807) (hx : ∀ x ∈ l, x.f1.length ≤ 9223372036854775807) : Ev (fun k => laws_eqCommitteeS.f k l l) true := by
  unfold laws_eqCommitteeS.f
  simp only [↓reduceIte]
  have key := Ev.down (G := fun i k => laws_eqCommitteeS.l0 k l l (i : Int)) (R := fun _ => true) l.length
    (by refine Ev.shift ?_
        simp only [laws_eqCommitteeS.l0, Int.lt_irrefl, ↓reduceIte]
        exact Ev.some)
    (fun i hi ih => by
        refine Ev.shift ?_
        have c1 : (i : Int) < (l.length : Int) := by omega
        have c0 : (0 : Int) ≤ (i : Int) := by omega
        simp only [laws_eqCommitteeS.l0, c1, c0, ↓reduceIte, rd_impl_nat]
        refine Ev.bind (laws_eqCommittee.ev _ _ (hx _ (getD_mem l z_impl_Committee i hi))) ?_
        simp only [↓reduceIte, w1 hi hl]
        exact ih)
  exact key 0 (Nat.zero_le _)
theorem good_len {x : S_impl_Committee} (h : good x = true) : 1 ≤ x.f1.length ∧ x.f1.length ≤ 9 := isComm_len h
theorem heads_cons (x : S_impl_Committee) (xs : List S_impl_Committee) : heads (x :: xs) = x.f1.length + heads xs := by simp [heads]
theorem spec_chMembers.ev (xs : List S_impl_Committee) (hl : xs.length ≤ 1048576) (hx : ∀ x ∈ xs, x.f1.length ≤ 9223372036854775807) : Ev (fun k => spec_chMembers.f k xs) (if xs.all good = true then heads xs else -1) := by
  have key := back (P := fun i => ∀ a : Int, 0 ≤ a → a ≤ 9 * i → Ev (fun k => spec_chMembers.l0 k a xs (xs.length : Int) (i : Int)) (if (xs.drop i).all good = true then a + heads (xs.drop i) else -1)) xs.length
    (by intro a h0 h1
        refine Ev.shift ?_
        simp only [spec_chMembers.l0, Int.lt_irrefl, ↓reduceIte, List.drop_length, List.all_nil, heads, List.map_nil, List.sum_nil, Int.add_zero]
        exact Ev.some)
    (by intro i hi ih a h0 h1
        refine Ev.shift ?_
        have c1 : (i : Int) < (xs.length : Int) := by omega
        have c0 : (0 : Int) ≤ (i : Int) := by omega
        simp only [spec_chMembers.l0, c1, c0, ↓reduceIte, rd_impl_nat]
        rw [drop_getD xs z_impl_Committee i hi, List.all_cons, heads_cons]
        generalize he : xs.getD i z_impl_Committee = x
        have hxl := hx x (he ▸ getD_mem xs z_impl_Committee i hi)
        refine Ev.bind (spec_voGood.ev _ _ hxl) ?_
        cases hg : good x with
        | true =>
          have hg' : isComm x.f0 x.f1 = true := hg
          have hlen := good_len hg
          simp only [hg', ↓reduceIte, Bool.true_and, w1 hi (show xs.length ≤ 9223372036854775807 by omega)]
          rw [w64 (by omega) (by omega)]
          refine Ev.eq (ih (a + x.f1.length) (by omega) (by omega)) ?_
          split <;> omega
        | false =>
          have hg' : isComm x.f0 x.f1 = false := hg
          simp only [hg', Bool.false_eq_true, ↓reduceIte, Bool.false_and]
          exact Ev.some)
  refine Ev.eq (key 0 (Nat.zero_le _) 0 (by omega) (by omega)) ?_
  rw [List.drop_zero]
  split <;> omega
end Go.Proofs.Ythkbaolpiigioaa.P

/- Whether something is true for one of some committees. -/
namespace Go.Proofs.Ythkbaolpiigioaa.P
open Go.RowKit Go.Proofs.YthkbaolpiigioaaW.PrintWords Go.Proofs.YthkbaolpiigioaaW.PrintLast Go.Proofs.YthkbaolpiigioaaW.PrintMore
theorem slices_IndexFunc_impl_Committee_impl_Committee.ev (l : List S_impl_Committee) (hm : l.length ≤ 9223372036854775807) (p : Nat → Int → List Int → Option Bool) (P : S_impl_Committee → Bool) (h : ∀ x ∈ l, Ev (fun k => p k x.f0 x.f1) (P x)) : Ev (fun k => slices_IndexFunc_impl_Committee_impl_Committee.f k l (p k)) (idxFrom P 0 l) := by
  obtain ⟨K, hK⟩ := Ev.all (p := fun k (x : S_impl_Committee) => p k x.f0 x.f1) (P := P) l h
  refine ⟨K + l.length + 1, fun k hk => ?_⟩
  have hq := hK k (by omega)
  show slices_IndexFunc_impl_Committee_impl_Committee.f k l (p k) = _
  generalize p k = q at hq ⊢
  unfold slices_IndexFunc_impl_Committee_impl_Committee.f
  have := downq (G := fun i k => slices_IndexFunc_impl_Committee_impl_Committee.l0 k l q (l.length : Int) (i : Int)) (R := fun i => idxFrom P i (l.drop i)) l.length
    (by intro k; simp only [slices_IndexFunc_impl_Committee_impl_Committee.l0, Int.lt_irrefl, ↓reduceIte, List.drop_length, idxFrom])
    (fun i hi k ih => by
      have c1 : (i : Int) < (l.length : Int) := by omega
      have c0 : (0 : Int) ≤ (i : Int) := by omega
      simp only [slices_IndexFunc_impl_Committee_impl_Committee.l0, c1, c0, ↓reduceIte, w1 hi hm, rd_impl_nat, hq _ (getD_mem l z_impl_Committee i hi), Option.bind_some]
      rw [drop_getD l z_impl_Committee i hi, idxFrom, ih]
      split <;> rfl) 0 (Nat.zero_le _) k (by omega)
  rwa [List.drop_zero] at this
theorem slices_ContainsFunc_impl_Committee_impl_Committee.ev (l : List S_impl_Committee) (hm : l.length ≤ 9223372036854775807) (p : Nat → Int → List Int → Option Bool) (P : S_impl_Committee → Bool) (h : ∀ x ∈ l, Ev (fun k => p k x.f0 x.f1) (P x)) : Ev (fun k => slices_ContainsFunc_impl_Committee_impl_Committee.f k l (p k)) (l.any P) := by
  unfold slices_ContainsFunc_impl_Committee_impl_Committee.f
  refine Ev.bind (slices_IndexFunc_impl_Committee_impl_Committee.ev l hm p P h) ?_
  rw [idxFrom_nn]
  exact Ev.some
end Go.Proofs.Ythkbaolpiigioaa.P

/- Chambers. -/
namespace Go.Proofs.Ythkbaolpiigioaa.P
open Go.RowKit Go.Proofs.YthkbaolpiigioaaW.PrintWords Go.Proofs.YthkbaolpiigioaaW.PrintLast Go.Proofs.YthkbaolpiigioaaW.PrintMore
/-- As many weights as the first of some committees has. -/
def firstLen (xs : List S_impl_Committee) : Nat := (xs.getD 0 z_impl_Committee).f1.length
def areCh (xs : List S_impl_Committee) : Bool := inI 1 4 (xs.length : Int) && xs.all fun c => good c && decide (c.f1.length = firstLen xs)
theorem areCh_at {xs : List S_impl_Committee} (h : areCh xs = true) : 1 ≤ xs.length ∧ xs.length ≤ 4 ∧ ∀ x ∈ xs, good x = true ∧ x.f1.length = firstLen xs := by
  simp only [areCh, inI, Bool.and_eq_true, decide_eq_true_eq, List.all_eq_true] at h
  exact ⟨by omega, by omega, h.2⟩
theorem impl_AreChambers.ev (xs : List S_impl_Committee) (hl : xs.length ≤ 1048576) (hx : ∀ x ∈ xs, x.f1.length ≤ 9223372036854775807) : Ev (fun k => impl_AreChambers.f k xs) (areCh xs) := by
  unfold impl_AreChambers.f areCh
  simp only [impl_within.eq, Option.bind_some]
  cases hin : inI 1 4 (xs.length : Int) with
  | false => exact Ev.some
  | true =>
    have h0 : (0 : Int) < (xs.length : Int) := by
      simp only [inI, Bool.and_eq_true, decide_eq_true_eq] at hin; omega
    simp only [↓reduceIte, Bool.true_and]
    refine Ev.bind (slices_ContainsFunc_impl_Committee_impl_Committee.ev xs (by omega) (fun k a b => impl_AreChambers_1.f k a b xs) (fun x => !(good x && decide (x.f1.length = firstLen xs))) (fun x h => ?_)) ?_
    · unfold impl_AreChambers_1.f
      refine Ev.bind (impl_IsCommittee.ev _ _ (hx x h)) ?_
      have e : isComm x.f0 x.f1 = good x := rfl
      rw [e]
      cases good x with
      | false => exact Ev.some
      | true =>
        simp only [↓reduceIte, h0, Bool.true_and]
        refine Ev.eq Ev.some ?_
        have : rd_impl_Committee xs 0 = xs.getD 0 z_impl_Committee := rd_impl_nat xs 0
        rw [this]
        unfold firstLen
        rw [Bool.eq_iff_iff]
        simp
        omega
    · rw [all_any]; exact Ev.some
theorem spec_chGood.ev (xs : List S_impl_Committee) (hl : xs.length ≤ 1048576) (hx : ∀ x ∈ xs, x.f1.length ≤ 9223372036854775807) : Ev (fun k => spec_chGood.f k xs) (areCh xs) := by
  unfold spec_chGood.f areCh
  simp only [spec_l1In.eq, Option.bind_some]
  cases hin : inI 1 4 (xs.length : Int) with
  | false => exact Ev.some
  | true =>
    have h0 : (0 : Int) < (xs.length : Int) := by
      simp only [inI, Bool.and_eq_true, decide_eq_true_eq] at hin; omega
    simp only [↓reduceIte, Bool.true_and]
    have key := Ev.down (G := fun i k => spec_chGood.l0 k xs xs (xs.length : Int) (i : Int)) (R := fun i => (xs.drop i).all fun c => good c && decide (c.f1.length = firstLen xs)) xs.length
      (by refine Ev.shift ?_
          simp only [spec_chGood.l0, Int.lt_irrefl, ↓reduceIte, List.drop_length, List.all_nil]
          exact Ev.some)
      (fun i hi ih => by
          refine Ev.shift ?_
          have c1 : (i : Int) < (xs.length : Int) := by omega
          have c0 : (0 : Int) ≤ (i : Int) := by omega
          simp only [spec_chGood.l0, c1, c0, ↓reduceIte, rd_impl_nat]
          rw [drop_getD xs z_impl_Committee i hi, List.all_cons]
          refine Ev.bind (spec_voGood.ev _ _ (hx _ (getD_mem xs z_impl_Committee i hi))) ?_
          have e : isComm (xs.getD i z_impl_Committee).f0 (xs.getD i z_impl_Committee).f1 = good (xs.getD i z_impl_Committee) := rfl
          rw [e]
          cases good (xs.getD i z_impl_Committee) with
          | false => exact Ev.some
          | true =>
            have er : rd_impl_Committee xs 0 = xs.getD 0 z_impl_Committee := rd_impl_nat xs 0
            simp only [↓reduceIte, h0, Bool.true_and, er]
            by_cases he : (xs.getD i z_impl_Committee).f1.length = firstLen xs
            · have he' : ((firstLen xs : Nat) : Int) = ((xs.getD 0 z_impl_Committee).f1.length : Int) := rfl
              simp only [he, he', decide_true, Bool.true_and, ↓reduceIte, w1 hi (show xs.length ≤ 9223372036854775807 by omega)]
              exact ih
            · have he' : ¬ ((xs.getD i z_impl_Committee).f1.length : Int) = ((xs.getD 0 z_impl_Committee).f1.length : Int) := by unfold firstLen at he; omega
              simp only [he', he, decide_false, Bool.false_and, ↓reduceIte]
              exact Ev.some)
    exact key 0 (Nat.zero_le _)
theorem firstLen_le {xs : List S_impl_Committee} (h : areCh xs = true) : firstLen xs ≤ 9 := by
  obtain ⟨h1, h4, hx⟩ := areCh_at h
  have h0 := hx _ (getD_mem xs z_impl_Committee 0 (by omega))
  have := good_len h0.1
  omega
end Go.Proofs.Ythkbaolpiigioaa.P

/- Whether something is true for one of some votes. -/
namespace Go.Proofs.Ythkbaolpiigioaa.P
open Go.RowKit Go.Proofs.YthkbaolpiigioaaW.PrintWords Go.Proofs.YthkbaolpiigioaaW.PrintLast Go.Proofs.YthkbaolpiigioaaW.PrintMore
theorem rd_votes_nat (l : List S_impl_votes) (i : Nat) : rd_impl_votes l (i : Int) = l.getD i z_impl_votes := by simp [rd_impl_votes]
theorem slices_IndexFunc_impl_votes_impl_votes.ev (l : List S_impl_votes) (hm : l.length ≤ 9223372036854775807) (p : Nat → Int → List Bool → Option Bool) (P : S_impl_votes → Bool) (h : ∀ x ∈ l, Ev (fun k => p k x.f0 x.f1) (P x)) : Ev (fun k => slices_IndexFunc_impl_votes_impl_votes.f k l (p k)) (idxFrom P 0 l) := by
  obtain ⟨K, hK⟩ := Ev.all (p := fun k (x : S_impl_votes) => p k x.f0 x.f1) (P := P) l h
  refine ⟨K + l.length + 1, fun k hk => ?_⟩
  have hq := hK k (by omega)
  show slices_IndexFunc_impl_votes_impl_votes.f k l (p k) = _
  generalize p k = q at hq ⊢
  unfold slices_IndexFunc_impl_votes_impl_votes.f
  have := downq (G := fun i k => slices_IndexFunc_impl_votes_impl_votes.l0 k l q (l.length : Int) (i : Int)) (R := fun i => idxFrom P i (l.drop i)) l.length
    (by intro k; simp only [slices_IndexFunc_impl_votes_impl_votes.l0, Int.lt_irrefl, ↓reduceIte, List.drop_length, idxFrom])
    (fun i hi k ih => by
      have c1 : (i : Int) < (l.length : Int) := by omega
      have c0 : (0 : Int) ≤ (i : Int) := by omega
      simp only [slices_IndexFunc_impl_votes_impl_votes.l0, c1, c0, ↓reduceIte, w1 hi hm, rd_votes_nat, hq _ (getD_mem l z_impl_votes i hi), Option.bind_some]
      rw [drop_getD l z_impl_votes i hi, idxFrom, ih]
      split <;> rfl) 0 (Nat.zero_le _) k (by omega)
  rwa [List.drop_zero] at this
theorem slices_ContainsFunc_impl_votes_impl_votes.ev (l : List S_impl_votes) (hm : l.length ≤ 9223372036854775807) (p : Nat → Int → List Bool → Option Bool) (P : S_impl_votes → Bool) (h : ∀ x ∈ l, Ev (fun k => p k x.f0 x.f1) (P x)) : Ev (fun k => slices_ContainsFunc_impl_votes_impl_votes.f k l (p k)) (l.any P) := by
  unfold slices_ContainsFunc_impl_votes_impl_votes.f
  refine Ev.bind (slices_IndexFunc_impl_votes_impl_votes.ev l hm p P h) ?_
  rw [idxFrom_nn]
  exact Ev.some
end Go.Proofs.Ythkbaolpiigioaa.P

/- A member of a set, by bits. -/
namespace Go.Proofs.Ythkbaolpiigioaa.P
open Go.RowKit Go.Proofs.YthkbaolpiigioaaW.PrintWords Go.Proofs.YthkbaolpiigioaaW.PrintLast Go.Proofs.YthkbaolpiigioaaW.PrintMore
theorem impl_has.eq (b i : Nat) (hi : i ≤ 64) (hb : b < 2 ^ 63) : impl_has.f (b : Int) (i : Int) = some (b.testBit i) := by
  have c : (0 : Int) ≤ (i : Int) := by omega
  have hd : b / 2 ^ i < 2 ^ 63 := Nat.lt_of_le_of_lt (Nat.div_le_self _ _) hb
  unfold impl_has.f
  rw [if_pos c, shr_nat b i hi, and_one _ hd, bit_nat]
  congr 1
  rcases Nat.mod_two_eq_zero_or_one (b / 2 ^ i) with h | h <;> rw [h] <;> rfl
end Go.Proofs.Ythkbaolpiigioaa.P

/- Weights of a set, by bits. -/
namespace Go.Proofs.Ythkbaolpiigioaa.P
open Go.RowKit Go.Proofs.YthkbaolpiigioaaW.PrintWords Go.Proofs.YthkbaolpiigioaaW.PrintLast Go.Proofs.YthkbaolpiigioaaW.PrintMore
theorem impl_Committee_weight.ev (q : Int) (l : List Int) (b : Nat) (h : ∀ x ∈ l, 0 ≤ x ∧ x ≤ 1000) (hl : l.length ≤ 64) (hb : b < 2 ^ 63) : Ev (fun k => impl_Committee_weight.f k q l (b : Int)) (wt l b) := by
  have key := back (P := fun i => ∀ s : Int, 0 ≤ s → s ≤ 1000 * i → Ev (fun k => impl_Committee_weight.l0 k (b : Int) s l (l.length : Int) (i : Int)) (s + wt (l.drop i) (b / 2 ^ i))) l.length
    (by intro s h0 h1
        refine Ev.shift ?_
        simp only [impl_Committee_weight.l0, Int.lt_irrefl, ↓reduceIte, List.drop_length, wt, Int.add_zero]
        exact Ev.some)
    (by intro i hi ih s h0 h1
        refine Ev.shift ?_
        have c1 : (i : Int) < (l.length : Int) := by omega
        have c0 : (0 : Int) ≤ (i : Int) := by omega
        have hx := h _ (getD_mem l 0 i hi)
        simp only [impl_Committee_weight.l0, c1, c0, ↓reduceIte, impl_has.eq b i (by omega) hb, Option.bind_some, w1 hi (show l.length ≤ 9223372036854775807 by omega), rd_nat, bit_nat]
        rw [drop_getD l 0 i hi, wt, Nat.div_div_eq_div_mul, show (2 ^ i * 2 : Nat) = 2 ^ (i + 1) from rfl]
        by_cases hbit : b / 2 ^ i % 2 = 1
        · simp only [hbit, decide_true, ↓reduceIte]
          rw [w64 (by omega) (by omega)]
          refine Ev.eq (ih _ (by omega) (by omega)) (by omega)
        · simp only [hbit, decide_false, Bool.false_eq_true, ↓reduceIte]
          refine Ev.eq (ih _ (by omega) (by omega)) (by omega))
  have := key 0 (Nat.zero_le _) 0 (by omega) (by omega)
  unfold impl_Committee_weight.f
  rw [List.drop_zero, Nat.pow_zero, Nat.div_one, Int.zero_add] at this
  exact this
end Go.Proofs.Ythkbaolpiigioaa.P

/- What is told of each set, by a function. -/
namespace Go.Proofs.Ythkbaolpiigioaa.P
open Go.RowKit Go.Proofs.YthkbaolpiigioaaW.PrintWords Go.Proofs.YthkbaolpiigioaaW.PrintLast Go.Proofs.YthkbaolpiigioaaW.PrintMore
theorem impl_votesOf.ev (n : Nat) (hn : n ≤ 40) (p : Nat → Int → Option Bool) (P : Nat → Bool) (h : ∀ b : Nat, b < 2 ^ n → Ev (fun k => p k (b : Int)) (P b)) : Ev (fun k => impl_votesOf.f k (n : Int) (p k)) ((n : Int), tab n P) := by
  obtain ⟨K, hK⟩ := Ev.all (p := fun k (b : Nat) => p k (b : Int)) (P := P) (List.range (2 ^ n)) (fun b hb => h b (List.mem_range.1 hb))
  have hpos := Nat.two_pow_pos n
  refine ⟨K + 2 ^ n + 1, fun k hk => ?_⟩
  have hq := hK k (by omega)
  show impl_votesOf.f k (n : Int) (p k) = _
  generalize p k = q at hq ⊢
  have hq : ∀ b : Nat, b < 2 ^ n → q (b : Int) = some (P b) := fun b hb => hq b (List.mem_range.2 hb)
  have h40 : 2 ^ n ≤ 1099511627776 := pow_small hn
  have hle : (2 ^ n : Nat) ≤ 281474976710656 := by omega
  have c0 : (0 : Int) ≤ (n : Int) := by omega
  have c1 : (0 : Int) ≤ ((2 ^ n : Nat) : Int) := by omega
  have hl := tab_len n P
  unfold impl_votesOf.f
  simp only [c0, ↓reduceIte, shl_one n (by omega), c1, Int.toNat_natCast, hle, Option.bind_some, List.length_replicate]
  have := downq (G := fun i k => impl_votesOf.l0 k q ((2 ^ n : Nat) : Int) (i : Int) (n : Int) (filled (tab n P) false i)) (R := fun _ => ((n : Int), tab n P)) (2 ^ n)
    (by intro k
        have : filled (tab n P) false (2 ^ n) = tab n P := by rw [← hl]; exact filled_all _ _
        simp only [impl_votesOf.l0, Int.lt_irrefl, ↓reduceIte, this])
    (fun i hi k ih => by
        have c1 : (i : Int) < ((2 ^ n : Nat) : Int) := by omega
        have c0 : (0 : Int) ≤ (i : Int) := by omega
        have c2 : (i : Int) < ((filled (tab n P) false i).length : Int) := by rw [filled_len _ _ _ (by omega)]; omega
        have hs := filled_set (tab n P) false false i (by omega)
        rw [tab_get n P i hi] at hs
        simp only [impl_votesOf.l0, c1, c0, c2, ↓reduceIte, hq i hi, Option.bind_some, w1 hi (show 2 ^ n ≤ 9223372036854775807 by omega), Int.toNat_natCast, hs]
        exact ih) 0 (Nat.zero_le _) k (by omega)
  rw [filled_zero, hl] at this
  exact this
end Go.Proofs.Ythkbaolpiigioaa.P

/- The votes of a committee. -/
namespace Go.Proofs.Ythkbaolpiigioaa.P
open Go.RowKit Go.Proofs.YthkbaolpiigioaaW.PrintWords Go.Proofs.YthkbaolpiigioaaW.PrintLast Go.Proofs.YthkbaolpiigioaaW.PrintMore
def cwin (q : Int) (l : List Int) (b : Nat) : Bool := decide (wt l b ≥ q)
theorem impl_Committee_votes.ev (q : Int) (l : List Int) (h : ∀ x ∈ l, 0 ≤ x ∧ x ≤ 1000) (hl : l.length ≤ 40) : Ev (fun k => impl_Committee_votes.f k q l) ((l.length : Int), tab l.length (cwin q l)) := by
  unfold impl_Committee_votes.f
  refine Ev.bind (impl_votesOf.ev l.length hl (fun k y => impl_Committee_votes_1.f k y q l) (cwin q l) (fun b hb => ?_)) Ev.some
  unfold impl_Committee_votes_1.f
  have h40 : 2 ^ l.length ≤ 1099511627776 := pow_small hl
  exact Ev.bind (impl_Committee_weight.ev q l b h (by omega) (by omega)) Ev.some
end Go.Proofs.Ythkbaolpiigioaa.P

/- Weights of a set, by bits. -/
namespace Go.Proofs.Ythkbaolpiigioaa.P
open Go.RowKit Go.Proofs.YthkbaolpiigioaaW.PrintWords Go.Proofs.YthkbaolpiigioaaW.PrintLast Go.Proofs.YthkbaolpiigioaaW.PrintMore
theorem spec_voWeight.ev (q : Int) (l : List Int) (b : Nat) (h : ∀ x ∈ l, 0 ≤ x ∧ x ≤ 1000) (hl : l.length ≤ 64) : Ev (fun k => spec_voWeight.f k q l (b : Int)) (wt l b) := by
  have key := back (P := fun i => ∀ s : Int, 0 ≤ s → s ≤ 1000 * i → Ev (fun k => spec_voWeight.l0 k (b : Int) s l (l.length : Int) (i : Int)) (s + wt (l.drop i) (b / 2 ^ i))) l.length
    (by intro s h0 h1
        refine Ev.shift ?_
        simp only [spec_voWeight.l0, Int.lt_irrefl, ↓reduceIte, List.drop_length, wt, Int.add_zero]
        exact Ev.some)
    (by intro i hi ih s h0 h1
        refine Ev.shift ?_
        have c1 : (i : Int) < (l.length : Int) := by omega
        have c0 : (0 : Int) ≤ (i : Int) := by omega
        have hx := h _ (getD_mem l 0 i hi)
        simp only [spec_voWeight.l0, c1, c0, ↓reduceIte, shr_nat b i (by omega), tmod_two, w1 hi (show l.length ≤ 9223372036854775807 by omega), rd_nat]
        rw [drop_getD l 0 i hi, wt, Nat.div_div_eq_div_mul, show (2 ^ i * 2 : Nat) = 2 ^ (i + 1) from rfl]
        by_cases hbit : b / 2 ^ i % 2 = 1
        · have hbit' : ((b / 2 ^ i % 2 : Nat) : Int) = 1 := by omega
          simp only [hbit, hbit', ↓reduceIte]
          rw [w64 (by omega) (by omega)]
          refine Ev.eq (ih _ (by omega) (by omega)) (by omega)
        · have hbit' : ¬ ((b / 2 ^ i % 2 : Nat) : Int) = 1 := by omega
          simp only [hbit, hbit', ↓reduceIte]
          refine Ev.eq (ih _ (by omega) (by omega)) (by omega))
  have := key 0 (Nat.zero_le _) 0 (by omega) (by omega)
  unfold spec_voWeight.f
  rw [List.drop_zero, Nat.pow_zero, Nat.div_one, Int.zero_add] at this
  exact this
end Go.Proofs.Ythkbaolpiigioaa.P

/- All members, by bits. -/
namespace Go.Proofs.Ythkbaolpiigioaa.P
open Go.RowKit Go.Proofs.YthkbaolpiigioaaW.PrintWords Go.Proofs.YthkbaolpiigioaaW.PrintLast Go.Proofs.YthkbaolpiigioaaW.PrintMore
theorem spec_voAll.eq (n : Nat) (hn : n < 63) : spec_voAll.f (n : Int) = some ((2 ^ n - 1 : Nat) : Int) := by
  have c0 : (0 : Int) ≤ (n : Int) := by omega
  have h1 := pow63 hn
  have h2 : 0 < 2 ^ n := Nat.two_pow_pos n
  unfold spec_voAll.f
  rw [if_pos c0, shl_one n hn, w64 (by omega) (by omega)]
  congr 1
  omega
end Go.Proofs.Ythkbaolpiigioaa.P

/- The votes of a committee. -/
namespace Go.Proofs.Ythkbaolpiigioaa.P
open Go.RowKit Go.Proofs.YthkbaolpiigioaaW.PrintWords Go.Proofs.YthkbaolpiigioaaW.PrintLast Go.Proofs.YthkbaolpiigioaaW.PrintMore
theorem spec_voWins.ev' (q : Int) (l : List Int) (h : ∀ x ∈ l, 0 ≤ x ∧ x ≤ 1000) (hl : l.length ≤ 40) : Ev (fun k => spec_voWins.f k q l) (tab l.length (fun b => decide (wt l b ≥ q))) := by
  have h40 : 2 ^ l.length ≤ 1099511627776 := pow_small hl
  have hp := Nat.two_pow_pos l.length
  have tl := tab_len l.length (fun b => decide (wt l b ≥ q))
  generalize ht : tab l.length (fun b => decide (wt l b ≥ q)) = t at tl ⊢
  have key := Ev.down (G := fun i k => spec_voWins.l0 k (t.take i) (i : Int) q l) (R := fun _ => t) (2 ^ l.length)
    (by refine Ev.shift ?_
        have c : ¬ (((2 ^ l.length : Nat) : Int) ≤ ((2 ^ l.length - 1 : Nat) : Int)) := by omega
        simp only [spec_voWins.l0, spec_voAll.eq l.length (by omega), Option.bind_some, c, ↓reduceIte]
        rw [← tl, List.take_length]
        exact Ev.some)
    (fun i hi ih => by
        refine Ev.shift ?_
        have c : (i : Int) ≤ ((2 ^ l.length - 1 : Nat) : Int) := by omega
        simp only [spec_voWins.l0, spec_voAll.eq l.length (by omega), Option.bind_some, c, ↓reduceIte]
        refine Ev.bind (spec_voWeight.ev q l i h (by omega)) ?_
        have c2 : (t.take i).length < 140737488355328 := by rw [List.length_take]; omega
        have e : t.take i ++ [decide (wt l i ≥ q)] = t.take (i + 1) := by
          rw [take_getD t false i (by omega), ← ht, tab_get _ _ i hi]
        simp only [c2, ↓reduceIte, w1 hi (show 2 ^ l.length ≤ 9223372036854775807 by omega), e]
        exact ih)
  exact key 0 (Nat.zero_le _)
end Go.Proofs.Ythkbaolpiigioaa.P

/- What sets win all chambers, or some. -/
namespace Go.Proofs.Ythkbaolpiigioaa.P
open Go.RowKit Go.Proofs.YthkbaolpiigioaaW.PrintWords Go.Proofs.YthkbaolpiigioaaW.PrintLast Go.Proofs.YthkbaolpiigioaaW.PrintMore
/-- A committee's votes. -/
def tv (c : S_impl_Committee) : S_impl_votes := ⟨(c.f1.length : Int), tab c.f1.length (cwin c.f0 c.f1)⟩
def cw (c : S_impl_Committee) (b : Nat) : Bool := cwin c.f0 c.f1 b
/-- Whether a set wins some chambers (s), or all. -/
def chW (s : Bool) (xs : List S_impl_Committee) (b : Nat) : Bool := (xs.any fun c => cw c b == s) == s
theorem good_comm {x : S_impl_Committee} (h : good x = true) : isComm x.f0 x.f1 = true := h
theorem impl_chamberVotes.ev (s : Bool) (xs : List S_impl_Committee) (h : areCh xs = true) : Ev (fun k => impl_chamberVotes.f k xs s) ((firstLen xs : Int), tab (firstLen xs) (chW s xs)) := by
  obtain ⟨h1, h4, hx⟩ := areCh_at h
  have hf9 : firstLen xs ≤ 9 := by
    have h0 := hx _ (getD_mem xs z_impl_Committee 0 (by omega))
    have := good_len h0.1
    omega
  have hp9 : 2 ^ firstLen xs ≤ 512 := pow_small (m := 9) hf9
  have key := Ev.down (G := fun i k => impl_chamberVotes.l0 k xs (xs.length : Int) (i : Int) s ((xs.take i).map tv)) (R := fun _ => ((firstLen xs : Int), tab (firstLen xs) (chW s xs))) xs.length
    (by refine Ev.shift ?_
        have c0 : (0 : Int) < ((xs.map tv).length : Int) := by rw [List.length_map]; omega
        have e0 : (rd_impl_votes (xs.map tv) 0).f0 = (firstLen xs : Int) := by
          have : rd_impl_votes (xs.map tv) 0 = (xs.map tv).getD 0 z_impl_votes := rd_votes_nat _ 0
          rw [this]
          cases xs with
          | nil => simp at h1
          | cons x xs => rfl
        simp only [impl_chamberVotes.l0, Int.lt_irrefl, ↓reduceIte, List.take_length, c0, e0]
        refine Ev.bind (impl_votesOf.ev (firstLen xs) (by omega) (fun k y => impl_chamberVotes_1.f k y (xs.map tv) s) (chW s xs) (fun b hb => ?_)) Ev.some
        unfold impl_chamberVotes_1.f
        refine Ev.bind (slices_ContainsFunc_impl_votes_impl_votes.ev (xs.map tv) (by rw [List.length_map]; omega) (fun k a l => impl_chamberVotes_1_1.f a l (b : Int) s) (fun v => v.f1.getD b false == s) (fun v hv => ?_)) ?_
        · obtain ⟨x, hxm, rfl⟩ := List.mem_map.1 hv
          have hl : (tv x).f1.length = 2 ^ firstLen xs := by
            show (tab x.f1.length _).length = _
            rw [tab_len, (hx x hxm).2]
          have d0 : (0 : Int) ≤ (b : Int) := Int.natCast_nonneg b
          have d1 : (b : Int) < ((tv x).f1.length : Int) := by rw [hl]; exact Int.ofNat_lt.2 hb
          simp only [impl_chamberVotes_1_1.f, d0, d1, ↓reduceIte, rdB_nat]
          exact Ev.some
        · refine Ev.eq Ev.some ?_
          unfold chW
          rw [List.any_map]
          congr 1
          rw [Bool.eq_iff_iff, List.any_eq_true, List.any_eq_true]
          have e : ∀ x ∈ xs, (tv x).f1.getD b false = cw x b := fun x hxm => tab_get x.f1.length _ b (by rw [(hx x hxm).2]; exact hb)
          constructor
          · rintro ⟨x, hxm, hh⟩; exact ⟨x, hxm, by rw [← e x hxm]; exact hh⟩
          · rintro ⟨x, hxm, hh⟩; exact ⟨x, hxm, by rw [← e x hxm] at hh; exact hh⟩)
    (fun i hi ih => by
        refine Ev.shift ?_
        have c1 : (i : Int) < (xs.length : Int) := by omega
        have c0 : (0 : Int) ≤ (i : Int) := by omega
        have hg := (hx _ (getD_mem xs z_impl_Committee i hi)).1
        have hl := good_len hg
        have hm := isComm_mem (good_comm hg)
        have c2 : ((xs.take i).map tv).length < 4398046511104 := by rw [List.length_map, List.length_take]; omega
        have hw := w1 hi (show xs.length ≤ 9223372036854775807 by omega)
        simp only [impl_chamberVotes.l0, c1, c0, ↓reduceIte, rd_impl_nat]
        refine Ev.bind (impl_Committee_votes.ev _ _ hm (by omega)) ?_
        rw [take_getD xs z_impl_Committee i hi, List.map_append] at ih
        simp only [c2, ↓reduceIte, hw]
        exact ih)
  exact key 0 (Nat.zero_le _)
/-- Both, or one of both. -/
def opA (a x y : Bool) : Bool := if a = true then x && y else x || y
def chF (a : Bool) (c : S_impl_Committee) (xs : List S_impl_Committee) (b : Nat) : Bool := xs.foldl (fun z c => opA a z (cw c b)) (cw c b)
theorem chF_eq (s : Bool) (c : S_impl_Committee) (xs : List S_impl_Committee) (b : Nat) : chF (!s) c xs b = chW s (c :: xs) b := by
  have key : ∀ (xs : List S_impl_Committee) (z : Bool), xs.foldl (fun z c => opA (!s) z (cw c b)) z = ((z == s || xs.any fun c => cw c b == s) == s) := by
    intro xs
    induction xs with
    | nil => intro z; cases z <;> cases s <;> rfl
    | cons x xs ih =>
      intro z
      rw [List.foldl_cons, ih, List.any_cons]
      generalize (xs.any fun c => cw c b == s) = u
      cases cw x b <;> cases z <;> cases s <;> cases u <;> rfl
  unfold chF chW
  rw [key, List.any_cons]
theorem spec_chAll.inner (a : Bool) (rest : List S_impl_Committee) (i N : Int) (t old new : List Bool) (p : Nat) (res : List Bool) (hp : p ≤ 512) (tl : t.length = p) (ol : old.length = p) (hno : new.length = old.length)
    (hs : ∀ b, b < p → new.getD b false = opA a (old.getD b false) (t.getD b false)) (hcont : Ev (fun k => spec_chAll.l0 k a new rest N (wrap64 (i + 1))) res) :
    Ev (fun k => spec_chAll.l1 k a old rest N i t (t.length : Int) 0) res := by
  have inner := back (P := fun b => Ev (fun k => spec_chAll.l1 k a (over new old b) rest N i t (t.length : Int) (b : Int)) res) p
    (by refine Ev.shift ?_
        have hov : over new old p = new := by rw [← ol]; exact over_all new old hno
        simp only [spec_chAll.l1, tl, Int.lt_irrefl, ↓reduceIte, hov]
        exact hcont)
    (fun b hb ihb => by
      refine Ev.shift ?_
      have ov := over_len new old b hno
      have f1 : (b : Int) < (t.length : Int) := by omega
      have f0 : (0 : Int) ≤ (b : Int) := by omega
      have f2 : (b : Int) < ((over new old b).length : Int) := by omega
      have hwb := w1 hb (show p ≤ 9223372036854775807 by omega)
      have hget : (over new old b).getD b false = old.getD b false := over_get new old false b hno (by omega)
      have hset := over_set new old false b hno (by omega)
      rw [hs b hb] at hset
      simp only [spec_chAll.l1, f1, f0, f2, ↓reduceIte, rdB_nat, hget, hwb, Int.toNat_natCast]
      cases a with
      | true =>
        cases ho : old.getD b false with
        | true =>
          simp only [ho, opA, ↓reduceIte, Bool.true_and] at hset
          simp only [↓reduceIte, hset]
          exact ihb
        | false =>
          simp only [ho, opA, ↓reduceIte, Bool.false_and] at hset
          simp only [↓reduceIte, Bool.false_eq_true, hset]
          exact ihb
      | false =>
        cases ho : old.getD b false with
        | true =>
          simp only [ho, opA, ↓reduceIte, Bool.false_eq_true, Bool.true_or] at hset
          simp only [↓reduceIte, Bool.false_eq_true, hset]
          exact ihb
        | false =>
          simp only [ho, opA, ↓reduceIte, Bool.false_eq_true, Bool.false_or] at hset
          simp only [↓reduceIte, Bool.false_eq_true, hset]
          exact ihb)
  have i0 := inner 0 (Nat.zero_le _)
  rw [over_zero] at i0
  exact i0
theorem spec_chAll.ev (s : Bool) (xs : List S_impl_Committee) (h : areCh xs = true) : Ev (fun k => spec_chAll.f k xs (!s)) (tab (firstLen xs) (chW s xs)) := by
  obtain ⟨h1, h4, hx⟩ := areCh_at h
  cases xs with
  | nil => simp at h1
  | cons c rest =>
    have hc := hx c (by simp)
    have hn : firstLen (c :: rest) = c.f1.length := rfl
    have hlc := good_len hc.1
    have hmc := isComm_mem (good_comm hc.1)
    have e1 : chW s (c :: rest) = chF (!s) c rest := by funext b; rw [chF_eq]
    have hr : ∀ x ∈ rest, good x = true ∧ x.f1.length = c.f1.length := fun x hxm => hx x (by simp [hxm])
    have hlr : rest.length ≤ 9 := by simp at h4; omega
    rw [e1, hn]
    generalize (!s) = a
    have hp9 : 2 ^ c.f1.length ≤ 512 := pow_small (m := 9) hlc.2
    have v0 := spec_voWins.ev' c.f0 c.f1 hmc (by omega)
    have c0 : (0 : Int) < ((c :: rest).length : Int) := by rw [List.length_cons]; omega
    have c1 : (1 : Int) ≤ ((c :: rest).length : Int) := by rw [List.length_cons]; omega
    have er : rd_impl_Committee (c :: rest) 0 = c := rd_impl_nat (c :: rest) 0
    have key := Ev.down (G := fun i k => spec_chAll.l0 k a (tab c.f1.length (chF a c (rest.take i))) rest (rest.length : Int) (i : Int)) (R := fun _ => tab c.f1.length (chF a c rest)) rest.length
      (by refine Ev.shift ?_
          simp only [spec_chAll.l0, Int.lt_irrefl, ↓reduceIte, List.take_length]
          exact Ev.some)
      (fun i hi ih => by
          refine Ev.shift ?_
          have d1 : (i : Int) < (rest.length : Int) := by omega
          have d0 : (0 : Int) ≤ (i : Int) := by omega
          have hg := hr _ (getD_mem rest z_impl_Committee i hi)
          have hm := isComm_mem (good_comm hg.1)
          have hw := w1 hi (show rest.length ≤ 9223372036854775807 by omega)
          have hl2 := good_len hg.1
          have vw := spec_voWins.ev' (rest.getD i z_impl_Committee).f0 (rest.getD i z_impl_Committee).f1 hm (by omega)
          rw [hg.2] at vw
          simp only [spec_chAll.l0, d1, d0, ↓reduceIte, rd_impl_nat]
          refine Ev.bind vw ?_
          refine spec_chAll.inner a rest (i : Int) (rest.length : Int) _ (tab c.f1.length (chF a c (rest.take i))) (tab c.f1.length (chF a c (rest.take (i + 1)))) (2 ^ c.f1.length) _ hp9 (tab_len _ _) (tab_len _ _) (by rw [tab_len, tab_len]) (fun b hb => ?_) (by rw [hw]; exact ih)
          rw [tab_get _ _ b hb, tab_get _ _ b hb, tab_get _ _ b hb]
          unfold chF
          rw [foldl_take _ _ rest z_impl_Committee i hi]
          rfl)
    unfold spec_chAll.f
    simp only [c0, c1, ↓reduceIte, er]
    refine Ev.bind v0 ?_
    refine Ev.bind (Ev.one rfl) ?_
    exact key 0 (Nat.zero_le _)
end Go.Proofs.Ythkbaolpiigioaa.P

/- What marking a row, and looking at the marks, answers. -/
namespace Go.Proofs.Ythkbaolpiigioaa.P
open Go.RowKit Go.Proofs.YthkbaolpiigioaaW.PrintWords Go.Proofs.YthkbaolpiigioaaW.PrintLast Go.Proofs.YthkbaolpiigioaaW.PrintMore
theorem laws_markIntS.ev (l : List Int) (a : Int) (h0 : 0 ≤ a) (h1 : a ≤ 4000000000000000000) (hm : l.length ≤ 4000000000000000000) : Ev (fun k => laws_markIntS.f k l a) (a + (l.length : Int), marks a l.length) := by
  have hl : (marks a l.length).length = l.length := marks_len _ _
  have key := Ev.down (G := fun i k => laws_markIntS.l0 k (over (marks a l.length) l i) (a + (i : Int)) (i : Int)) (R := fun _ => (a + (l.length : Int), marks a l.length)) l.length
    (by refine Ev.shift ?_
        simp only [laws_markIntS.l0, over_all _ _ hl, hl, Int.lt_irrefl, ↓reduceIte]
        exact Ev.some)
    (fun i hi ih => by
        refine Ev.shift ?_
        have c1 : (i : Int) < ((over (marks a l.length) l i).length : Int) := by rw [over_len _ _ _ hl]; omega
        have c0 : (0 : Int) ≤ (i : Int) := by omega
        have e1 : wrap64 (a + (i : Int) + 1) = a + ((i + 1 : Nat) : Int) := by rw [w64 (by omega) (by omega)]; omega
        have e2 : (over (marks a l.length) l i).set i (a + (i : Int)) = over (marks a l.length) l (i + 1) := by
          have := over_set (marks a l.length) l 0 i hl hi
          rwa [marks_get a l.length i hi] at this
        simp only [laws_markIntS.l0, c1, c0, ↓reduceIte, w1 hi (by omega), Int.toNat_natCast, e1, e2]
        exact ih)
  have := key 0 (Nat.zero_le _)
  rw [over_zero] at this
  unfold laws_markIntS.f
  simpa using this
theorem laws_heldIntS.ev (a : Int) (n : Nat) (h0 : 0 ≤ a) (h1 : a ≤ 4000000000000000000) (hm : n ≤ 4000000000000000000) : Ev (fun k => laws_heldIntS.f k (marks a n) a) (a + (n : Int)) := by
  have key := Ev.down (G := fun i k => laws_heldIntS.l0 k (marks a n) (a + (i : Int)) (i : Int)) (R := fun _ => a + (n : Int)) n
    (by refine Ev.shift ?_
        simp only [laws_heldIntS.l0, marks_len, Int.lt_irrefl, ↓reduceIte]
        exact Ev.some)
    (fun i hi ih => by
        refine Ev.shift ?_
        have c1 : (i : Int) < (n : Int) := by omega
        have c0 : (0 : Int) ≤ (i : Int) := by omega
        have e1 : wrap64 (a + (i : Int) + 1) = a + ((i + 1 : Nat) : Int) := by rw [w64 (by omega) (by omega)]; omega
        simp only [laws_heldIntS.l0, marks_len, c1, c0, ↓reduceIte, w1 hi (show n ≤ 9223372036854775807 by omega), rd_nat, marks_get a n i hi, e1]
        exact ih)
  have := key 0 (Nat.zero_le _)
  unfold laws_heldIntS.f
  simpa using this
end Go.Proofs.Ythkbaolpiigioaa.P

/- What marking a row of committees answers. -/
namespace Go.Proofs.Ythkbaolpiigioaa.P
open Go.RowKit Go.Proofs.YthkbaolpiigioaaW.PrintWords Go.Proofs.YthkbaolpiigioaaW.PrintLast Go.Proofs.YthkbaolpiigioaaW.PrintMore
theorem laws_markCommitteeS.ev (l : List S_impl_Committee) (a : Int) (h0 : 0 ≤ a) (h1 : a ≤ 1000000000000000000) (hm : l.length ≤ 1048576) (hx : ∀ x ∈ l, x.f1.length ≤ 1048576) : ∃ r zs, Ev (fun k => laws_markCommitteeS.f k l a) (r, zs) ∧ a ≤ r := by
  have key := back (P := fun i => ∀ (ys : List S_impl_Committee) (b : Int), ys.length = l.length → (∀ j, i ≤ j → ys.getD j z_impl_Committee = l.getD j z_impl_Committee) → a ≤ b → b ≤ a + 1048577 * i → ∃ r zs, Ev (fun k => laws_markCommitteeS.l0 k ys b (i : Int)) (r, zs) ∧ a ≤ r) l.length
    (by intro ys b hy _ hb _
        refine ⟨b, ys, ?_, hb⟩
        refine Ev.shift ?_
        simp only [laws_markCommitteeS.l0, hy, Int.lt_irrefl, ↓reduceIte]
        exact Ev.some)
    (by intro i hi ih ys b hy he hb hb2
        have c1 : (i : Int) < (ys.length : Int) := by omega
        have c0 : (0 : Int) ≤ (i : Int) := by omega
        have hxi := hx _ (getD_mem l z_impl_Committee i hi)
        obtain ⟨r, zs, hr, hle⟩ := ih (ys.set i ⟨b, marks (b + 1) (l.getD i z_impl_Committee).f1.length⟩) (b + 1 + ((l.getD i z_impl_Committee).f1.length : Int)) (by rw [List.length_set]; exact hy)
          (fun j hj => by
            rw [List.getD_eq_getElem?_getD, List.getElem?_set_ne (by omega), ← List.getD_eq_getElem?_getD]
            exact he j (by omega)) (by omega) (by omega)
        refine ⟨r, zs, ?_, hle⟩
        refine Ev.shift ?_
        have eg : rd_impl_Committee ys (i : Int) = l.getD i z_impl_Committee := by rw [rd_impl_nat, he i (Nat.le_refl _)]
        have ew : wrap64 (b + 1) = b + 1 := w64 (by omega) (by omega)
        simp only [laws_markCommitteeS.l0, c1, c0, ↓reduceIte, eg, ew, w1 hi (show l.length ≤ 9223372036854775807 by omega), Int.toNat_natCast]
        refine Ev.bind (laws_markIntS.ev _ (b + 1) (by omega) (by omega) (by omega)) ?_
        exact hr)
  exact key 0 (Nat.zero_le _) l a rfl (fun _ _ => rfl) (by omega) (by omega)
end Go.Proofs.Ythkbaolpiigioaa.P

/- The members for which something is true. -/
namespace Go.Proofs.Ythkbaolpiigioaa.P
open Go.RowKit Go.Proofs.YthkbaolpiigioaaW.PrintWords Go.Proofs.YthkbaolpiigioaaW.PrintLast Go.Proofs.YthkbaolpiigioaaW.PrintMore
theorem impl_members.ev (n : Nat) (hn : n ≤ 1000000) (p : Nat → Int → Option Bool) (P : Nat → Bool) (h : ∀ b : Nat, b < n → Ev (fun k => p k (b : Int)) (P b)) : Ev (fun k => impl_members.f k (n : Int) (p k)) (sel n P) := by
  obtain ⟨K, hK⟩ := Ev.all (p := fun k (b : Nat) => p k (b : Int)) (P := P) (List.range n) (fun b hb => h b (List.mem_range.1 hb))
  refine ⟨K + n + 1, fun k hk => ?_⟩
  have hq := hK k (by omega)
  show impl_members.f k (n : Int) (p k) = _
  generalize p k = q at hq ⊢
  have hq : ∀ b : Nat, b < n → q (b : Int) = some (P b) := fun b hb => hq b (List.mem_range.2 hb)
  exact downq (G := fun i k => impl_members.l0 k q (sel i P) (n : Int) (i : Int)) (R := fun _ => sel n P) n
    (by intro k; simp only [impl_members.l0, Int.lt_irrefl, ↓reduceIte])
    (fun i hi k ih => by
      have c1 : (i : Int) < (n : Int) := by omega
      have c2 : (sel i P).length < 17592186044416 := by have := sel_len i P; omega
      rw [sel_succ] at ih
      simp only [impl_members.l0, c1, ↓reduceIte, hq i hi, Option.bind_some, w1 hi (show n ≤ 9223372036854775807 by omega)]
      cases hP : P i with
      | true => simp only [hP, ↓reduceIte] at ih; simp only [↓reduceIte, c2]; exact ih
      | false => simp only [hP, Bool.false_eq_true, ↓reduceIte, List.append_nil] at ih; simp only [Bool.false_eq_true, ↓reduceIte]; exact ih) 0 (Nat.zero_le _) k (by omega)
end Go.Proofs.Ythkbaolpiigioaa.P

/- Whether two tables are the same. -/
namespace Go.Proofs.Ythkbaolpiigioaa.P
open Go.RowKit Go.Proofs.YthkbaolpiigioaaW.PrintWords Go.Proofs.YthkbaolpiigioaaW.PrintLast Go.Proofs.YthkbaolpiigioaaW.PrintMore
theorem same_step (a b : List Bool) (i : Nat) (ha : i < a.length) (hb : i < b.length) : decide (a.drop i = b.drop i) = (decide (a.getD i false = b.getD i false) && decide (a.drop (i + 1) = b.drop (i + 1))) := by
  rw [drop_getD a false i ha, drop_getD b false i hb, Bool.eq_iff_iff]
  simp
theorem slices_Equal_bool_bool.ev (a b : List Bool) (hl : a.length = b.length) (hm : a.length ≤ 1000000) : Ev (fun k => slices_Equal_bool_bool.f k a b) (decide (a = b)) := by
  have hl' : (a.length : Int) = (b.length : Int) := by omega
  have key := Ev.down (G := fun i k => slices_Equal_bool_bool.l0 k a b (a.length : Int) (i : Int)) (R := fun i => decide (a.drop i = b.drop i)) a.length
    (by refine Ev.shift ?_
        simp only [slices_Equal_bool_bool.l0, Int.lt_irrefl, ↓reduceIte, List.drop_length]
        rw [hl, List.drop_length]
        exact Ev.some)
    (fun i hi ih => by
      refine Ev.shift ?_
      have c1 : (i : Int) < (a.length : Int) := by omega
      have c0 : (0 : Int) ≤ (i : Int) := by omega
      have c2 : (i : Int) < (b.length : Int) := by omega
      rw [same_step a b i hi (by omega)]
      simp only [slices_Equal_bool_bool.l0, c1, c0, c2, ↓reduceIte, rdB_nat, w1 hi (show a.length ≤ 9223372036854775807 by omega)]
      cases a.getD i false <;> cases b.getD i false
      · simp only [bne_self_eq_false, Bool.false_eq_true, ↓reduceIte, decide_true, Bool.true_and]; exact ih
      · exact Ev.some
      · exact Ev.some
      · simp only [bne_self_eq_false, Bool.false_eq_true, ↓reduceIte, decide_true, Bool.true_and]; exact ih)
  unfold slices_Equal_bool_bool.f
  simp only [hl', ↓reduceIte]
  rw [← hl']
  exact key 0 (Nat.zero_le _)
theorem impl_votes_same.ev (n m : Int) (a b : List Bool) (hl : a.length = b.length) (hm : a.length ≤ 1000000) : Ev (fun k => impl_votes_same.f k n a m b) (decide (a = b)) := by
  unfold impl_votes_same.f
  exact Ev.bind (slices_Equal_bool_bool.ev a b hl hm) Ev.some
theorem spec_weSame.ev (a b : List Bool) (hl : a.length = b.length) (hm : a.length ≤ 1000000) : Ev (fun k => spec_weSame.f k a b) (decide (a = b)) := by
  have hl' : (a.length : Int) = (b.length : Int) := by omega
  have key := Ev.down (G := fun i k => spec_weSame.l0 k a b (a.length : Int) (i : Int)) (R := fun i => decide (a.drop i = b.drop i)) a.length
    (by refine Ev.shift ?_
        simp only [spec_weSame.l0, Int.lt_irrefl, ↓reduceIte, List.drop_length]
        rw [hl, List.drop_length]
        exact Ev.some)
    (fun i hi ih => by
      refine Ev.shift ?_
      have c1 : (i : Int) < (a.length : Int) := by omega
      have c0 : (0 : Int) ≤ (i : Int) := by omega
      have c2 : (i : Int) < (b.length : Int) := by omega
      rw [same_step a b i hi (by omega)]
      simp only [spec_weSame.l0, c1, c0, c2, ↓reduceIte, rdB_nat, w1 hi (show a.length ≤ 9223372036854775807 by omega)]
      cases a.getD i false <;> cases b.getD i false
      · simp only [bne_self_eq_false, Bool.false_eq_true, ↓reduceIte, decide_true, Bool.true_and]; exact ih
      · exact Ev.some
      · exact Ev.some
      · simp only [bne_self_eq_false, Bool.false_eq_true, ↓reduceIte, decide_true, Bool.true_and]; exact ih)
  unfold spec_weSame.f
  simp only [hl', ↓reduceIte]
  rw [← hl']
  exact key 0 (Nat.zero_le _)
end Go.Proofs.Ythkbaolpiigioaa.P

/- The pure statement of FnExactNeedlessChambers. -/
namespace Go.Proofs.Ythkbaolpiigioaa.P
open Go.RowKit Go.Proofs.YthkbaolpiigioaaW.PrintWords Go.Proofs.YthkbaolpiigioaaW.PrintLast Go.Proofs.YthkbaolpiigioaaW.PrintMore
/-- Whether all win the same without one chamber. -/
def idle (xs : List S_impl_Committee) (i : Nat) : Bool := decide (1 < xs.length) && decide (tab (firstLen xs) (chW false (xs.eraseIdx i)) = tab (firstLen xs) (chW false xs))
def idles (xs : List S_impl_Committee) : List Int × Bool := if areCh xs = true then (sel xs.length (idle xs), true) else ([], false)
theorem idles_len (xs : List S_impl_Committee) : (idles xs).1.length ≤ 4 := by
  unfold idles
  split
  · rename_i h
    obtain ⟨_, h4, _⟩ := areCh_at h
    have := sel_len xs.length (idle xs)
    simp only
    omega
  · simp
theorem areCh_less {xs : List S_impl_Committee} (h : areCh xs = true) (h1 : 1 < xs.length) (i : Nat) (hi : i < xs.length) : areCh (xs.eraseIdx i) = true ∧ firstLen (xs.eraseIdx i) = firstLen xs := by
  obtain ⟨_, h4, hx⟩ := areCh_at h
  have hl : (xs.eraseIdx i).length = xs.length - 1 := List.length_eraseIdx_of_lt hi
  have hm : ∀ x ∈ xs.eraseIdx i, x ∈ xs := fun x hx => List.mem_of_mem_eraseIdx hx
  have hf : firstLen (xs.eraseIdx i) = firstLen xs := (hx _ (hm _ (getD_mem (xs.eraseIdx i) z_impl_Committee 0 (by omega)))).2
  refine ⟨?_, hf⟩
  simp only [areCh, inI, Bool.and_eq_true, decide_eq_true_eq, List.all_eq_true]
  refine ⟨⟨by omega, by omega⟩, fun x hxm => ?_⟩
  rw [hf]
  exact hx x (hm x hxm)
theorem impl_NeedlessChambers.ev (xs : List S_impl_Committee) (hl : xs.length ≤ 1048576) (hx : ∀ x ∈ xs, x.f1.length ≤ 9223372036854775807) : Ev (fun k => impl_NeedlessChambers.f k xs) (idles xs) := by
  unfold impl_NeedlessChambers.f idles
  refine Ev.bind (impl_AreChambers.ev xs hl hx) ?_
  cases h : areCh xs with
  | false => exact Ev.some
  | true =>
    obtain ⟨h1, h4, _⟩ := areCh_at h
    have h9 := firstLen_le h
    simp only [↓reduceIte]
    refine Ev.bind (impl_chamberVotes.ev false xs h) ?_
    refine Ev.bind (impl_members.ev xs.length (by omega) (fun k y => impl_NeedlessChambers_1.f k y xs (firstLen xs : Int) (tab (firstLen xs) (chW false xs))) (idle xs) (fun b hb => ?_)) Ev.some
    unfold impl_NeedlessChambers_1.f idle
    by_cases c : 1 < xs.length
    · have c' : (xs.length : Int) > 1 := by omega
      have ci : (0 : Int) ≤ (b : Int) ∧ (b : Int) < (xs.length : Int) ∧ xs.length < 1000000 := by omega
      obtain ⟨ha, hf⟩ := areCh_less h c b hb
      have hv := impl_chamberVotes.ev false (xs.eraseIdx b) ha
      rw [hf] at hv
      simp only [c', ci, and_self, ↓reduceIte, Int.toNat_natCast, c, decide_true, Bool.true_and]
      refine Ev.bind hv ?_
      have := pow_small h9
      exact Ev.bind (impl_votes_same.ev _ _ _ _ (by rw [tab_len, tab_len]) (by rw [tab_len]; omega)) Ev.some
    · have c' : ¬ (xs.length : Int) > 1 := by omega
      simp only [c', c, ↓reduceIte, decide_false, Bool.false_and]
      exact Ev.some
theorem spec_NeedlessChambers.ev (xs : List S_impl_Committee) (hl : xs.length ≤ 1048576) (hx : ∀ x ∈ xs, x.f1.length ≤ 9223372036854775807) : Ev (fun k => spec_NeedlessChambers.f k xs) (idles xs) := by
  unfold spec_NeedlessChambers.f idles
  refine Ev.bind (spec_chGood.ev xs hl hx) ?_
  cases h : areCh xs with
  | false => exact Ev.some
  | true =>
    obtain ⟨h1, h4, _⟩ := areCh_at h
    have h9 := firstLen_le h
    simp only [↓reduceIte]
    refine Ev.bind (spec_chAll.ev false xs h) ?_
    have key := Ev.down (G := fun i k => spec_NeedlessChambers.l0 k xs (tab (firstLen xs) (chW false xs)) (sel i (idle xs)) (xs.length : Int) (i : Int)) (R := fun _ => (sel xs.length (idle xs), true)) xs.length
      (by refine Ev.shift ?_
          simp only [spec_NeedlessChambers.l0, Int.lt_irrefl, ↓reduceIte]
          exact Ev.some)
      (fun i hi ih => by
        refine Ev.shift ?_
        have c1 : (i : Int) < (xs.length : Int) := by omega
        have c0 : (0 : Int) ≤ (i : Int) := by omega
        have c2 : (i : Int) ≤ (xs.length : Int) := by omega
        have hw := w1 hi (show xs.length ≤ 9223372036854775807 by omega)
        have c3 : (0 : Int) ≤ ((i + 1 : Nat) : Int) := by omega
        have c4 : ((i + 1 : Nat) : Int) ≤ (xs.length : Int) := by omega
        have c5 : ([] : List S_impl_Committee).length + (xs.take i).length < 4398046511104 := by rw [List.length_take]; simp; omega
        have c6 : (xs.take i).length + (xs.drop (i + 1)).length < 4398046511104 := by rw [List.length_take, List.length_drop]; omega
        have c7 : (sel i (idle xs)).length < 17592186044416 := by have := sel_len i (idle xs); omega
        rw [sel_succ] at ih
        simp only [spec_NeedlessChambers.l0, c1, c0, c2, hw, c3, c4, ↓reduceIte, Option.bind_some, Int.toNat_natCast, c5, List.nil_append, c6, ← List.eraseIdx_eq_take_drop_succ]
        have hle : (xs.eraseIdx i).length = xs.length - 1 := List.length_eraseIdx_of_lt hi
        by_cases c : 1 < xs.length
        · have c' : ((xs.eraseIdx i).length : Int) > 0 := by omega
          obtain ⟨ha, hf⟩ := areCh_less h c i hi
          have hv := spec_chAll.ev false (xs.eraseIdx i) ha
          rw [hf] at hv
          have hp := pow_small h9
          simp only [c', ↓reduceIte]
          refine Ev.bind hv ?_
          refine Ev.bind (spec_weSame.ev _ _ (by rw [tab_len, tab_len]) (by rw [tab_len]; omega)) ?_
          have ei : idle xs i = decide (tab (firstLen xs) (chW false (xs.eraseIdx i)) = tab (firstLen xs) (chW false xs)) := by simp only [idle, c, decide_true, Bool.true_and]
          rw [← ei]
          cases hb : idle xs i with
          | true => rw [hb] at ih; simp only [↓reduceIte, c7] at ih ⊢; exact ih
          | false => rw [hb] at ih; simp only [Bool.false_eq_true, ↓reduceIte, List.append_nil] at ih ⊢; exact ih
        · have c' : ¬ ((xs.eraseIdx i).length : Int) > 0 := by omega
          have ei : idle xs i = false := by simp only [idle, c, decide_false, Bool.false_and]
          rw [ei] at ih
          simp only [Bool.false_eq_true, ↓reduceIte, List.append_nil] at ih
          simp only [c', ↓reduceIte]
          exact ih)
    exact key 0 (Nat.zero_le _)
theorem laws_FnExactNeedlessChambers_pure : laws_FnExactNeedlessChambers.Pure := by
  intro xs0 hxs
  apply Ev.rounds (r := true)
  unfold laws_FnExactNeedlessChambers.f
  obtain ⟨r, hr, hle, hp⟩ := laws_szCommitteeS.ev xs0 1048576 hxs (by omega) (by omega)
  refine Ev.bind hr ?_
  by_cases h2 : r < 0
  · simp only [h2, ↓reduceIte]
    exact Ev.some
  · obtain ⟨hn, hx⟩ := hp (by omega)
    simp only [h2, ↓reduceIte]
    have hlen : (xs0.map conv).length ≤ 1048576 := by simp; omega
    have hx20 : ∀ x ∈ xs0.map conv, x.f1.length ≤ 1048576 := by
      intro x hx1
      obtain ⟨y, hy, rfl⟩ := List.mem_map.1 hx1
      exact hx y hy
    have hxx : ∀ x ∈ xs0.map conv, x.f1.length ≤ 9223372036854775807 := fun x h => by have := hx20 x h; omega
    have t2 := laws_toCommitteeS.ev xs0 (by omega) hx
    have s1 := spec_NeedlessChambers.ev (xs0.map conv) hlen hxx
    have i1 := impl_NeedlessChambers.ev (xs0.map conv) hlen hxx
    have e2 := laws_eqCommitteeS.ev (xs0.map conv) (by omega) hxx
    obtain ⟨mr, mz, m1, hmr⟩ := laws_markCommitteeS.ev (xs0.map conv) 1 (by omega) (by omega) hlen hx20
    have hv := idles_len (xs0.map conv)
    generalize idles (xs0.map conv) = v at s1 i1 hv
    obtain ⟨u, b⟩ := v
    simp only at hv
    have e1 := laws_eqIntS.ev u (by omega)
    have m2 := laws_markIntS.ev u 1 (by omega) (by omega) (by omega)
    have k2 := laws_heldIntS.ev 1 u.length (by omega) (by omega) (by omega)
    have cm : (mr < 0) = False := by simp only [eq_iff_iff, iff_false]; omega
    repeat (first | with_reducible refine Ev.bind t2 ?_ | with_reducible refine Ev.bind s1 ?_ | with_reducible refine Ev.bind i1 ?_ | with_reducible refine Ev.bind e1 ?_ | with_reducible refine Ev.bind e2 ?_ | with_reducible refine Ev.bind m1 ?_ | with_reducible refine Ev.bind m2 ?_ | with_reducible refine Ev.bind k2 ?_ | with_reducible exact Ev.some | simp only [bne_self_eq_false, Bool.false_eq_true, ↓reduceIte, one_lt, one_lt2, Bool.not_true, Bool.not_false, List.length_nil])
    simp only [cm, ↓reduceIte]
    repeat (first | with_reducible refine Ev.bind t2 ?_ | with_reducible refine Ev.bind s1 ?_ | with_reducible refine Ev.bind i1 ?_ | with_reducible refine Ev.bind e1 ?_ | with_reducible refine Ev.bind e2 ?_ | with_reducible refine Ev.bind m1 ?_ | with_reducible refine Ev.bind m2 ?_ | with_reducible refine Ev.bind k2 ?_ | with_reducible exact Ev.some | simp only [bne_self_eq_false, Bool.false_eq_true, ↓reduceIte, one_lt, one_lt2, Bool.not_true, Bool.not_false, List.length_nil])
end Go.Proofs.Ythkbaolpiigioaa.P
