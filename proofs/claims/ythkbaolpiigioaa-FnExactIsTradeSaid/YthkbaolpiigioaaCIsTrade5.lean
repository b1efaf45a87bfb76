/- Part 5 of the texts below the law FnExactIsTrade. Printed by this session's driver over the kit's printer, but for the hand contracts and the plain laws. -/
import Derived.ProofKit
import Derived.Deep.Slices
import Derived.Tactics
import Derived.Test.YthkbaolpiigioaaCIsTrade0
import Derived.Test.YthkbaolpiigioaaCIsTrade1
import Derived.Test.YthkbaolpiigioaaCIsTrade2
import Derived.Test.YthkbaolpiigioaaCIsTrade3
import Derived.Test.YthkbaolpiigioaaCIsTrade4
set_option linter.unusedVariables false
set_option linter.unusedSimpArgs false
/- From a datum's reading to a value that the printed contracts speak of: kind by kind. No program in sight. -/
namespace Go.Proofs.Ythkbaolpiigioaa.P
open Go.RowKit Go.ChangeShapes Go.WideShapes Go.Proofs.YthkbaolpiigioaaW.PrintWords Go.Proofs.YthkbaolpiigioaaW.PrintLast Go.Proofs.YthkbaolpiigioaaW.PrintMore
def okI (x : Int) : Prop := -9223372036854775808 ≤ x ∧ x ≤ 9223372036854775807
def okL {α : Type} (Ok : α → Prop) (l : List α) : Prop := l.length ≤ 9223372036854775807 ∧ ∀ x ∈ l, Ok x
structure Opens {α : Type} (P : Program) (T : TypeId) (d : Kd α) (Ok : α → Prop) : Prop where
  go : ∀ {H : Type} (enc : TypeId × Value → H) (w : World) (fuel : Nat) (cs : List Value) (x : DataW H × List MemPlace),
    DataW.trod enc P w 0 (fun _ => true) true fuel T cs = some x → ∃ a, d.K w a cs ∧ Ok a
theorem Opens.int {P : Program} {T : TypeId} (h : P.underlying T = some (.int .i64)) : Opens P T (Kd.int .i64) okI := by
  refine ⟨fun enc w fuel cs x hx => ?_⟩
  obtain ⟨n, rfl, _, hw⟩ := DataW.trod_int h hx
  refine ⟨n, rfl, ?_⟩
  have hmin : IntKind.i64.min = -9223372036854775808 := rfl
  have hmax : IntKind.i64.max = 9223372036854775807 := rfl
  simp only [Lit.wf, Bool.and_eq_true, decide_eq_true_eq] at hw
  unfold okI
  omega
theorem cells_get {w : World} {a : Addr} {n : Nat} {cs : List Value} (h : w.cells? 0 a n = some cs) : cs.length = n ∧ ∀ j u, cs[j]? = some u → w.cell? (a.add j) = some u := by
  unfold World.cells? at h
  rw [if_pos (Nat.zero_le _)] at h
  have key : ∀ (l : List Nat) (r : List Value), l.mapM (fun i => w.cell? (a.add i)) = some r → r.length = l.length ∧ ∀ (j : Nat) (u : Value) (i : Nat), r[j]? = some u → l[j]? = some i → w.cell? (a.add i) = some u := by
    intro l
    induction l with
    | nil => intro r hr; simp at hr; subst hr; simp
    | cons i l ih =>
      intro r hr
      simp only [List.mapM_cons, Option.bind_eq_bind, Option.bind_eq_some_iff] at hr
      obtain ⟨v, hv, r', hr', he⟩ := hr
      have he' : v :: r' = r := by simpa using he
      subst he'
      obtain ⟨h1, h2⟩ := ih r' hr'
      refine ⟨by simp [h1], fun j u k hj hk => ?_⟩
      cases j with
      | zero => simp at hj hk; subst hj; subst hk; exact hv
      | succ j => simp at hj hk; exact h2 j u k hj hk
  obtain ⟨h1, h2⟩ := key _ _ h
  refine ⟨by simpa using h1, fun j u hj => ?_⟩
  have hlt : j < cs.length := (List.getElem?_eq_some_iff.1 hj).1
  exact h2 j u j hj (by rw [List.getElem?_range (by simpa [h1] using hlt)])
theorem add_add_ (a : Addr) (i j : Nat) : (a.add i).add j = a.add (i + j) := Go.Deep.add_add a i j
theorem Opens.slice {α : Type} {P : Program} {T e : TypeId} {d : Kd α} {Ok : α → Prop} (h : P.underlying T = some (.slice e)) (hc : P.cellsOf e = d.sz) (hd : Opens P e d Ok) : Opens P T (Kd.slice e d) (okL Ok) := by
  refine ⟨fun enc w fuel cs x hx => ?_⟩
  rcases Go.Deep.open_slice h hx with ⟨rfl, _⟩ | ⟨a, len, cap, m, n, D, Pl, rfl, _, hl, hm, hmm, _, hel⟩
  · exact ⟨[], ⟨none, 0, rfl, Nat.le_refl _, Kd.C_nil _ _⟩, by simp, by simp⟩
  · have hm' : m = cap := by simpa using hmm
    subst hm'
    have hex : ∀ i, i < len → ∃ y : α × List Value, y.2.length = d.sz ∧ d.K w y.1 y.2 ∧ Ok y.1 ∧ ∀ j u, y.2[j]? = some u → w.cell? (a.add (i * d.sz + j)) = some u := by
      intro i hi
      obtain ⟨cs', h1, h2⟩ := hel i (by omega)
      rw [hc] at h1
      obtain ⟨hlen, hcell⟩ := cells_get h1
      obtain ⟨y, hy, ho⟩ := hd.go enc w n cs' _ h2
      exact ⟨(y, cs'), hlen, hy, ho, fun j u hj => by rw [← add_add_]; exact hcell j u hj⟩
    by_cases h0 : len = 0
    · subst h0
      exact ⟨[], ⟨some a, _, rfl, Nat.zero_le _, rfl, by simp, fun h => absurd h (Nat.lt_irrefl 0)⟩, by simp, by simp⟩
    · obtain ⟨y0, _⟩ := hex 0 (by omega)
      have : Inhabited (α × List Value) := ⟨y0⟩
      obtain ⟨f, hf⟩ := Go.Deep.choose_lt (α := α × List Value) hex
      have hlen : ((List.range len).map fun i => (f i).1).length = len := by simp
      have hget : ∀ j p, ((List.range len).map fun i => (f i).1)[j]? = some p → j < len ∧ p = (f j).1 := by
        intro j p hj
        obtain ⟨hlt, he⟩ := List.getElem?_eq_some_iff.1 hj
        simp at hlt he
        exact ⟨hlt, he.symm⟩
      refine ⟨(List.range len).map fun i => (f i).1, ⟨some a, m, by rw [hlen], by rw [hlen]; exact hl, by rw [hlen], by rw [hlen]; unfold maxLen at hm; omega, fun _ => ⟨a, rfl, fun j p hj => ?_⟩⟩, ?_, ?_⟩
      · obtain ⟨hlt, rfl⟩ := hget j p hj
        obtain ⟨h1, h2, _, h3⟩ := hf j hlt
        exact ⟨(f j).2, h1, h2, h3⟩
      · rw [hlen]; unfold maxLen at hm; omega
      · intro p hp
        obtain ⟨j, hj⟩ := List.mem_iff_getElem?.1 hp
        obtain ⟨hlt, rfl⟩ := hget j p hj
        exact (hf j hlt).2.2.1
theorem Opens.struct2 {α β γ : Type} {P : Program} {T : TypeId} {f0 f1 : Field} {d0 : Kd α} {d1 : Kd β} {Ok0 : α → Prop} {Ok1 : β → Prop} {F : γ → α × β} (h : P.underlying T = some (.struct #[f0, f1]))
    (o0 : f0.offset = 0) (s0 : P.cellsOf f0.type = d0.sz) (o1 : f1.offset = d0.sz) (s1 : P.cellsOf f1.type = d1.sz) (sT : P.cellsOf T = d0.sz + d1.sz)
    (h0 : Opens P f0.type d0 Ok0) (h1 : Opens P f1.type d1 Ok1) (sur : ∀ p, ∃ x, F x = p) : Opens P T (Kd.iso (Kd.pair d0 d1) F) (fun x => Ok0 (F x).1 ∧ Ok1 (F x).2) := by
  refine ⟨fun enc w fuel cs x hx => ?_⟩
  obtain ⟨y0, y1, n, _, hlen, r0, r1⟩ := trod_struct2 h hx
  rw [o0, s0, List.drop_zero] at r0
  rw [o1, s1] at r1
  obtain ⟨a0, k0, p0⟩ := h0.go enc w n _ _ r0
  obtain ⟨a1, k1, p1⟩ := h1.go enc w n _ _ r1
  obtain ⟨z, hz⟩ := sur (a0, a1)
  refine ⟨z, ?_, by rw [hz]; exact ⟨p0, p1⟩⟩
  show (Kd.pair d0 d1).K w (F z) cs
  rw [hz]
  refine ⟨_, _, ?_, k0, k1⟩
  rw [List.take_of_length_le (l := cs.drop d0.sz) (by rw [List.length_drop]; omega), List.take_append_drop]
theorem open_agg_ {α : Type} {H : Type} {enc : TypeId × Value → H} {P : Program} {w : World} {r : Reach} {b0 : Nat} {T : TypeId} {fs : Array Field} {d : Kd α} {Ok : α → Prop} {v : Value} {y : DataW H} {p : List MemPlace}
    (h : P.underlying T = some (.struct fs)) (ho : Opens P T d Ok) (hv : Value.okWide P w r b0 T v) (hd : DataW.Trod enc P w 0 (fun _ => true) true T v y p) : ∃ cs x, v = .agg cs ∧ d.K w x cs.toList ∧ Ok x := by
  obtain ⟨cs, rfl, _⟩ := okWide_struct h hv
  obtain ⟨fuel, hf⟩ := hd
  obtain ⟨x, hx, hok⟩ := ho.go enc w fuel _ _ hf
  exact ⟨cs, x, rfl, by simpa [Value.cells] using hx, hok⟩
end Go.Proofs.Ythkbaolpiigioaa.P

namespace Go.Proofs.Ythkbaolpiigioaa.P
open Go.RowKit Go.Proofs.YthkbaolpiigioaaW.PrintWords Go.Proofs.YthkbaolpiigioaaW.PrintLast Go.Proofs.YthkbaolpiigioaaW.PrintMore
def ok_laws_Game (x : S_laws_Game) : Prop := okI x.f0 ∧ (okL (okL okI)) x.f1
theorem op_laws_Game : Opens Try.prog 53 k_laws_Game ok_laws_Game :=
  Opens.struct2 (F := fun x : S_laws_Game => (x.f0, x.f1)) Try.underlying53 rfl (by kernel_rfl) rfl (by kernel_rfl) (by kernel_rfl) (Opens.int Try.underlying3) (Opens.slice Try.underlying51 (by kernel_rfl) (Opens.slice Try.underlying22 (by kernel_rfl) (Opens.int Try.underlying3))) (fun p => ⟨⟨p.1, p.2⟩, rfl⟩)
def ok_laws_Trade (x : S_laws_Trade) : Prop := (okL (okL okI)) x.f0 ∧ (okL (okL okI)) x.f1
theorem op_laws_Trade : Opens Try.prog 67 k_laws_Trade ok_laws_Trade :=
  Opens.struct2 (F := fun x : S_laws_Trade => (x.f0, x.f1)) Try.underlying67 rfl (by kernel_rfl) rfl (by kernel_rfl) (by kernel_rfl) (Opens.slice Try.underlying51 (by kernel_rfl) (Opens.slice Try.underlying22 (by kernel_rfl) (Opens.int Try.underlying3))) (Opens.slice Try.underlying51 (by kernel_rfl) (Opens.slice Try.underlying22 (by kernel_rfl) (Opens.int Try.underlying3))) (fun p => ⟨⟨p.1, p.2⟩, rfl⟩)
end Go.Proofs.Ythkbaolpiigioaa.P

/- Plain laws: loops told by rounds, lists, numbers. No program in sight. -/
namespace Go.Proofs.Ythkbaolpiigioaa.P
open Go.RowKit Go.Proofs.YthkbaolpiigioaaW.PrintWords Go.Proofs.YthkbaolpiigioaaW.PrintLast Go.Proofs.YthkbaolpiigioaaW.PrintMore
theorem Ev.down {ρ : Type} {G : Nat → Nat → Option ρ} {R : Nat → ρ} (n : Nat) (hend : Ev (G n) (R n)) (hstep : ∀ i, i < n → Ev (G (i + 1)) (R (i + 1)) → Ev (G i) (R i)) : ∀ i, i ≤ n → Ev (G i) (R i) := by
  have key : ∀ d i, i + d = n → Ev (G i) (R i) := by
    intro d
    induction d with
    | zero => intro i hi; obtain rfl : i = n := by omega
              exact hend
    | succ d ih => intro i hi; exact hstep i (by omega) (ih (i + 1) (by omega))
  intro i hi
  exact key (n - i) i (by omega)
theorem back {P : Nat → Prop} (n : Nat) (hend : P n) (hstep : ∀ i, i < n → P (i + 1) → P i) : ∀ i, i ≤ n → P i := by
  have key : ∀ d i, i + d = n → P i := by
    intro d
    induction d with
    | zero => intro i hi; obtain rfl : i = n := by omega
              exact hend
    | succ d ih => intro i hi; exact hstep i (by omega) (ih (i + 1) (by omega))
  intro i hi
  exact key (n - i) i (by omega)
theorem Ev.some {α : Type} {r : α} : Ev (fun _ => Option.some r) r := Ev.now r
theorem Ev.one {α : Type} {g : Option α} {r : α} (h : g = Option.some r) : Ev (fun _ => g) r := ⟨0, fun _ _ => h⟩
theorem Ev.ite_pos {α : Type} {c : Prop} [Decidable c] {g f : Nat → Option α} {r : α} (hc : c) (h : Ev g r) : Ev (fun k => if c then g k else f k) r := by
  obtain ⟨K, h⟩ := h; exact ⟨K, fun k hk => (if_pos hc).trans (h k hk)⟩
theorem Ev.ite_neg {α : Type} {c : Prop} [Decidable c] {g f : Nat → Option α} {r : α} (hc : ¬ c) (h : Ev f r) : Ev (fun k => if c then g k else f k) r := by
  obtain ⟨K, h⟩ := h; exact ⟨K, fun k hk => (if_neg hc).trans (h k hk)⟩
theorem Ev.eq {α : Type} {g : Nat → Option α} {r r' : α} (h : Ev g r) (e : r = r') : Ev g r' := e ▸ h
theorem Ev.shift {α : Type} {g : Nat → Option α} {r : α} (h : Ev (fun k => g (k + 1)) r) : Ev g r := Ev.step (fun _ => rfl) h
theorem w64 {x : Int} (h0 : -9223372036854775808 ≤ x) (h1 : x ≤ 9223372036854775807) : wrap64 x = x := by unfold wrap64; omega
theorem w1 {i n : Nat} (h : i < n) (hn : n ≤ 9223372036854775807) : wrap64 ((i : Int) + 1) = ((i + 1 : Nat) : Int) := by unfold wrap64; omega
theorem rd_nat (l : List Int) (i : Nat) : rd l (i : Int) = l.getD i 0 := by simp [rd]
theorem rdB_nat (l : List Bool) (i : Nat) : rdOf false l (i : Int) = l.getD i false := by simp [rdOf]
/-! ### lists -/
theorem drop_getD {α : Type} (l : List α) (d : α) (i : Nat) (h : i < l.length) : l.drop i = l.getD i d :: l.drop (i + 1) := drop_cons l d i h
theorem take_getD {α : Type} (l : List α) (d : α) (i : Nat) (h : i < l.length) : l.take (i + 1) = l.take i ++ [l.getD i d] := by
  rw [List.take_succ_eq_append_getElem h, List.getD_eq_getElem?_getD, List.getElem?_eq_getElem h]; rfl
theorem getD_mem {α : Type} (l : List α) (d : α) (i : Nat) (h : i < l.length) : l.getD i d ∈ l := by
  rw [List.getD_eq_getElem?_getD, List.getElem?_eq_getElem h]; exact List.getElem_mem h
theorem foldl_take {α β : Type} (f : β → α → β) (b : β) (l : List α) (d : α) (i : Nat) (h : i < l.length) : (l.take (i + 1)).foldl f b = f ((l.take i).foldl f b) (l.getD i d) := by
  rw [take_getD l d i h, List.foldl_append]; rfl
def filled {α : Type} (l : List α) (z : α) (i : Nat) : List α := l.take i ++ List.replicate (l.length - i) z
theorem filled_len {α : Type} (l : List α) (z : α) (i : Nat) (h : i ≤ l.length) : (filled l z i).length = l.length := by unfold filled; simp; omega
theorem filled_zero {α : Type} (l : List α) (z : α) : filled l z 0 = List.replicate l.length z := by simp [filled]
theorem filled_all {α : Type} (l : List α) (z : α) : filled l z l.length = l := by simp [filled]
theorem filled_set {α : Type} (l : List α) (z d : α) (i : Nat) (h : i < l.length) : (filled l z i).set i (l.getD i d) = filled l z (i + 1) := by
  unfold filled
  have e : (l.take i).length = i := by simp; omega
  rw [take_getD l d i h, List.set_append_right i (l.getD i d) (by omega), e, Nat.sub_self, show l.length - i = (l.length - (i + 1)) + 1 by omega, List.replicate_succ]
  simp
/-! ### marks -/
def marks (a : Int) (n : Nat) : List Int := (List.range n).map fun i : Nat => a + (i : Int)
/-! ### committees -/
def inI (a b x : Int) : Bool := decide (a ≤ x) && decide (x ≤ b)
def isComm (q : Int) (l : List Int) : Bool := decide (1 ≤ l.length) && decide (l.length ≤ 9) && l.all (inI 0 1000) && inI 1 l.sum q
def wsum (l : List Int) : Int := l.foldl (fun s x => wrap64 (s + x)) 0
theorem wsum_from (l : List Int) (s : Int) (hs : 0 ≤ s) (h : ∀ x ∈ l, 0 ≤ x ∧ x ≤ 1000) (hb : s + 1000 * l.length ≤ 9223372036854775807) : l.foldl (fun s x => wrap64 (s + x)) s = s + l.sum := by
  induction l generalizing s with
  | nil => simp
  | cons x l ih =>
    have h1 := h x (by simp)
    simp only [List.length_cons] at hb
    rw [List.foldl_cons, w64 (by omega) (by omega), ih (s + x) (by omega) (fun y hy => h y (by simp [hy])) (by omega), List.sum_cons]
    omega
theorem wsum_eq (l : List Int) (h : ∀ x ∈ l, 0 ≤ x ∧ x ≤ 1000) (hb : l.length ≤ 9000000) : wsum l = l.sum := by
  unfold wsum; rw [wsum_from l 0 (by omega) h (by omega)]; omega
/-! ### numbers as bits -/
theorem shr_nat (x i : Nat) (h : i ≤ 64) : shr .i64 (x : Int) (i : Int) = ((x / 2 ^ i : Nat) : Int) := by
  unfold shr
  have e : min ((i : Int).toNat) IntKind.i64.bits = i := by
    have : IntKind.i64.bits = 64 := rfl
    omega
  rw [e]; simp
theorem pow63 {i : Nat} (h : i < 63) : 2 ^ i < 9223372036854775808 := Nat.lt_of_lt_of_le (Nat.pow_lt_pow_right (by omega) h) (by decide)
theorem shl_one (i : Nat) (h : i < 63) : shl .i64 1 (i : Int) = ((2 ^ i : Nat) : Int) := by
  unfold shl
  have e : min ((i : Int).toNat) IntKind.i64.bits = i := by
    have : IntKind.i64.bits = 64 := rfl
    omega
  have h1 := pow63 h
  have c : ((2 ^ i : Nat) : Int) = 2 ^ i := by simp
  rw [e, Int.one_mul, IntKind.wrap_i64, ← c]
  generalize 2 ^ i = z at h1
  omega
theorem i64_of (n : Int) (h0 : 0 ≤ n) (h1 : n < 2 ^ 63) : IntKind.i64.wrap n = n := by rw [IntKind.wrap_i64]; omega
theorem and_nat (a b : Nat) (ha : a < 2 ^ 63) (hb : b < 2 ^ 63) : Go.bits .and .i64 (a : Int) (b : Int) = ((a &&& b : Nat) : Int) := (bits_nat .i64 63 (by decide) i64_of a b ha hb).1
theorem or_nat (a b : Nat) (ha : a < 2 ^ 63) (hb : b < 2 ^ 63) : Go.bits .or .i64 (a : Int) (b : Int) = ((a ||| b : Nat) : Int) := (bits_nat .i64 63 (by decide) i64_of a b ha hb).2
theorem and_one (a : Nat) (ha : a < 2 ^ 63) : Go.bits .and .i64 (a : Int) 1 = ((a % 2 : Nat) : Int) := by
  have := and_nat a 1 ha (by decide)
  rw [Nat.and_one_is_mod] at this
  exact this
theorem tmod_two (a : Nat) : Int.tmod (a : Int) 2 = ((a % 2 : Nat) : Int) := by rw [Int.tmod_eq_emod_of_nonneg (by omega)]; omega
theorem bit_nat (b i : Nat) : b.testBit i = decide (b / 2 ^ i % 2 = 1) := by rw [Nat.testBit_eq_decide_div_mod_eq]
theorem or_pow {b i : Nat} (h : b.testBit i = false) : b ||| 2 ^ i = b + 2 ^ i := by
  apply Nat.eq_of_testBit_eq
  intro j
  rw [Nat.testBit_or, Nat.testBit_two_pow, Nat.add_comm]
  rcases Nat.lt_trichotomy j i with hj | hj | hj
  · rw [Nat.testBit_two_pow_add_gt hj]
    have : ¬ i = j := by omega
    simp [this]
  · subst hj
    rw [Nat.testBit_two_pow_add_eq, h]
    simp
  · have hd : (2 ^ i + b) / 2 ^ (i + 1) = b / 2 ^ (i + 1) := by
      have h0 : b / 2 ^ i % 2 = 0 := by
        rw [bit_nat] at h
        have h1 := Nat.mod_two_eq_zero_or_one (b / 2 ^ i)
        rcases h1 with h1 | h1
        · exact h1
        · simp [h1] at h
      rw [Nat.pow_succ, ← Nat.div_div_eq_div_mul, ← Nat.div_div_eq_div_mul, Nat.add_div_left _ (Nat.two_pow_pos i)]
      omega
    obtain ⟨d, rfl⟩ : ∃ d, j = i + 1 + d := ⟨j - (i + 1), by omega⟩
    have e : ∀ x : Nat, x.testBit (i + 1 + d) = (x / 2 ^ (i + 1)).testBit d := fun x => by
      rw [Nat.testBit_div_two_pow, Nat.add_comm d]
    rw [e, e, hd]
    have : ¬ i = i + 1 + d := by omega
    simp [this]
/-! ### weights of sets told by bits -/
def tab (n : Nat) (P : Nat → Bool) : List Bool := (List.range (2 ^ n)).map P
theorem tab_len (n : Nat) (P : Nat → Bool) : (tab n P).length = 2 ^ n := by simp [tab]
theorem tab_get (n : Nat) (P : Nat → Bool) (b : Nat) (h : b < 2 ^ n) : (tab n P).getD b false = P b := by simp [tab, List.getD_eq_getElem?_getD, List.getElem?_range h]
theorem pow_small {n m : Nat} (h : n ≤ m) : 2 ^ n ≤ 2 ^ m := Nat.pow_le_pow_right (by omega) h
def sel (n : Nat) (P : Nat → Bool) : List Int := ((List.range n).filter P).map fun i : Nat => (i : Int)
theorem sel_succ (n : Nat) (P : Nat → Bool) : sel (n + 1) P = sel n P ++ (if P n = true then [(n : Int)] else []) := by
  unfold sel
  rw [List.range_succ, List.filter_append, List.map_append]
  congr 1
  cases h : P n <;> simp [h]
theorem sel_len (n : Nat) (P : Nat → Bool) : (sel n P).length ≤ n := by
  have := List.length_filter_le P (List.range n)
  simp [sel] at *; omega
theorem Ev.all {α β : Type} {p : Nat → α → Option β} {P : α → β} (l : List α) (h : ∀ x ∈ l, Ev (fun k => p k x) (P x)) : ∃ K, ∀ k, K ≤ k → ∀ x ∈ l, p k x = Option.some (P x) := by
  induction l with
  | nil => exact ⟨0, fun _ _ _ h => by simp at h⟩
  | cons x l ih =>
    obtain ⟨K, hK⟩ := ih (fun y hy => h y (by simp [hy]))
    obtain ⟨K', hK'⟩ := h x (by simp)
    refine ⟨K + K', fun k hk y hy => ?_⟩
    rcases List.mem_cons.1 hy with rfl | hy
    · exact hK' k (by omega)
    · exact hK k (by omega) y hy
theorem Ev.ask {α β γ : Type} {p : Nat → α → Option β} {P : α → β} (l : List α) (h : ∀ x ∈ l, Ev (fun k => p k x) (P x)) {F : Nat → (α → Option β) → Option γ} {r : γ} (hF : ∃ K, ∀ k, K ≤ k → ∀ q : α → Option β, (∀ x ∈ l, q x = Option.some (P x)) → F k q = Option.some r) : Ev (fun k => F k (p k)) r := by
  obtain ⟨K, hK⟩ := Ev.all l h
  obtain ⟨K', hK'⟩ := hF
  exact ⟨K + K', fun k hk => hK' k (by omega) _ (hK k (by omega))⟩
theorem downq {ρ : Type} {G : Nat → Nat → Option ρ} {R : Nat → ρ} (n : Nat) (hend : ∀ k, G n (k + 1) = Option.some (R n)) (hstep : ∀ i, i < n → ∀ k, G (i + 1) k = Option.some (R (i + 1)) → G i (k + 1) = Option.some (R i)) : ∀ i, i ≤ n → ∀ k, n - i < k → G i k = Option.some (R i) := by
  have key : ∀ d i, i + d = n → ∀ k, d < k → G i k = Option.some (R i) := by
    intro d
    induction d with
    | zero => intro i hi k hk
              obtain rfl : i = n := by omega
              obtain ⟨k, rfl⟩ : ∃ j, k = j + 1 := ⟨k - 1, by omega⟩
              exact hend k
    | succ d ih => intro i hi k hk
                   obtain ⟨k, rfl⟩ : ∃ j, k = j + 1 := ⟨k - 1, by omega⟩
                   exact hstep i (by omega) k (ih (i + 1) (by omega) k (by omega))
  intro i hi k hk
  exact key (n - i) i (by omega) k (by omega)
def idxFrom {α : Type} (P : α → Bool) : Nat → List α → Int
  | _, [] => -1
  | i, x :: l => if P x = true then (i : Int) else idxFrom P (i + 1) l
theorem idxFrom_nn {α : Type} (P : α → Bool) (l : List α) (i : Nat) : decide (idxFrom P i l ≥ 0) = l.any P := by
  induction l generalizing i with
  | nil => rfl
  | cons x l ih =>
    unfold idxFrom
    rw [List.any_cons]
    cases h : P x with
    | true => simp only [↓reduceIte, Bool.true_or, decide_eq_true_eq]; omega
    | false => simp only [Bool.false_eq_true, ↓reduceIte, Bool.false_or]; exact ih (i + 1)
def over {α : Type} (t l : List α) (i : Nat) : List α := t.take i ++ l.drop i
theorem one_lt (n : Nat) : ((1 : Int) + (n : Int) < 0) = False := by simp; omega
theorem one_lt2 (n m : Nat) : ((1 : Int) + (n : Int) + (m : Int) < 0) = False := by simp; omega
def allF (P : Nat → Bool) (n i : Nat) : Bool := (List.range' i (n - i)).all P
theorem allF_end (P : Nat → Bool) (n : Nat) : allF P n n = true := by simp [allF]
theorem allF_step (P : Nat → Bool) (n i : Nat) (h : i < n) : allF P n i = (P i && allF P n (i + 1)) := by
  unfold allF
  obtain ⟨d, rfl⟩ : ∃ d, n = i + d + 1 := ⟨n - i - 1, by omega⟩
  rw [show i + d + 1 - i = d + 1 by omega, show i + d + 1 - (i + 1) = d by omega, List.range'_succ, List.all_cons]
theorem allF_iff (P : Nat → Bool) (n : Nat) : allF P n 0 = true ↔ ∀ j, j < n → P j = true := by
  simp only [allF, List.all_eq_true, List.mem_range'_1, Nat.sub_zero, Nat.zero_add, Nat.zero_le, true_and]
def bitsOf (l : List Int) : Nat := l.foldl (fun m x => m ||| 2 ^ x.toNat) 0
theorem bitsOf_lt (l : List Int) (n : Nat) (h : ∀ x ∈ l, 0 ≤ x ∧ x < n) (m : Nat) (hm : m < 2 ^ n) : l.foldl (fun m x => m ||| 2 ^ x.toNat) m < 2 ^ n := by
  induction l generalizing m with
  | nil => exact hm
  | cons x l ih =>
    have h1 := h x (by simp)
    rw [List.foldl_cons]
    exact ih (fun y hy => h y (by simp [hy])) _ (Nat.or_lt_two_pow hm (Nat.pow_lt_pow_right (by omega) (by omega)))
theorem with_lt {n m i : Nat} (hm : m < 2 ^ n) (hi : i < n) (h : m.testBit i = false) : m + 2 ^ i < 2 ^ n := by
  rw [← or_pow h]; exact Nat.or_lt_two_pow hm (Nat.pow_lt_pow_right (by omega) hi)
def incr (l : List Int) (i : Nat) : Bool := i == 0 || decide (l.getD (i - 1) 0 < l.getD i 0)
def isSetN (l : List Int) (n : Int) : Bool := l.all (inI 0 (n - 1)) && allF (incr l) l.length 0
theorem isSetN_mem {l : List Int} {n : Int} (h : isSetN l n = true) : ∀ x ∈ l, 0 ≤ x ∧ x < n := by
  intro x hx
  simp only [isSetN, Bool.and_eq_true, List.all_eq_true, inI, decide_eq_true_eq] at h
  have := h.1 x hx
  omega
theorem allF_and (P Q : Nat → Bool) (n i : Nat) : allF (fun j => P j && Q j) n i = (allF P n i && allF Q n i) := by
  unfold allF
  induction (List.range' i (n - i)) with
  | nil => rfl
  | cons x l ih => simp only [List.all_cons, ih]; cases P x <;> cases Q x <;> simp
theorem allF_drop {α : Type} (P : α → Bool) (l : List α) (d : α) (i : Nat) (h : i ≤ l.length) : allF (fun j => P (l.getD j d)) l.length i = (l.drop i).all P := by
  refine back (P := fun i => allF (fun j => P (l.getD j d)) l.length i = (l.drop i).all P) l.length ?_ ?_ i h
  · rw [allF_end]; simp
  · intro i hi ih
    rw [allF_step _ _ _ hi, ih, drop_getD l d i hi, List.all_cons]
end Go.Proofs.Ythkbaolpiigioaa.P

namespace Go.Proofs.Ythkbaolpiigioaa.P
def laws_FnExactIsTrade.Pure : Prop := ∀ (a0_0 : Int) (l0_1 : List (List Int)) (l1_0 : List (List Int)) (l1_1 : List (List Int)), okI a0_0 → (okL (okL okI)) l0_1 → (okL (okL okI)) l1_0 → (okL (okL okI)) l1_1 → ∃ k, laws_FnExactIsTrade.f k a0_0 l0_1 l1_0 l1_1 = some true
end Go.Proofs.Ythkbaolpiigioaa.P

/- Plain laws of the printed functions on committees: what each answers. -/
namespace Go.Proofs.Ythkbaolpiigioaa.P
open Go.RowKit Go.Proofs.YthkbaolpiigioaaW.PrintWords Go.Proofs.YthkbaolpiigioaaW.PrintLast Go.Proofs.YthkbaolpiigioaaW.PrintMore
theorem impl_within.eq (a b c : Int) : impl_within.f a b c = some (inI b c a) := by
  unfold impl_within.f inI
  by_cases h : a ≥ b
  · have h' : b ≤ a := h
    simp [h']
  · have h' : ¬ b ≤ a := h
    simp [h']
theorem spec_l1In.eq (a b c : Int) : spec_l1In.f a b c = some (inI b c a) := by
  unfold spec_l1In.f inI
  by_cases h : a ≥ b
  · have h' : b ≤ a := h
    simp [h']
  · have h' : ¬ b ≤ a := h
    simp [h']
theorem impl_sumOf.ev (l : List Int) (hm : l.length ≤ 9223372036854775807) : Ev (fun k => impl_sumOf.f k l) (wsum l) := by
  have key := Ev.down (G := fun i k => impl_sumOf.l0 k ((l.take i).foldl (fun s x => wrap64 (s + x)) 0) l (l.length : Int) (i : Int)) (R := fun _ => wsum l) l.length
    (by refine Ev.shift ?_
        simp only [impl_sumOf.l0, Int.lt_irrefl, ↓reduceIte, List.take_length]
        exact Ev.some)
    (fun i hi ih => by
        refine Ev.shift ?_
        have c1 : (i : Int) < (l.length : Int) := by omega
        have c0 : (0 : Int) ≤ (i : Int) := by omega
        simp only [impl_sumOf.l0, c1, c0, ↓reduceIte, w1 hi hm, rd_nat]
        rw [foldl_take _ _ l 0 i hi] at ih
        exact ih)
  exact key 0 (Nat.zero_le _)
theorem spec_voSum.ev (l : List Int) (hm : l.length ≤ 9223372036854775807) : Ev (fun k => spec_voSum.f k l) (wsum l) := by
  have key := Ev.down (G := fun i k => spec_voSum.l0 k ((l.take i).foldl (fun s x => wrap64 (s + x)) 0) l (l.length : Int) (i : Int)) (R := fun _ => wsum l) l.length
    (by refine Ev.shift ?_
        simp only [spec_voSum.l0, Int.lt_irrefl, ↓reduceIte, List.take_length]
        exact Ev.some)
    (fun i hi ih => by
        refine Ev.shift ?_
        have c1 : (i : Int) < (l.length : Int) := by omega
        have c0 : (0 : Int) ≤ (i : Int) := by omega
        simp only [spec_voSum.l0, c1, c0, ↓reduceIte, w1 hi hm, rd_nat]
        rw [foldl_take _ _ l 0 i hi] at ih
        exact ih)
  exact key 0 (Nat.zero_le _)
theorem isComm_eq (q : Int) (l : List Int) : isComm q l = if (1 ≤ l.length ∧ l.length ≤ 9) ∧ l.all (inI 0 1000) = true then inI 1 (wsum l) q else false := by
  unfold isComm
  by_cases h : (1 ≤ l.length ∧ l.length ≤ 9) ∧ l.all (inI 0 1000) = true
  · have hm : ∀ x ∈ l, 0 ≤ x ∧ x ≤ 1000 := by
      have := h.2
      simp [inI] at this
      exact this
    rw [if_pos h, wsum_eq l hm (by omega)]
    simp only [h.1.1, h.1.2, h.2, decide_true, Bool.true_and]
  · rw [if_neg h]
    by_cases h1 : 1 ≤ l.length
    · by_cases h2 : l.length ≤ 9
      · have h3 : l.all (inI 0 1000) = false := by
          cases h4 : l.all (inI 0 1000) with
          | true => exact absurd ⟨⟨h1, h2⟩, h4⟩ h
          | false => rfl
        simp only [h3, Bool.and_false, Bool.false_and]
      · simp only [h2, decide_false, Bool.and_false, Bool.false_and]
    · simp only [h1, decide_false, Bool.false_and]
theorem slices_IndexFunc_int_int.ev (l : List Int) (hm : l.length ≤ 9223372036854775807) (p : Nat → Int → Option Bool) (P : Int → Bool) (h : ∀ x ∈ l, Ev (fun k => p k x) (P x)) : Ev (fun k => slices_IndexFunc_int_int.f k l (p k)) (idxFrom P 0 l) := by
  refine Ev.ask (F := fun k q => slices_IndexFunc_int_int.f k l q) l h ⟨l.length + 1, fun k hk q hq => ?_⟩
  unfold slices_IndexFunc_int_int.f
  have := downq (G := fun i k => slices_IndexFunc_int_int.l0 k l q (l.length : Int) (i : Int)) (R := fun i => idxFrom P i (l.drop i)) l.length
    (by intro k; simp only [slices_IndexFunc_int_int.l0, Int.lt_irrefl, ↓reduceIte, List.drop_length, idxFrom])
    (fun i hi k ih => by
      have c1 : (i : Int) < (l.length : Int) := by omega
      have c0 : (0 : Int) ≤ (i : Int) := by omega
      simp only [slices_IndexFunc_int_int.l0, c1, c0, ↓reduceIte, w1 hi hm, rd_nat, hq _ (getD_mem l 0 i hi), Option.bind_some]
      rw [drop_getD l 0 i hi, idxFrom, ih]
      split <;> rfl) 0 (Nat.zero_le _) k (by omega)
  rwa [List.drop_zero] at this
theorem slices_ContainsFunc_int_int.ev (l : List Int) (hm : l.length ≤ 9223372036854775807) (p : Nat → Int → Option Bool) (P : Int → Bool) (h : ∀ x ∈ l, Ev (fun k => p k x) (P x)) : Ev (fun k => slices_ContainsFunc_int_int.f k l (p k)) (l.any P) := by
  unfold slices_ContainsFunc_int_int.f
  refine Ev.bind (slices_IndexFunc_int_int.ev l hm p P h) ?_
  rw [idxFrom_nn]
  exact Ev.some
theorem impl_areIn.ev (l : List Int) (a b : Int) (hm : l.length ≤ 9223372036854775807) : Ev (fun k => impl_areIn.f k l a b) (l.all (inI a b)) := by
  unfold impl_areIn.f
  refine Ev.bind (slices_ContainsFunc_int_int.ev l hm (fun _ x => impl_areIn_1.f x a b) (fun x => !inI a b x) (fun x _ => ?_)) ?_
  · simp only [impl_areIn_1.f, impl_within.eq, Option.bind_some]; exact Ev.some
  · rw [all_any]; exact Ev.some
theorem impl_IsCommittee.ev (q : Int) (l : List Int) (hm : l.length ≤ 9223372036854775807) : Ev (fun k => impl_IsCommittee.f k q l) (isComm q l) := by
  rw [isComm_eq]
  unfold impl_IsCommittee.f
  by_cases h1 : 1 ≤ l.length
  · have c1 : (l.length : Int) ≥ 1 := by omega
    by_cases h2 : l.length ≤ 9
    · have c2 : (l.length : Int) ≤ 9 := by omega
      simp only [c1, c2, h1, h2, ↓reduceIte, and_self, true_and]
      refine Ev.bind (impl_areIn.ev l 0 1000 hm) ?_
      by_cases h3 : l.all (inI 0 1000) = true
      · simp only [h3, ↓reduceIte]
        refine Ev.bind (impl_sumOf.ev l hm) ?_
        simp only [impl_within.eq, Option.bind_some]
        exact Ev.some
      · simp only [h3]
        exact Ev.some
    · have c2 : ¬ (l.length : Int) ≤ 9 := by omega
      simp only [c1, c2, h2, ↓reduceIte, and_false, false_and]
      exact Ev.some
  · have c1 : ¬ (l.length : Int) ≥ 1 := by omega
    simp only [c1, h1, ↓reduceIte, false_and]
    exact Ev.some
theorem spec_l1All.ev (l : List Int) (a b : Int) (hm : l.length ≤ 9223372036854775807) : Ev (fun k => spec_l1All.f k l a b) (l.all (inI a b)) := by
  have key := Ev.down (G := fun i k => spec_l1All.l0 k a b l (l.length : Int) (i : Int)) (R := fun i => (l.drop i).all (inI a b)) l.length
    (by refine Ev.shift ?_
        simp only [spec_l1All.l0, Int.lt_irrefl, ↓reduceIte, List.drop_length, List.all_nil]
        exact Ev.some)
    (fun i hi ih => by
        refine Ev.shift ?_
        have c1 : (i : Int) < (l.length : Int) := by omega
        have c0 : (0 : Int) ≤ (i : Int) := by omega
        simp only [spec_l1All.l0, c1, c0, ↓reduceIte, w1 hi hm, rd_nat, spec_l1In.eq, Option.bind_some]
        rw [drop_getD l 0 i hi, List.all_cons]
        cases h : inI a b (l.getD i 0) with
        | true => simp only [↓reduceIte, Bool.true_and]; exact ih
        | false => simp only [Bool.false_eq_true, ↓reduceIte, Bool.false_and]; exact Ev.some)
  exact key 0 (Nat.zero_le _)
theorem spec_voGood.ev (q : Int) (l : List Int) (hm : l.length ≤ 9223372036854775807) : Ev (fun k => spec_voGood.f k q l) (isComm q l) := by
  rw [isComm_eq]
  unfold spec_voGood.f
  simp only [spec_l1In.eq, Option.bind_some]
  have e : inI 1 9 (l.length : Int) = decide (1 ≤ l.length ∧ l.length ≤ 9) := by
    unfold inI; rw [Bool.eq_iff_iff]; simp; omega
  rw [e]
  by_cases h : 1 ≤ l.length ∧ l.length ≤ 9
  · simp only [h, decide_true, ↓reduceIte, and_self, true_and]
    refine Ev.bind (spec_l1All.ev l 0 1000 hm) ?_
    refine Ev.shift ?_
    by_cases h3 : l.all (inI 0 1000) = true
    · simp only [spec_voGood.j0, h3, Bool.not_true, Bool.false_eq_true, ↓reduceIte]
      refine Ev.bind (spec_voSum.ev l hm) ?_
      simp only [spec_l1In.eq, Option.bind_some]
      exact Ev.some
    · have h4 : l.all (inI 0 1000) = false := by simpa using h3
      simp only [spec_voGood.j0, h4, Bool.not_false, Bool.false_eq_true, ↓reduceIte]
      exact Ev.some
  · simp only [h, decide_false, Bool.false_eq_true, ↓reduceIte, false_and]
    refine Ev.shift ?_
    simp only [spec_voGood.j0, ↓reduceIte]
    exact Ev.some
/-! ### the law's own words -/
theorem laws_toIntS.ev (l : List Int) (hm : l.length ≤ 1048576) : Ev (fun k => laws_toIntS.f k l) l := by
  unfold laws_toIntS.f
  have c1 : (0 : Int) ≤ (l.length : Int) := by omega
  have c2 : l.length ≤ 35184372088832 := by omega
  simp only [c1, c2, ↓reduceIte, Int.toNat_natCast]
  have key := Ev.down (G := fun i k => laws_toIntS.l0 k l (filled l 0 i) (i : Int)) (R := fun _ => l) l.length
    (by refine Ev.shift ?_
        simp only [laws_toIntS.l0, Int.lt_irrefl, ↓reduceIte, filled_all]
        exact Ev.some)
    (fun i hi ih => by
        refine Ev.shift ?_
        have c1 : (i : Int) < (l.length : Int) := by omega
        have c0 : (0 : Int) ≤ (i : Int) := by omega
        simp only [laws_toIntS.l0, filled_len l 0 i (by omega), c1, c0, ↓reduceIte, w1 hi (by omega), rd_nat, Int.toNat_natCast, filled_set l 0 0 i hi]
        exact ih)
  have := key 0 (Nat.zero_le _)
  rw [filled_zero] at this
  exact this
theorem laws_toCommittee.ev (q : Int) (l : List Int) (hm : l.length ≤ 1048576) : Ev (fun k => laws_toCommittee.f k q l) (q, l) := by
  unfold laws_toCommittee.f
  exact Ev.bind (laws_toIntS.ev l hm) Ev.some
theorem laws_eqIntS.ev (l : List Int) (hm : l.length ≤ 9223372036854775807) : Ev (fun k => laws_eqIntS.f k l l) true := by
  unfold laws_eqIntS.f
  simp only [↓reduceIte]
  have key := Ev.down (G := fun i k => laws_eqIntS.l0 k l l (i : Int)) (R := fun _ => true) l.length
    (by refine Ev.shift ?_
        simp only [laws_eqIntS.l0, Int.lt_irrefl, ↓reduceIte]
        exact Ev.some)
    (fun i hi ih => by
        refine Ev.shift ?_
        have c1 : (i : Int) < (l.length : Int) := by omega
        have c0 : (0 : Int) ≤ (i : Int) := by omega
        simp only [laws_eqIntS.l0, c1, c0, ↓reduceIte, w1 hi hm]
        exact ih)
  exact key 0 (Nat.zero_le _)
theorem laws_eqCommittee.ev (q : Int) (l : List Int) (hm : l.length ≤ 9223372036854775807) : Ev (fun k => laws_eqCommittee.f k q l q l) true := by
  unfold laws_eqCommittee.f
  simp only [↓reduceIte]
  refine Ev.bind (laws_eqIntS.ev l hm) ?_
  simp only [↓reduceIte]
  exact Ev.some
theorem laws_szIntS.eq (l : List Int) (n : Int) (hm : l.length ≤ 9223372036854775807) (h0 : 0 ≤ n) (h1 : n ≤ 1048576) : laws_szIntS.f l n = some (if n < l.length then -1 else n - l.length) := by
  unfold laws_szIntS.f
  rw [w64 (by omega) (by omega)]
  by_cases h : n < l.length
  · rw [if_pos (by omega), if_pos h]
  · rw [if_neg (by omega), if_neg h]
theorem laws_szCommittee.eq (q : Int) (l : List Int) (n : Int) (hm : l.length ≤ 9223372036854775807) (h0 : 0 ≤ n) (h1 : n ≤ 1048576) : laws_szCommittee.f q l n = some (if n < l.length then -1 else n - l.length) := by
  unfold laws_szCommittee.f
  rw [laws_szIntS.eq l n hm h0 h1, Option.bind_some]
  by_cases h : n < l.length
  · rw [if_pos h, if_pos (by omega)]
  · rw [if_neg h, if_neg (by omega)]
end Go.Proofs.Ythkbaolpiigioaa.P

/- Plain laws of the printed functions on lists of lists of numbers. -/
namespace Go.Proofs.Ythkbaolpiigioaa.P
open Go.RowKit Go.Proofs.YthkbaolpiigioaaW.PrintWords Go.Proofs.YthkbaolpiigioaaW.PrintLast Go.Proofs.YthkbaolpiigioaaW.PrintMore
theorem rd_LI_nat (l : List (List Int)) (i : Nat) : rd_LI l (i : Int) = l.getD i [] := by simp [rd_LI]
theorem laws_szIntSS.ev (l : List (List Int)) (n : Int) (hm : okL (okL okI) l) (h0 : 0 ≤ n) (h1 : n ≤ 1048576) :
    ∃ r, Ev (fun k => laws_szIntSS.f k l n) r ∧ r ≤ n ∧ (0 ≤ r → (l.length : Int) ≤ n ∧ ∀ x ∈ l, x.length ≤ 1048576) := by
  obtain ⟨hl, hx⟩ := hm
  unfold laws_szIntSS.f
  rw [w64 (by omega) (by omega)]
  by_cases h : n - (l.length : Int) < 0
  · refine ⟨-1, ?_, by omega, by omega⟩
    simp only [h, ↓reduceIte]
    exact Ev.some
  · simp only [h, ↓reduceIte]
    have key := back (P := fun i => ∀ a : Int, 0 ≤ a → a ≤ 1048576 → ∃ r, Ev (fun k => laws_szIntSS.l0 k l a (i : Int)) r ∧ r ≤ a ∧ (0 ≤ r → ∀ x ∈ l.drop i, x.length ≤ 1048576)) l.length
      (by intro a ha hb
          refine ⟨a, ?_, by omega, by simp⟩
          refine Ev.shift ?_
          simp only [laws_szIntSS.l0, Int.lt_irrefl, ↓reduceIte]
          exact Ev.some)
      (by intro i hi ih a ha hb
          have c1 : (i : Int) < (l.length : Int) := by omega
          have c0 : (0 : Int) ≤ (i : Int) := by omega
          have hlen := (hx _ (getD_mem l [] i hi)).1
          have e := laws_szIntS.eq (l.getD i []) a hlen ha hb
          by_cases hs : a < ((l.getD i []).length : Int)
          · refine ⟨-1, ?_, by omega, by omega⟩
            refine Ev.shift ?_
            simp only [laws_szIntSS.l0, c1, c0, ↓reduceIte, rd_LI_nat, e, hs, Option.bind_some, show ((-1 : Int) < 0) from by omega]
            exact Ev.some
          · obtain ⟨r, hr, hle, hp⟩ := ih (a - ((l.getD i []).length : Int)) (by omega) (by omega)
            refine ⟨r, ?_, by omega, fun h0 x hxm => ?_⟩
            · refine Ev.shift ?_
              have c2 : ¬ (a - ((l.getD i []).length : Int) < 0) := by omega
              simp only [laws_szIntSS.l0, c1, c0, ↓reduceIte, rd_LI_nat, e, hs, Option.bind_some, c2, w1 hi hl]
              exact hr
            · rw [drop_getD l [] i hi] at hxm
              rcases List.mem_cons.1 hxm with rfl | hxm
              · omega
              · exact hp h0 x hxm)
    obtain ⟨r, hr, hle, hp⟩ := key 0 (Nat.zero_le _) (n - l.length) (by omega) (by omega)
    exact ⟨r, hr, by omega, fun h0 => ⟨by omega, by simpa using hp h0⟩⟩
theorem laws_toIntSS.ev (l : List (List Int)) (hl : l.length ≤ 1048576) (hx : ∀ x ∈ l, x.length ≤ 1048576) : Ev (fun k => laws_toIntSS.f k l) l := by
  unfold laws_toIntSS.f
  have c1 : (0 : Int) ≤ (l.length : Int) := by omega
  have c2 : l.length ≤ 11728124029610 := by omega
  simp only [c1, c2, ↓reduceIte, Int.toNat_natCast]
  have key := Ev.down (G := fun i k => laws_toIntSS.l0 k l (filled l [] i) (i : Int)) (R := fun _ => l) l.length
    (by refine Ev.shift ?_
        simp only [laws_toIntSS.l0, Int.lt_irrefl, ↓reduceIte, filled_all]
        exact Ev.some)
    (fun i hi ih => by
        refine Ev.shift ?_
        have c1 : (i : Int) < (l.length : Int) := by omega
        have c0 : (0 : Int) ≤ (i : Int) := by omega
        simp only [laws_toIntSS.l0, c1, c0, ↓reduceIte, rd_LI_nat]
        refine Ev.bind (laws_toIntS.ev _ (hx _ (getD_mem l [] i hi))) ?_
        have c3 : (i : Int) < ((filled l ([] : List Int) i).length : Int) := by rw [filled_len _ _ i (by omega)]; omega
        simp only [c3, ↓reduceIte, w1 hi (show l.length ≤ 9223372036854775807 by omega), Int.toNat_natCast, filled_set l [] [] i hi]
        exact ih)
  have := key 0 (Nat.zero_le _)
  rw [filled_zero] at this
  exact this
theorem laws_eqIntSS.ev (l : List (List Int)) (hl : l.length ≤ 9223372036854775807) (hx : ∀ x ∈ l, x.length ≤ 9223372036854775807) : Ev (fun k => laws_eqIntSS.f k l l) true := by
  unfold laws_eqIntSS.f
  simp only [↓reduceIte]
  have key := Ev.down (G := fun i k => laws_eqIntSS.l0 k l l (i : Int)) (R := fun _ => true) l.length
    (by refine Ev.shift ?_
        simp only [laws_eqIntSS.l0, Int.lt_irrefl, ↓reduceIte]
        exact Ev.some)
    (fun i hi ih => by
        refine Ev.shift ?_
        have c1 : (i : Int) < (l.length : Int) := by omega
        have c0 : (0 : Int) ≤ (i : Int) := by omega
        simp only [laws_eqIntSS.l0, c1, c0, ↓reduceIte, rd_LI_nat]
        refine Ev.bind (laws_eqIntS.ev _ (hx _ (getD_mem l [] i hi))) ?_
        simp only [↓reduceIte, w1 hi hl]
        exact ih)
  exact key 0 (Nat.zero_le _)
end Go.Proofs.Ythkbaolpiigioaa.P

/- Plain laws of the laws' own words on games. -/
namespace Go.Proofs.Ythkbaolpiigioaa.P
open Go.RowKit Go.Proofs.YthkbaolpiigioaaW.PrintWords Go.Proofs.YthkbaolpiigioaaW.PrintLast Go.Proofs.YthkbaolpiigioaaW.PrintMore
theorem laws_szGame.ev (n : Int) (l : List (List Int)) (m : Int) (hm : okL (okL okI) l) (h0 : 0 ≤ m) (h1 : m ≤ 1048576) :
    ∃ r, Ev (fun k => laws_szGame.f k n l m) r ∧ (0 ≤ r → (l.length : Int) ≤ m ∧ ∀ x ∈ l, x.length ≤ 1048576) := by
  obtain ⟨r, hr, hle, hp⟩ := laws_szIntSS.ev l m hm h0 h1
  by_cases h : r < 0
  · refine ⟨-1, ?_, by omega⟩
    unfold laws_szGame.f
    refine Ev.bind hr ?_
    simp only [h, ↓reduceIte]
    exact Ev.some
  · refine ⟨r, ?_, hp⟩
    unfold laws_szGame.f
    refine Ev.bind hr ?_
    simp only [h, ↓reduceIte]
    exact Ev.some
theorem laws_toGame.ev (n : Int) (l : List (List Int)) (hl : l.length ≤ 1048576) (hx : ∀ x ∈ l, x.length ≤ 1048576) : Ev (fun k => laws_toGame.f k n l) (n, l) := by
  unfold laws_toGame.f
  exact Ev.bind (laws_toIntSS.ev l hl hx) Ev.some
theorem laws_eqGame.ev (n : Int) (l : List (List Int)) (hl : l.length ≤ 9223372036854775807) (hx : ∀ x ∈ l, x.length ≤ 9223372036854775807) : Ev (fun k => laws_eqGame.f k n l n l) true := by
  unfold laws_eqGame.f
  simp only [↓reduceIte]
  refine Ev.bind (laws_eqIntSS.ev l hl hx) ?_
  simp only [↓reduceIte]
  exact Ev.some
end Go.Proofs.Ythkbaolpiigioaa.P

/- Sets of which none holds another: of nine members there are at most 126. No program in sight. -/
namespace Go.Proofs.Ythkbaolpiigioaa.P
def risers : List (List Nat) := [
  [0, 1, 3, 7, 15, 31, 63, 127, 255, 511], [2, 6, 14, 30, 62, 126, 254, 510], [4, 5, 13, 29, 61, 125, 253, 509], [8, 9, 11, 27, 59, 123, 251, 507], [10, 26, 58, 122, 250, 506], [12, 28, 60, 124, 252, 508], [16, 17, 19, 23, 55, 119, 247, 503], [18, 22, 54, 118, 246, 502], [20, 21, 53, 117, 245, 501],
  [24, 25, 57, 121, 249, 505], [32, 33, 35, 39, 47, 111, 239, 495], [34, 38, 46, 110, 238, 494], [36, 37, 45, 109, 237, 493], [40, 41, 43, 107, 235, 491], [42, 106, 234, 490], [44, 108, 236, 492], [48, 49, 51, 115, 243, 499], [50, 114, 242, 498],
  [52, 116, 244, 500], [56, 120, 248, 504], [64, 65, 67, 71, 79, 95, 223, 479], [66, 70, 78, 94, 222, 478], [68, 69, 77, 93, 221, 477], [72, 73, 75, 91, 219, 475], [74, 90, 218, 474], [76, 92, 220, 476], [80, 81, 83, 87, 215, 471],
  [82, 86, 214, 470], [84, 85, 213, 469], [88, 89, 217, 473], [96, 97, 99, 103, 231, 487], [98, 102, 230, 486], [100, 101, 229, 485], [104, 105, 233, 489], [112, 113, 241, 497], [128, 129, 131, 135, 143, 159, 191, 447],
  [130, 134, 142, 158, 190, 446], [132, 133, 141, 157, 189, 445], [136, 137, 139, 155, 187, 443], [138, 154, 186, 442], [140, 156, 188, 444], [144, 145, 147, 151, 183, 439], [146, 150, 182, 438], [148, 149, 181, 437], [152, 153, 185, 441],
  [160, 161, 163, 167, 175, 431], [162, 166, 174, 430], [164, 165, 173, 429], [168, 169, 171, 427], [170, 426], [172, 428], [176, 177, 179, 435], [178, 434], [180, 436],
  [184, 440], [192, 193, 195, 199, 207, 463], [194, 198, 206, 462], [196, 197, 205, 461], [200, 201, 203, 459], [202, 458], [204, 460], [208, 209, 211, 467], [210, 466],
  [212, 468], [216, 472], [224, 225, 227, 483], [226, 482], [228, 484], [232, 488], [240, 496], [256, 257, 259, 263, 271, 287, 319, 383], [258, 262, 270, 286, 318, 382],
  [260, 261, 269, 285, 317, 381], [264, 265, 267, 283, 315, 379], [266, 282, 314, 378], [268, 284, 316, 380], [272, 273, 275, 279, 311, 375], [274, 278, 310, 374], [276, 277, 309, 373], [280, 281, 313, 377], [288, 289, 291, 295, 303, 367],
  [290, 294, 302, 366], [292, 293, 301, 365], [296, 297, 299, 363], [298, 362], [300, 364], [304, 305, 307, 371], [306, 370], [308, 372], [312, 376],
  [320, 321, 323, 327, 335, 351], [322, 326, 334, 350], [324, 325, 333, 349], [328, 329, 331, 347], [330, 346], [332, 348], [336, 337, 339, 343], [338, 342], [340, 341],
  [344, 345], [352, 353, 355, 359], [354, 358], [356, 357], [360, 361], [368, 369], [384, 385, 387, 391, 399, 415], [386, 390, 398, 414], [388, 389, 397, 413],
  [392, 393, 395, 411], [394, 410], [396, 412], [400, 401, 403, 407], [402, 406], [404, 405], [408, 409], [416, 417, 419, 423], [418, 422],
  [420, 421], [424, 425], [432, 433], [448, 449, 451, 455], [450, 454], [452, 453], [456, 457], [464, 465], [480, 481]]
def rises : List Nat → Bool
  | a :: b :: l => (a &&& b == a) && rises (b :: l)
  | _ => true
theorem risers_rise : (risers.all rises) = true := by decide +kernel
theorem risers_all : ((List.range 512).all fun m => risers.any fun c => c.contains m) = true := by decide +kernel
theorem risers_len : risers.length = 126 := by decide +kernel
theorem and_trans {a b c : Nat} (h1 : a &&& b = a) (h2 : b &&& c = b) : a &&& c = a := by
  calc a &&& c = a &&& b &&& c := by rw [h1]
    _ = a &&& (b &&& c) := Nat.and_assoc ..
    _ = a &&& b := by rw [h2]
    _ = a := h1
theorem rises_head {a : Nat} {l : List Nat} (h : rises (a :: l) = true) : ∀ x ∈ l, a &&& x = a := by
  induction l generalizing a with
  | nil => intro x hx; simp at hx
  | cons b l ih =>
    simp only [rises, Bool.and_eq_true, beq_iff_eq] at h
    intro x hx
    rcases List.mem_cons.1 hx with rfl | hx
    · exact h.1
    · exact and_trans h.1 (ih h.2 x hx)
theorem rises_pair {l : List Nat} (h : rises l = true) : ∀ x ∈ l, ∀ y ∈ l, x &&& y = x ∨ x &&& y = y := by
  induction l with
  | nil => intro x hx; simp at hx
  | cons a l ih =>
    have ht : rises l = true := by
      cases l with
      | nil => rfl
      | cons b l => simp only [rises, Bool.and_eq_true] at h; exact h.2
    have hh := rises_head h
    intro x hx y hy
    rcases List.mem_cons.1 hx with ex | hx <;> rcases List.mem_cons.1 hy with ey | hy
    · left; rw [ex, ey]; exact Nat.and_self a
    · left; rw [ex]; exact hh y hy
    · right; rw [ey, Nat.and_comm]; exact hh x hx
    · exact ih ht x hx y hy
def Apart (a b : Nat) : Prop := ¬ a &&& b = a ∧ ¬ a &&& b = b
theorem count_chain {c : List Nat} (hc : rises c = true) (L : List Nat) (hL : L.Pairwise Apart) : L.countP (fun m => c.contains m) ≤ 1 := by
  induction L with
  | nil => simp
  | cons m L ih =>
    rw [List.pairwise_cons] at hL
    have h1 := ih hL.2
    rw [List.countP_cons]
    split
    · rename_i hm
      have : L.countP (fun m => c.contains m) = 0 := by
        rw [List.countP_eq_zero]
        intro x hx hcx
        have := rises_pair hc m (by simpa using hm) x (by simpa using hcx)
        have hap := hL.1 x hx
        rcases this with h | h
        · exact hap.1 h
        · exact hap.2 h
      omega
    · omega
theorem sum_ones {α : Type} (cs : List α) (f : α → Nat) (h : ∀ c ∈ cs, f c ≤ 1) : (cs.map f).sum ≤ cs.length := by
  induction cs with
  | nil => simp
  | cons c cs ih =>
    have h1 := h c (by simp)
    have h2 := ih (fun x hx => h x (by simp [hx]))
    simp only [List.map_cons, List.sum_cons, List.length_cons]
    omega
theorem sum_add_one {α : Type} (cs : List α) (f g : α → Nat) (h : ∀ c ∈ cs, f c ≤ g c) (h1 : ∃ c ∈ cs, f c < g c) : (cs.map f).sum + 1 ≤ (cs.map g).sum := by
  have le : ∀ cs : List α, (∀ c ∈ cs, f c ≤ g c) → (cs.map f).sum ≤ (cs.map g).sum := by
    intro cs
    induction cs with
    | nil => intro _; simp
    | cons c cs ih =>
      intro h
      have a := h c (by simp)
      have b := ih (fun x hx => h x (by simp [hx]))
      simp only [List.map_cons, List.sum_cons]
      omega
  induction cs with
  | nil => obtain ⟨c, hc, _⟩ := h1; simp at hc
  | cons c cs ih =>
    obtain ⟨d, hd, hlt⟩ := h1
    simp only [List.map_cons, List.sum_cons]
    rcases List.mem_cons.1 hd with rfl | hd
    · have := le cs (fun x hx => h x (by simp [hx]))
      omega
    · have a := h c (by simp)
      have b := ih (fun x hx => h x (by simp [hx])) ⟨d, hd, hlt⟩
      omega
theorem few_apart (L : List Nat) (hL : L.Pairwise Apart) (hb : ∀ m ∈ L, m < 512) : L.length ≤ 126 := by
  have key : ∀ L : List Nat, (∀ m ∈ L, m < 512) → L.length ≤ (risers.map fun c => L.countP fun m => c.contains m).sum := by
    intro L
    induction L with
    | nil => intro _; simp
    | cons m L ih =>
      intro hb
      have h1 := ih (fun x hx => hb x (by simp [hx]))
      have hall := risers_all
      rw [List.all_eq_true] at hall
      have hm := hall m (List.mem_range.2 (hb m (by simp)))
      rw [List.any_eq_true] at hm
      obtain ⟨c, hc, hcm⟩ := hm
      have := sum_add_one risers (fun c => L.countP fun m => c.contains m) (fun c => (m :: L).countP fun m => c.contains m) (fun c _ => by rw [List.countP_cons]; omega) ⟨c, hc, by rw [List.countP_cons, if_pos hcm]; omega⟩
      rw [List.length_cons]
      omega
  have h1 := key L hb
  have hr := risers_rise
  rw [List.all_eq_true] at hr
  have h2 := sum_ones risers (fun c => L.countP fun m => c.contains m) (fun c hc => count_chain (hr c hc) L hL)
  rw [risers_len] at h2
  omega
end Go.Proofs.Ythkbaolpiigioaa.P

/- How two numbers and two lists compare. No program in sight. -/
namespace Go.Proofs.Ythkbaolpiigioaa.P
def cmpI (x y : Int) : Int := if x < y then -1 else if x > y then 1 else 0
def lexc : List Int → List Int → Int
  | [], [] => 0
  | [], _ :: _ => -1
  | _ :: _, [] => 1
  | x :: a, y :: b => if cmpI x y = 0 then lexc a b else cmpI x y
theorem cmpI_swap (x y : Int) : cmpI y x = - cmpI x y := by
  unfold cmpI
  repeat' split
  all_goals omega
theorem lexc_swap : ∀ a b : List Int, lexc b a = - lexc a b
  | [], [] => rfl
  | [], _ :: _ => rfl
  | _ :: _, [] => rfl
  | x :: a, y :: b => by
    rw [lexc, lexc, cmpI_swap x y, lexc_swap a b]
    by_cases h : cmpI x y = 0
    · rw [if_pos h, if_pos (by rw [h]; rfl)]
    · rw [if_neg h, if_neg (fun z => h (by omega))]
end Go.Proofs.Ythkbaolpiigioaa.P

/- How two numbers compare. -/
namespace Go.Proofs.Ythkbaolpiigioaa.P
open Go.RowKit Go.Proofs.YthkbaolpiigioaaW.PrintWords Go.Proofs.YthkbaolpiigioaaW.PrintLast Go.Proofs.YthkbaolpiigioaaW.PrintMore
theorem cmp_Compare_int.eq (x y : Int) : cmp_Compare_int.f x y = some (cmpI x y) := by
  have e : ∀ z, cmp_isNaN_int.f z = some false := fun z => by simp [cmp_isNaN_int.f]
  unfold cmp_Compare_int.f cmpI
  rw [e, e]
  simp only [Option.bind_some, Bool.false_eq_true, ↓reduceIte]
  split
  · rfl
  · split <;> rfl
end Go.Proofs.Ythkbaolpiigioaa.P

/- Lists in order. -/
namespace Go.Proofs.Ythkbaolpiigioaa.P
open Go.RowKit Go.Proofs.YthkbaolpiigioaaW.PrintWords Go.Proofs.YthkbaolpiigioaaW.PrintLast Go.Proofs.YthkbaolpiigioaaW.PrintMore
theorem lexc_drop (a b : List Int) (i : Nat) (h : i < a.length) : lexc (a.drop i) (b.drop i) = if i < b.length then (if cmpI (a.getD i 0) (b.getD i 0) = 0 then lexc (a.drop (i + 1)) (b.drop (i + 1)) else cmpI (a.getD i 0) (b.getD i 0)) else 1 := by
  rw [drop_getD a 0 i h]
  by_cases hb : i < b.length
  · rw [if_pos hb, drop_getD b 0 i hb, lexc]
  · rw [if_neg hb, List.drop_eq_nil_of_le (show b.length ≤ i by omega), lexc]
theorem slices_Compare_int_int.ev (a b : List Int) (ha : a.length ≤ 9223372036854775807) : Ev (fun k => slices_Compare_int_int.f k a b) (lexc a b) := by
  unfold slices_Compare_int_int.f
  have key := Ev.down (G := fun i k => slices_Compare_int_int.l0 k a b a (a.length : Int) (i : Int)) (R := fun i => lexc (a.drop i) (b.drop i)) a.length
    (by refine Ev.shift ?_
        simp only [slices_Compare_int_int.l0, Int.lt_irrefl, ↓reduceIte, List.drop_length]
        by_cases h : (a.length : Int) < (b.length : Int)
        · simp only [h, ↓reduceIte]
          refine Ev.eq Ev.some ?_
          rw [drop_getD b 0 a.length (by omega)]
          rfl
        · simp only [h, ↓reduceIte]
          refine Ev.eq Ev.some ?_
          rw [List.drop_eq_nil_of_le (show b.length ≤ a.length by omega)]
          rfl)
    (fun i hi ih => by
        refine Ev.shift ?_
        have c1 : (i : Int) < (a.length : Int) := by omega
        have c0 : (0 : Int) ≤ (i : Int) := by omega
        rw [lexc_drop a b i hi]
        simp only [slices_Compare_int_int.l0, c1, c0, ↓reduceIte]
        by_cases hb : i < b.length
        · have c2 : ¬ (i : Int) ≥ (b.length : Int) := by omega
          have c3 : (i : Int) < (b.length : Int) := by omega
          simp only [c2, c3, hb, ↓reduceIte, rd_nat]
          refine Ev.bind (Ev.one (cmp_Compare_int.eq _ _)) ?_
          by_cases hc : cmpI (a.getD i 0) (b.getD i 0) = 0
          · simp only [hc, ↓reduceIte, w1 hi ha]
            exact ih
          · simp only [hc, ↓reduceIte]
            exact Ev.some
        · have c2 : (i : Int) ≥ (b.length : Int) := by omega
          simp only [c2, hb, ↓reduceIte]
          exact Ev.some)
  exact key 0 (Nat.zero_le _)
theorem spec_voBefore.ev (a b : List Int) (ha : a.length ≤ 9223372036854775807) : Ev (fun k => spec_voBefore.f k a b) (decide (lexc a b < 0)) := by
  unfold spec_voBefore.f
  have fin : ∀ i, i ≤ a.length → (¬ i < a.length ∨ ¬ i < b.length) → i ≤ b.length → Ev (fun k => spec_voBefore.j1 k a b (i : Int) false) (decide (lexc (a.drop i) (b.drop i) < 0)) := by
    intro i h1 h2 h3
    refine Ev.shift ?_
    simp only [spec_voBefore.j1, Bool.false_eq_true, ↓reduceIte]
    refine Ev.eq Ev.some ?_
    rw [decide_eq_decide]
    by_cases hb : i < b.length
    · have ea : i = a.length := by omega
      rw [ea, List.drop_length, drop_getD b 0 a.length (by omega), lexc]
      omega
    · rw [List.drop_eq_nil_of_le (show b.length ≤ i by omega)]
      by_cases hai : i < a.length
      · rw [drop_getD a 0 i hai, lexc]; omega
      · rw [List.drop_eq_nil_of_le (show a.length ≤ i by omega), lexc]; omega
  have key := back (P := fun i => i ≤ b.length → Ev (fun k => spec_voBefore.l0 k a b (i : Int)) (decide (lexc (a.drop i) (b.drop i) < 0))) a.length
    (by intro h3
        refine Ev.shift ?_
        simp only [spec_voBefore.l0, Int.lt_irrefl, ↓reduceIte]
        exact fin a.length (Nat.le_refl _) (.inl (by omega)) h3)
    (by intro i hi ih h3
        refine Ev.shift ?_
        have c1 : (i : Int) < (a.length : Int) := by omega
        have c0 : (0 : Int) ≤ (i : Int) := by omega
        simp only [spec_voBefore.l0, c1, ↓reduceIte]
        by_cases hb : i < b.length
        · have c2 : (i : Int) < (b.length : Int) := by omega
          simp only [c2, decide_true]
          refine Ev.shift ?_
          rw [lexc_drop a b i hi, if_pos hb]
          simp only [spec_voBefore.j1, ↓reduceIte, c0, c1, c2, rd_nat, w1 hi ha]
          by_cases he : a.getD i 0 = b.getD i 0
          · have hc : cmpI (b.getD i 0) (b.getD i 0) = 0 := by simp [cmpI]
            simp only [he, ↓reduceIte, hc]
            exact ih (by omega)
          · have hc : ¬ cmpI (a.getD i 0) (b.getD i 0) = 0 := by unfold cmpI; split; omega; split <;> omega
            simp only [he, ↓reduceIte, hc]
            refine Ev.eq Ev.some ?_
            rw [decide_eq_decide]
            unfold cmpI
            split
            · omega
            · split <;> omega
        · have c2 : ¬ (i : Int) < (b.length : Int) := by omega
          simp only [c2, decide_false]
          exact fin i (by omega) (.inr hb) h3)
  exact key 0 (Nat.zero_le _) (Nat.zero_le _)
end Go.Proofs.Ythkbaolpiigioaa.P

/- Sets. -/
namespace Go.Proofs.Ythkbaolpiigioaa.P
open Go.RowKit Go.Proofs.YthkbaolpiigioaaW.PrintWords Go.Proofs.YthkbaolpiigioaaW.PrintLast Go.Proofs.YthkbaolpiigioaaW.PrintMore
theorem impl_isIncreasing.ev (l : List Int) (hl : l.length ≤ 9223372036854775807) : Ev (fun k => impl_isIncreasing.f k l) (allF (incr l) l.length 0) := by
  have key := Ev.down (G := fun i k => impl_isIncreasing.l0 k l (l.length : Int) (i : Int)) (R := fun i => allF (incr l) l.length i) l.length
    (by refine Ev.shift ?_
        simp only [impl_isIncreasing.l0, Int.lt_irrefl, ↓reduceIte, allF_end]
        exact Ev.some)
    (fun i hi ih => by
        refine Ev.shift ?_
        have c1 : (i : Int) < (l.length : Int) := by omega
        have c0 : (0 : Int) ≤ (i : Int) := by omega
        rw [allF_step _ _ _ hi]
        simp only [impl_isIncreasing.l0, c1, c0, ↓reduceIte, w1 hi hl]
        by_cases h0 : i = 0
        · subst h0
          simp only [show ¬ ((0 : Nat) : Int) > 0 by omega, ↓reduceIte, incr, beq_self_eq_true, Bool.true_or, Bool.true_and]
          exact ih
        · have c2 : (i : Int) > 0 := by omega
          have e : wrap64 ((i : Int) - 1) = ((i - 1 : Nat) : Int) := by rw [w64 (by omega) (by omega)]; omega
          have c3 : (0 : Int) ≤ ((i - 1 : Nat) : Int) := by omega
          have c4 : ((i - 1 : Nat) : Int) < (l.length : Int) := by omega
          have hb : (i == 0) = false := by simp [h0]
          simp only [c2, ↓reduceIte, e, c3, c4, rd_nat, incr, hb, Bool.false_or]
          by_cases h1 : l.getD (i - 1) 0 < l.getD i 0
          · have h2 : ¬ l.getD i 0 ≤ l.getD (i - 1) 0 := by omega
            simp only [h1, h2, ↓reduceIte, decide_true, Bool.true_and]
            exact ih
          · have h2 : l.getD i 0 ≤ l.getD (i - 1) 0 := by omega
            simp only [h1, h2, ↓reduceIte, decide_false, Bool.false_and]
            exact Ev.some)
  exact key 0 (Nat.zero_le _)
theorem impl_isSet.ev (l : List Int) (n : Int) (hl : l.length ≤ 9223372036854775807) (h0 : -9000 ≤ n) (h1 : n ≤ 9223372036854775807) : Ev (fun k => impl_isSet.f k l n) (isSetN l n) := by
  unfold impl_isSet.f isSetN
  rw [w64 (by omega) (by omega)]
  refine Ev.bind (impl_areIn.ev l 0 (n - 1) hl) ?_
  cases l.all (inI 0 (n - 1)) with
  | false => exact Ev.some
  | true =>
    simp only [↓reduceIte, Bool.true_and]
    exact Ev.bind (impl_isIncreasing.ev l hl) Ev.some
end Go.Proofs.Ythkbaolpiigioaa.P

/- Sets. -/
namespace Go.Proofs.Ythkbaolpiigioaa.P
open Go.RowKit Go.Proofs.YthkbaolpiigioaaW.PrintWords Go.Proofs.YthkbaolpiigioaaW.PrintLast Go.Proofs.YthkbaolpiigioaaW.PrintMore
theorem spec_voSet.ev (l : List Int) (n : Int) (hl : l.length ≤ 9223372036854775807) (h0 : -9000 ≤ n) (h1 : n ≤ 9223372036854775807) : Ev (fun k => spec_voSet.f k n l) (isSetN l n) := by
  unfold spec_voSet.f isSetN
  rw [w64 (by omega) (by omega)]
  refine Ev.bind (a := l.all (inI 0 (n - 1)) && allF (incr l) l.length 0) ?_ Ev.some
  have e : (l.all (inI 0 (n - 1)) && allF (incr l) l.length 0) = allF (fun j => inI 0 (n - 1) (l.getD j 0) && incr l j) l.length 0 := by
    rw [allF_and, allF_drop (inI 0 (n - 1)) l 0 0 (Nat.zero_le _), List.drop_zero]
  rw [e]
  have key := Ev.down (G := fun i k => spec_l1Rising.l0 k l 0 (n - 1) l (l.length : Int) (i : Int)) (R := fun i => allF (fun j => inI 0 (n - 1) (l.getD j 0) && incr l j) l.length i) l.length
    (by refine Ev.shift ?_
        simp only [spec_l1Rising.l0, Int.lt_irrefl, ↓reduceIte, allF_end]
        exact Ev.some)
    (fun i hi ih => by
        refine Ev.shift ?_
        have c1 : (i : Int) < (l.length : Int) := by omega
        have c0 : (0 : Int) ≤ (i : Int) := by omega
        rw [allF_step _ _ _ hi]
        simp only [spec_l1Rising.l0, c1, c0, ↓reduceIte, w1 hi hl, spec_l1In.eq, Option.bind_some, rd_nat]
        cases inI 0 (n - 1) (l.getD i 0) with
        | false => simp only [Bool.false_eq_true, ↓reduceIte, Bool.false_and]; exact Ev.some
        | true =>
          simp only [↓reduceIte, Bool.true_and]
          by_cases h0 : i = 0
          · subst h0
            simp only [show ¬ ((0 : Nat) : Int) > 0 by omega, ↓reduceIte, incr, beq_self_eq_true, Bool.true_or, Bool.true_and]
            exact ih
          · have c2 : (i : Int) > 0 := by omega
            have e : wrap64 ((i : Int) - 1) = ((i - 1 : Nat) : Int) := by rw [w64 (by omega) (by omega)]; omega
            have c3 : (0 : Int) ≤ ((i - 1 : Nat) : Int) := by omega
            have c4 : ((i - 1 : Nat) : Int) < (l.length : Int) := by omega
            have hb : (i == 0) = false := by simp [h0]
            simp only [c2, ↓reduceIte, e, c3, c4, rd_nat, incr, hb, Bool.false_or]
            by_cases h1 : l.getD (i - 1) 0 < l.getD i 0
            · have h2 : ¬ l.getD (i - 1) 0 ≥ l.getD i 0 := by omega
              simp only [h1, h2, ↓reduceIte, decide_true, Bool.true_and]
              exact ih
            · have h2 : l.getD (i - 1) 0 ≥ l.getD i 0 := by omega
              simp only [h1, h2, ↓reduceIte, decide_false, Bool.false_and]
              exact Ev.some)
  exact key 0 (Nat.zero_le _)
end Go.Proofs.Ythkbaolpiigioaa.P

/- A set as bits. -/
namespace Go.Proofs.Ythkbaolpiigioaa.P
open Go.RowKit Go.Proofs.YthkbaolpiigioaaW.PrintWords Go.Proofs.YthkbaolpiigioaaW.PrintLast Go.Proofs.YthkbaolpiigioaaW.PrintMore
theorem impl_maskOf.ev (l : List Int) (hl : l.length ≤ 1048576) (h : ∀ x ∈ l, 0 ≤ x ∧ x < 62) : Ev (fun k => impl_maskOf.f k l) (bitsOf l : Int) := by
  have key := Ev.down (G := fun i k => impl_maskOf.l0 k (((l.take i).foldl (fun m x => m ||| 2 ^ x.toNat) 0 : Nat) : Int) l (l.length : Int) (i : Int)) (R := fun _ => (bitsOf l : Int)) l.length
    (by refine Ev.shift ?_
        simp only [impl_maskOf.l0, Int.lt_irrefl, ↓reduceIte, List.take_length]
        exact Ev.some)
    (fun i hi ih => by
        refine Ev.shift ?_
        have c1 : (i : Int) < (l.length : Int) := by omega
        have c0 : (0 : Int) ≤ (i : Int) := by omega
        have hx := h _ (getD_mem l 0 i hi)
        have hm : (l.take i).foldl (fun m x => m ||| 2 ^ x.toNat) 0 < 2 ^ 62 := bitsOf_lt _ 62 (fun y hy => h y (List.mem_of_mem_take hy)) 0 (by decide)
        rw [foldl_take _ _ l 0 i hi] at ih
        simp only [impl_maskOf.l0, c1, c0, ↓reduceIte, w1 hi (show l.length ≤ 9223372036854775807 by omega), rd_nat, hx.1]
        obtain ⟨j, hj⟩ : ∃ j : Nat, l.getD i 0 = (j : Int) := ⟨(l.getD i 0).toNat, by omega⟩
        rw [hj] at ih hx ⊢
        have hp : 2 ^ j < 2 ^ 63 := Nat.pow_lt_pow_right (by omega) (by omega)
        rw [shl_one j (by omega), or_nat _ _ (Nat.lt_of_lt_of_le hm (by decide)) hp]
        exact ih)
  exact key 0 (Nat.zero_le _)
end Go.Proofs.Ythkbaolpiigioaa.P

/- A set as bits. -/
namespace Go.Proofs.Ythkbaolpiigioaa.P
open Go.RowKit Go.Proofs.YthkbaolpiigioaaW.PrintWords Go.Proofs.YthkbaolpiigioaaW.PrintLast Go.Proofs.YthkbaolpiigioaaW.PrintMore
theorem spec_voBits.ev (l : List Int) (hl : l.length ≤ 1048576) (h : ∀ x ∈ l, 0 ≤ x ∧ x < 62) : Ev (fun k => spec_voBits.f k l) (bitsOf l : Int) := by
  have key := Ev.down (G := fun i k => spec_voBits.l0 k (((l.take i).foldl (fun m x => m ||| 2 ^ x.toNat) 0 : Nat) : Int) l (l.length : Int) (i : Int)) (R := fun _ => (bitsOf l : Int)) l.length
    (by refine Ev.shift ?_
        simp only [spec_voBits.l0, Int.lt_irrefl, ↓reduceIte, List.take_length]
        exact Ev.some)
    (fun i hi ih => by
        refine Ev.shift ?_
        have c1 : (i : Int) < (l.length : Int) := by omega
        have c0 : (0 : Int) ≤ (i : Int) := by omega
        have hx := h _ (getD_mem l 0 i hi)
        have hm : (l.take i).foldl (fun m x => m ||| 2 ^ x.toNat) 0 < 2 ^ 62 := bitsOf_lt _ 62 (fun y hy => h y (List.mem_of_mem_take hy)) 0 (by decide)
        rw [foldl_take _ _ l 0 i hi] at ih
        simp only [spec_voBits.l0, c1, c0, ↓reduceIte, w1 hi (show l.length ≤ 9223372036854775807 by omega), rd_nat, hx.1]
        obtain ⟨j, hj⟩ : ∃ j : Nat, l.getD i 0 = (j : Int) := ⟨(l.getD i 0).toNat, by omega⟩
        rw [hj] at ih hx ⊢
        have hp : 2 ^ j < 2 ^ 63 := Nat.pow_lt_pow_right (by omega) (by omega)
        rw [shl_one j (by omega), or_nat _ _ (Nat.lt_of_lt_of_le hm (by decide)) hp]
        exact ih)
  exact key 0 (Nat.zero_le _)
end Go.Proofs.Ythkbaolpiigioaa.P

/- Games. -/
namespace Go.Proofs.Ythkbaolpiigioaa.P
open Go.RowKit Go.Proofs.YthkbaolpiigioaaW.PrintWords Go.Proofs.YthkbaolpiigioaaW.PrintLast Go.Proofs.YthkbaolpiigioaaW.PrintMore
def setG (n : Int) (s : List Int) : Bool := decide (s ≠ []) && isSetN s n
def risesAt (ws : List (List Int)) (i : Nat) : Bool := i == 0 || decide (lexc (ws.getD (i - 1) []) (ws.getD i []) < 0)
def mk (ws : List (List Int)) (i : Nat) : Nat := bitsOf (ws.getD i [])
def apartB (a b : Nat) : Bool := !decide (a &&& b = a) && !decide (a &&& b = b)
def freeAt (ws : List (List Int)) (i : Nat) : Bool := allF (fun k => apartB (mk ws i) (mk ws k)) i 0
def isGame (n : Int) (ws : List (List Int)) : Bool := inI 1 9 n && decide (ws ≠ []) && ws.all (setG n) && allF (fun i => risesAt ws i && freeAt ws i) ws.length 0
theorem isGame_at {n : Int} {ws : List (List Int)} (h : isGame n ws = true) : ∃ m : Nat, n = (m : Int) ∧ 1 ≤ m ∧ m ≤ 9 ∧ 0 < ws.length ∧ (∀ s ∈ ws, s ≠ [] ∧ isSetN s n = true) ∧ ∀ i, i < ws.length → risesAt ws i = true ∧ freeAt ws i = true := by
  simp only [isGame, inI, setG, Bool.and_eq_true, decide_eq_true_eq, List.all_eq_true, allF_iff] at h
  obtain ⟨⟨⟨⟨h1, h2⟩, h3⟩, h4⟩, h5⟩ := h
  exact ⟨n.toNat, by omega, by omega, by omega, List.length_pos_iff.2 h3, h4, h5⟩
theorem setG_mask {m : Nat} {s : List Int} (h : isSetN s m = true) : bitsOf s < 2 ^ m := bitsOf_lt s m (fun x hx => isSetN_mem h x hx) 0 (Nat.two_pow_pos m)
theorem set62' {s : List Int} {n : Int} (hn : n ≤ 9) (h : isSetN s n = true) : ∀ x ∈ s, 0 ≤ x ∧ x < 62 := fun x hx => by have := isSetN_mem h x hx; omega
theorem isGame_few {n : Int} {ws : List (List Int)} (h : isGame n ws = true) : ws.length ≤ 126 := by
  obtain ⟨m, rfl, hm1, hm9, hpos, hs, hf⟩ := isGame_at h
  have := few_apart (ws.map bitsOf) (by
    rw [List.pairwise_map, List.pairwise_iff_getElem]
    intro i j hi hj hij
    have h1 := (hf j hj).2
    rw [freeAt, allF_iff] at h1
    have h2 := h1 i hij
    simp only [apartB, Bool.and_eq_true, Bool.not_eq_true', decide_eq_false_iff_not] at h2
    unfold mk at h2
    have ei : ws.getD i [] = ws[i] := by rw [List.getD_eq_getElem?_getD, List.getElem?_eq_getElem hi]; rfl
    have ej : ws.getD j [] = ws[j] := by rw [List.getD_eq_getElem?_getD, List.getElem?_eq_getElem hj]; rfl
    rw [ei, ej] at h2
    exact ⟨fun e => h2.2 (by rw [Nat.and_comm]; exact e), fun e => h2.1 (by rw [Nat.and_comm]; exact e)⟩) (by
    intro x hx
    obtain ⟨s, hsm, rfl⟩ := List.mem_map.1 hx
    have h1 := setG_mask (hs s hsm).2
    have h2 : 2 ^ m ≤ 2 ^ 9 := pow_small hm9
    exact Nat.lt_of_lt_of_le h1 h2)
  rwa [List.length_map] at this
theorem slices_IndexFunc_LLint_int.ev (l : List (List Int)) (hm : l.length ≤ 9223372036854775807) (p : Nat → List Int → Option Bool) (P : List Int → Bool) (h : ∀ x ∈ l, Ev (fun k => p k x) (P x)) : Ev (fun k => slices_IndexFunc_LLint_int.f k l (p k)) (idxFrom P 0 l) := by
  refine Ev.ask (F := fun k q => slices_IndexFunc_LLint_int.f k l q) l h ⟨l.length + 1, fun k hk q hq => ?_⟩
  unfold slices_IndexFunc_LLint_int.f
  have := downq (G := fun i k => slices_IndexFunc_LLint_int.l0 k l q (l.length : Int) (i : Int)) (R := fun i => idxFrom P i (l.drop i)) l.length
    (by intro k; simp only [slices_IndexFunc_LLint_int.l0, Int.lt_irrefl, ↓reduceIte, List.drop_length, idxFrom])
    (fun i hi k ih => by
      have c1 : (i : Int) < (l.length : Int) := by omega
      have c0 : (0 : Int) ≤ (i : Int) := by omega
      simp only [slices_IndexFunc_LLint_int.l0, c1, c0, ↓reduceIte, w1 hi hm, rd_LI_nat, hq _ (getD_mem l [] i hi), Option.bind_some]
      rw [drop_getD l [] i hi, idxFrom, ih]
      split <;> rfl) 0 (Nat.zero_le _) k (by omega)
  rwa [List.drop_zero] at this
theorem slices_ContainsFunc_LLint_int.ev (l : List (List Int)) (hm : l.length ≤ 9223372036854775807) (p : Nat → List Int → Option Bool) (P : List Int → Bool) (h : ∀ x ∈ l, Ev (fun k => p k x) (P x)) : Ev (fun k => slices_ContainsFunc_LLint_int.f k l (p k)) (l.any P) := by
  unfold slices_ContainsFunc_LLint_int.f
  refine Ev.bind (slices_IndexFunc_LLint_int.ev l hm p P h) ?_
  rw [idxFrom_nn]
  exact Ev.some
theorem len_ne {s : List Int} : ((s.length : Int) = 0) = (s = []) := by
  rw [eq_iff_iff]
  constructor
  · intro h; exact List.length_eq_zero_iff.1 (by omega)
  · rintro rfl; rfl
theorem impl_areSets.ev (ws : List (List Int)) (n : Int) (hl : ws.length ≤ 9223372036854775807) (hx : ∀ s ∈ ws, s.length ≤ 9223372036854775807) (h0 : 1 ≤ n) (h1 : n ≤ 9) : Ev (fun k => impl_areSets.f k ws n) (ws.all (setG n)) := by
  unfold impl_areSets.f
  refine Ev.bind (slices_ContainsFunc_LLint_int.ev ws hl (fun k y => impl_areSets_1.f k y n) (fun s => !setG n s) (fun s hs => ?_)) ?_
  · unfold impl_areSets_1.f setG
    simp only [len_ne]
    by_cases he : s = []
    · subst he; exact Ev.eq Ev.some rfl
    · simp only [he, ↓reduceIte, ne_eq, not_false_eq_true, decide_true, Bool.true_and]
      exact Ev.bind (impl_isSet.ev s n (hx s hs) (by omega) (by omega)) Ev.some
  · rw [all_any]; exact Ev.some
theorem holds_iff (ws : List (List Int)) : (allF (fun i => risesAt ws i && allF (fun k => k == i || !decide (mk ws i &&& mk ws k = mk ws k)) ws.length 0) ws.length 0) = allF (fun i => risesAt ws i && freeAt ws i) ws.length 0 := by
  rw [Bool.eq_iff_iff, allF_iff, allF_iff]
  simp only [Bool.and_eq_true, freeAt, allF_iff, apartB, Bool.or_eq_true, beq_iff_eq, Bool.not_eq_true', decide_eq_false_iff_not]
  constructor
  · intro h i hi
    refine ⟨(h i hi).1, fun k hk => ⟨?_, ?_⟩⟩
    · have := (h k (by omega)).2 i hi
      rcases this with e | e
      · omega
      · rwa [Nat.and_comm] at e
    · rcases (h i hi).2 k (by omega) with e | e
      · omega
      · exact e
  · intro h i hi
    refine ⟨(h i hi).1, fun k hk => ?_⟩
    rcases Nat.lt_trichotomy k i with hlt | rfl | hgt
    · exact .inr ((h i hi).2 k hlt).2
    · exact .inl rfl
    · right
      have := ((h k hk).2 i hgt).1
      rwa [Nat.and_comm]
theorem pred_nat {i : Nat} (h : 0 < i) (hi : i ≤ 9223372036854775807) : wrap64 ((i : Int) - 1) = ((i - 1 : Nat) : Int) := by rw [w64 (by omega) (by omega)]; omega
theorem and_eqB (a b : Nat) (ha : a < 2 ^ 9) (hb : b < 2 ^ 9) : Go.bits .and .i64 (a : Int) (b : Int) = ((a &&& b : Nat) : Int) := and_nat a b (Nat.lt_of_lt_of_le ha (by decide)) (Nat.lt_of_lt_of_le hb (by decide))
theorem cast_eqN {a b : Nat} : ((a : Int) = (b : Int)) = (a = b) := by rw [eq_iff_iff]; exact Int.ofNat_inj
theorem impl_IsGame.ev (n : Int) (ws : List (List Int)) (hl : ws.length ≤ 1048576) (hx : ∀ s ∈ ws, s.length ≤ 1048576) : Ev (fun k => impl_IsGame.f k n ws) (isGame n ws) := by
  have off : Ev (fun k => impl_IsGame.j0 k true n ws) false := by
    refine Ev.shift ?_
    simp only [impl_IsGame.j0, ↓reduceIte]
    exact Ev.some
  unfold impl_IsGame.f isGame
  refine Ev.bind (Ev.one (impl_within.eq n 1 9)) ?_
  cases hn : inI 1 9 n with
  | false => simp only [Bool.false_eq_true, ↓reduceIte, Bool.false_and]; exact off
  | true =>
    have hn' : 1 ≤ n ∧ n ≤ 9 := by simpa only [inI, Bool.and_eq_true, decide_eq_true_eq] using hn
    by_cases he : ws = []
    · subst he; simp only [List.length_nil, Int.natCast_zero, ↓reduceIte, ne_eq, not_true_eq_false, decide_false, Bool.and_false, Bool.false_and]; exact off
    · have c0 : ¬ (ws.length : Int) = 0 := by
        have := List.length_pos_iff.2 he
        omega
      simp only [c0, ↓reduceIte, he, ne_eq, not_false_eq_true, decide_true, Bool.true_and]
      refine Ev.bind (impl_areSets.ev ws n (by omega) (fun s hs => by have := hx s hs; omega) hn'.1 hn'.2) ?_
      cases hs : ws.all (setG n) with
      | false => simp only [Bool.not_false, Bool.false_and]; exact off
      | true =>
        simp only [Bool.not_true, Bool.true_and]
        refine Ev.shift ?_
        simp only [impl_IsGame.j0, Bool.false_eq_true, ↓reduceIte]
        have hset : ∀ i, i < ws.length → isSetN (ws.getD i []) n = true := fun i hi => by
          rw [List.all_eq_true] at hs
          have := hs _ (getD_mem ws [] i hi)
          simp only [setG, Bool.and_eq_true] at this
          exact this.2
        obtain ⟨m, rfl⟩ : ∃ m : Nat, n = (m : Int) := ⟨n.toNat, by omega⟩
        have hb9 : ∀ i, i < ws.length → mk ws i < 2 ^ 9 := fun i hi => Nat.lt_of_lt_of_le (setG_mask (hset i hi)) (pow_small (by omega))
        have hM : ws.length ≤ 9223372036854775807 := by omega
        have hmo : ∀ i, i < ws.length → Ev (fun k => impl_maskOf.f k (ws.getD i [])) ((mk ws i : Nat) : Int) := fun i hi =>
          impl_maskOf.ev _ (hx _ (getD_mem ws [] i hi)) (set62' hn'.2 (hset i hi))
        rw [← holds_iff]
        have key := Ev.down (G := fun i k => impl_IsGame.l0 k ws (ws.length : Int) (i : Int) (m : Int) ws) (R := fun i => allF (fun i => risesAt ws i && allF (fun k => k == i || !decide (mk ws i &&& mk ws k = mk ws k)) ws.length 0) ws.length i) ws.length
          (by refine Ev.shift ?_
              simp only [impl_IsGame.l0, Int.lt_irrefl, ↓reduceIte, allF_end]
              exact Ev.some)
          (fun i hi ih => by
            have inner := Ev.down (G := fun j k => impl_IsGame.l1 k (i : Int) (ws.getD i []) ws (ws.length : Int) (i : Int) ws (ws.length : Int) (j : Int) (m : Int) ws) (R := fun j => allF (fun k => k == i || !decide (mk ws i &&& mk ws k = mk ws k)) ws.length j && allF (fun i => risesAt ws i && allF (fun k => k == i || !decide (mk ws i &&& mk ws k = mk ws k)) ws.length 0) ws.length (i + 1)) ws.length
              (by refine Ev.shift ?_
                  simp only [impl_IsGame.l1, Int.lt_irrefl, ↓reduceIte, allF_end, Bool.true_and, w1 hi hM]
                  exact ih)
              (fun j hj ihj => by
                refine Ev.shift ?_
                have c1 : (j : Int) < (ws.length : Int) := by omega
                have c0 : (0 : Int) ≤ (j : Int) := by omega
                rw [allF_step _ _ _ hj]
                simp only [impl_IsGame.l1, c1, c0, ↓reduceIte, rd_LI_nat, w1 hj hM, cast_eqN]
                by_cases hji : j = i
                · have hb : (j == i) = true := by simp [hji]
                  simp only [hb, Bool.true_or, Bool.true_and]
                  exact Ev.ite_pos hji ihj
                · have hb : (j == i) = false := by simp [hji]
                  simp only [hji, ↓reduceIte, hb, Bool.false_or]
                  refine Ev.bind (hmo i hi) (Ev.bind (hmo j hj) (Ev.bind (hmo j hj) ?_))
                  simp only [and_eqB _ _ (hb9 i hi) (hb9 j hj), cast_eqN]
                  by_cases ha : mk ws i &&& mk ws j = mk ws j
                  · simp only [ha, ↓reduceIte, decide_true, Bool.not_true, Bool.false_and]
                    exact Ev.some
                  · simp only [ha, ↓reduceIte, decide_false, Bool.not_false, Bool.true_and]
                    exact ihj)
            have j2 : ∀ b : Bool, Ev (fun k => impl_IsGame.j2 k (i : Int) (ws.getD i []) ws (ws.length : Int) (i : Int) (!b) (m : Int) ws) ((b && allF (fun k => k == i || !decide (mk ws i &&& mk ws k = mk ws k)) ws.length 0) && allF (fun i => risesAt ws i && allF (fun k => k == i || !decide (mk ws i &&& mk ws k = mk ws k)) ws.length 0) ws.length (i + 1)) := by
              intro b
              refine Ev.shift ?_
              cases b with
              | false => simp only [impl_IsGame.j2, Bool.not_false, ↓reduceIte, Bool.false_and]; exact Ev.some
              | true => simp only [impl_IsGame.j2, Bool.not_true, Bool.false_eq_true, ↓reduceIte, Bool.true_and]; exact inner 0 (Nat.zero_le _)
            refine Ev.shift ?_
            have c1 : (i : Int) < (ws.length : Int) := by omega
            have c0 : (0 : Int) ≤ (i : Int) := by omega
            rw [allF_step _ _ _ hi]
            by_cases h0 : i = 0
            · have c2 : ¬ (i : Int) > 0 := by omega
              have hr : risesAt ws i = true := by simp [risesAt, h0]
              simp only [impl_IsGame.l0, c1, c0, c2, ↓reduceIte, rd_LI_nat, hr]
              exact j2 true
            · have c2 : (i : Int) > 0 := by omega
              have c3 : (0 : Int) ≤ ((i - 1 : Nat) : Int) := by omega
              have c4 : ((i - 1 : Nat) : Int) < (ws.length : Int) := by omega
              have hb : (i == 0) = false := by simp [h0]
              have hr : risesAt ws i = !decide (lexc (ws.getD (i - 1) []) (ws.getD i []) ≥ 0) := by
                rw [risesAt, hb, Bool.false_or, ← decide_not, decide_eq_decide]; omega
              simp only [impl_IsGame.l0, c1, c0, c2, ↓reduceIte, pred_nat (show 0 < i by omega) (show i ≤ 9223372036854775807 by omega), c3, c4, rd_LI_nat]
              refine Ev.bind (slices_Compare_int_int.ev _ _ (by have := hx _ (getD_mem ws [] (i - 1) (by omega)); omega)) ?_
              have := j2 (risesAt ws i)
              rw [hr, Bool.not_not] at this
              rw [hr]
              exact this)
        exact key 0 (Nat.zero_le _)
theorem spec_gmSets.ev (n : Int) (ws : List (List Int)) (hl : ws.length ≤ 1048576) (hx : ∀ s ∈ ws, s.length ≤ 1048576) (most : Int) : Ev (fun k => spec_gmSets.f k n ws most) (inI 1 9 n && inI 1 most (ws.length : Int) && ws.all (setG n)) := by
  have off : Ev (fun k => spec_gmSets.j0 k n ws true) false := by
    refine Ev.shift ?_
    simp only [spec_gmSets.j0, ↓reduceIte]
    exact Ev.some
  have hM : ws.length ≤ 9223372036854775807 := by omega
  unfold spec_gmSets.f
  refine Ev.bind (Ev.one (spec_l1In.eq n 1 9)) ?_
  cases hn : inI 1 9 n with
  | false => simp only [Bool.false_eq_true, ↓reduceIte, Bool.false_and]; exact off
  | true =>
    have hn' : 1 ≤ n ∧ n ≤ 9 := by simpa only [inI, Bool.and_eq_true, decide_eq_true_eq] using hn
    simp only [↓reduceIte, Bool.true_and]
    refine Ev.bind (Ev.one (spec_l1In.eq _ 1 most)) ?_
    cases inI 1 most (ws.length : Int) with
    | false => simp only [Bool.not_false, Bool.false_and]; exact off
    | true =>
      simp only [Bool.not_true, Bool.true_and]
      refine Ev.shift ?_
      simp only [spec_gmSets.j0, Bool.false_eq_true, ↓reduceIte]
      have key := Ev.down (G := fun i k => spec_gmSets.l0 k n ws (ws.length : Int) (i : Int)) (R := fun i => (ws.drop i).all (setG n)) ws.length
        (by refine Ev.shift ?_
            simp only [spec_gmSets.l0, Int.lt_irrefl, ↓reduceIte, List.drop_length, List.all_nil]
            exact Ev.some)
        (fun i hi ih => by
          refine Ev.shift ?_
          have c1 : (i : Int) < (ws.length : Int) := by omega
          have c0 : (0 : Int) ≤ (i : Int) := by omega
          have hxi := hx _ (getD_mem ws [] i hi)
          rw [drop_getD ws [] i hi, List.all_cons]
          simp only [spec_gmSets.l0, c1, c0, ↓reduceIte, rd_LI_nat, len_ne, w1 hi hM]
          generalize ws.getD i [] = s at hxi ⊢
          by_cases he : s = []
          · subst he; simp only [↓reduceIte]; exact Ev.eq Ev.some rfl
          · simp only [he, ↓reduceIte, setG, ne_eq, not_false_eq_true, decide_true, Bool.true_and]
            refine Ev.bind (spec_voSet.ev s n (by omega) (by omega) (by omega)) ?_
            cases isSetN s n with
            | false => exact Ev.some
            | true => simp only [↓reduceIte, Bool.true_and]; exact ih)
      exact key 0 (Nat.zero_le _)
theorem take_getD_lt {α : Type} (l : List α) (d : α) (i j : Nat) (h : j < i) : (l.take i).getD j d = l.getD j d := by
  rw [List.getD_eq_getElem?_getD, List.getD_eq_getElem?_getD, List.getElem?_take, if_pos h]
theorem spec_gmGood.ev (n : Int) (ws : List (List Int)) (hl : ws.length ≤ 1048576) (hx : ∀ s ∈ ws, s.length ≤ 1048576) : Ev (fun k => spec_gmGood.f k n ws) (isGame n ws) := by
  have hM : ws.length ≤ 9223372036854775807 := by omega
  have e : isGame n ws = ((inI 1 9 n && inI 1 126 (ws.length : Int) && ws.all (setG n)) && allF (fun i => risesAt ws i && freeAt ws i) ws.length 0) := by
    rw [Bool.eq_iff_iff]
    constructor
    · intro h
      have hf := isGame_few h
      have h' := h
      simp only [isGame, Bool.and_eq_true, decide_eq_true_eq] at h'
      have hp := List.length_pos_iff.2 h'.1.1.2
      have : inI 1 126 (ws.length : Int) = true := by simp only [inI, Bool.and_eq_true, decide_eq_true_eq]; omega
      simp only [Bool.and_eq_true, this, and_true]
      exact ⟨⟨h'.1.1.1, h'.1.2⟩, h'.2⟩
    · intro h
      simp only [Bool.and_eq_true] at h
      have hp : ws ≠ [] := by
        have h2 := h.1.1.2
        simp only [inI, Bool.and_eq_true, decide_eq_true_eq] at h2
        intro e; subst e; simp at h2
      simp only [isGame, Bool.and_eq_true, decide_eq_true_eq]
      exact ⟨⟨⟨h.1.1.1, hp⟩, h.1.2⟩, h.2⟩
  rw [e]
  unfold spec_gmGood.f
  refine Ev.bind (spec_gmSets.ev n ws hl hx 126) ?_
  cases hg : inI 1 9 n && inI 1 126 (ws.length : Int) && ws.all (setG n) with
  | false => exact Ev.some
  | true =>
    simp only [Bool.and_eq_true] at hg
    have hn' : 1 ≤ n ∧ n ≤ 9 := by simpa only [inI, Bool.and_eq_true, decide_eq_true_eq] using hg.1.1
    have hset : ∀ i, i < ws.length → isSetN (ws.getD i []) n = true := fun i hi => by
      have hs := hg.2
      rw [List.all_eq_true] at hs
      have := hs _ (getD_mem ws [] i hi)
      simp only [setG, Bool.and_eq_true] at this
      exact this.2
    obtain ⟨m, rfl⟩ : ∃ m : Nat, n = (m : Int) := ⟨n.toNat, by omega⟩
    have hb9 : ∀ i, i < ws.length → mk ws i < 2 ^ 9 := fun i hi => Nat.lt_of_lt_of_le (setG_mask (hset i hi)) (pow_small (by omega))
    have hmo : ∀ i, i < ws.length → Ev (fun k => spec_voBits.f k (ws.getD i [])) ((mk ws i : Nat) : Int) := fun i hi =>
      spec_voBits.ev _ (hx _ (getD_mem ws [] i hi)) (set62' hn'.2 (hset i hi))
    simp only [↓reduceIte, Bool.true_and]
    have key := Ev.down (G := fun i k => spec_gmGood.l0 k ws (ws.length : Int) (i : Int) (m : Int) ws) (R := fun i => allF (fun i => risesAt ws i && freeAt ws i) ws.length i) ws.length
      (by refine Ev.shift ?_
          simp only [spec_gmGood.l0, Int.lt_irrefl, ↓reduceIte, allF_end]
          exact Ev.some)
      (fun i hi ih => by
        have etl : (ws.take i).length = i := by rw [List.length_take]; omega
        have inner := Ev.down (G := fun j k => spec_gmGood.l1 k ((mk ws i : Nat) : Int) ws (ws.length : Int) (i : Int) (ws.take i) ((ws.take i).length : Int) (j : Int) (m : Int) ws) (R := fun j => allF (fun k => apartB (mk ws i) (mk ws k)) i j && allF (fun i => risesAt ws i && freeAt ws i) ws.length (i + 1)) i
          (by refine Ev.shift ?_
              simp only [spec_gmGood.l1, etl, Int.lt_irrefl, ↓reduceIte, allF_end, Bool.true_and, w1 hi hM]
              exact ih)
          (fun j hj ihj => by
            refine Ev.shift ?_
            have c1 : (j : Int) < ((ws.take i).length : Int) := by omega
            have c0 : (0 : Int) ≤ (j : Int) := by omega
            have hj' : j < ws.length := by omega
            rw [allF_step _ _ _ hj]
            simp only [spec_gmGood.l1, c1, c0, ↓reduceIte, rd_LI_nat, take_getD_lt ws [] i j hj, w1 hj (show i ≤ 9223372036854775807 by omega)]
            refine Ev.bind (hmo j hj') ?_
            simp only [and_eqB _ _ (hb9 i hi) (hb9 j hj'), cast_eqN]
            by_cases h1 : mk ws i &&& mk ws j = mk ws i
            · simp only [h1, ↓reduceIte, apartB, decide_true, Bool.not_true, Bool.false_and]
              exact Ev.some
            · by_cases h2 : mk ws i &&& mk ws j = mk ws j
              · refine Ev.ite_neg h1 (Ev.ite_pos h2 ?_)
                simp only [apartB, h2, decide_true, Bool.not_true, Bool.and_false, Bool.false_and]
                exact Ev.some
              · simp only [h1, h2, ↓reduceIte, apartB, decide_false, Bool.not_false, Bool.true_and]
                exact ihj)
        have j1 : ∀ b : Bool, Ev (fun k => spec_gmGood.j1 k (i : Int) (ws.getD i []) ws (ws.length : Int) (i : Int) (!b) (m : Int) ws) ((b && freeAt ws i) && allF (fun i => risesAt ws i && freeAt ws i) ws.length (i + 1)) := by
          intro b
          refine Ev.shift ?_
          cases b with
          | false => simp only [spec_gmGood.j1, Bool.not_false, ↓reduceIte, Bool.false_and]; exact Ev.some
          | true =>
            have c0 : (0 : Int) ≤ (i : Int) := by omega
            have c1 : (i : Int) ≤ (ws.length : Int) := by omega
            simp only [spec_gmGood.j1, Bool.not_true, Bool.false_eq_true, ↓reduceIte, Bool.true_and, c0, c1, Int.toNat_natCast]
            refine Ev.bind (hmo i hi) ?_
            refine Ev.bind (Ev.one rfl) ?_
            exact inner 0 (Nat.zero_le _)
        refine Ev.shift ?_
        have c1 : (i : Int) < (ws.length : Int) := by omega
        have c0 : (0 : Int) ≤ (i : Int) := by omega
        rw [allF_step _ _ _ hi]
        by_cases h0 : i = 0
        · have c2 : ¬ (i : Int) > 0 := by omega
          have hr : risesAt ws i = true := by simp [risesAt, h0]
          simp only [spec_gmGood.l0, c1, c0, c2, ↓reduceIte, rd_LI_nat, hr]
          exact j1 true
        · have c2 : (i : Int) > 0 := by omega
          have c3 : (0 : Int) ≤ ((i - 1 : Nat) : Int) := by omega
          have c4 : ((i - 1 : Nat) : Int) < (ws.length : Int) := by omega
          have hb : (i == 0) = false := by simp [h0]
          have hr : risesAt ws i = decide (lexc (ws.getD (i - 1) []) (ws.getD i []) < 0) := by rw [risesAt, hb, Bool.false_or]
          simp only [spec_gmGood.l0, c1, c0, c2, ↓reduceIte, pred_nat (show 0 < i by omega) (show i ≤ 9223372036854775807 by omega), c3, c4, rd_LI_nat]
          refine Ev.bind (spec_voBefore.ev _ _ (by have := hx _ (getD_mem ws [] (i - 1) (by omega)); omega)) ?_
          have := j1 (risesAt ws i)
          rw [hr] at this
          rw [hr]
          exact this)
    exact key 0 (Nat.zero_le _)
end Go.Proofs.Ythkbaolpiigioaa.P

/- What is told of each set, by a function. -/
namespace Go.Proofs.Ythkbaolpiigioaa.P
open Go.RowKit Go.Proofs.YthkbaolpiigioaaW.PrintWords Go.Proofs.YthkbaolpiigioaaW.PrintLast Go.Proofs.YthkbaolpiigioaaW.PrintMore
theorem impl_votesOf.ev (n : Nat) (hn : n ≤ 40) (p : Nat → Int → Option Bool) (P : Nat → Bool) (h : ∀ b : Nat, b < 2 ^ n → Ev (fun k => p k (b : Int)) (P b)) : Ev (fun k => impl_votesOf.f k (n : Int) (p k)) ((n : Int), tab n P) := by
  obtain ⟨K, hK⟩ := Ev.all (p := fun k (b : Nat) => p k (b : Int)) (P := P) (List.range (2 ^ n)) (fun b hb => h b (List.mem_range.1 hb))
  have hpos := Nat.two_pow_pos n
  refine ⟨K + 2 ^ n + 1, fun k hk => ?_⟩
  have hq := hK k (by omega)
  show impl_votesOf.f k (n : Int) (p k) = _
  generalize p k = q at hq ⊢
  have hq : ∀ b : Nat, b < 2 ^ n → q (b : Int) = some (P b) := fun b hb => hq b (List.mem_range.2 hb)
  have h40 : 2 ^ n ≤ 1099511627776 := pow_small hn
  have hle : (2 ^ n : Nat) ≤ 281474976710656 := by omega
  have c0 : (0 : Int) ≤ (n : Int) := by omega
  have c1 : (0 : Int) ≤ ((2 ^ n : Nat) : Int) := by omega
  have hl := tab_len n P
  unfold impl_votesOf.f
  simp only [c0, ↓reduceIte, shl_one n (by omega), c1, Int.toNat_natCast, hle, Option.bind_some, List.length_replicate]
  have := downq (G := fun i k => impl_votesOf.l0 k q ((2 ^ n : Nat) : Int) (i : Int) (n : Int) (filled (tab n P) false i)) (R := fun _ => ((n : Int), tab n P)) (2 ^ n)
    (by intro k
        have : filled (tab n P) false (2 ^ n) = tab n P := by rw [← hl]; exact filled_all _ _
        simp only [impl_votesOf.l0, Int.lt_irrefl, ↓reduceIte, this])
    (fun i hi k ih => by
        have c1 : (i : Int) < ((2 ^ n : Nat) : Int) := by omega
        have c0 : (0 : Int) ≤ (i : Int) := by omega
        have c2 : (i : Int) < ((filled (tab n P) false i).length : Int) := by rw [filled_len _ _ _ (by omega)]; omega
        have hs := filled_set (tab n P) false false i (by omega)
        rw [tab_get n P i hi] at hs
        simp only [impl_votesOf.l0, c1, c0, c2, ↓reduceIte, hq i hi, Option.bind_some, w1 hi (show 2 ^ n ≤ 9223372036854775807 by omega), Int.toNat_natCast, hs]
        exact ih) 0 (Nat.zero_le _) k (by omega)
  rw [filled_zero, hl] at this
  exact this
end Go.Proofs.Ythkbaolpiigioaa.P

/- All members, by bits. -/
namespace Go.Proofs.Ythkbaolpiigioaa.P
open Go.RowKit Go.Proofs.YthkbaolpiigioaaW.PrintWords Go.Proofs.YthkbaolpiigioaaW.PrintLast Go.Proofs.YthkbaolpiigioaaW.PrintMore
theorem spec_voAll.eq (n : Nat) (hn : n < 63) : spec_voAll.f (n : Int) = some ((2 ^ n - 1 : Nat) : Int) := by
  have c0 : (0 : Int) ≤ (n : Int) := by omega
  have h1 := pow63 hn
  have h2 : 0 < 2 ^ n := Nat.two_pow_pos n
  unfold spec_voAll.f
  rw [if_pos c0, shl_one n hn, w64 (by omega) (by omega)]
  congr 1
  omega
end Go.Proofs.Ythkbaolpiigioaa.P

/- What sets win in a game. -/
namespace Go.Proofs.Ythkbaolpiigioaa.P
open Go.RowKit Go.Proofs.YthkbaolpiigioaaW.PrintWords Go.Proofs.YthkbaolpiigioaaW.PrintLast Go.Proofs.YthkbaolpiigioaaW.PrintMore
def hasSub (b : Nat) (s : List Int) : Bool := decide (b &&& bitsOf s = bitsOf s)
def gwin (ws : List (List Int)) (b : Nat) : Bool := ws.any (hasSub b)
theorem beq_nat (a b : Nat) : (((a : Nat) : Int) == ((b : Nat) : Int)) = decide (a = b) := by
  rw [Bool.eq_iff_iff]; simp only [beq_iff_eq, decide_eq_true_eq]; exact Int.ofNat_inj
theorem impl_votesBy.ev (n : Nat) (ws : List (List Int)) (hn : n ≤ 9) (hl : ws.length ≤ 1048576) (hx : ∀ s ∈ ws, s.length ≤ 1048576) (hs : ∀ s ∈ ws, isSetN s n = true) :
    Ev (fun k => impl_votesBy.f k (n : Int) ws) ((n : Int), tab n (gwin ws)) := by
  have hM : ws.length ≤ 9223372036854775807 := by omega
  have hb9 : ∀ s ∈ ws, bitsOf s < 2 ^ 9 := fun s h => Nat.lt_of_lt_of_le (setG_mask (hs s h)) (pow_small hn)
  have key := Ev.down (G := fun i k => impl_votesBy.l0 k (n : Int) ws (ws.length : Int) (i : Int) ((ws.take i).map fun s => ((bitsOf s : Nat) : Int))) (R := fun _ => ((n : Int), tab n (gwin ws))) ws.length
    (by refine Ev.shift ?_
        simp only [impl_votesBy.l0, Int.lt_irrefl, ↓reduceIte, List.take_length]
        refine Ev.bind (impl_votesOf.ev n (by omega) (fun k y => impl_votesBy_1.f k y (ws.map fun s => ((bitsOf s : Nat) : Int))) (gwin ws) (fun b hb => ?_)) Ev.some
        have hb9' : b < 2 ^ 9 := Nat.lt_of_lt_of_le hb (pow_small hn)
        unfold impl_votesBy_1.f
        refine Ev.bind (slices_ContainsFunc_int_int.ev (ws.map fun s => ((bitsOf s : Nat) : Int)) (by rw [List.length_map]; omega) (fun _ x => impl_votesBy_1_1.f x (b : Int)) (fun x => decide (b &&& x.toNat = x.toNat)) (fun x hx => ?_)) ?_
        · obtain ⟨s, hsm, rfl⟩ := List.mem_map.1 hx
          simp only [impl_votesBy_1_1.f, and_eqB b (bitsOf s) hb9' (hb9 s hsm), beq_nat, Int.toNat_natCast]
          exact Ev.some
        · refine Ev.eq Ev.some ?_
          rw [List.any_map]
          rfl)
    (fun i hi ih => by
        refine Ev.shift ?_
        have c1 : (i : Int) < (ws.length : Int) := by omega
        have c0 : (0 : Int) ≤ (i : Int) := by omega
        have c2 : ((ws.take i).map fun s => ((bitsOf s : Nat) : Int)).length < 17592186044416 := by rw [List.length_map, List.length_take]; omega
        have hm := getD_mem ws [] i hi
        rw [take_getD ws [] i hi, List.map_append] at ih
        simp only [impl_votesBy.l0, c1, c0, ↓reduceIte, rd_LI_nat, w1 hi hM]
        refine Ev.bind (impl_maskOf.ev _ (hx _ hm) (set62' (by omega) (hs _ hm))) ?_
        simp only [c2, ↓reduceIte]
        exact ih)
  exact key 0 (Nat.zero_le _)
theorem impl_Game_votes.ev (n : Nat) (ws : List (List Int)) (hn : n ≤ 9) (hl : ws.length ≤ 1048576) (hx : ∀ s ∈ ws, s.length ≤ 1048576) (hs : ∀ s ∈ ws, isSetN s n = true) :
    Ev (fun k => impl_Game_votes.f k (n : Int) ws) ((n : Int), tab n (gwin ws)) := by
  unfold impl_Game_votes.f
  exact Ev.bind (impl_votesBy.ev n ws hn hl hx hs) Ev.some
theorem set_same {α : Type} (l : List α) (d v : α) (i : Nat) (hi : i < l.length) (h : l.getD i d = v) : l.set i v = l := by
  apply List.ext_getElem?
  intro j
  rw [List.getElem?_set]
  split
  · rename_i e; subst e
    rw [← h, List.getD_eq_getElem?_getD, List.getElem?_eq_getElem hi]
    first | rfl | simp
  · rfl
theorem filled_at {α : Type} (l : List α) (z d : α) (i : Nat) (h : i < l.length) : (filled l z i).getD i d = z := by
  unfold filled
  rw [List.getD_eq_getElem?_getD, List.getElem?_append_right (by rw [List.length_take]; omega), List.getElem?_replicate, if_pos (by rw [List.length_take]; omega)]; rfl
theorem set_at {α : Type} (l : List α) (d v : α) (i : Nat) (h : i < l.length) : (l.set i v).getD i d = v := by
  rw [List.getD_eq_getElem?_getD, List.getElem?_set_self h]; rfl
theorem spec_gmWins.inner (ws : List (List Int)) (hl : ws.length ≤ 1048576) (hx : ∀ s ∈ ws, s.length ≤ 1048576) (hs : ∀ s ∈ ws, ∀ x ∈ s, 0 ≤ x ∧ x < 62) (hb9 : ∀ s ∈ ws, bitsOf s < 2 ^ 9)
    (m : Nat) (row : List Bool) (N : Int) (res : List Bool) (hm : m < row.length) (hm9 : m < 2 ^ 9) (h0 : row.getD m false = false) (hcont : Ev (fun k => spec_gmWins.l0 k ws (row.set m (gwin ws m)) N (wrap64 ((m : Int) + 1))) res) :
    Ev (fun k => spec_gmWins.l1 k ws row (m : Int) N (m : Int) ws (ws.length : Int) 0) res := by
  have hM : ws.length ≤ 9223372036854775807 := by omega
  have key := back (P := fun j => Ev (fun k => spec_gmWins.l1 k ws (row.set m ((ws.take j).any (hasSub m))) (m : Int) N (m : Int) ws (ws.length : Int) (j : Int)) res) ws.length
    (by refine Ev.shift ?_
        simp only [spec_gmWins.l1, Int.lt_irrefl, ↓reduceIte, List.take_length]
        exact hcont)
    (by intro j hj ih
        refine Ev.shift ?_
        have c1 : (j : Int) < (ws.length : Int) := by omega
        have c0 : (0 : Int) ≤ (j : Int) := by omega
        have d0 : (0 : Int) ≤ (m : Int) := by omega
        have d1 : (m : Int) < ((row.set m ((ws.take j).any (hasSub m))).length : Int) := by rw [List.length_set]; omega
        have hmem := getD_mem ws [] j hj
        have eg := set_at row false ((ws.take j).any (hasSub m)) m hm
        have es : ∀ v, (row.set m ((ws.take j).any (hasSub m))).set m v = row.set m v := fun v => List.set_set ..
        have en : (ws.take (j + 1)).any (hasSub m) = ((ws.take j).any (hasSub m) || hasSub m (ws.getD j [])) := by rw [take_getD ws [] j hj, List.any_append, List.any_cons, List.any_nil, Bool.or_false]
        rw [en] at ih
        simp only [spec_gmWins.l1, c1, c0, ↓reduceIte, rd_LI_nat, w1 hj hM]
        refine Ev.bind (spec_voBits.ev _ (hx _ hmem) (hs _ hmem)) ?_
        simp only [d0, d1, ↓reduceIte, rdB_nat, eg, es, Int.toNat_natCast, and_eqB m _ hm9 (hb9 _ hmem), beq_nat]
        cases hacc : (ws.take j).any (hasSub m) with
        | true =>
          rw [hacc, Bool.true_or] at ih
          simp only [↓reduceIte]
          exact ih
        | false =>
          rw [hacc, Bool.false_or] at ih
          simp only [Bool.false_eq_true, ↓reduceIte]
          exact ih)
  have k0 := key 0 (Nat.zero_le _)
  rw [List.take_zero, List.any_nil, set_same row false false m hm h0] at k0
  exact k0
theorem spec_gmWins.ev (n : Nat) (ws : List (List Int)) (hn : n ≤ 9) (hl : ws.length ≤ 1048576) (hx : ∀ s ∈ ws, s.length ≤ 1048576) (hs : ∀ s ∈ ws, isSetN s n = true) :
    Ev (fun k => spec_gmWins.f k (n : Int) ws) (tab n (gwin ws)) := by
  have hb9 : ∀ s ∈ ws, bitsOf s < 2 ^ 9 := fun s h => Nat.lt_of_lt_of_le (setG_mask (hs s h)) (pow_small hn)
  have hvo := spec_voAll.eq n (by omega)
  have hp9 : 2 ^ n ≤ 512 := pow_small (m := 9) hn
  have hpos := Nat.two_pow_pos n
  have tl := tab_len n (gwin ws)
  have tg := tab_get n (gwin ws)
  unfold spec_gmWins.f
  refine Ev.bind (Ev.one hvo) ?_
  generalize tab n (gwin ws) = t at tl tg ⊢
  generalize 2 ^ n = p at hp9 hpos tl tg
  have e1 : wrap64 (((p - 1 : Nat) : Int) + 1) = (p : Int) := by rw [w64 (by omega) (by omega)]; omega
  have c0 : (0 : Int) ≤ (p : Int) := Int.natCast_nonneg p
  have c1 : p ≤ 281474976710656 := by omega
  simp only [e1, c0, ↓reduceIte, Int.toNat_natCast, c1]
  refine Ev.bind (Ev.one rfl) ?_
  simp only [List.length_replicate]
  have key := Ev.down (G := fun m k => spec_gmWins.l0 k ws (filled t false m) (p : Int) (m : Int)) (R := fun _ => t) p
    (by refine Ev.shift ?_
        have : filled t false p = t := by rw [← tl]; exact filled_all _ _
        simp only [spec_gmWins.l0, Int.lt_irrefl, ↓reduceIte, this]
        exact Ev.some)
    (fun m hm ih => by
      have hfl := filled_len t false m (by omega)
      have hsf := filled_set t false false m (by omega)
      rw [tg m hm] at hsf
      rw [← hsf] at ih
      refine Ev.shift ?_
      have d1 : (m : Int) < (p : Int) := Int.ofNat_lt.2 hm
      simp only [spec_gmWins.l0, d1, ↓reduceIte]
      exact spec_gmWins.inner ws hl hx (fun s h => set62' (by omega) (hs s h)) hb9 m (filled t false m) (p : Int) t (by omega) (by omega) (filled_at t false false m (by omega)) (by rw [w1 hm (show p ≤ 9223372036854775807 by omega)]; exact ih))
  have := key 0 (Nat.zero_le _)
  rw [filled_zero, tl] at this
  exact this
theorem spec_gmAll.ev (n : Nat) (ws : List (List Int)) (hn : n ≤ 9) (hl : ws.length ≤ 1048576) (hx : ∀ s ∈ ws, s.length ≤ 1048576) (hs : ∀ s ∈ ws, isSetN s n = true) :
    Ev (fun k => spec_gmAll.f k (n : Int) ws) (tab n (gwin ws)) := by
  unfold spec_gmAll.f
  exact Ev.bind (spec_gmWins.ev n ws hn hl hx hs) Ev.some
end Go.Proofs.Ythkbaolpiigioaa.P

/- A member of a set, by bits. -/
namespace Go.Proofs.Ythkbaolpiigioaa.P
open Go.RowKit Go.Proofs.YthkbaolpiigioaaW.PrintWords Go.Proofs.YthkbaolpiigioaaW.PrintLast Go.Proofs.YthkbaolpiigioaaW.PrintMore
theorem impl_has.eq (b i : Nat) (hi : i ≤ 64) (hb : b < 2 ^ 63) : impl_has.f (b : Int) (i : Int) = some (b.testBit i) := by
  have c : (0 : Int) ≤ (i : Int) := by omega
  have hd : b / 2 ^ i < 2 ^ 63 := Nat.lt_of_le_of_lt (Nat.div_le_self _ _) hb
  unfold impl_has.f
  rw [if_pos c, shr_nat b i hi, and_one _ hd, bit_nat]
  congr 1
  rcases Nat.mod_two_eq_zero_or_one (b / 2 ^ i) with h | h <;> rw [h] <;> rfl
end Go.Proofs.Ythkbaolpiigioaa.P

/- What member is worth another one. -/
namespace Go.Proofs.Ythkbaolpiigioaa.P
open Go.RowKit Go.Proofs.YthkbaolpiigioaaW.PrintWords Go.Proofs.YthkbaolpiigioaaW.PrintLast Go.Proofs.YthkbaolpiigioaaW.PrintMore
def worthAt (w : List Bool) (i j m : Nat) : Bool := m.testBit i || (m.testBit j || (!w.getD (m + 2 ^ j) false || w.getD (m + 2 ^ i) false))
def worth (w : List Bool) (i j : Nat) : Bool := allF (worthAt w i j) w.length 0
theorem impl_votes_isWorth.ev (n : Nat) (w : List Bool) (i j : Nat) (hw : w.length = 2 ^ n) (hn : n ≤ 40) (hi : i < n) (hj : j < n) : Ev (fun k => impl_votes_isWorth.f k (n : Int) w (i : Int) (j : Int)) (worth w i j) := by
  have h40 : 2 ^ n ≤ 1099511627776 := pow_small hn
  have c0 : (0 : Int) ≤ (i : Int) := by omega
  have c1 : (0 : Int) ≤ (j : Int) := by omega
  have hpi : 2 ^ i < 2 ^ 63 := Nat.pow_lt_pow_right (by omega) (by omega)
  have hpj : 2 ^ j < 2 ^ 63 := Nat.pow_lt_pow_right (by omega) (by omega)
  have hM : w.length ≤ 9223372036854775807 := by omega
  unfold impl_votes_isWorth.f worth
  have key := Ev.down (G := fun m k => impl_votes_isWorth.l0 k (i : Int) (j : Int) (w.length : Int) (m : Int) (n : Int) w) (R := fun m => allF (worthAt w i j) w.length m) w.length
    (by refine Ev.shift ?_
        simp only [impl_votes_isWorth.l0, Int.lt_irrefl, ↓reduceIte, allF_end]
        exact Ev.some)
    (fun m hm ih => by
      have hm2 : m < 2 ^ n := by omega
      refine Ev.shift ?_
      have d1 : (m : Int) < (w.length : Int) := by omega
      rw [allF_step _ _ _ hm]
      simp only [impl_votes_isWorth.l0, d1, ↓reduceIte, w1 hm hM]
      refine Ev.bind (Ev.one (impl_has.eq m i (by omega) (by omega))) ?_
      unfold worthAt
      cases hbi : m.testBit i with
      | true => simp only [↓reduceIte, Bool.true_or, Bool.true_and]; exact ih
      | false =>
        simp only [Bool.false_eq_true, ↓reduceIte, Bool.false_or]
        refine Ev.bind (Ev.one (impl_has.eq m j (by omega) (by omega))) ?_
        cases hbj : m.testBit j with
        | true => simp only [↓reduceIte, Bool.true_or, Bool.true_and]; exact ih
        | false =>
          have ei : Go.bits .or .i64 (m : Int) (shl .i64 1 (i : Int)) = ((m + 2 ^ i : Nat) : Int) := by rw [shl_one i (by omega), or_nat m (2 ^ i) (by omega) hpi, or_pow hbi]
          have ej : Go.bits .or .i64 (m : Int) (shl .i64 1 (j : Int)) = ((m + 2 ^ j : Nat) : Int) := by rw [shl_one j (by omega), or_nat m (2 ^ j) (by omega) hpj, or_pow hbj]
          have li := with_lt hm2 hi hbi
          have lj := with_lt hm2 hj hbj
          have f1 : (0 : Int) ≤ ((m + 2 ^ i : Nat) : Int) := Int.natCast_nonneg _
          have f2 : ((m + 2 ^ i : Nat) : Int) < (w.length : Int) := by rw [hw]; exact Int.ofNat_lt.2 li
          have g1 : (0 : Int) ≤ ((m + 2 ^ j : Nat) : Int) := Int.natCast_nonneg _
          have g2 : ((m + 2 ^ j : Nat) : Int) < (w.length : Int) := by rw [hw]; exact Int.ofNat_lt.2 lj
          simp only [Bool.false_eq_true, ↓reduceIte, Bool.false_or, c0, c1, ei, ej, f1, f2, g1, g2, rdB_nat]
          cases w.getD (m + 2 ^ j) false with
          | false => simp only [Bool.false_eq_true, ↓reduceIte, Bool.not_false, Bool.true_or, Bool.true_and]; exact ih
          | true =>
            cases w.getD (m + 2 ^ i) false with
            | true => simp only [↓reduceIte, Bool.or_true, Bool.true_and]; exact ih
            | false => simp only [↓reduceIte, Bool.false_eq_true, Bool.not_true, Bool.or_self, Bool.false_and]; exact Ev.some)
  exact key 0 (Nat.zero_le _)
theorem w_addN (a b : Nat) (h : a + b ≤ 9223372036854775807) : wrap64 ((a : Int) + (b : Int)) = ((a + b : Nat) : Int) := by rw [w64 (by omega) (by omega)]; omega
theorem tmod_bit (m i : Nat) (hi : i ≤ 64) : (Int.tmod (shr .i64 (m : Int) (i : Int)) 2 = 0) = (m.testBit i = false) := by
  rw [shr_nat m i hi, tmod_two, bit_nat, eq_iff_iff, decide_eq_false_iff_not]
  omega
theorem spec_deWorth.ev (n : Nat) (w : List Bool) (i j : Nat) (hw : w.length = 2 ^ n) (hn : n ≤ 40) (hi : i < n) (hj : j < n) : Ev (fun k => spec_deWorth.f k w (i : Int) (j : Int)) (worth w i j) := by
  have h40 : 2 ^ n ≤ 1099511627776 := pow_small hn
  have c0 : (0 : Int) ≤ (i : Int) := by omega
  have c1 : (0 : Int) ≤ (j : Int) := by omega
  have hM : w.length ≤ 9223372036854775807 := by omega
  unfold spec_deWorth.f worth
  have key := Ev.down (G := fun m k => spec_deWorth.l0 k w (i : Int) (j : Int) (w.length : Int) (m : Int)) (R := fun m => allF (worthAt w i j) w.length m) w.length
    (by refine Ev.shift ?_
        simp only [spec_deWorth.l0, Int.lt_irrefl, ↓reduceIte, allF_end]
        exact Ev.some)
    (fun m hm ih => by
      have hm2 : m < 2 ^ n := by omega
      refine Ev.shift ?_
      have d1 : (m : Int) < (w.length : Int) := by omega
      rw [allF_step _ _ _ hm]
      simp only [spec_deWorth.l0, d1, c0, c1, ↓reduceIte, w1 hm hM, tmod_bit m i (by omega), tmod_bit m j (by omega)]
      unfold worthAt
      cases hbi : m.testBit i with
      | true => simp only [Bool.true_eq_false, ↓reduceIte, Bool.true_or, Bool.true_and]; exact ih
      | false =>
        simp only [↓reduceIte, Bool.false_or]
        cases hbj : m.testBit j with
        | true => simp only [Bool.true_eq_false, ↓reduceIte, Bool.true_or, Bool.true_and]; exact ih
        | false =>
          have li := with_lt hm2 hi hbi
          have lj := with_lt hm2 hj hbj
          have ei : wrap64 ((m : Int) + shl .i64 1 (i : Int)) = ((m + 2 ^ i : Nat) : Int) := by rw [shl_one i (by omega), w_addN _ _ (by omega)]
          have ej : wrap64 ((m : Int) + shl .i64 1 (j : Int)) = ((m + 2 ^ j : Nat) : Int) := by rw [shl_one j (by omega), w_addN _ _ (by omega)]
          have f1 : (0 : Int) ≤ ((m + 2 ^ i : Nat) : Int) := Int.natCast_nonneg _
          have f2 : ((m + 2 ^ i : Nat) : Int) < (w.length : Int) := by rw [hw]; exact Int.ofNat_lt.2 li
          have g1 : (0 : Int) ≤ ((m + 2 ^ j : Nat) : Int) := Int.natCast_nonneg _
          have g2 : ((m + 2 ^ j : Nat) : Int) < (w.length : Int) := by rw [hw]; exact Int.ofNat_lt.2 lj
          simp only [↓reduceIte, Bool.false_or, ei, ej, f1, f2, g1, g2, rdB_nat]
          cases w.getD (m + 2 ^ j) false with
          | false => simp only [Bool.false_eq_true, ↓reduceIte, Bool.not_false, Bool.true_or, Bool.true_and]; exact ih
          | true =>
            cases w.getD (m + 2 ^ i) false with
            | true => simp only [↓reduceIte, Bool.or_true, Bool.true_and]; exact ih
            | false => simp only [↓reduceIte, Bool.false_eq_true, Bool.not_true, Bool.or_self, Bool.false_and]; exact Ev.some)
  exact key 0 (Nat.zero_le _)
end Go.Proofs.Ythkbaolpiigioaa.P

/- Whether no two members are unlike. -/
namespace Go.Proofs.Ythkbaolpiigioaa.P
open Go.RowKit Go.Proofs.YthkbaolpiigioaaW.PrintWords Go.Proofs.YthkbaolpiigioaaW.PrintLast Go.Proofs.YthkbaolpiigioaaW.PrintMore
def like (w : List Bool) (i j : Nat) : Bool := worth w i j || worth w j i
def complete (w : List Bool) (n : Nat) : Bool := allF (fun i => allF (like w i) i 0) n 0
theorem impl_votes_isComplete.ev (n : Nat) (w : List Bool) (hw : w.length = 2 ^ n) (hn : n ≤ 40) : Ev (fun k => impl_votes_isComplete.f k (n : Int) w) (complete w n) := by
  have hM : n ≤ 9223372036854775807 := by omega
  unfold impl_votes_isComplete.f complete
  have key := Ev.down (G := fun i k => impl_votes_isComplete.l0 k (n : Int) (i : Int) (n : Int) w) (R := fun i => allF (fun i => allF (like w i) i 0) n i) n
    (by refine Ev.shift ?_
        simp only [impl_votes_isComplete.l0, Int.lt_irrefl, ↓reduceIte, allF_end]
        exact Ev.some)
    (fun i hi ih => by
      have inner := Ev.down (G := fun j k => impl_votes_isComplete.l1 k (i : Int) (n : Int) (i : Int) (i : Int) (j : Int) (n : Int) w) (R := fun j => allF (like w i) i j && allF (fun i => allF (like w i) i 0) n (i + 1)) i
        (by refine Ev.shift ?_
            simp only [impl_votes_isComplete.l1, Int.lt_irrefl, ↓reduceIte, allF_end, Bool.true_and, w1 hi hM]
            exact ih)
        (fun j hj ihj => by
          refine Ev.shift ?_
          have c1 : (j : Int) < (i : Int) := by omega
          rw [allF_step _ _ _ hj]
          simp only [impl_votes_isComplete.l1, c1, ↓reduceIte, w1 hj (show i ≤ 9223372036854775807 by omega)]
          refine Ev.bind (impl_votes_isWorth.ev n w i j hw hn hi (by omega)) ?_
          unfold like
          cases worth w i j with
          | true => simp only [↓reduceIte, Bool.true_or, Bool.true_and]; exact ihj
          | false =>
            simp only [Bool.false_eq_true, ↓reduceIte, Bool.false_or]
            refine Ev.bind (impl_votes_isWorth.ev n w j i hw hn (by omega) hi) ?_
            cases worth w j i with
            | true => simp only [↓reduceIte, Bool.true_and]; exact ihj
            | false => simp only [Bool.false_eq_true, ↓reduceIte, Bool.false_and]; exact Ev.some)
      refine Ev.shift ?_
      have c1 : (i : Int) < (n : Int) := by omega
      rw [allF_step _ _ _ hi]
      simp only [impl_votes_isComplete.l0, c1, ↓reduceIte]
      exact inner 0 (Nat.zero_le _))
  exact key 0 (Nat.zero_le _)
theorem spec_deUnlike.ev (n : Nat) (w : List Bool) (i j : Nat) (hw : w.length = 2 ^ n) (hn : n ≤ 40) (hi : i < n) (hj : j < n) : Ev (fun k => spec_deUnlike.f k w (i : Int) (j : Int)) (!like w i j) := by
  unfold spec_deUnlike.f like
  refine Ev.bind (spec_deWorth.ev n w i j hw hn hi hj) ?_
  cases worth w i j with
  | true => exact Ev.some
  | false =>
    simp only [Bool.false_eq_true, ↓reduceIte, Bool.false_or]
    exact Ev.bind (spec_deWorth.ev n w j i hw hn hj hi) Ev.some
theorem spec_deComplete.ev (n : Nat) (w : List Bool) (hw : w.length = 2 ^ n) (hn : n ≤ 40) : Ev (fun k => spec_deComplete.f k w (n : Int)) (complete w n) := by
  have hM : n ≤ 9223372036854775807 := by omega
  unfold spec_deComplete.f complete
  have key := Ev.down (G := fun i k => spec_deComplete.l0 k w (n : Int) (i : Int)) (R := fun i => allF (fun i => allF (like w i) i 0) n i) n
    (by refine Ev.shift ?_
        simp only [spec_deComplete.l0, Int.lt_irrefl, ↓reduceIte, allF_end]
        exact Ev.some)
    (fun i hi ih => by
      have inner := Ev.down (G := fun j k => spec_deComplete.l1 k w (n : Int) (i : Int) (j : Int)) (R := fun j => allF (like w i) i j && allF (fun i => allF (like w i) i 0) n (i + 1)) i
        (by refine Ev.shift ?_
            simp only [spec_deComplete.l1, Int.lt_irrefl, ↓reduceIte, allF_end, Bool.true_and, w1 hi hM]
            exact ih)
        (fun j hj ihj => by
          refine Ev.shift ?_
          have c1 : (j : Int) < (i : Int) := by omega
          rw [allF_step _ _ _ hj]
          simp only [spec_deComplete.l1, c1, ↓reduceIte, w1 hj (show i ≤ 9223372036854775807 by omega)]
          refine Ev.bind (spec_deUnlike.ev n w i j hw hn hi (by omega)) ?_
          cases like w i j with
          | true => simp only [Bool.not_true, Bool.false_eq_true, ↓reduceIte, Bool.true_and]; exact ihj
          | false => simp only [Bool.not_false, ↓reduceIte, Bool.false_and]; exact Ev.some)
      refine Ev.shift ?_
      have c1 : (i : Int) < (n : Int) := by omega
      rw [allF_step _ _ _ hi]
      simp only [spec_deComplete.l0, c1, ↓reduceIte]
      exact inner 0 (Nat.zero_le _))
  exact key 0 (Nat.zero_le _)
end Go.Proofs.Ythkbaolpiigioaa.P

/- Trades of two sets, by their bits: games that are not complete have one; of few members, no others. -/
namespace Go.Proofs.Ythkbaolpiigioaa.P
open Go.RowKit Go.Proofs.YthkbaolpiigioaaW.PrintWords Go.Proofs.YthkbaolpiigioaaW.PrintLast Go.Proofs.YthkbaolpiigioaaW.PrintMore
def inside (x u : Nat) : Bool := decide (u &&& x = x)
end Go.Proofs.Ythkbaolpiigioaa.P

/- How often members are in sets, as digits of a number: trades told by sums. -/
namespace Go.Proofs.Ythkbaolpiigioaa.P
open Go.RowKit Go.Proofs.YthkbaolpiigioaaW.PrintWords Go.Proofs.YthkbaolpiigioaaW.PrintLast Go.Proofs.YthkbaolpiigioaaW.PrintMore
def spN : Nat → Nat → Nat
  | 0, _ => 0
  | d + 1, b => b % 2 + 4 * spN d (b / 2)
theorem digits (d : Nat) : ∀ x y u v : Nat, spN d u + spN d v = spN d x + spN d y → ∀ i, i < d → u / 2 ^ i % 2 + v / 2 ^ i % 2 = x / 2 ^ i % 2 + y / 2 ^ i % 2 := by
  induction d with
  | zero => intro x y u v _ i hi; exact absurd hi (by omega)
  | succ d ih =>
    intro x y u v h i hi
    rw [spN, spN, spN, spN] at h
    have h2 : u % 2 + v % 2 = x % 2 + y % 2 := by omega
    have h3 : spN d (u / 2) + spN d (v / 2) = spN d (x / 2) + spN d (y / 2) := by omega
    cases i with
    | zero => rw [Nat.pow_zero, Nat.div_one, Nat.div_one, Nat.div_one, Nat.div_one]; exact h2
    | succ i =>
      have := ih _ _ _ _ h3 i (by omega)
      rw [Nat.div_div_eq_div_mul, Nat.div_div_eq_div_mul, Nat.div_div_eq_div_mul, Nat.div_div_eq_div_mul] at this
      rw [Nat.pow_succ, Nat.mul_comm (2 ^ i) 2]
      exact this
end Go.Proofs.Ythkbaolpiigioaa.P

/- The members of a set, by its bits. -/
namespace Go.Proofs.Ythkbaolpiigioaa.P
open Go.RowKit Go.Proofs.YthkbaolpiigioaaW.PrintWords Go.Proofs.YthkbaolpiigioaaW.PrintLast Go.Proofs.YthkbaolpiigioaaW.PrintMore
theorem sel_more (n d m : Nat) (h : m < 2 ^ n) : sel (n + d) m.testBit = sel n m.testBit := by
  induction d with
  | zero => rfl
  | succ d ih =>
    rw [show n + (d + 1) = (n + d) + 1 from rfl, sel_succ, ih, Nat.testBit_lt_two_pow (Nat.lt_of_lt_of_le h (Nat.pow_le_pow_right (by omega) (by omega)))]
    simp
theorem spec_voList.ev (m : Nat) (h : m < 512) : Ev (fun k => spec_voList.f k (m : Int)) (sel 9 m.testBit) := by
  unfold spec_voList.f
  have key := Ev.down (G := fun i k => spec_voList.l0 k (m : Int) (sel i m.testBit) (i : Int)) (R := fun _ => sel 9 m.testBit) 9
    (by refine Ev.shift ?_
        have c0 : (0 : Int) ≤ ((9 : Nat) : Int) := by omega
        have e : m / 2 ^ 9 = 0 := Nat.div_eq_of_lt h
        have c : ¬ (((0 : Nat) : Int) > 0) := by omega
        simp only [spec_voList.l0, c0, ↓reduceIte, shr_nat m 9 (by omega), e, c]
        exact Ev.some)
    (fun i hi ih => by
      refine Ev.shift ?_
      have c0 : (0 : Int) ≤ (i : Int) := by omega
      have c2 : (sel i m.testBit).length < 17592186044416 := by have := sel_len i m.testBit; omega
      rw [sel_succ] at ih
      simp only [spec_voList.l0, c0, ↓reduceIte, shr_nat m i (by omega), tmod_two, c2, w1 hi (by omega)]
      by_cases hz : m / 2 ^ i = 0
      · have c : ¬ (((m / 2 ^ i : Nat) : Int) > 0) := by rw [hz]; decide
        simp only [c, ↓reduceIte]
        refine Ev.eq Ev.some ?_
        have hlt : m < 2 ^ i := by
          rcases Nat.div_eq_zero_iff.1 hz with h | h
          · exact absurd h (by have := Nat.two_pow_pos i; omega)
          · exact h
        have := sel_more i (9 - i) m hlt
        rw [show i + (9 - i) = 9 by omega] at this
        exact this.symm
      · have c : (((m / 2 ^ i : Nat) : Int) > 0) := Int.natCast_pos.2 (Nat.pos_of_ne_zero hz)
        simp only [c, ↓reduceIte]
        cases hb : m.testBit i with
        | true =>
          rw [bit_nat, decide_eq_true_eq] at hb
          have c3 : ((m / 2 ^ i % 2 : Nat) : Int) = 1 := by omega
          rw [bit_nat, show decide (m / 2 ^ i % 2 = 1) = true from decide_eq_true hb, if_pos rfl] at ih
          simp only [c3, ↓reduceIte]
          exact ih
        | false =>
          rw [hb, if_neg (by decide), List.append_nil] at ih
          rw [bit_nat, decide_eq_false_iff_not] at hb
          have c3 : ¬ ((m / 2 ^ i % 2 : Nat) : Int) = 1 := by omega
          simp only [c3, ↓reduceIte]
          exact ih)
  exact key 0 (by omega)
end Go.Proofs.Ythkbaolpiigioaa.P

/- How often members are in up to three sets: told as nine numbers, and as one. -/
namespace Go.Proofs.Ythkbaolpiigioaa.P
open Go.RowKit Go.Proofs.YthkbaolpiigioaaW.PrintWords Go.Proofs.YthkbaolpiigioaaW.PrintLast Go.Proofs.YthkbaolpiigioaaW.PrintMore
def ints9 (ms : List Nat) : List Int := ms.map fun m : Nat => (m : Int)
theorem ints9_len (ms : List Nat) : (ints9 ms).length = ms.length := by simp [ints9]
theorem ints9_get (ms : List Nat) (i : Nat) : (ints9 ms).getD i 0 = ((ms.getD i 0 : Nat) : Int) := by
  simp only [ints9, List.getD_eq_getElem?_getD, List.getElem?_map]
  cases ms[i]? <;> rfl
def bitSum (a : List Nat) (i : Nat) : Nat := (a.map fun m => m / 2 ^ i % 2).sum
theorem bitSum_le (a : List Nat) (i : Nat) : bitSum a i ≤ a.length := by
  induction a with
  | nil => simp [bitSum]
  | cons m a ih =>
    have : m / 2 ^ i % 2 < 2 := Nat.mod_lt _ (by omega)
    simp only [bitSum, List.map_cons, List.sum_cons, List.length_cons] at ih ⊢
    omega
theorem bitSum_snoc (a : List Nat) (m i : Nat) : bitSum (a ++ [m]) i = bitSum a i + m / 2 ^ i % 2 := by simp [bitSum]
theorem spSum_succ (a : List Nat) (d : Nat) : (a.map (spN (d + 1))).sum = bitSum a 0 + 4 * ((a.map (· / 2)).map (spN d)).sum := by
  induction a with
  | nil => simp [bitSum]
  | cons m a ih =>
    have e : bitSum (m :: a) 0 = m % 2 + bitSum a 0 := by simp [bitSum]
    rw [List.map_cons, List.sum_cons, ih, e, List.map_cons, List.map_cons, List.sum_cons, spN]
    omega
theorem bitSum_half (a : List Nat) (i : Nat) : bitSum (a.map (· / 2)) i = bitSum a (i + 1) := by
  simp only [bitSum, List.map_map]
  congr 1
  apply List.map_congr_left
  intro m _
  simp only [Function.comp, Nat.div_div_eq_div_mul, Nat.pow_succ, Nat.mul_comm]
theorem spread_iff : ∀ (d : Nat) (a b : List Nat), a.length ≤ 3 → b.length ≤ 3 → ((a.map (spN d)).sum = (b.map (spN d)).sum ↔ ∀ i, i < d → bitSum a i = bitSum b i)
  | 0, a, b, _, _ => by
    have e : ∀ a : List Nat, (a.map (spN 0)).sum = 0 := by
      intro a
      induction a with
      | nil => rfl
      | cons m a ih => rw [List.map_cons, List.sum_cons, ih]; rfl
    rw [e, e]
    exact ⟨fun _ i h => absurd h (by omega), fun _ => rfl⟩
  | d + 1, a, b, ha, hb => by
    have ih := spread_iff d (a.map (· / 2)) (b.map (· / 2)) (by rw [List.length_map]; exact ha) (by rw [List.length_map]; exact hb)
    have h1 := bitSum_le a 0
    have h2 := bitSum_le b 0
    rw [spSum_succ, spSum_succ]
    constructor
    · intro h i hi
      have e0 : bitSum a 0 = bitSum b 0 := by omega
      have e1 : ((a.map (· / 2)).map (spN d)).sum = ((b.map (· / 2)).map (spN d)).sum := by omega
      cases i with
      | zero => exact e0
      | succ i =>
        have := ih.1 e1 i (by omega)
        rw [bitSum_half, bitSum_half] at this
        exact this
    · intro h
      have e0 := h 0 (by omega)
      have e1 := ih.2 (fun i hi => by rw [bitSum_half, bitSum_half]; exact h (i + 1) (by omega))
      omega
theorem spN_lt : ∀ (d b : Nat), spN d b < 4 ^ d
  | 0, _ => by simp [spN]
  | d + 1, b => by
    have := spN_lt d (b / 2)
    have h2 : b % 2 < 2 := Nat.mod_lt _ (by omega)
    rw [spN, Nat.pow_succ]
    omega
/-! #### the reference's one number -/
theorem wM9 {s p : Nat} {b : Nat} (hs : s ≤ 100000000) (hp : p ≤ 1000000) : wrap64 ((s : Int) + wrap64 (Int.tmod (b : Int) 2 * (p : Int))) = ((s + (b % 2) * p : Nat) : Int) := by
  rw [tmod_two]
  have h2 : b % 2 < 2 := Nat.mod_lt _ (by omega)
  rcases (show b % 2 = 0 ∨ b % 2 = 1 by omega) with h | h
  · rw [h, show wrap64 (((0 : Nat) : Int) * (p : Int)) = 0 by rw [show ((0 : Nat) : Int) * (p : Int) = 0 by simp, w64 (by omega) (by omega)], w64 (by omega) (by omega)]
    simp
  · rw [h, show wrap64 (((1 : Nat) : Int) * (p : Int)) = (p : Int) by rw [show ((1 : Nat) : Int) * (p : Int) = (p : Int) by simp, w64 (by omega) (by omega)], w64 (by omega) (by omega)]
    simp
theorem wD9 (b : Nat) (h : b < 512) : wrap64 (Int.tdiv (b : Int) 2) = ((b / 2 : Nat) : Int) := by
  have e : Int.tdiv (b : Int) 2 = ((b / 2 : Nat) : Int) := by rw [Int.tdiv_eq_ediv_of_nonneg (by omega)]; omega
  rw [e, w64 (by omega) (by omega)]
theorem w49 {p : Nat} (h : p ≤ 1000000) : wrap64 ((p : Int) * 4) = ((p * 4 : Nat) : Int) := by rw [w64 (by omega) (by omega)]; omega
theorem spec_deSpread.l9 (L : List Int) (N i R : Int) : ∀ (d b s p : Nat), b < 2 ^ d → d ≤ 9 → p * 4 ^ d ≤ 262144 → s + d * 262144 ≤ 100000000 → Ev (fun k => spec_deSpread.l0 k ((s + p * spN d b : Nat) : Int) L N (wrap64 (i + 1))) R → Ev (fun k => spec_deSpread.l1 k (s : Int) (b : Int) (p : Int) L N i) R := by
  intro d
  induction d with
  | zero =>
    intro b s p hb _ _ _ h
    have : b = 0 := by rw [Nat.pow_zero] at hb; omega
    subst this
    refine Ev.shift ?_
    simp only [spec_deSpread.l1]
    refine Ev.ite_neg (by omega) ?_
    exact h
  | succ d ih =>
    intro b s p hb hd hp hs h
    have hp0 : p ≤ 262144 := Nat.le_trans (Nat.le_mul_of_pos_right p (Nat.pow_pos (show 0 < 4 by omega))) hp
    have h64 : b < 512 := Nat.lt_of_lt_of_le hb (pow_small (m := 9) hd)
    have hm : b % 2 < 2 := Nat.mod_lt _ (by omega)
    have hmp : b % 2 * p ≤ 262144 := by
      rcases (show b % 2 = 0 ∨ b % 2 = 1 by omega) with h | h
      · rw [h]; omega
      · rw [h]; omega
    refine Ev.shift ?_
    simp only [spec_deSpread.l1]
    by_cases h0 : b = 0
    · subst h0
      have e : ∀ d, spN d 0 = 0 := by
        intro d
        induction d with
        | zero => rfl
        | succ d ih => rw [spN, Nat.zero_div, ih]
      rw [e, Nat.mul_zero, Nat.add_zero] at h
      exact Ev.ite_neg (by omega) h
    · refine Ev.ite_pos (by omega) ?_
      rw [wM9 (by omega) (by omega), wD9 b h64, w49 (by omega)]
      refine ih (b / 2) (s + b % 2 * p) (p * 4) ?_ (by omega) ?_ (by omega) ?_
      · rw [Nat.pow_succ] at hb; omega
      · rw [Nat.pow_succ] at hp
        rw [Nat.mul_assoc, Nat.mul_comm 4]
        exact hp
      · have e : s + b % 2 * p + p * 4 * spN d (b / 2) = s + p * spN (d + 1) b := by
          rw [spN, Nat.mul_add, Nat.mul_comm p (b % 2), Nat.mul_assoc, Nat.add_assoc]
        rw [e]
        exact h
theorem take_sum (f : Nat → Nat) (ms : List Nat) (i : Nat) (h : i < ms.length) : ((ms.take (i + 1)).map f).sum = ((ms.take i).map f).sum + f (ms.getD i 0) := by
  rw [take_getD ms 0 i h]
  simp
theorem spSum_le (ms : List Nat) (h : ms.length ≤ 3) : (ms.map (spN 9)).sum ≤ 3 * 262144 := by
  have key : ∀ ms : List Nat, (ms.map (spN 9)).sum ≤ ms.length * 262144 := by
    intro ms
    induction ms with
    | nil => simp
    | cons m ms ih =>
      have := spN_lt 9 m
      rw [List.map_cons, List.sum_cons, List.length_cons]
      omega
  exact Nat.le_trans (key ms) (Nat.mul_le_mul_right _ h)
theorem spec_deSpread.ev9 (ms : List Nat) (h : ∀ m ∈ ms, m < 512) (hl : ms.length ≤ 3) : Ev (fun k => spec_deSpread.f k (ints9 ms)) (((ms.map (spN 9)).sum : Nat) : Int) := by
  unfold spec_deSpread.f
  have key := Ev.down (G := fun i k => spec_deSpread.l0 k ((((ms.take i).map (spN 9)).sum : Nat) : Int) (ints9 ms) ((ints9 ms).length : Int) (i : Int)) (R := fun _ => (((ms.map (spN 9)).sum : Nat) : Int)) ms.length
    (by refine Ev.shift ?_
        simp only [spec_deSpread.l0, ints9_len, Int.lt_irrefl, ↓reduceIte, List.take_length]
        exact Ev.some)
    (fun i hi ih => by
      refine Ev.shift ?_
      have c1 : (i : Int) < (ms.length : Int) := by omega
      have c0 : (0 : Int) ≤ (i : Int) := by omega
      have hm := h _ (getD_mem ms 0 i hi)
      have hs := spSum_le (ms.take i) (by rw [List.length_take]; omega)
      simp only [spec_deSpread.l0, ints9_len, c1, c0, ↓reduceIte, rd_nat, ints9_get]
      refine spec_deSpread.l9 _ _ (i : Int) _ 9 (ms.getD i 0) _ 1 (by omega) (by omega) (by decide) (by omega) ?_
      rw [w1 hi (by omega), Nat.one_mul, ← take_sum (spN 9) ms i hi]
      rw [ints9_len] at ih
      exact ih)
  have k0 := key 0 (Nat.zero_le _)
  rw [List.take_zero, List.map_nil, List.sum_nil] at k0
  show Ev (fun k => spec_deSpread.l0 k ((0 : Nat) : Int) (ints9 ms) ((ints9 ms).length : Int) ((0 : Nat) : Int)) _
  exact k0
/-! #### the nine numbers -/
def histL (ms : List Nat) : List Int := (List.range 9).map fun i => ((bitSum ms i : Nat) : Int)
theorem histL_len (ms : List Nat) : (histL ms).length = 9 := by simp [histL]
theorem histL_get (ms : List Nat) (i : Nat) (h : i < 9) : (histL ms).getD i 0 = ((bitSum ms i : Nat) : Int) := by
  simp [histL, List.getD_eq_getElem?_getD, List.getElem?_range h]
theorem ext9 {x y : List Int} (hx : x.length = 9) (hy : y.length = 9) (h : ∀ i, i < 9 → x.getD i 0 = y.getD i 0) : x = y := by
  apply List.ext_getElem (by omega)
  intro i h1 h2
  have := h i (by omega)
  rw [List.getD_eq_getElem?_getD, List.getD_eq_getElem?_getD, List.getElem?_eq_getElem h1, List.getElem?_eq_getElem h2] at this
  exact this
def bump (y : List Int) (l : List Int) : List Int := l.foldl (fun x k => x.set k.toNat (wrap64 (rd x k + 1))) y
theorem bump_sel (y : List Int) (hy : y.length = 9) (hb : ∀ i, i < 9 → 0 ≤ y.getD i 0 ∧ y.getD i 0 ≤ 100) (P : Nat → Bool) : ∀ n, n ≤ 9 → (bump y (sel n P)).length = 9 ∧ ∀ i, i < 9 → (bump y (sel n P)).getD i 0 = y.getD i 0 + (if i < n ∧ P i = true then 1 else 0)
  | 0, _ => ⟨hy, fun i hi => by simp [bump, sel]⟩
  | n + 1, hn => by
    obtain ⟨h1, h2⟩ := bump_sel y hy hb P n (by omega)
    rw [sel_succ]
    by_cases hP : P n = true
    · rw [if_pos hP]
      have e : bump y (sel n P ++ [(n : Int)]) = (bump y (sel n P)).set n (wrap64 ((bump y (sel n P)).getD n 0 + 1)) := by
        unfold bump
        rw [List.foldl_append]
        simp only [List.foldl_cons, List.foldl_nil, Int.toNat_natCast, rd_nat]
      rw [e]
      refine ⟨by rw [List.length_set]; exact h1, fun i hi => ?_⟩
      have hb1 := hb i hi
      by_cases hin : i = n
      · subst hin
        have h3 := h2 i hi
        rw [if_neg (by omega)] at h3
        rw [if_pos ⟨by omega, hP⟩, List.getD_eq_getElem?_getD, List.getElem?_set_self (by omega), Option.getD_some, h3, w64 (by omega) (by omega)]
        omega
      · rw [List.getD_eq_getElem?_getD, List.getElem?_set_ne (fun h => hin h.symm), ← List.getD_eq_getElem?_getD, h2 i hi]
        congr 1
        by_cases hP2 : P i = true
        · by_cases hlt : i < n
          · rw [if_pos ⟨hlt, hP2⟩, if_pos ⟨by omega, hP2⟩]
          · rw [if_neg (fun h => hlt h.1), if_neg (fun h => by omega)]
        · rw [if_neg (fun h => hP2 h.2), if_neg (fun h => hP2 h.2)]
    · rw [if_neg hP, List.append_nil]
      refine ⟨h1, fun i hi => ?_⟩
      rw [h2 i hi]
      congr 1
      by_cases hP2 : P i = true
      · have hin : i ≠ n := fun h => hP (h ▸ hP2)
        by_cases hlt : i < n
        · rw [if_pos ⟨hlt, hP2⟩, if_pos ⟨by omega, hP2⟩]
        · rw [if_neg (fun h => hlt h.1), if_neg (fun h => by omega)]
      · rw [if_neg (fun h => hP2 h.2), if_neg (fun h => hP2 h.2)]
theorem bump_hist (ms : List Nat) (m : Nat) (hl : ms.length ≤ 3) : bump (histL ms) (sel 9 m.testBit) = histL (ms ++ [m]) := by
  obtain ⟨h1, h2⟩ := bump_sel (histL ms) (histL_len ms) (fun i hi => by have := bitSum_le ms i; rw [histL_get ms i hi]; omega) m.testBit 9 (Nat.le_refl _)
  refine ext9 h1 (histL_len _) (fun i hi => ?_)
  rw [h2 i hi, histL_get _ i hi, histL_get _ i hi, bitSum_snoc]
  have hm : m / 2 ^ i % 2 < 2 := Nat.mod_lt _ (by omega)
  rw [bit_nat]
  by_cases hb : m / 2 ^ i % 2 = 1
  · rw [if_pos ⟨hi, by rw [decide_eq_true_eq]; exact hb⟩, hb]; omega
  · rw [if_neg (fun h => hb (by have := h.2; rwa [decide_eq_true_eq] at this))]; omega
theorem sel_mem9 {P : Nat → Bool} {x : Int} (h : x ∈ sel 9 P) : 0 ≤ x ∧ x < 9 := by
  unfold sel at h
  obtain ⟨i, hi, rfl⟩ := List.mem_map.1 h
  have := List.mem_range.1 (List.mem_filter.1 hi).1
  omega
theorem impl_setOf.ev (m : Nat) (h : m < 512) : Ev (fun k => impl_setOf.f k (m : Int)) (sel 9 m.testBit) := by
  unfold impl_setOf.f
  have key := Ev.down (G := fun i k => impl_setOf.l0 k (m : Int) (sel i m.testBit) (i : Int)) (R := fun _ => sel 9 m.testBit) 9
    (by refine Ev.shift ?_
        have c0 : (0 : Int) ≤ ((9 : Nat) : Int) := by omega
        have e : m / 2 ^ 9 = 0 := Nat.div_eq_of_lt h
        have c : ¬ (((0 : Nat) : Int) > 0) := by omega
        simp only [impl_setOf.l0, c0, ↓reduceIte, shr_nat m 9 (by omega), e, c]
        exact Ev.some)
    (fun i hi ih => by
      refine Ev.shift ?_
      have c0 : (0 : Int) ≤ (i : Int) := by omega
      have c2 : (sel i m.testBit).length < 17592186044416 := by have := sel_len i m.testBit; omega
      have hlt2 : m / 2 ^ i < 2 ^ 63 := Nat.lt_of_le_of_lt (Nat.div_le_self _ _) (by omega)
      rw [sel_succ] at ih
      simp only [impl_setOf.l0, c0, ↓reduceIte, shr_nat m i (by omega), and_one _ hlt2, c2, w1 hi (by omega)]
      by_cases hz : m / 2 ^ i = 0
      · have c : ¬ (((m / 2 ^ i : Nat) : Int) > 0) := by rw [hz]; decide
        simp only [c, ↓reduceIte]
        refine Ev.eq Ev.some ?_
        have hlt : m < 2 ^ i := by
          rcases Nat.div_eq_zero_iff.1 hz with h | h
          · exact absurd h (by have := Nat.two_pow_pos i; omega)
          · exact h
        have := sel_more i (9 - i) m hlt
        rw [show i + (9 - i) = 9 by omega] at this
        exact this.symm
      · have c : (((m / 2 ^ i : Nat) : Int) > 0) := Int.natCast_pos.2 (Nat.pos_of_ne_zero hz)
        simp only [c, ↓reduceIte]
        cases hb : m.testBit i with
        | true =>
          rw [bit_nat, decide_eq_true_eq] at hb
          have c3 : ((m / 2 ^ i % 2 : Nat) : Int) = 1 := by omega
          rw [bit_nat, show decide (m / 2 ^ i % 2 = 1) = true from decide_eq_true hb, if_pos rfl] at ih
          simp only [c3, ↓reduceIte]
          exact ih
        | false =>
          rw [hb, if_neg (by decide), List.append_nil] at ih
          rw [bit_nat, decide_eq_false_iff_not] at hb
          have c3 : ¬ ((m / 2 ^ i % 2 : Nat) : Int) = 1 := by omega
          simp only [c3, ↓reduceIte]
          exact ih)
  exact key 0 (by omega)
theorem impl_howOften.ev (ms : List Nat) (h : ∀ m ∈ ms, m < 512) (hl : ms.length ≤ 3) : Ev (fun k => impl_howOften.f k (ints9 ms)) (histL ms) := by
  unfold impl_howOften.f
  have key := Ev.down (G := fun i k => impl_howOften.l0 k (ints9 ms) (ms.length : Int) (i : Int) (histL (ms.take i))) (R := fun _ => histL ms) ms.length
    (by refine Ev.shift ?_
        simp only [impl_howOften.l0, Int.lt_irrefl, ↓reduceIte, List.take_length]
        exact Ev.some)
    (fun i hi ih => by
      refine Ev.shift ?_
      have c1 : (i : Int) < (ms.length : Int) := by omega
      have c0 : (0 : Int) ≤ (i : Int) := by omega
      have hm := h _ (getD_mem ms 0 i hi)
      simp only [impl_howOften.l0, ints9_len, c1, c0, ↓reduceIte, rd_nat, ints9_get]
      refine Ev.bind (impl_setOf.ev (ms.getD i 0) hm) ?_
      have hmem : ∀ x ∈ sel 9 (ms.getD i 0).testBit, 0 ≤ x ∧ x < 9 := fun x hx => sel_mem9 hx
      have hsl := sel_len 9 (ms.getD i 0).testBit
      have hbump := bump_hist (ms.take i) (ms.getD i 0) (by rw [List.length_take]; omega)
      rw [← take_getD ms 0 i hi] at hbump
      generalize sel 9 (ms.getD i 0).testBit = L at hmem hsl hbump ⊢
      have inner := back (P := fun j => Ev (fun k => impl_howOften.l1 k (ints9 ms) (ms.length : Int) (i : Int) L (L.length : Int) (j : Int) (bump (histL (ms.take i)) (L.take j))) (histL ms)) L.length
        (by refine Ev.shift ?_
            simp only [impl_howOften.l1, Int.lt_irrefl, ↓reduceIte, List.take_length, hbump, w1 hi (show ms.length ≤ 9223372036854775807 by omega)]
            exact ih)
        (fun j hj ihj => by
          refine Ev.shift ?_
          have d1 : (j : Int) < (L.length : Int) := by omega
          have d0 : (0 : Int) ≤ (j : Int) := by omega
          have hx := hmem _ (getD_mem L 0 j hj)
          have hw := w1 hj (show L.length ≤ 9223372036854775807 by omega)
          simp only [impl_howOften.l1, d1, d0, ↓reduceIte, rd_nat L j, hx, and_self, hw]
          rw [take_getD L 0 j hj] at ihj
          unfold bump at ihj ⊢
          rw [List.foldl_append] at ihj
          exact ihj)
      have i0 := inner 0 (Nat.zero_le _)
      exact i0)
  have k0 := key 0 (Nat.zero_le _)
  rw [ints9_len]
  exact k0
theorem same_often (a b : List Nat) (ha : a.length ≤ 3) (hb : b.length ≤ 3) : (histL a == histL b) = decide ((a.map (spN 9)).sum = (b.map (spN 9)).sum) := by
  rw [Bool.eq_iff_iff, beq_iff_eq, decide_eq_true_eq, spread_iff 9 a b ha hb]
  constructor
  · intro h i hi
    have := congrArg (fun l => l.getD i 0) h
    simp only [histL_get _ i hi] at this
    omega
  · intro h
    exact ext9 (histL_len _) (histL_len _) (fun i hi => by rw [histL_get _ i hi, histL_get _ i hi, h i hi])
end Go.Proofs.Ythkbaolpiigioaa.P

/- The pure statement of FnExactIsTrade. -/
namespace Go.Proofs.Ythkbaolpiigioaa.P
open Go.RowKit Go.Proofs.YthkbaolpiigioaaW.PrintWords Go.Proofs.YthkbaolpiigioaaW.PrintLast Go.Proofs.YthkbaolpiigioaaW.PrintMore
def lined (n : Int) (ws : List (List Int)) (i : Nat) : Bool := isSetN (ws.getD i []) n && (i == 0 || decide (lexc (ws.getD (i - 1) []) (ws.getD i []) ≤ 0))
def bitsL (ws : List (List Int)) : List Nat := ws.map bitsOf
theorem bitsL_len (ws : List (List Int)) : (bitsL ws).length = ws.length := by simp [bitsL]
theorem bitsL_get (ws : List (List Int)) (i : Nat) : (bitsL ws).getD i 0 = bitsOf (ws.getD i []) := by
  simp only [bitsL, List.getD_eq_getElem?_getD, List.getElem?_map]
  cases ws[i]? with
  | none => rfl
  | some x => rfl
theorem ints9_snoc (ws : List (List Int)) (i : Nat) (h : i < ws.length) : ints9 (bitsL (ws.take i)) ++ [((bitsOf (ws.getD i []) : Nat) : Int)] = ints9 (bitsL (ws.take (i + 1))) := by
  rw [take_getD ws [] i h]
  simp [ints9, bitsL]
def tradedAt (n : Int) (w : List Bool) (ws : List (List Int)) (win : Bool) (i : Nat) : Bool := lined n ws i && (w.getD (bitsOf (ws.getD i [])) false == win)
def tradedR (c : Bool) (ws : List (List Int)) : List Int × Bool := if c = true then (ints9 (bitsL ws), true) else ([], false)
theorem impl_areTraded.ev (m : Nat) (w : List Bool) (ws : List (List Int)) (win : Bool) (hm : m ≤ 9) (hw : w.length = 2 ^ m) (hl : ws.length ≤ 1048576) (hx : ∀ s ∈ ws, s.length ≤ 1048576) : Ev (fun k => impl_areTraded.f k (m : Int) w ws win) (tradedR (allF (tradedAt m w ws win) ws.length 0) ws) := by
  unfold impl_areTraded.f
  have key := back (P := fun i => Ev (fun k => impl_areTraded.l0 k ws win (ints9 (bitsL (ws.take i))) ws (ws.length : Int) (i : Int) (m : Int) w) (tradedR (allF (tradedAt m w ws win) ws.length i) ws)) ws.length
    (by refine Ev.shift ?_
        rw [allF_end]
        simp only [impl_areTraded.l0, Int.lt_irrefl, ↓reduceIte, List.take_length, tradedR]
        exact Ev.some)
    (fun i hi ih => by
      refine Ev.shift ?_
      have c1 : (i : Int) < (ws.length : Int) := by omega
      have c0 : (0 : Int) ≤ (i : Int) := by omega
      have hmem := getD_mem ws [] i hi
      have hsl := hx _ hmem
      rw [allF_step _ _ _ hi]
      simp only [impl_areTraded.l0, c1, c0, ↓reduceIte, rd_LI_nat]
      refine Ev.bind (impl_isSet.ev _ _ (by omega) (by omega) (by omega)) ?_
      cases hs : isSetN (ws.getD i []) (m : Int) with
      | false => simp only [tradedAt, lined, hs, Bool.false_and, Bool.false_eq_true, ↓reduceIte, tradedR]; exact Ev.some
      | true =>
        have hb := setG_mask hs
        have hmask := impl_maskOf.ev (ws.getD i []) hsl (set62' (by omega) hs)
        have d0 : (0 : Int) ≤ ((bitsOf (ws.getD i []) : Nat) : Int) := by omega
        have d1 : ((bitsOf (ws.getD i []) : Nat) : Int) < (w.length : Int) := by rw [hw]; exact Int.ofNat_lt.2 hb
        have c4 : (ints9 (bitsL (ws.take i))).length < 17592186044416 := by rw [ints9_len, bitsL_len, List.length_take]; omega
        have hwi := w1 hi (show ws.length ≤ 9223372036854775807 by omega)
        simp only [↓reduceIte]
        refine Ev.bind hmask ?_
        simp only [d0, d1, ↓reduceIte, rdB_nat]
        by_cases hq : w.getD (bitsOf (ws.getD i [])) false = win
        · have hq1 : (w.getD (bitsOf (ws.getD i [])) false != win) = false := by rw [hq]; cases win <;> rfl
          have hq2 : (w.getD (bitsOf (ws.getD i [])) false == win) = true := by rw [hq]; cases win <;> rfl
          have e : tradedAt (m : Int) w ws win i = (i == 0 || decide (lexc (ws.getD (i - 1) []) (ws.getD i []) ≤ 0)) := by simp only [tradedAt, lined, hs, hq2, Bool.true_and, Bool.and_true]
          rw [e]
          simp only [hq1, Bool.false_eq_true, ↓reduceIte]
          by_cases h0 : i = 0
          · subst h0
            have z : ¬ (((0 : Nat) : Int) > 0) := by omega
            refine Ev.ite_neg z ?_
            refine Ev.bind hmask ?_
            refine Ev.ite_pos c4 ?_
            rw [ints9_snoc ws 0 hi, hwi]
            simp only [BEq.rfl, Bool.true_or, Bool.true_and]
            exact ih
          · have z : ((i : Nat) : Int) > 0 := by omega
            have hp := pred_nat (i := i) (by omega) (by omega)
            have p0 : (0 : Int) ≤ ((i - 1 : Nat) : Int) := by omega
            have p1 : ((i - 1 : Nat) : Int) < (ws.length : Int) := by omega
            have hb0 : (i == 0) = false := by simp [h0]
            refine Ev.ite_pos z ?_
            simp only [hp, p0, p1, ↓reduceIte, rd_LI_nat]
            refine Ev.bind (slices_Compare_int_int.ev _ _ (by have := hx _ (getD_mem ws [] (i - 1) (by omega)); omega)) ?_
            rw [hb0, Bool.false_or]
            by_cases hc : lexc (ws.getD (i - 1) []) (ws.getD i []) > 0
            · have hc2 : ¬ lexc (ws.getD (i - 1) []) (ws.getD i []) ≤ 0 := by omega
              simp only [hc, hc2, ↓reduceIte, decide_false, Bool.false_and, tradedR, Bool.false_eq_true]
              exact Ev.some
            · have hc2 : lexc (ws.getD (i - 1) []) (ws.getD i []) ≤ 0 := by omega
              simp only [hc, hc2, ↓reduceIte, decide_true, Bool.true_and]
              refine Ev.bind hmask ?_
              refine Ev.ite_pos c4 ?_
              rw [ints9_snoc ws i hi, hwi]
              exact ih
        · have hq1 : (w.getD (bitsOf (ws.getD i [])) false != win) = true := by revert hq; cases w.getD (bitsOf (ws.getD i [])) false <;> cases win <;> simp
          have hq2 : (w.getD (bitsOf (ws.getD i [])) false == win) = false := by revert hq; cases w.getD (bitsOf (ws.getD i [])) false <;> cases win <;> simp
          simp only [hq1, tradedAt, hq2, Bool.and_false, Bool.false_and, ↓reduceIte, tradedR, Bool.false_eq_true]
          exact Ev.some)
  exact key 0 (Nat.zero_le _)
theorem spec_deLists.ev (m : Nat) (ws : List (List Int)) (hm : m ≤ 9) (hl : ws.length ≤ 1048576) (hx : ∀ s ∈ ws, s.length ≤ 1048576) : Ev (fun k => spec_deLists.f k (m : Int) ws) (tradedR (allF (lined m ws) ws.length 0) ws) := by
  unfold spec_deLists.f
  have key := back (P := fun i => Ev (fun k => spec_deLists.l0 k (m : Int) ws (ints9 (bitsL (ws.take i))) ws (ws.length : Int) (i : Int)) (tradedR (allF (lined m ws) ws.length i) ws)) ws.length
    (by refine Ev.shift ?_
        rw [allF_end]
        simp only [spec_deLists.l0, Int.lt_irrefl, ↓reduceIte, List.take_length, tradedR]
        exact Ev.some)
    (fun i hi ih => by
      refine Ev.shift ?_
      have c1 : (i : Int) < (ws.length : Int) := by omega
      have c0 : (0 : Int) ≤ (i : Int) := by omega
      have hmem := getD_mem ws [] i hi
      have hsl := hx _ hmem
      rw [allF_step _ _ _ hi]
      simp only [spec_deLists.l0, c1, c0, ↓reduceIte, rd_LI_nat]
      refine Ev.bind (spec_voSet.ev _ _ (by omega) (by omega) (by omega)) ?_
      cases hs : isSetN (ws.getD i []) (m : Int) with
      | false => simp only [lined, hs, Bool.false_and, Bool.false_eq_true, ↓reduceIte, tradedR]; exact Ev.some
      | true =>
        have hmask := spec_voBits.ev (ws.getD i []) hsl (set62' (by omega) hs)
        have c4 : (ints9 (bitsL (ws.take i))).length < 17592186044416 := by rw [ints9_len, bitsL_len, List.length_take]; omega
        have hwi := w1 hi (show ws.length ≤ 9223372036854775807 by omega)
        have e : lined (m : Int) ws i = (i == 0 || decide (lexc (ws.getD (i - 1) []) (ws.getD i []) ≤ 0)) := by simp only [lined, hs, Bool.true_and]
        rw [e]
        simp only [↓reduceIte]
        by_cases h0 : i = 0
        · subst h0
          have z : ¬ (((0 : Nat) : Int) > 0) := by omega
          refine Ev.ite_neg z ?_
          refine Ev.bind hmask ?_
          refine Ev.ite_pos c4 ?_
          rw [ints9_snoc ws 0 hi, hwi]
          simp only [BEq.rfl, Bool.true_or, Bool.true_and]
          exact ih
        · have z : ((i : Nat) : Int) > 0 := by omega
          have hp := pred_nat (i := i) (by omega) (by omega)
          have p0 : (0 : Int) ≤ ((i - 1 : Nat) : Int) := by omega
          have p1 : ((i - 1 : Nat) : Int) < (ws.length : Int) := by omega
          have hb0 : (i == 0) = false := by simp [h0]
          have hsw := lexc_swap (ws.getD (i - 1) []) (ws.getD i [])
          refine Ev.ite_pos z ?_
          simp only [hp, p0, p1, ↓reduceIte, rd_LI_nat]
          refine Ev.bind (spec_voBefore.ev _ _ (by omega)) ?_
          rw [hb0, Bool.false_or]
          by_cases hc : lexc (ws.getD i []) (ws.getD (i - 1) []) < 0
          · have hc2 : ¬ lexc (ws.getD (i - 1) []) (ws.getD i []) ≤ 0 := by omega
            simp only [hc, hc2, ↓reduceIte, decide_false, decide_true, Bool.false_and, tradedR, Bool.false_eq_true]
            exact Ev.some
          · have hc2 : lexc (ws.getD (i - 1) []) (ws.getD i []) ≤ 0 := by omega
            simp only [hc, hc2, ↓reduceIte, decide_true, decide_false, Bool.true_and, Bool.false_eq_true]
            refine Ev.bind hmask ?_
            refine Ev.ite_pos c4 ?_
            rw [ints9_snoc ws i hi, hwi]
            exact ih)
  exact key 0 (Nat.zero_le _)
theorem bitsL_small {m : Nat} {ws : List (List Int)} (hm : m ≤ 9) (h : allF (lined (m : Int) ws) ws.length 0 = true) : ∀ b ∈ bitsL ws, b < 2 ^ m := by
  intro b hb
  obtain ⟨s, hs, rfl⟩ := List.mem_map.1 hb
  obtain ⟨i, hi, rfl⟩ := List.mem_iff_getElem.1 hs
  have h1 := (allF_iff _ _).1 h i hi
  simp only [lined, Bool.and_eq_true] at h1
  have e : ws.getD i [] = ws[i] := by rw [List.getD_eq_getElem?_getD, List.getElem?_eq_getElem hi]; rfl
  have := setG_mask h1.1
  rw [e] at this
  exact this
theorem traded_lined (n : Int) (w : List Bool) (ws : List (List Int)) (win : Bool) : allF (tradedAt n w ws win) ws.length 0 = (allF (lined n ws) ws.length 0 && allF (fun i => w.getD (bitsOf (ws.getD i [])) false == win) ws.length 0) := by
  rw [← allF_and]
  rfl
def isTr (n : Int) (ws A B : List (List Int)) : Bool × Bool :=
  if isGame n ws = true then
    (inI 2 3 (A.length : Int) && decide (B.length = A.length) && (allF (lined n A) A.length 0 && allF (lined n B) B.length 0 && decide (((bitsL A).map (spN 9)).sum = ((bitsL B).map (spN 9)).sum) &&
      allF (fun i => (tab n.toNat (gwin ws)).getD (bitsOf (A.getD i [])) false && !(tab n.toNat (gwin ws)).getD (bitsOf (B.getD i [])) false) A.length 0), true)
  else (false, false)
theorem impl_IsTrade.ev (n : Int) (ws A B : List (List Int)) (hl : ws.length ≤ 1048576) (hx : ∀ s ∈ ws, s.length ≤ 1048576) (hA : A.length ≤ 1048576) (hxA : ∀ s ∈ A, s.length ≤ 1048576) (hB : B.length ≤ 1048576) (hxB : ∀ s ∈ B, s.length ≤ 1048576) : Ev (fun k => impl_IsTrade.f k n ws A B) (isTr n ws A B) := by
  unfold impl_IsTrade.f isTr
  refine Ev.bind (impl_IsGame.ev n ws hl hx) ?_
  cases hg : isGame n ws with
  | false => exact Ev.some
  | true =>
    obtain ⟨m, rfl, hm1, hm9, hpos, hs, _⟩ := isGame_at hg
    have hs' : ∀ s ∈ ws, isSetN s (m : Int) = true := fun s h => (hs s h).2
    simp only [↓reduceIte, Int.toNat_natCast]
    refine Ev.bind (Ev.one (impl_within.eq (A.length : Int) 2 3)) ?_
    cases hin : inI 2 3 (A.length : Int) with
    | false =>
      simp only [Bool.false_eq_true, ↓reduceIte, Bool.false_and]
      refine Ev.shift ?_
      simp only [impl_IsTrade.j0, ↓reduceIte]
      exact Ev.some
    | true =>
      simp only [↓reduceIte, Bool.true_and]
      refine Ev.shift ?_
      by_cases hBA : B.length = A.length
      · have hne : ((B.length : Int) != (A.length : Int)) = false := by rw [hBA]; simp
        simp only [impl_IsTrade.j0, hne, Bool.false_eq_true, ↓reduceIte]
        simp only [hBA, decide_true, Bool.true_and]
        have hA3 : A.length ≤ 3 := by simp only [inI, Bool.and_eq_true, decide_eq_true_eq] at hin; omega
        refine Ev.bind (impl_Game_votes.ev m ws hm9 hl hx hs') ?_
        have tl := tab_len m (gwin ws)
        generalize tab m (gwin ws) = w at tl ⊢
        refine Ev.bind (impl_areTraded.ev m w A true hm9 tl hA hxA) ?_
        refine Ev.bind (impl_areTraded.ev m w B false hm9 tl hB hxB) ?_
        rw [traded_lined, traded_lined]
        have hand : allF (fun i => w.getD (bitsOf (A.getD i [])) false && !w.getD (bitsOf (B.getD i [])) false) A.length 0 = (allF (fun i => w.getD (bitsOf (A.getD i [])) false == true) A.length 0 && allF (fun i => w.getD (bitsOf (B.getD i [])) false == false) B.length 0) := by
          rw [hBA, ← allF_and]
          congr 1
          funext i
          cases w.getD (bitsOf (A.getD i [])) false <;> cases w.getD (bitsOf (B.getD i [])) false <;> rfl
        rw [hand]
        rw [hBA]
        cases h1 : allF (lined (m : Int) A) A.length 0 with
        | false => simp only [Bool.false_and, tradedR, Bool.false_eq_true, ↓reduceIte]; exact Ev.some
        | true =>
          cases h2 : allF (lined (m : Int) B) A.length 0 with
          | false =>
            simp only [Bool.true_and, Bool.false_and, Bool.and_false, tradedR, Bool.false_eq_true, ↓reduceIte]
            generalize allF (fun i => w.getD (bitsOf (A.getD i [])) false == true) A.length 0 = u1
            cases u1 <;> simp only [Bool.false_eq_true, ↓reduceIte] <;> exact Ev.some
          | true =>
            have hbA := bitsL_small hm9 h1
            have hbB := bitsL_small (ws := B) hm9 (by rw [hBA]; exact h2)
            have hp := pow_small hm9
            have q1 := impl_howOften.ev (bitsL A) (fun b hb => by have := hbA b hb; omega) (by rw [bitsL_len]; exact hA3)
            have q2 := impl_howOften.ev (bitsL B) (fun b hb => by have := hbB b hb; omega) (by rw [bitsL_len]; omega)
            have hso := same_often (bitsL A) (bitsL B) (by rw [bitsL_len]; exact hA3) (by rw [bitsL_len]; omega)
            simp only [Bool.true_and, ← hso]
            generalize allF (fun i => w.getD (bitsOf (A.getD i [])) false == true) A.length 0 = u1
            generalize allF (fun i => w.getD (bitsOf (B.getD i [])) false == false) A.length 0 = u2
            cases u1 with
            | false => simp only [tradedR, Bool.false_eq_true, ↓reduceIte, Bool.false_and, Bool.and_false]; exact Ev.some
            | true =>
              cases u2 with
              | false => simp only [tradedR, Bool.false_eq_true, ↓reduceIte, Bool.and_false]; exact Ev.some
              | true =>
                simp only [tradedR, ↓reduceIte, Bool.and_true]
                exact Ev.bind q1 (Ev.bind q2 Ev.some)
      · have hne : ((B.length : Int) != (A.length : Int)) = true := by rw [bne_iff_ne]; omega
        simp only [impl_IsTrade.j0, hne, ↓reduceIte]
        simp only [hBA, decide_false, Bool.false_and]
        exact Ev.some
theorem spec_IsTrade.ev (n : Int) (ws A B : List (List Int)) (hl : ws.length ≤ 1048576) (hx : ∀ s ∈ ws, s.length ≤ 1048576) (hA : A.length ≤ 1048576) (hxA : ∀ s ∈ A, s.length ≤ 1048576) (hB : B.length ≤ 1048576) (hxB : ∀ s ∈ B, s.length ≤ 1048576) : Ev (fun k => spec_IsTrade.f k n ws A B) (isTr n ws A B) := by
  have off : ∀ a b : List Int, Ev (fun k => spec_IsTrade.j1 k a b true n ws) (false, true) := fun a b => by
    refine Ev.shift ?_
    simp only [spec_IsTrade.j1, ↓reduceIte]
    exact Ev.some
  unfold spec_IsTrade.f isTr
  refine Ev.bind (spec_gmGood.ev n ws hl hx) ?_
  cases hg : isGame n ws with
  | false => exact Ev.some
  | true =>
    obtain ⟨m, rfl, hm1, hm9, hpos, hs, _⟩ := isGame_at hg
    have hs' : ∀ s ∈ ws, isSetN s (m : Int) = true := fun s h => (hs s h).2
    simp only [↓reduceIte, Int.toNat_natCast]
    refine Ev.bind (Ev.one (spec_l1In.eq (A.length : Int) 2 3)) ?_
    cases hin : inI 2 3 (A.length : Int) with
    | false =>
      simp only [Bool.false_eq_true, ↓reduceIte, Bool.false_and]
      refine Ev.shift ?_
      simp only [spec_IsTrade.j0, ↓reduceIte]
      exact Ev.some
    | true =>
      simp only [↓reduceIte, Bool.true_and]
      refine Ev.shift ?_
      by_cases hBA : B.length = A.length
      · have hne : ((B.length : Int) != (A.length : Int)) = false := by rw [hBA]; simp
        simp only [spec_IsTrade.j0, hne, Bool.false_eq_true, ↓reduceIte]
        simp only [hBA, decide_true, Bool.true_and]
        have hA3 : A.length ≤ 3 := by simp only [inI, Bool.and_eq_true, decide_eq_true_eq] at hin; omega
        refine Ev.bind (spec_deLists.ev m A hm9 hA hxA) ?_
        refine Ev.bind (spec_deLists.ev m B hm9 hB hxB) ?_
        rw [hBA]
        cases h1 : allF (lined (m : Int) A) A.length 0 with
        | false => simp only [Bool.false_and, tradedR, Bool.false_eq_true, ↓reduceIte]; exact off _ _
        | true =>
          cases h2 : allF (lined (m : Int) B) A.length 0 with
          | false => simp only [Bool.true_and, Bool.false_and, tradedR, Bool.false_eq_true, ↓reduceIte]; exact off _ _
          | true =>
            have hbA := bitsL_small hm9 h1
            have hbB := bitsL_small (ws := B) hm9 (by rw [hBA]; exact h2)
            have hp := pow_small hm9
            have q1 := spec_deSpread.ev9 (bitsL A) (fun b hb => by have := hbA b hb; omega) (by rw [bitsL_len]; exact hA3)
            have q2 := spec_deSpread.ev9 (bitsL B) (fun b hb => by have := hbB b hb; omega) (by rw [bitsL_len]; omega)
            simp only [Bool.true_and, tradedR, ↓reduceIte]
            refine Ev.bind q1 (Ev.bind q2 ?_)
            by_cases he : ((bitsL A).map (spN 9)).sum = ((bitsL B).map (spN 9)).sum
            · have hne2 : (((((bitsL A).map (spN 9)).sum : Nat) : Int) != ((((bitsL B).map (spN 9)).sum : Nat) : Int)) = false := by rw [he]; simp
              simp only [hne2]
              simp only [he, decide_true, Bool.true_and]
              refine Ev.shift ?_
              simp only [spec_IsTrade.j1, Bool.false_eq_true, ↓reduceIte]
              refine Ev.bind (spec_gmAll.ev m ws hm9 hl hx hs') ?_
              have tl := tab_len m (gwin ws)
              generalize tab m (gwin ws) = w at tl ⊢
              have key := back (P := fun i => Ev (fun k => spec_IsTrade.l0 k (ints9 (bitsL A)) (ints9 (bitsL B)) w (A.length : Int) (i : Int)) (allF (fun i => w.getD (bitsOf (A.getD i [])) false && !w.getD (bitsOf (B.getD i [])) false) A.length i, true)) A.length
                (by refine Ev.shift ?_
                    rw [allF_end]
                    simp only [spec_IsTrade.l0, Int.lt_irrefl, ↓reduceIte]
                    exact Ev.some)
                (fun i hi ih => by
                  refine Ev.shift ?_
                  have c1 : (i : Int) < (A.length : Int) := by omega
                  have c0 : (0 : Int) ≤ (i : Int) := by omega
                  have c2 : (i : Int) < (B.length : Int) := by omega
                  have b1 := hbA _ (getD_mem (bitsL A) 0 i (by rw [bitsL_len]; exact hi))
                  have b2 := hbB _ (getD_mem (bitsL B) 0 i (by rw [bitsL_len]; omega))
                  rw [bitsL_get] at b1 b2
                  have d0 : (0 : Int) ≤ ((bitsOf (A.getD i []) : Nat) : Int) := by omega
                  have d1 : ((bitsOf (A.getD i []) : Nat) : Int) < (w.length : Int) := by rw [tl]; exact Int.ofNat_lt.2 b1
                  have f0 : (0 : Int) ≤ ((bitsOf (B.getD i []) : Nat) : Int) := by omega
                  have f1 : ((bitsOf (B.getD i []) : Nat) : Int) < (w.length : Int) := by rw [tl]; exact Int.ofNat_lt.2 b2
                  rw [allF_step _ _ _ hi]
                  simp only [spec_IsTrade.l0, ints9_len, bitsL_len, c1, c0, c2, ↓reduceIte, rd_nat, ints9_get, bitsL_get, d0, d1, f0, f1, rdB_nat, w1 hi (show A.length ≤ 9223372036854775807 by omega)]
                  cases w.getD (bitsOf (A.getD i [])) false with
                  | false => simp only [Bool.false_eq_true, ↓reduceIte, Bool.false_and]; exact Ev.some
                  | true =>
                    cases w.getD (bitsOf (B.getD i [])) false with
                    | true => simp only [↓reduceIte, Bool.not_true, Bool.and_false, Bool.false_and]; exact Ev.some
                    | false => simp only [↓reduceIte, Bool.false_eq_true, Bool.not_false, Bool.and_true, Bool.true_and]; exact ih)
              have k0 := key 0 (Nat.zero_le _)
              simp only [ints9_len, bitsL_len]
              exact k0
            · have hne2 : (((((bitsL A).map (spN 9)).sum : Nat) : Int) != ((((bitsL B).map (spN 9)).sum : Nat) : Int)) = true := by rw [bne_iff_ne]; omega
              simp only [hne2]
              simp only [he, decide_false, Bool.false_and]
              exact off _ _
      · have hne : ((B.length : Int) != (A.length : Int)) = true := by rw [bne_iff_ne]; omega
        simp only [spec_IsTrade.j0, hne, ↓reduceIte]
        simp only [hBA, decide_false, Bool.false_and]
        exact Ev.some
theorem laws_FnExactIsTrade_pure : laws_FnExactIsTrade.Pure := by
  intro n ws A B hn0 hws hAs hBs
  apply Ev.rounds (r := true)
  unfold laws_FnExactIsTrade.f
  obtain ⟨r, hr, hle, hp⟩ := laws_szIntSS.ev ws 1048576 hws (by omega) (by omega)
  have hr1 : Ev (fun k => laws_szGame.f k n ws 1048576) (if r < 0 then -1 else r) := by
    unfold laws_szGame.f
    refine Ev.bind hr ?_
    by_cases h : r < 0 <;> simp only [h, ↓reduceIte] <;> exact Ev.some
  refine Ev.bind hr1 ?_
  by_cases h2 : r < 0
  · have : (-1 : Int) < 0 := by omega
    simp only [h2, this, ↓reduceIte]
    exact Ev.some
  · obtain ⟨hn, hx⟩ := hp (by omega)
    have hl : ws.length ≤ 1048576 := by omega
    simp only [h2, ↓reduceIte]
    obtain ⟨ra, hra, hlea, hpa⟩ := laws_szIntSS.ev A r hAs (by omega) (by omega)
    by_cases ha : ra < 0
    · have ht : Ev (fun k => laws_szTrade.f k A B r) (-1) := by
        unfold laws_szTrade.f
        refine Ev.bind hra ?_
        simp only [ha, ↓reduceIte]
        exact Ev.some
      refine Ev.bind ht ?_
      have : (-1 : Int) < 0 := by omega
      simp only [this, ↓reduceIte]
      exact Ev.some
    · obtain ⟨hnA, hxA⟩ := hpa (by omega)
      obtain ⟨rb, hrb, hleb, hpb⟩ := laws_szIntSS.ev B ra hBs (by omega) (by omega)
      have ht : Ev (fun k => laws_szTrade.f k A B r) (if rb < 0 then -1 else rb) := by
        unfold laws_szTrade.f
        refine Ev.bind hra ?_
        simp only [ha, ↓reduceIte]
        refine Ev.bind hrb ?_
        by_cases h : rb < 0 <;> simp only [h, ↓reduceIte] <;> exact Ev.some
      refine Ev.bind ht ?_
      by_cases hb : rb < 0
      · have : (-1 : Int) < 0 := by omega
        simp only [hb, this, ↓reduceIte]
        exact Ev.some
      · obtain ⟨hnB, hxB⟩ := hpb (by omega)
        simp only [hb, ↓reduceIte]
        have hlA : A.length ≤ 1048576 := by omega
        have hlB : B.length ≤ 1048576 := by omega
        have t1 := laws_toGame.ev n ws hl hx
        have t2 : Ev (fun k => laws_toTrade.f k A B) (A, B) := by
          unfold laws_toTrade.f
          exact Ev.bind (laws_toIntSS.ev A hlA hxA) (Ev.bind (laws_toIntSS.ev B hlB hxB) Ev.some)
        have s1 := spec_IsTrade.ev n ws A B hl hx hlA hxA hlB hxB
        have i1 := impl_IsTrade.ev n ws A B hl hx hlA hxA hlB hxB
        have e1 := laws_eqGame.ev n ws (by omega) (fun s hs => by have := hx s hs; omega)
        have e2 : Ev (fun k => laws_eqTrade.f k A B A B) true := by
          unfold laws_eqTrade.f
          refine Ev.bind (laws_eqIntSS.ev A (by omega) (fun s hs => by have := hxA s hs; omega)) ?_
          simp only [↓reduceIte]
          refine Ev.bind (laws_eqIntSS.ev B (by omega) (fun s hs => by have := hxB s hs; omega)) ?_
          simp only [↓reduceIte]
          exact Ev.some
        generalize isTr n ws A B = v at s1 i1
        obtain ⟨u, b⟩ := v
        repeat (first | with_reducible refine Ev.bind t1 ?_ | with_reducible refine Ev.bind t2 ?_ | with_reducible refine Ev.bind s1 ?_ | with_reducible refine Ev.bind i1 ?_ | with_reducible refine Ev.bind e1 ?_ | with_reducible refine Ev.bind e2 ?_ | with_reducible exact Ev.some | simp only [bne_self_eq_false, Bool.false_eq_true, ↓reduceIte, one_lt, one_lt2, Bool.not_true, Bool.not_false, List.length_nil])
end Go.Proofs.Ythkbaolpiigioaa.P
