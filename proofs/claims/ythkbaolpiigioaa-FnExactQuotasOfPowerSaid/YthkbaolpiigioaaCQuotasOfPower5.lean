/- Part 5 of the texts below the law FnExactQuotasOfPower. Printed by this session's driver over the kit's printer, but for the hand contracts and the plain laws. -/
import Derived.ProofKit
import Derived.Deep.Slices
import Derived.Test.YthkbaolpiigioaaCQuotasOfPower0
import Derived.Test.YthkbaolpiigioaaCQuotasOfPower1
import Derived.Test.YthkbaolpiigioaaCQuotasOfPower2
import Derived.Test.YthkbaolpiigioaaCQuotasOfPower3
import Derived.Test.YthkbaolpiigioaaCQuotasOfPower4
set_option linter.unusedVariables false
set_option linter.unusedSimpArgs false
/- From a datum's reading to a value that the printed contracts speak of: kind by kind. No program in sight. -/
namespace Go.Proofs.Ythkbaolpiigioaa.P
open Go.RowKit Go.ChangeShapes Go.WideShapes Go.Proofs.YthkbaolpiigioaaW.PrintWords Go.Proofs.YthkbaolpiigioaaW.PrintLast Go.Proofs.YthkbaolpiigioaaW.PrintMore
def okI (x : Int) : Prop := -9223372036854775808 ≤ x ∧ x ≤ 9223372036854775807
def okL {α : Type} (Ok : α → Prop) (l : List α) : Prop := l.length ≤ 9223372036854775807 ∧ ∀ x ∈ l, Ok x
structure Opens {α : Type} (P : Program) (T : TypeId) (d : Kd α) (Ok : α → Prop) : Prop where
  go : ∀ {H : Type} (enc : TypeId × Value → H) (w : World) (fuel : Nat) (cs : List Value) (x : DataW H × List MemPlace),
    DataW.trod enc P w 0 (fun _ => true) true fuel T cs = some x → ∃ a, d.K w a cs ∧ Ok a
theorem Opens.int {P : Program} {T : TypeId} (h : P.underlying T = some (.int .i64)) : Opens P T (Kd.int .i64) okI := by
  refine ⟨fun enc w fuel cs x hx => ?_⟩
  obtain ⟨n, rfl, _, hw⟩ := DataW.trod_int h hx
  refine ⟨n, rfl, ?_⟩
  have hmin : IntKind.i64.min = -9223372036854775808 := rfl
  have hmax : IntKind.i64.max = 9223372036854775807 := rfl
  simp only [Lit.wf, Bool.and_eq_true, decide_eq_true_eq] at hw
  unfold okI
  omega
theorem cells_get {w : World} {a : Addr} {n : Nat} {cs : List Value} (h : w.cells? 0 a n = some cs) : cs.length = n ∧ ∀ j u, cs[j]? = some u → w.cell? (a.add j) = some u := by
  unfold World.cells? at h
  rw [if_pos (Nat.zero_le _)] at h
  have key : ∀ (l : List Nat) (r : List Value), l.mapM (fun i => w.cell? (a.add i)) = some r → r.length = l.length ∧ ∀ (j : Nat) (u : Value) (i : Nat), r[j]? = some u → l[j]? = some i → w.cell? (a.add i) = some u := by
    intro l
    induction l with
    | nil => intro r hr; simp at hr; subst hr; simp
    | cons i l ih =>
      intro r hr
      simp only [List.mapM_cons, Option.bind_eq_bind, Option.bind_eq_some_iff] at hr
      obtain ⟨v, hv, r', hr', he⟩ := hr
      have he' : v :: r' = r := by simpa using he
      subst he'
      obtain ⟨h1, h2⟩ := ih r' hr'
      refine ⟨by simp [h1], fun j u k hj hk => ?_⟩
      cases j with
      | zero => simp at hj hk; subst hj; subst hk; exact hv
      | succ j => simp at hj hk; exact h2 j u k hj hk
  obtain ⟨h1, h2⟩ := key _ _ h
  refine ⟨by simpa using h1, fun j u hj => ?_⟩
  have hlt : j < cs.length := (List.getElem?_eq_some_iff.1 hj).1
  exact h2 j u j hj (by rw [List.getElem?_range (by simpa [h1] using hlt)])
theorem add_add_ (a : Addr) (i j : Nat) : (a.add i).add j = a.add (i + j) := Go.Deep.add_add a i j
theorem Opens.slice {α : Type} {P : Program} {T e : TypeId} {d : Kd α} {Ok : α → Prop} (h : P.underlying T = some (.slice e)) (hc : P.cellsOf e = d.sz) (hd : Opens P e d Ok) : Opens P T (Kd.slice e d) (okL Ok) := by
  refine ⟨fun enc w fuel cs x hx => ?_⟩
  rcases Go.Deep.open_slice h hx with ⟨rfl, _⟩ | ⟨a, len, cap, m, n, D, Pl, rfl, _, hl, hm, hmm, _, hel⟩
  · exact ⟨[], ⟨none, 0, rfl, Nat.le_refl _, Kd.C_nil _ _⟩, by simp, by simp⟩
  · have hm' : m = cap := by simpa using hmm
    subst hm'
    have hex : ∀ i, i < len → ∃ y : α × List Value, y.2.length = d.sz ∧ d.K w y.1 y.2 ∧ Ok y.1 ∧ ∀ j u, y.2[j]? = some u → w.cell? (a.add (i * d.sz + j)) = some u := by
      intro i hi
      obtain ⟨cs', h1, h2⟩ := hel i (by omega)
      rw [hc] at h1
      obtain ⟨hlen, hcell⟩ := cells_get h1
      obtain ⟨y, hy, ho⟩ := hd.go enc w n cs' _ h2
      exact ⟨(y, cs'), hlen, hy, ho, fun j u hj => by rw [← add_add_]; exact hcell j u hj⟩
    by_cases h0 : len = 0
    · subst h0
      exact ⟨[], ⟨some a, _, rfl, Nat.zero_le _, rfl, by simp, fun h => absurd h (Nat.lt_irrefl 0)⟩, by simp, by simp⟩
    · obtain ⟨y0, _⟩ := hex 0 (by omega)
      have : Inhabited (α × List Value) := ⟨y0⟩
      obtain ⟨f, hf⟩ := Go.Deep.choose_lt (α := α × List Value) hex
      have hlen : ((List.range len).map fun i => (f i).1).length = len := by simp
      have hget : ∀ j p, ((List.range len).map fun i => (f i).1)[j]? = some p → j < len ∧ p = (f j).1 := by
        intro j p hj
        obtain ⟨hlt, he⟩ := List.getElem?_eq_some_iff.1 hj
        simp at hlt he
        exact ⟨hlt, he.symm⟩
      refine ⟨(List.range len).map fun i => (f i).1, ⟨some a, m, by rw [hlen], by rw [hlen]; exact hl, by rw [hlen], by rw [hlen]; unfold maxLen at hm; omega, fun _ => ⟨a, rfl, fun j p hj => ?_⟩⟩, ?_, ?_⟩
      · obtain ⟨hlt, rfl⟩ := hget j p hj
        obtain ⟨h1, h2, _, h3⟩ := hf j hlt
        exact ⟨(f j).2, h1, h2, h3⟩
      · rw [hlen]; unfold maxLen at hm; omega
      · intro p hp
        obtain ⟨j, hj⟩ := List.mem_iff_getElem?.1 hp
        obtain ⟨hlt, rfl⟩ := hget j p hj
        exact (hf j hlt).2.2.1
theorem Opens.struct2 {α β γ : Type} {P : Program} {T : TypeId} {f0 f1 : Field} {d0 : Kd α} {d1 : Kd β} {Ok0 : α → Prop} {Ok1 : β → Prop} {F : γ → α × β} (h : P.underlying T = some (.struct #[f0, f1]))
    (o0 : f0.offset = 0) (s0 : P.cellsOf f0.type = d0.sz) (o1 : f1.offset = d0.sz) (s1 : P.cellsOf f1.type = d1.sz) (sT : P.cellsOf T = d0.sz + d1.sz)
    (h0 : Opens P f0.type d0 Ok0) (h1 : Opens P f1.type d1 Ok1) (sur : ∀ p, ∃ x, F x = p) : Opens P T (Kd.iso (Kd.pair d0 d1) F) (fun x => Ok0 (F x).1 ∧ Ok1 (F x).2) := by
  refine ⟨fun enc w fuel cs x hx => ?_⟩
  obtain ⟨y0, y1, n, _, hlen, r0, r1⟩ := trod_struct2 h hx
  rw [o0, s0, List.drop_zero] at r0
  rw [o1, s1] at r1
  obtain ⟨a0, k0, p0⟩ := h0.go enc w n _ _ r0
  obtain ⟨a1, k1, p1⟩ := h1.go enc w n _ _ r1
  obtain ⟨z, hz⟩ := sur (a0, a1)
  refine ⟨z, ?_, by rw [hz]; exact ⟨p0, p1⟩⟩
  show (Kd.pair d0 d1).K w (F z) cs
  rw [hz]
  refine ⟨_, _, ?_, k0, k1⟩
  rw [List.take_of_length_le (l := cs.drop d0.sz) (by rw [List.length_drop]; omega), List.take_append_drop]
/-- A struct's value: an aggregate of its cells, read as x. -/
theorem open_agg_ {α : Type} {H : Type} {enc : TypeId × Value → H} {P : Program} {w : World} {r : Reach} {b0 : Nat} {T : TypeId} {fs : Array Field} {d : Kd α} {Ok : α → Prop} {v : Value} {y : DataW H} {p : List MemPlace}
    (h : P.underlying T = some (.struct fs)) (ho : Opens P T d Ok) (hv : Value.okWide P w r b0 T v) (hd : DataW.Trod enc P w 0 (fun _ => true) true T v y p) : ∃ cs x, v = .agg cs ∧ d.K w x cs.toList ∧ Ok x := by
  obtain ⟨cs, rfl, _⟩ := okWide_struct h hv
  obtain ⟨fuel, hf⟩ := hd
  obtain ⟨x, hx, hok⟩ := ho.go enc w fuel _ _ hf
  exact ⟨cs, x, rfl, by simpa [Value.cells] using hx, hok⟩
theorem open_int_ {H : Type} {enc : TypeId × Value → H} {P : Program} {w : World} {r : Reach} {b0 : Nat} {T : TypeId} {v : Value} {y : DataW H} {p : List MemPlace}
    (h : P.underlying T = some (.int .i64)) (hv : Value.okWide P w r b0 T v) (hd : DataW.Trod enc P w 0 (fun _ => true) true T v y p) : ∃ n : Int, v = .int .i64 n ∧ okI n := by
  obtain ⟨n, rfl, _, _, hw⟩ := open_int h hv hd
  refine ⟨n, rfl, ?_⟩
  have hmin : IntKind.i64.min = -9223372036854775808 := rfl
  have hmax : IntKind.i64.max = 9223372036854775807 := rfl
  simp only [Lit.wf, Bool.and_eq_true, decide_eq_true_eq] at hw
  unfold okI
  omega
end Go.Proofs.Ythkbaolpiigioaa.P

namespace Go.Proofs.Ythkbaolpiigioaa.P
open Go.RowKit Go.Proofs.YthkbaolpiigioaaW.PrintWords Go.Proofs.YthkbaolpiigioaaW.PrintLast Go.Proofs.YthkbaolpiigioaaW.PrintMore
def ok_laws_Committee (x : S_laws_Committee) : Prop := okI x.f0 ∧ (okL okI) x.f1
theorem op_laws_Committee : Opens Try.prog 24 k_laws_Committee ok_laws_Committee :=
  Opens.struct2 (F := fun x : S_laws_Committee => (x.f0, x.f1)) Try.underlying24 rfl (by kernel_rfl) rfl (by kernel_rfl) (by kernel_rfl) (Opens.int Try.underlying3) (Opens.slice Try.underlying22 (by kernel_rfl) (Opens.int Try.underlying3)) (fun p => ⟨⟨p.1, p.2⟩, rfl⟩)
end Go.Proofs.Ythkbaolpiigioaa.P

/- Plain laws: loops told by rounds, lists, numbers. No program in sight. -/
namespace Go.Proofs.Ythkbaolpiigioaa.P
open Go.RowKit Go.Proofs.YthkbaolpiigioaaW.PrintWords Go.Proofs.YthkbaolpiigioaaW.PrintLast Go.Proofs.YthkbaolpiigioaaW.PrintMore
/-- A loop over 0 .. n - 1, told backwards: G i: the loop from i on, by rounds; R i: what it answers from there. -/
theorem Ev.down {ρ : Type} {G : Nat → Nat → Option ρ} {R : Nat → ρ} (n : Nat) (hend : Ev (G n) (R n)) (hstep : ∀ i, i < n → Ev (G (i + 1)) (R (i + 1)) → Ev (G i) (R i)) : ∀ i, i ≤ n → Ev (G i) (R i) := by
  have key : ∀ d i, i + d = n → Ev (G i) (R i) := by
    intro d
    induction d with
    | zero => intro i hi; obtain rfl : i = n := by omega
              exact hend
    | succ d ih => intro i hi; exact hstep i (by omega) (ih (i + 1) (by omega))
  intro i hi
  exact key (n - i) i (by omega)
theorem back {P : Nat → Prop} (n : Nat) (hend : P n) (hstep : ∀ i, i < n → P (i + 1) → P i) : ∀ i, i ≤ n → P i := by
  have key : ∀ d i, i + d = n → P i := by
    intro d
    induction d with
    | zero => intro i hi; obtain rfl : i = n := by omega
              exact hend
    | succ d ih => intro i hi; exact hstep i (by omega) (ih (i + 1) (by omega))
  intro i hi
  exact key (n - i) i (by omega)
theorem Ev.some {α : Type} {r : α} : Ev (fun _ => Option.some r) r := Ev.now r
theorem Ev.one {α : Type} {g : Option α} {r : α} (h : g = Option.some r) : Ev (fun _ => g) r := ⟨0, fun _ _ => h⟩
theorem Ev.bind0 {α β : Type} {g : Option α} {f : Nat → α → Option β} {a : α} {r : β} (h : g = Option.some a) (k : Ev (fun n => f n a) r) : Ev (fun n => g.bind (f n)) r := by
  subst h; exact k
theorem Ev.ite_pos {α : Type} {c : Prop} [Decidable c] {g f : Nat → Option α} {r : α} (hc : c) (h : Ev g r) : Ev (fun k => if c then g k else f k) r := by
  obtain ⟨K, h⟩ := h; exact ⟨K, fun k hk => (if_pos hc).trans (h k hk)⟩
theorem Ev.ite_neg {α : Type} {c : Prop} [Decidable c] {g f : Nat → Option α} {r : α} (hc : ¬ c) (h : Ev f r) : Ev (fun k => if c then g k else f k) r := by
  obtain ⟨K, h⟩ := h; exact ⟨K, fun k hk => (if_neg hc).trans (h k hk)⟩
theorem Ev.eq {α : Type} {g : Nat → Option α} {r r' : α} (h : Ev g r) (e : r = r') : Ev g r' := e ▸ h
theorem Ev.shift {α : Type} {g : Nat → Option α} {r : α} (h : Ev (fun k => g (k + 1)) r) : Ev g r := Ev.step (fun _ => rfl) h
theorem w64 {x : Int} (h0 : -9223372036854775808 ≤ x) (h1 : x ≤ 9223372036854775807) : wrap64 x = x := by unfold wrap64; omega
theorem w1 {i n : Nat} (h : i < n) (hn : n ≤ 9223372036854775807) : wrap64 ((i : Int) + 1) = ((i + 1 : Nat) : Int) := by unfold wrap64; omega
theorem rd_nat (l : List Int) (i : Nat) : rd l (i : Int) = l.getD i 0 := by simp [rd]
theorem rdB_nat (l : List Bool) (i : Nat) : rdOf false l (i : Int) = l.getD i false := by simp [rdOf]
/-! ### lists -/
theorem drop_getD {α : Type} (l : List α) (d : α) (i : Nat) (h : i < l.length) : l.drop i = l.getD i d :: l.drop (i + 1) := drop_cons l d i h
theorem take_getD {α : Type} (l : List α) (d : α) (i : Nat) (h : i < l.length) : l.take (i + 1) = l.take i ++ [l.getD i d] := by
  rw [List.take_succ_eq_append_getElem h, List.getD_eq_getElem?_getD, List.getElem?_eq_getElem h]; rfl
theorem getD_mem {α : Type} (l : List α) (d : α) (i : Nat) (h : i < l.length) : l.getD i d ∈ l := by
  rw [List.getD_eq_getElem?_getD, List.getElem?_eq_getElem h]; exact List.getElem_mem h
theorem foldl_take {α β : Type} (f : β → α → β) (b : β) (l : List α) (d : α) (i : Nat) (h : i < l.length) : (l.take (i + 1)).foldl f b = f ((l.take i).foldl f b) (l.getD i d) := by
  rw [take_getD l d i h, List.foldl_append]; rfl
/-- A row that is being filled. -/
def filled {α : Type} (l : List α) (z : α) (i : Nat) : List α := l.take i ++ List.replicate (l.length - i) z
theorem filled_len {α : Type} (l : List α) (z : α) (i : Nat) (h : i ≤ l.length) : (filled l z i).length = l.length := by unfold filled; simp; omega
theorem filled_zero {α : Type} (l : List α) (z : α) : filled l z 0 = List.replicate l.length z := by simp [filled]
theorem filled_all {α : Type} (l : List α) (z : α) : filled l z l.length = l := by simp [filled]
theorem filled_set {α : Type} (l : List α) (z d : α) (i : Nat) (h : i < l.length) : (filled l z i).set i (l.getD i d) = filled l z (i + 1) := by
  unfold filled
  have e : (l.take i).length = i := by simp; omega
  rw [take_getD l d i h, List.set_append_right i (l.getD i d) (by omega), e, Nat.sub_self, show l.length - i = (l.length - (i + 1)) + 1 by omega, List.replicate_succ]
  simp
/-! ### marks -/
def marks (a : Int) (n : Nat) : List Int := (List.range n).map fun i : Nat => a + (i : Int)
theorem marks_len (a : Int) (n : Nat) : (marks a n).length = n := by simp [marks]
theorem marks_get (a : Int) (n i : Nat) (h : i < n) : (marks a n).getD i 0 = a + (i : Int) := by simp [marks, List.getD_eq_getElem?_getD, List.getElem?_range h]
/-! ### committees -/
def inI (a b x : Int) : Bool := decide (a ≤ x) && decide (x ≤ b)
def isComm (q : Int) (l : List Int) : Bool := decide (1 ≤ l.length) && decide (l.length ≤ 9) && l.all (inI 0 1000) && inI 1 l.sum q
theorem isComm_len {q : Int} {l : List Int} (h : isComm q l = true) : 1 ≤ l.length ∧ l.length ≤ 9 := by simp [isComm] at h; exact ⟨h.1.1.1, h.1.1.2⟩
theorem isComm_mem {q : Int} {l : List Int} (h : isComm q l = true) : ∀ x ∈ l, 0 ≤ x ∧ x ≤ 1000 := by
  intro x hx
  simp [isComm, inI] at h
  exact h.1.2 x hx
theorem isComm_q {q : Int} {l : List Int} (h : isComm q l = true) : 1 ≤ q ∧ q ≤ l.sum := by simp [isComm, inI] at h; exact h.2
/-- Wrapping sums of few small numbers do not wrap. -/
def wsum (l : List Int) : Int := l.foldl (fun s x => wrap64 (s + x)) 0
theorem wsum_from (l : List Int) (s : Int) (hs : 0 ≤ s) (h : ∀ x ∈ l, 0 ≤ x ∧ x ≤ 1000) (hb : s + 1000 * l.length ≤ 9223372036854775807) : l.foldl (fun s x => wrap64 (s + x)) s = s + l.sum := by
  induction l generalizing s with
  | nil => simp
  | cons x l ih =>
    have h1 := h x (by simp)
    simp only [List.length_cons] at hb
    rw [List.foldl_cons, w64 (by omega) (by omega), ih (s + x) (by omega) (fun y hy => h y (by simp [hy])) (by omega), List.sum_cons]
    omega
theorem wsum_eq (l : List Int) (h : ∀ x ∈ l, 0 ≤ x ∧ x ≤ 1000) (hb : l.length ≤ 9000000) : wsum l = l.sum := by
  unfold wsum; rw [wsum_from l 0 (by omega) h (by omega)]; omega
/-! ### numbers as bits -/
theorem shr_nat (x i : Nat) (h : i ≤ 64) : shr .i64 (x : Int) (i : Int) = ((x / 2 ^ i : Nat) : Int) := by
  unfold shr
  have e : min ((i : Int).toNat) IntKind.i64.bits = i := by
    have : IntKind.i64.bits = 64 := rfl
    omega
  rw [e]; simp
theorem pow63 {i : Nat} (h : i < 63) : 2 ^ i < 9223372036854775808 := Nat.lt_of_lt_of_le (Nat.pow_lt_pow_right (by omega) h) (by decide)
theorem shl_one (i : Nat) (h : i < 63) : shl .i64 1 (i : Int) = ((2 ^ i : Nat) : Int) := by
  unfold shl
  have e : min ((i : Int).toNat) IntKind.i64.bits = i := by
    have : IntKind.i64.bits = 64 := rfl
    omega
  have h1 := pow63 h
  have c : ((2 ^ i : Nat) : Int) = 2 ^ i := by simp
  rw [e, Int.one_mul, IntKind.wrap_i64, ← c]
  generalize 2 ^ i = z at h1
  omega
theorem i64_of (n : Int) (h0 : 0 ≤ n) (h1 : n < 2 ^ 63) : IntKind.i64.wrap n = n := by rw [IntKind.wrap_i64]; omega
theorem and_nat (a b : Nat) (ha : a < 2 ^ 63) (hb : b < 2 ^ 63) : Go.bits .and .i64 (a : Int) (b : Int) = ((a &&& b : Nat) : Int) := (bits_nat .i64 63 (by decide) i64_of a b ha hb).1
theorem or_nat (a b : Nat) (ha : a < 2 ^ 63) (hb : b < 2 ^ 63) : Go.bits .or .i64 (a : Int) (b : Int) = ((a ||| b : Nat) : Int) := (bits_nat .i64 63 (by decide) i64_of a b ha hb).2
theorem and_one (a : Nat) (ha : a < 2 ^ 63) : Go.bits .and .i64 (a : Int) 1 = ((a % 2 : Nat) : Int) := by
  have := and_nat a 1 ha (by decide)
  rw [Nat.and_one_is_mod] at this
  exact this
theorem tmod_two (a : Nat) : Int.tmod (a : Int) 2 = ((a % 2 : Nat) : Int) := by rw [Int.tmod_eq_emod_of_nonneg (by omega)]; omega
theorem bit_nat (b i : Nat) : b.testBit i = decide (b / 2 ^ i % 2 = 1) := by rw [Nat.testBit_eq_decide_div_mod_eq]
theorem or_pow {b i : Nat} (h : b.testBit i = false) : b ||| 2 ^ i = b + 2 ^ i := by
  apply Nat.eq_of_testBit_eq
  intro j
  rw [Nat.testBit_or, Nat.testBit_two_pow, Nat.add_comm]
  rcases Nat.lt_trichotomy j i with hj | hj | hj
  · rw [Nat.testBit_two_pow_add_gt hj]
    have : ¬ i = j := by omega
    simp [this]
  · subst hj
    rw [Nat.testBit_two_pow_add_eq, h]
    simp
  · have hd : (2 ^ i + b) / 2 ^ (i + 1) = b / 2 ^ (i + 1) := by
      have h0 : b / 2 ^ i % 2 = 0 := by
        rw [bit_nat] at h
        have h1 := Nat.mod_two_eq_zero_or_one (b / 2 ^ i)
        rcases h1 with h1 | h1
        · exact h1
        · simp [h1] at h
      rw [Nat.pow_succ, ← Nat.div_div_eq_div_mul, ← Nat.div_div_eq_div_mul, Nat.add_div_left _ (Nat.two_pow_pos i)]
      omega
    obtain ⟨d, rfl⟩ : ∃ d, j = i + 1 + d := ⟨j - (i + 1), by omega⟩
    have e : ∀ x : Nat, x.testBit (i + 1 + d) = (x / 2 ^ (i + 1)).testBit d := fun x => by
      rw [Nat.testBit_div_two_pow, Nat.add_comm d]
    rw [e, e, hd]
    have : ¬ i = i + 1 + d := by omega
    simp [this]
/-! ### weights of sets told by bits -/
def wt : List Int → Nat → Int
  | [], _ => 0
  | x :: l, b => (if b % 2 = 1 then x else 0) + wt l (b / 2)
/-- What is told of each set of n members, by bits. -/
def tab (n : Nat) (P : Nat → Bool) : List Bool := (List.range (2 ^ n)).map P
theorem tab_len (n : Nat) (P : Nat → Bool) : (tab n P).length = 2 ^ n := by simp [tab]
theorem tab_get (n : Nat) (P : Nat → Bool) (b : Nat) (h : b < 2 ^ n) : (tab n P).getD b false = P b := by simp [tab, List.getD_eq_getElem?_getD, List.getElem?_range h]
theorem pow_small {n m : Nat} (h : n ≤ m) : 2 ^ n ≤ 2 ^ m := Nat.pow_le_pow_right (by omega) h
/-- The members for which something is true. -/
def sel (n : Nat) (P : Nat → Bool) : List Int := ((List.range n).filter P).map fun i : Nat => (i : Int)
theorem sel_succ (n : Nat) (P : Nat → Bool) : sel (n + 1) P = sel n P ++ (if P n = true then [(n : Int)] else []) := by
  unfold sel
  rw [List.range_succ, List.filter_append, List.map_append]
  congr 1
  cases h : P n <;> simp [h]
theorem sel_len (n : Nat) (P : Nat → Bool) : (sel n P).length ≤ n := by
  have := List.length_filter_le P (List.range n)
  simp [sel] at *; omega
/-- Of what is told by rounds for each of a list, from one round on all is told. -/
theorem Ev.all {α β : Type} {p : Nat → α → Option β} {P : α → β} (l : List α) (h : ∀ x ∈ l, Ev (fun k => p k x) (P x)) : ∃ K, ∀ k, K ≤ k → ∀ x ∈ l, p k x = Option.some (P x) := by
  induction l with
  | nil => exact ⟨0, fun _ _ _ h => by simp at h⟩
  | cons x l ih =>
    obtain ⟨K, hK⟩ := ih (fun y hy => h y (by simp [hy]))
    obtain ⟨K', hK'⟩ := h x (by simp)
    refine ⟨K + K', fun k hk y hy => ?_⟩
    rcases List.mem_cons.1 hy with rfl | hy
    · exact hK' k (by omega)
    · exact hK k (by omega) y hy
/-- A loop that asks what is told by rounds: from one round on, what is told stands, and the loop is told with it held. -/
theorem Ev.ask {α β γ : Type} {p : Nat → α → Option β} {P : α → β} (l : List α) (h : ∀ x ∈ l, Ev (fun k => p k x) (P x)) {F : Nat → (α → Option β) → Option γ} {r : γ} (hF : ∃ K, ∀ k, K ≤ k → ∀ q : α → Option β, (∀ x ∈ l, q x = Option.some (P x)) → F k q = Option.some r) : Ev (fun k => F k (p k)) r := by
  obtain ⟨K, hK⟩ := Ev.all l h
  obtain ⟨K', hK'⟩ := hF
  exact ⟨K + K', fun k hk => hK' k (by omega) _ (hK k (by omega))⟩
/-- A loop over 0 .. n - 1, told backwards, by so many rounds. -/
theorem downq {ρ : Type} {G : Nat → Nat → Option ρ} {R : Nat → ρ} (n : Nat) (hend : ∀ k, G n (k + 1) = Option.some (R n)) (hstep : ∀ i, i < n → ∀ k, G (i + 1) k = Option.some (R (i + 1)) → G i (k + 1) = Option.some (R i)) : ∀ i, i ≤ n → ∀ k, n - i < k → G i k = Option.some (R i) := by
  have key : ∀ d i, i + d = n → ∀ k, d < k → G i k = Option.some (R i) := by
    intro d
    induction d with
    | zero => intro i hi k hk
              obtain rfl : i = n := by omega
              obtain ⟨k, rfl⟩ : ∃ j, k = j + 1 := ⟨k - 1, by omega⟩
              exact hend k
    | succ d ih => intro i hi k hk
                   obtain ⟨k, rfl⟩ : ∃ j, k = j + 1 := ⟨k - 1, by omega⟩
                   exact hstep i (by omega) k (ih (i + 1) (by omega) k (by omega))
  intro i hi k hk
  exact key (n - i) i (by omega) k (by omega)
/-- Where the first of a list is for which something is true, or -1. -/
def idxFrom {α : Type} (P : α → Bool) : Nat → List α → Int
  | _, [] => -1
  | i, x :: l => if P x = true then (i : Int) else idxFrom P (i + 1) l
theorem idxFrom_nn {α : Type} (P : α → Bool) (l : List α) (i : Nat) : decide (idxFrom P i l ≥ 0) = l.any P := by
  induction l generalizing i with
  | nil => rfl
  | cons x l ih =>
    unfold idxFrom
    rw [List.any_cons]
    cases h : P x with
    | true => simp only [↓reduceIte, Bool.true_or, decide_eq_true_eq]; omega
    | false => simp only [Bool.false_eq_true, ↓reduceIte, Bool.false_or]; exact ih (i + 1)
/-- A row that is written over, from its head on. -/
def over {α : Type} (t l : List α) (i : Nat) : List α := t.take i ++ l.drop i
theorem over_zero {α : Type} (t l : List α) : over t l 0 = l := by simp [over]
theorem over_all {α : Type} (t l : List α) (h : t.length = l.length) : over t l l.length = t := by simp [over, ← h]
theorem over_len {α : Type} (t l : List α) (i : Nat) (h : t.length = l.length) : (over t l i).length = l.length := by simp [over]; omega
theorem over_set {α : Type} (t l : List α) (d : α) (i : Nat) (h : t.length = l.length) (hi : i < l.length) : (over t l i).set i (t.getD i d) = over t l (i + 1) := by
  unfold over
  have e : (t.take i).length = i := by simp; omega
  rw [take_getD t d i (by omega), List.set_append_right i (t.getD i d) (by omega), e, Nat.sub_self, List.drop_eq_getElem_cons hi, List.set_cons_zero, List.append_assoc]
  rfl
theorem one_lt (n : Nat) : ((1 : Int) + (n : Int) < 0) = False := by simp; omega
theorem one_lt2 (n m : Nat) : ((1 : Int) + (n : Int) + (m : Int) < 0) = False := by simp; omega
/-- Whether a set without a member loses, and wins with it. -/
def swing (w : List Bool) (i m : Nat) : Bool := !m.testBit i && !w.getD m false && w.getD (m + 2 ^ i) false
def swl (n : Nat) (w : List Bool) : List Int := (List.range n).map fun i => (((List.range (2 ^ n)).countP (swing w i) : Nat) : Int)
theorem swl_len (n : Nat) (w : List Bool) : (swl n w).length = n := by simp [swl]
theorem swl_get (n : Nat) (w : List Bool) (i : Nat) (h : i < n) : (swl n w).getD i 0 = (((List.range (2 ^ n)).countP (swing w i) : Nat) : Int) := by simp [swl, List.getD_eq_getElem?_getD, List.getElem?_range h]
theorem with_lt {n m i : Nat} (hm : m < 2 ^ n) (hi : i < n) (h : m.testBit i = false) : m + 2 ^ i < 2 ^ n := by
  rw [← or_pow h]; exact Nat.or_lt_two_pow hm (Nat.pow_lt_pow_right (by omega) hi)
end Go.Proofs.Ythkbaolpiigioaa.P

namespace Go.Proofs.Ythkbaolpiigioaa.P
/-- The pure statement of FnExactQuotasOfPower. -/
def laws_FnExactQuotasOfPower.Pure : Prop := ∀ (a0_0 : Int) (l0_1 : List Int) (a1 : Int), okI a0_0 → (okL okI) l0_1 → okI a1 → ∃ k, laws_FnExactQuotasOfPower.f k a0_0 l0_1 a1 = some true
end Go.Proofs.Ythkbaolpiigioaa.P

/- Pivots: all members together are pivots of all orders, once each. No program in sight. -/
namespace Go.Proofs.Ythkbaolpiigioaa.P
/-- How many of the first n bits are set. -/
def pcR : Nat → Nat → Nat
  | 0, _ => 0
  | n + 1, m => pcR n m + if m.testBit n = true then 1 else 0
def fac : Nat → Nat
  | 0 => 1
  | n + 1 => (n + 1) * fac n
theorem fac_le {n m : Nat} (h : n ≤ m) : fac n ≤ fac m := by
  induction m with
  | zero => obtain rfl : n = 0 := by omega
            exact Nat.le_refl _
  | succ m ih =>
    by_cases e : n = m + 1
    · rw [e]; exact Nat.le_refl _
    · exact Nat.le_trans (ih (by omega)) (by rw [fac]; exact Nat.le_mul_of_pos_left _ (by omega))
theorem fac_nine {n : Nat} (h : n ≤ 9) : fac n ≤ 362880 := Nat.le_trans (fac_le h) (by decide)
theorem pcR_le (n m : Nat) : pcR n m ≤ n := by
  induction n with
  | zero => exact Nat.le_refl _
  | succ n ih => rw [pcR]; split <;> omega
theorem pcR_more (n d m : Nat) (h : m < 2 ^ n) : pcR (n + d) m = pcR n m := by
  induction d with
  | zero => rfl
  | succ d ih =>
    rw [show n + (d + 1) = (n + d) + 1 from rfl, pcR, ih, Nat.testBit_lt_two_pow (Nat.lt_of_lt_of_le h (Nat.pow_le_pow_right (by omega) (by omega)))]
    rfl
theorem pcR_lt (n m k : Nat) (hk : k < n) (hb : m.testBit k = false) : pcR n m ≤ n - 1 := by
  induction n with
  | zero => omega
  | succ n ih =>
    rw [pcR]
    have := pcR_le n m
    by_cases e : k = n
    · subst e; rw [hb]; simp only [Bool.false_eq_true, ↓reduceIte]; omega
    · have := ih (by omega)
      split <;> omega
theorem bit_with (m k j : Nat) (hb : m.testBit k = false) : (m + 2 ^ k).testBit j = (m.testBit j || decide (k = j)) := by
  rw [← or_pow hb, Nat.testBit_or, Nat.testBit_two_pow]
theorem pcR_with (n m k : Nat) (hk : k < n) (hb : m.testBit k = false) : pcR n (m + 2 ^ k) = pcR n m + 1 := by
  have off : ∀ n, n ≤ k → pcR n (m + 2 ^ k) = pcR n m := by
    intro n
    induction n with
    | zero => intro _; rfl
    | succ n ih =>
      intro h
      rw [pcR, pcR, ih (by omega), bit_with m k n hb, show decide (k = n) = false from decide_eq_false (by omega), Bool.or_false]
  induction n with
  | zero => omega
  | succ n ih =>
    rw [pcR, pcR, bit_with m k n hb]
    by_cases e : k = n
    · subst e
      rw [off k (Nat.le_refl _), hb, show decide (k = k) = true from decide_eq_true rfl]
      simp
    · rw [ih (by omega), show decide (k = n) = false from decide_eq_false e, Bool.or_false]
      omega
/-- Sums over all sets of n members, and over n members. -/
def sumS : Nat → (Nat → Int) → Int
  | 0, F => F 0
  | n + 1, F => sumS n F + sumS n (fun m => F (m + 2 ^ n))
def sumN : Nat → (Nat → Int) → Int
  | 0, _ => 0
  | n + 1, F => sumN n F + F n
theorem sumS_congr (n : Nat) (F G : Nat → Int) (h : ∀ m, m < 2 ^ n → F m = G m) : sumS n F = sumS n G := by
  induction n generalizing F G with
  | zero => exact h 0 (by decide)
  | succ n ih =>
    have hp := Nat.two_pow_pos n
    rw [sumS, sumS, ih F G (fun m hm => h m (by rw [Nat.pow_succ]; omega)), ih _ _ (fun m hm => h (m + 2 ^ n) (by rw [Nat.pow_succ]; omega))]
theorem sumS_add (n : Nat) (F G : Nat → Int) : sumS n (fun m => F m + G m) = sumS n F + sumS n G := by
  induction n generalizing F G with
  | zero => rfl
  | succ n ih => rw [sumS, sumS, sumS, ih, ih (fun m => F (m + 2 ^ n)) (fun m => G (m + 2 ^ n))]; omega
theorem sumS_sub (n : Nat) (F G : Nat → Int) : sumS n (fun m => F m - G m) = sumS n F - sumS n G := by
  induction n generalizing F G with
  | zero => rfl
  | succ n ih => rw [sumS, sumS, sumS, ih, ih (fun m => F (m + 2 ^ n)) (fun m => G (m + 2 ^ n))]; omega
theorem sumS_zero (n : Nat) : sumS n (fun _ => 0) = 0 := by
  induction n with
  | zero => rfl
  | succ n ih => rw [sumS, ih]; rfl
theorem sumN_swap (n N : Nat) (G : Nat → Nat → Int) : sumN n (fun k => sumS N (G k)) = sumS N (fun m => sumN n (fun k => G k m)) := by
  induction n with
  | zero => exact (sumS_zero N).symm
  | succ n ih => rw [sumN, ih, ← sumS_add]; rfl
theorem sumN_congr (n : Nat) (F G : Nat → Int) (h : ∀ k, k < n → F k = G k) : sumN n F = sumN n G := by
  induction n with
  | zero => rfl
  | succ n ih => rw [sumN, sumN, ih (fun k hk => h k (by omega)), h n (by omega)]
theorem low_bit (m n k : Nat) (h : k < n) : (m + 2 ^ n).testBit k = m.testBit k := by rw [Nat.add_comm, Nat.testBit_two_pow_add_gt h]
theorem top_bit (m n : Nat) (h : m < 2 ^ n) : (m + 2 ^ n).testBit n = true := by rw [Nat.add_comm, Nat.testBit_two_pow_add_eq, Nat.testBit_lt_two_pow h]; rfl
/-- The sets without a member, each with it put in: the sets with it. -/
theorem sumS_put (n k : Nat) (hk : k < n) (F : Nat → Int) : sumS n (fun m => if m.testBit k = true then 0 else F (m + 2 ^ k)) = sumS n (fun m => if m.testBit k = true then F m else 0) := by
  induction n generalizing F with
  | zero => omega
  | succ n ih =>
    rw [sumS, sumS]
    by_cases e : k = n
    · subst e
      rw [sumS_congr k _ (fun m => F (m + 2 ^ k)) (fun m hm => by simp only [Nat.testBit_lt_two_pow hm, Bool.false_eq_true, ↓reduceIte]),
        sumS_congr k (fun m => if (m + 2 ^ k).testBit k = true then 0 else F (m + 2 ^ k + 2 ^ k)) (fun _ => 0) (fun m hm => by simp only [top_bit m k hm, ↓reduceIte]),
        sumS_congr k (fun m => if m.testBit k = true then F m else 0) (fun _ => 0) (fun m hm => by simp only [Nat.testBit_lt_two_pow hm, Bool.false_eq_true, ↓reduceIte]),
        sumS_congr k (fun m => if (m + 2 ^ k).testBit k = true then F (m + 2 ^ k) else 0) (fun m => F (m + 2 ^ k)) (fun m hm => by simp only [top_bit m k hm, ↓reduceIte]), sumS_zero]
      omega
    · have hkn : k < n := by omega
      have h2 := ih hkn (fun m => F (m + 2 ^ n))
      rw [ih hkn F]
      congr 1
      rw [sumS_congr n (fun m => if (m + 2 ^ n).testBit k = true then 0 else F (m + 2 ^ n + 2 ^ k)) (fun m => if m.testBit k = true then 0 else F (m + 2 ^ k + 2 ^ n)) (fun m _ => by rw [low_bit m n k hkn, Nat.add_right_comm]),
        sumS_congr n (fun m => if (m + 2 ^ n).testBit k = true then F (m + 2 ^ n) else 0) (fun m => if m.testBit k = true then F (m + 2 ^ n) else 0) (fun m _ => by rw [low_bit m n k hkn])]
      exact h2
theorem sumN_bits (n m : Nat) (A B : Int) : sumN n (fun k => if m.testBit k = true then A else -B) = (pcR n m : Int) * A - ((n : Int) - (pcR n m : Int)) * B := by
  induction n with
  | zero => simp [sumN, pcR]
  | succ n ih =>
    rw [sumN, ih, pcR]
    by_cases h : m.testBit n = true
    · simp only [h, ↓reduceIte, Int.natCast_add, Int.natCast_one, Int.sub_mul, Int.add_mul, Int.one_mul]; omega
    · simp only [h, ↓reduceIte, Int.natCast_add, Int.natCast_one, Nat.add_zero, Int.sub_mul, Int.add_mul, Int.one_mul]; simp; omega
theorem pcR_up (n m : Nat) : pcR n (m + 2 ^ n) = pcR n m := by
  have key : ∀ d, d ≤ n → pcR d (m + 2 ^ n) = pcR d m := by
    intro d
    induction d with
    | zero => intro _; rfl
    | succ d ih => intro h; rw [pcR, pcR, ih (by omega), low_bit m n d (by omega)]
  exact key n (Nat.le_refl _)
theorem sumS_full (n : Nat) (f : Nat → Int) : sumS n (fun m => if pcR n m = n then f m else 0) = f (2 ^ n - 1) := by
  induction n generalizing f with
  | zero => rfl
  | succ n ih =>
    have hp := Nat.two_pow_pos n
    rw [sumS, sumS_congr n _ (fun _ => 0) (fun m hm => by
      have := pcR_le n m
      rw [pcR, Nat.testBit_lt_two_pow hm, if_neg (show ¬ pcR n m + (if false = true then 1 else 0) = n + 1 by simp; omega)]), sumS_zero, Int.zero_add,
      sumS_congr n (fun m => if pcR (n + 1) (m + 2 ^ n) = n + 1 then f (m + 2 ^ n) else 0) (fun m => if pcR n m = n then f (m + 2 ^ n) else 0) (fun m hm => by
        rw [pcR, pcR_up, top_bit m n hm]
        simp), ih (fun m => f (m + 2 ^ n))]
    congr 1
    rw [Nat.pow_succ]; omega
theorem sumS_none (n : Nat) (f : Nat → Int) : sumS n (fun m => if pcR n m = 0 then f m else 0) = f 0 := by
  induction n generalizing f with
  | zero => rfl
  | succ n ih =>
    rw [sumS, sumS_congr n _ (fun m => if pcR n m = 0 then f m else 0) (fun m hm => by
      rw [pcR, Nat.testBit_lt_two_pow hm]
      simp), ih f, sumS_congr n (fun m => if pcR (n + 1) (m + 2 ^ n) = 0 then f (m + 2 ^ n) else 0) (fun _ => 0) (fun m hm => by
        rw [pcR, top_bit m n hm]
        simp), sumS_zero, Int.add_zero]
/-- The orders in which just these members come before one. -/
def wgt (n s : Nat) : Nat := fac s * fac (n - 1 - s)
theorem wgt_le {n s : Nat} (hs : s ≤ n - 1) (hn : 1 ≤ n) (h9 : n ≤ 9) : wgt n s ≤ 362880 := by
  have key : ∀ t s, fac s * fac t ≤ fac (s + t) := by
    intro t s
    induction s with
    | zero => simp [fac]
    | succ s ih =>
      rw [show s + 1 + t = (s + t) + 1 by omega, fac, fac, Nat.mul_assoc]
      exact Nat.le_trans (Nat.mul_le_mul_left _ ih) (Nat.mul_le_mul_right _ (by omega))
  exact Nat.le_trans (key _ _) (Nat.le_trans (fac_le (show s + (n - 1 - s) ≤ 9 by omega)) (by decide))
theorem coef (n s : Nat) (hn : 1 ≤ n) (hs : s ≤ n) : (s : Int) * (wgt n (s - 1) : Int) - ((n : Int) - (s : Int)) * (wgt n s : Int) = (if s = n then (fac n : Int) else 0) - (if s = 0 then (fac n : Int) else 0) := by
  unfold wgt
  by_cases h0 : s = 0
  · subst h0
    rw [if_neg (by omega), if_pos rfl]
    obtain ⟨d, rfl⟩ : ∃ d, n = d + 1 := ⟨n - 1, by omega⟩
    simp [fac]
  · obtain ⟨t, rfl⟩ : ∃ t, s = t + 1 := ⟨s - 1, by omega⟩
    rw [if_neg h0]
    have e1 : ((t + 1 : Nat) : Int) * ((fac (t + 1 - 1) * fac (n - 1 - (t + 1 - 1)) : Nat) : Int) = ((fac (t + 1) * fac (n - 1 - t) : Nat) : Int) := by
      rw [Nat.add_sub_cancel, fac, ← Int.natCast_mul, Nat.mul_assoc]
    rw [e1]
    by_cases hn2 : t + 1 = n
    · subst hn2
      rw [if_pos rfl, Nat.add_sub_cancel, Nat.sub_self]
      simp [fac]
    · rw [if_neg hn2]
      obtain ⟨d, rfl⟩ : ∃ d, n = t + 1 + (d + 1) := ⟨n - (t + 1) - 1, by omega⟩
      have e2 : (((t + 1 + (d + 1) : Nat) : Int) - ((t + 1 : Nat) : Int)) * ((fac (t + 1) * fac (t + 1 + (d + 1) - 1 - (t + 1)) : Nat) : Int) = ((fac (t + 1) * fac (d + 1) : Nat) : Int) := by
        rw [show t + 1 + (d + 1) - 1 - (t + 1) = d by omega, show ((t + 1 + (d + 1) : Nat) : Int) - ((t + 1 : Nat) : Int) = ((d + 1 : Nat) : Int) by omega, ← Int.natCast_mul, fac, fac, Nat.mul_left_comm (d + 1)]
      rw [e2, show t + 1 + (d + 1) - 1 - t = d + 1 by omega]
      simp
/-- Over all members, the swings weigh as many as all orders. -/
theorem sum_swings (n : Nat) (hn : 1 ≤ n) (W : Nat → Bool) (hmono : ∀ m k, m < 2 ^ n → k < n → m.testBit k = false → W m = true → W (m + 2 ^ k) = true) (h0 : W 0 = false) (h1 : W (2 ^ n - 1) = true) :
    sumN n (fun k => sumS n (fun m => if (!m.testBit k && !W m && W (m + 2 ^ k)) = true then (wgt n (pcR n m) : Int) else 0)) = (fac n : Int) := by
  let f : Nat → Int := fun m => if W m = true then 1 else 0
  have step : ∀ k, k < n → sumS n (fun m => if (!m.testBit k && !W m && W (m + 2 ^ k)) = true then (wgt n (pcR n m) : Int) else 0) = sumS n (fun m => if m.testBit k = true then (wgt n (pcR n m - 1) : Int) * f m else - ((wgt n (pcR n m) : Int) * f m)) := by
    intro k hk
    have e1 := sumS_put n k hk (fun m => (wgt n (pcR n m - 1) : Int) * f m)
    rw [sumS_congr n _ (fun m => (if m.testBit k = true then 0 else (wgt n (pcR n (m + 2 ^ k) - 1) : Int) * f (m + 2 ^ k)) - (if m.testBit k = true then 0 else (wgt n (pcR n m) : Int) * f m)) (fun m hm => by
      cases hb : m.testBit k with
      | true => simp
      | false =>
        rw [pcR_with n m k hk hb, Nat.add_sub_cancel]
        simp only [f, Bool.not_false, Bool.true_and, Bool.false_eq_true, ↓reduceIte]
        cases hW : W m with
        | true => rw [hmono m k hm hk hb hW]; simp
        | false => cases W (m + 2 ^ k) <;> simp), sumS_sub, e1, ← sumS_sub]
    refine sumS_congr n _ _ (fun m _ => ?_)
    cases m.testBit k <;> simp
  rw [sumN_congr n _ _ step, sumN_swap]
  rw [sumS_congr n _ (fun m => (if pcR n m = n then (fac n : Int) * f m else 0) - (if pcR n m = 0 then (fac n : Int) * f m else 0)) (fun m _ => by
    rw [sumN_bits]
    have hc := coef n (pcR n m) hn (pcR_le n m)
    have : (pcR n m : Int) * ((wgt n (pcR n m - 1) : Int) * f m) - ((n : Int) - (pcR n m : Int)) * ((wgt n (pcR n m) : Int) * f m) = ((pcR n m : Int) * (wgt n (pcR n m - 1) : Int) - ((n : Int) - (pcR n m : Int)) * (wgt n (pcR n m) : Int)) * f m := by
      simp only [Int.sub_mul, Int.mul_assoc]
    rw [this, hc, Int.sub_mul]
    congr 1 <;> split <;> simp), sumS_sub, sumS_full n (fun m => (fac n : Int) * f m), sumS_none n (fun m => (fac n : Int) * f m)]
  simp only [f, h0, h1, Bool.false_eq_true, ↓reduceIte, Int.mul_one, Int.mul_zero, Int.sub_zero]
theorem sumS_list (n : Nat) (F : Nat → Int) : ((List.range (2 ^ n)).map F).sum = sumS n F := by
  induction n generalizing F with
  | zero => simp [sumS, List.range_succ]
  | succ n ih => rw [Nat.pow_succ, Nat.mul_two, List.range_add, List.map_append, List.sum_append, ih, List.map_map, sumS, ← ih (fun m => F (m + 2 ^ n))]; exact congrArg _ (congrArg _ (List.map_congr_left (fun m _ => by show F (2 ^ n + m) = F (m + 2 ^ n); rw [Nat.add_comm])))
theorem sumN_list (n : Nat) (F : Nat → Int) : ((List.range n).map F).sum = sumN n F := by
  induction n with
  | zero => rfl
  | succ n ih => rw [List.range_succ, List.map_append, List.sum_append, ih, sumN]; simp
theorem sum_filter (l : List Nat) (p : Nat → Bool) (F : Nat → Int) : ((l.filter p).map F).sum = (l.map fun m => if p m = true then F m else 0).sum := by
  induction l with
  | nil => rfl
  | cons x l ih =>
    by_cases h : p x = true
    · rw [List.filter_cons_of_pos h, List.map_cons, List.map_cons, List.sum_cons, List.sum_cons, ih, if_pos h]
    · rw [List.filter_cons_of_neg h, List.map_cons, List.sum_cons, ih, if_neg h, Int.zero_add]
end Go.Proofs.Ythkbaolpiigioaa.P

/- A member of a set, by bits. -/
namespace Go.Proofs.Ythkbaolpiigioaa.P
open Go.RowKit Go.Proofs.YthkbaolpiigioaaW.PrintWords Go.Proofs.YthkbaolpiigioaaW.PrintLast Go.Proofs.YthkbaolpiigioaaW.PrintMore
theorem impl_has.eq (b i : Nat) (hi : i ≤ 64) (hb : b < 2 ^ 63) : impl_has.f (b : Int) (i : Int) = some (b.testBit i) := by
  have c : (0 : Int) ≤ (i : Int) := by omega
  have hd : b / 2 ^ i < 2 ^ 63 := Nat.lt_of_le_of_lt (Nat.div_le_self _ _) hb
  unfold impl_has.f
  rw [if_pos c, shr_nat b i hi, and_one _ hd, bit_nat]
  congr 1
  rcases Nat.mod_two_eq_zero_or_one (b / 2 ^ i) with h | h <;> rw [h] <;> rfl
end Go.Proofs.Ythkbaolpiigioaa.P

/- How many swings each member has. -/
namespace Go.Proofs.Ythkbaolpiigioaa.P
open Go.RowKit Go.Proofs.YthkbaolpiigioaaW.PrintWords Go.Proofs.YthkbaolpiigioaaW.PrintLast Go.Proofs.YthkbaolpiigioaaW.PrintMore
theorem impl_votes_isSwing.eq (n : Nat) (w : List Bool) (m i : Nat) (hw : w.length = 2 ^ n) (hn : n ≤ 40) (hm : m < 2 ^ n) (hi : i < n) : impl_votes_isSwing.f (n : Int) w (m : Int) (i : Int) = some (swing w i m) := by
  have h40 : 2 ^ n ≤ 1099511627776 := pow_small hn
  have c0 : (0 : Int) ≤ (m : Int) := by omega
  have c1 : (0 : Int) ≤ (i : Int) := by omega
  have c2 : (m : Int) < (w.length : Int) := by omega
  have hp : 2 ^ i < 2 ^ 63 := Nat.pow_lt_pow_right (by omega) (by omega)
  unfold impl_votes_isSwing.f swing
  rw [impl_has.eq m i (by omega) (by omega), Option.bind_some]
  cases hb : m.testBit i with
  | true => simp
  | false =>
    have e : Go.bits .or .i64 (m : Int) (shl .i64 1 (i : Int)) = ((m + 2 ^ i : Nat) : Int) := by
      rw [shl_one i (by omega), or_nat m (2 ^ i) (by omega) hp, or_pow hb]
    have hlt := with_lt hm hi hb
    have hpos := Nat.two_pow_pos i
    have c3 : (0 : Int) ≤ ((m + 2 ^ i : Nat) : Int) := by omega
    have c4 : ((m + 2 ^ i : Nat) : Int) < (w.length : Int) := by omega
    simp only [e, c0, c1, c2, c3, c4, ↓reduceIte, rdB_nat, Bool.false_eq_true, Bool.not_false, Bool.true_and]
    cases w.getD m false <;> simp
theorem impl_votes_swings.ev (n : Nat) (w : List Bool) (hw : w.length = 2 ^ n) (hn : n ≤ 40) : Ev (fun k => impl_votes_swings.f k (n : Int) w) (swl n w) := by
  have h40 : 2 ^ n ≤ 1099511627776 := pow_small hn
  have c0 : (0 : Int) ≤ (n : Int) := by omega
  have c1 : n ≤ 35184372088832 := by omega
  have sl := swl_len n w
  unfold impl_votes_swings.f
  simp only [c0, c1, ↓reduceIte, Int.toNat_natCast, Option.bind_some, List.length_replicate]
  have key := Ev.down (G := fun i k => impl_votes_swings.l0 k (filled (swl n w) 0 i) (n : Int) (i : Int) (n : Int) w) (R := fun _ => swl n w) n
    (by refine Ev.shift ?_
        have : filled (swl n w) 0 n = swl n w := by have := filled_all (swl n w) 0; rwa [sl] at this
        simp only [impl_votes_swings.l0, Int.lt_irrefl, ↓reduceIte, this]
        exact Ev.some)
    (fun i hi ih => by
      have hfl := filled_len (swl n w) 0 i (by omega)
      have inner := back (P := fun m => Ev (fun k => impl_votes_swings.l1 k ((filled (swl n w) 0 i).set i (((List.range m).countP (swing w i) : Nat) : Int)) (i : Int) (n : Int) (i : Int) (w.length : Int) (m : Int) (n : Int) w) (swl n w)) (2 ^ n)
        (by refine Ev.shift ?_
            have e := filled_set (swl n w) 0 0 i (by omega)
            rw [swl_get n w i hi] at e
            simp only [impl_votes_swings.l1, hw, Int.lt_irrefl, ↓reduceIte, e, w1 hi (show n ≤ 9223372036854775807 by omega)]
            exact ih)
        (fun m hm ihm => by
          refine Ev.shift ?_
          have d1 : (m : Int) < (w.length : Int) := by omega
          have d0 : (0 : Int) ≤ (i : Int) := by omega
          have d2 : (i : Int) < ((filled (swl n w) 0 i).length : Int) := by omega
          simp only [impl_votes_swings.l1, d1, ↓reduceIte, impl_votes_isSwing.eq n w m i hw hn hm hi, Option.bind_some, List.length_set, d0, d2, w1 hm (show 2 ^ n ≤ 9223372036854775807 by omega), rd_nat, Int.toNat_natCast, List.set_set]
          rw [List.range_succ, List.countP_append, List.countP_singleton] at ihm
          have hc : (List.range m).countP (swing w i) ≤ m := by
            have := List.countP_le_length (p := swing w i) (l := List.range m)
            rwa [List.length_range] at this
          cases hs : swing w i m with
          | true =>
            have eg : ((filled (swl n w) 0 i).set i (((List.range m).countP (swing w i) : Nat) : Int)).getD i 0 = (((List.range m).countP (swing w i) : Nat) : Int) := by
              rw [List.getD_eq_getElem?_getD, List.getElem?_set_self (by omega)]; rfl
            simp only [hs, ↓reduceIte] at ihm
            simp only [↓reduceIte, eg]
            rw [show wrap64 ((((List.range m).countP (swing w i) : Nat) : Int) + 1) = (((List.range m).countP (swing w i) + 1 : Nat) : Int) by rw [w64 (by omega) (by omega)]; omega]
            exact ihm
          | false =>
            simp only [hs, Bool.false_eq_true, ↓reduceIte, Nat.add_zero] at ihm
            simp only [Bool.false_eq_true, ↓reduceIte]
            exact ihm)
      refine Ev.shift ?_
      have d1 : (i : Int) < (n : Int) := by omega
      simp only [impl_votes_swings.l0, d1, ↓reduceIte]
      have i0 := inner 0 (Nat.zero_le _)
      have e0 : (filled (swl n w) 0 i).set i 0 = filled (swl n w) 0 i := by
        apply List.ext_getElem?
        intro j
        rw [List.getElem?_set]
        split
        · rename_i h; subst h
          rw [if_pos (by omega)]
          unfold filled
          rw [List.getElem?_append_right (by simp; omega), List.getElem?_replicate]
          rw [if_pos (by simp; omega)]
        · rfl
      rw [List.range_zero, List.countP_nil] at i0
      simp only [Int.natCast_zero, e0] at i0
      exact i0)
  have := key 0 (Nat.zero_le _)
  rw [filled_zero, sl] at this
  exact this
end Go.Proofs.Ythkbaolpiigioaa.P

/- How many swings each member has. -/
namespace Go.Proofs.Ythkbaolpiigioaa.P
open Go.RowKit Go.Proofs.YthkbaolpiigioaaW.PrintWords Go.Proofs.YthkbaolpiigioaaW.PrintLast Go.Proofs.YthkbaolpiigioaaW.PrintMore
theorem spec_pwSwings.ev (n : Nat) (w : List Bool) (i : Nat) (hw : w.length = 2 ^ n) (hn : n ≤ 40) (hi : i < n) : Ev (fun k => spec_pwSwings.f k w (i : Int)) (((List.range (2 ^ n)).filter (swing w i)).map fun m : Nat => (m : Int)) := by
  have h40 : 2 ^ n ≤ 1099511627776 := pow_small hn
  have c0 : (0 : Int) ≤ (i : Int) := by omega
  have key := back (P := fun m => Ev (fun k => spec_pwSwings.l0 k w (i : Int) (((List.range m).filter (swing w i)).map fun m : Nat => (m : Int)) w (w.length : Int) (m : Int)) (((List.range (2 ^ n)).filter (swing w i)).map fun m : Nat => (m : Int))) (2 ^ n)
    (by refine Ev.shift ?_
        simp only [spec_pwSwings.l0, hw, Int.lt_irrefl, ↓reduceIte]
        exact Ev.some)
    (fun m hm ih => by
      refine Ev.shift ?_
      have d1 : (m : Int) < (w.length : Int) := by omega
      have d0 : (0 : Int) ≤ (m : Int) := by omega
      rw [List.range_succ, List.filter_append, List.map_append] at ih
      have hc : (((List.range m).filter (swing w i)).map fun m : Nat => (m : Int)).length < 17592186044416 := by
        have := List.length_filter_le (swing w i) (List.range m)
        rw [List.length_range] at this
        rw [List.length_map]; omega
      have hp : 2 ^ i < 2 ^ 63 := Nat.pow_lt_pow_right (by omega) (by omega)
      simp only [spec_pwSwings.l0, d1, d0, c0, ↓reduceIte, shr_nat m i (by omega), tmod_two, rdB_nat, shl_one i (by omega), w1 hm (show 2 ^ n ≤ 9223372036854775807 by omega)]
      have off : swing w i m = false → Ev (fun k => spec_pwSwings.l0 k w (i : Int) (((List.range m).filter (swing w i)).map fun m : Nat => (m : Int)) w (w.length : Int) ((m + 1 : Nat) : Int)) (((List.range (2 ^ n)).filter (swing w i)).map fun m : Nat => (m : Int)) := by
        intro hs
        rw [List.filter_cons_of_neg (by simp [hs]), List.filter_nil, List.map_nil, List.append_nil] at ih
        exact ih
      have on : swing w i m = true → Ev (fun k => spec_pwSwings.l0 k w (i : Int) ((((List.range m).filter (swing w i)).map fun m : Nat => (m : Int)) ++ [(m : Int)]) w (w.length : Int) ((m + 1 : Nat) : Int)) (((List.range (2 ^ n)).filter (swing w i)).map fun m : Nat => (m : Int)) := by
        intro hs
        rw [List.filter_cons_of_pos hs, List.filter_nil] at ih
        exact ih
      cases hb : m.testBit i with
      | true =>
        rw [bit_nat, decide_eq_true_eq] at hb
        have hb' : ¬ ((m / 2 ^ i % 2 : Nat) : Int) = 0 := by omega
        simp only [hb', ↓reduceIte]
        exact off (by unfold swing; rw [bit_nat, hb]; rfl)
      | false =>
        have hlt := with_lt hm hi hb
        have hpos := Nat.two_pow_pos i
        have hb0 := hb
        rw [bit_nat, decide_eq_false_iff_not] at hb
        have hb' : ((m / 2 ^ i % 2 : Nat) : Int) = 0 := by omega
        simp only [hb', ↓reduceIte]
        cases h1 : w.getD m false with
        | true =>
          simp only [↓reduceIte]
          exact off (by unfold swing; rw [hb0, h1]; rfl)
        | false =>
          have ew : wrap64 ((m : Int) + ((2 ^ i : Nat) : Int)) = ((m + 2 ^ i : Nat) : Int) := by rw [w64 (by omega) (by omega)]; omega
          have d3 : (0 : Int) ≤ ((m + 2 ^ i : Nat) : Int) := by omega
          have d4 : ((m + 2 ^ i : Nat) : Int) < (w.length : Int) := by omega
          simp only [Bool.false_eq_true, ↓reduceIte, ew, d3, d4, rdB_nat, hc]
          cases h2 : w.getD (m + 2 ^ i) false with
          | true =>
            simp only [↓reduceIte]
            exact on (by unfold swing; rw [hb0, h1, h2]; rfl)
          | false =>
            simp only [Bool.false_eq_true, ↓reduceIte]
            exact off (by unfold swing; rw [hb0, h1, h2]; rfl))
  exact key 0 (Nat.zero_le _)
theorem spec_pwCounts.ev (n : Nat) (w : List Bool) (hw : w.length = 2 ^ n) (hn : n ≤ 40) : Ev (fun k => spec_pwCounts.f k w (n : Int)) (swl n w) := by
  have sl := swl_len n w
  have key := back (P := fun i => Ev (fun k => spec_pwCounts.l0 k w (n : Int) ((swl n w).take i) (i : Int)) (swl n w)) n
    (by refine Ev.shift ?_
        have : (swl n w).take n = swl n w := by rw [List.take_of_length_le (by omega)]
        simp only [spec_pwCounts.l0, Int.lt_irrefl, ↓reduceIte, this]
        exact Ev.some)
    (fun i hi ih => by
      refine Ev.shift ?_
      have d1 : (i : Int) < (n : Int) := by omega
      simp only [spec_pwCounts.l0, d1, ↓reduceIte]
      refine Ev.bind (spec_pwSwings.ev n w i hw hn hi) ?_
      have hc : ((swl n w).take i).length < 17592186044416 := by rw [List.length_take]; omega
      have e : (swl n w).take i ++ [(((((List.range (2 ^ n)).filter (swing w i)).map fun m : Nat => (m : Int)).length : Nat) : Int)] = (swl n w).take (i + 1) := by
        rw [take_getD (swl n w) 0 i (by omega), swl_get n w i hi, List.length_map, List.countP_eq_length_filter]
      simp only [hc, ↓reduceIte, e, w1 hi (show n ≤ 9223372036854775807 by omega)]
      exact ih)
  exact key 0 (Nat.zero_le _)
end Go.Proofs.Ythkbaolpiigioaa.P

/- Of how many orders each member is the pivot. -/
namespace Go.Proofs.Ythkbaolpiigioaa.P
open Go.RowKit Go.Proofs.YthkbaolpiigioaaW.PrintWords Go.Proofs.YthkbaolpiigioaaW.PrintLast Go.Proofs.YthkbaolpiigioaaW.PrintMore
theorem fac_step {n j : Nat} (hj : j + 2 ≤ n) (h9 : n ≤ 9) : wrap64 (((fac (j + 1) : Nat) : Int) * ((j + 2 : Nat) : Int)) = ((fac (j + 2) : Nat) : Int) := by
  have h := fac_nine (show j + 2 ≤ 9 by omega)
  have e : ((fac (j + 1) : Nat) : Int) * ((j + 2 : Nat) : Int) = ((fac (j + 2) : Nat) : Int) := by rw [← Int.natCast_mul, Nat.mul_comm]; rfl
  rw [e, w64 (by omega) (by omega)]
theorem impl_factorial.ev (n : Nat) (hn : n ≤ 9) : Ev (fun k => impl_factorial.f k (n : Int)) ((fac n : Nat) : Int) := by
  unfold impl_factorial.f
  cases n with
  | zero =>
    refine Ev.shift ?_
    have c : ¬ ((2 : Int) ≤ ((0 : Nat) : Int)) := by omega
    simp only [impl_factorial.l0, c, ↓reduceIte]
    exact Ev.some
  | succ m =>
    have key := Ev.down (G := fun j k => impl_factorial.l0 k ((m + 1 : Nat) : Int) ((fac (j + 1) : Nat) : Int) ((j + 2 : Nat) : Int)) (R := fun _ => ((fac (m + 1) : Nat) : Int)) m
      (by refine Ev.shift ?_
          have c : ¬ (((m + 2 : Nat) : Int) ≤ ((m + 1 : Nat) : Int)) := by omega
          simp only [impl_factorial.l0, c, ↓reduceIte]
          exact Ev.some)
      (fun j hj ih => by
        refine Ev.shift ?_
        have c : (((j + 2 : Nat) : Int) ≤ ((m + 1 : Nat) : Int)) := by omega
        have e2 : wrap64 (((j + 2 : Nat) : Int) + 1) = ((j + 1 + 2 : Nat) : Int) := by rw [w64 (by omega) (by omega)]; omega
        simp only [impl_factorial.l0, c, ↓reduceIte, fac_step (n := m + 1) (j := j) (by omega) hn, e2]
        exact ih)
    exact key 0 (Nat.zero_le _)
theorem spec_pwTimes.ev (n : Nat) (hn : n ≤ 9) : Ev (fun k => spec_pwTimes.f k (n : Int)) ((fac n : Nat) : Int) := by
  unfold spec_pwTimes.f
  cases n with
  | zero =>
    refine Ev.shift ?_
    have c : ¬ ((2 : Int) ≤ ((0 : Nat) : Int)) := by omega
    simp only [spec_pwTimes.l0, c, ↓reduceIte]
    exact Ev.some
  | succ m =>
    have key := Ev.down (G := fun j k => spec_pwTimes.l0 k ((m + 1 : Nat) : Int) ((fac (j + 1) : Nat) : Int) ((j + 2 : Nat) : Int)) (R := fun _ => ((fac (m + 1) : Nat) : Int)) m
      (by refine Ev.shift ?_
          have c : ¬ (((m + 2 : Nat) : Int) ≤ ((m + 1 : Nat) : Int)) := by omega
          simp only [spec_pwTimes.l0, c, ↓reduceIte]
          exact Ev.some)
      (fun j hj ih => by
        refine Ev.shift ?_
        have c : (((j + 2 : Nat) : Int) ≤ ((m + 1 : Nat) : Int)) := by omega
        have e2 : wrap64 (((j + 2 : Nat) : Int) + 1) = ((j + 1 + 2 : Nat) : Int) := by rw [w64 (by omega) (by omega)]; omega
        simp only [spec_pwTimes.l0, c, ↓reduceIte, fac_step (n := m + 1) (j := j) (by omega) hn, e2]
        exact ih)
    exact key 0 (Nat.zero_le _)
theorem count512 : ((List.range 512).all fun m => impl_count.f (m : Int) == some ((pcR 9 m : Nat) : Int)) = true := by decide +kernel
theorem impl_count.eq (m : Nat) (h : m < 512) : impl_count.f (m : Int) = some ((pcR 9 m : Nat) : Int) := by
  have h1 := count512
  rw [List.all_eq_true] at h1
  simpa using h1 m (List.mem_range.2 h)
theorem sel_pc (n m : Nat) : (sel n m.testBit).length = pcR n m := by
  induction n with
  | zero => rfl
  | succ n ih => rw [sel_succ, List.length_append, ih, pcR]; cases m.testBit n <;> rfl
theorem sel_more (n d m : Nat) (h : m < 2 ^ n) : sel (n + d) m.testBit = sel n m.testBit := by
  induction d with
  | zero => rfl
  | succ d ih =>
    rw [show n + (d + 1) = (n + d) + 1 from rfl, sel_succ, ih, Nat.testBit_lt_two_pow (Nat.lt_of_lt_of_le h (Nat.pow_le_pow_right (by omega) (by omega)))]
    simp
theorem spec_voList.ev (m : Nat) (h : m < 512) : Ev (fun k => spec_voList.f k (m : Int)) (sel 9 m.testBit) := by
  unfold spec_voList.f
  have key := Ev.down (G := fun i k => spec_voList.l0 k (m : Int) (sel i m.testBit) (i : Int)) (R := fun _ => sel 9 m.testBit) 9
    (by refine Ev.shift ?_
        have c0 : (0 : Int) ≤ ((9 : Nat) : Int) := by omega
        have e : m / 2 ^ 9 = 0 := Nat.div_eq_of_lt h
        have c : ¬ (((0 : Nat) : Int) > 0) := by omega
        simp only [spec_voList.l0, c0, ↓reduceIte, shr_nat m 9 (by omega), e, c]
        exact Ev.some)
    (fun i hi ih => by
      refine Ev.shift ?_
      have c0 : (0 : Int) ≤ (i : Int) := by omega
      have c2 : (sel i m.testBit).length < 17592186044416 := by have := sel_len i m.testBit; omega
      rw [sel_succ] at ih
      simp only [spec_voList.l0, c0, ↓reduceIte, shr_nat m i (by omega), tmod_two, c2, w1 hi (by omega)]
      by_cases hz : m / 2 ^ i = 0
      · have c : ¬ (((m / 2 ^ i : Nat) : Int) > 0) := by rw [hz]; decide
        simp only [c, ↓reduceIte]
        refine Ev.eq Ev.some ?_
        have hlt : m < 2 ^ i := by
          rcases Nat.div_eq_zero_iff.1 hz with h | h
          · exact absurd h (by have := Nat.two_pow_pos i; omega)
          · exact h
        have := sel_more i (9 - i) m hlt
        rw [show i + (9 - i) = 9 by omega] at this
        exact this.symm
      · have c : (((m / 2 ^ i : Nat) : Int) > 0) := Int.natCast_pos.2 (Nat.pos_of_ne_zero hz)
        simp only [c, ↓reduceIte]
        cases hb : m.testBit i with
        | true =>
          rw [bit_nat, decide_eq_true_eq] at hb
          have c3 : ((m / 2 ^ i % 2 : Nat) : Int) = 1 := by omega
          rw [bit_nat, show decide (m / 2 ^ i % 2 = 1) = true from decide_eq_true hb, if_pos rfl] at ih
          simp only [c3, ↓reduceIte]
          exact ih
        | false =>
          rw [hb, if_neg (by decide), List.append_nil] at ih
          rw [bit_nat, decide_eq_false_iff_not] at hb
          have c3 : ¬ ((m / 2 ^ i % 2 : Nat) : Int) = 1 := by omega
          simp only [c3, ↓reduceIte]
          exact ih)
  exact key 0 (by omega)
/-- How often one member is the pivot, among the first so many sets; of each member. -/
def pvs (n : Nat) (w : List Bool) (k N : Nat) : Int := (((List.range N).filter (swing w k)).map fun m => (wgt n (pcR 9 m) : Int)).sum
def pivl (n : Nat) (w : List Bool) : List Int := (List.range n).map fun k => pvs n w k (2 ^ n)
theorem pivl_len (n : Nat) (w : List Bool) : (pivl n w).length = n := by simp [pivl]
theorem pivl_get (n : Nat) (w : List Bool) (k : Nat) (h : k < n) : (pivl n w).getD k 0 = pvs n w k (2 ^ n) := by simp [pivl, List.getD_eq_getElem?_getD, List.getElem?_range h]
theorem pvs_succ (n : Nat) (w : List Bool) (k m : Nat) : pvs n w k (m + 1) = pvs n w k m + if swing w k m = true then (wgt n (pcR 9 m) : Int) else 0 := by
  unfold pvs
  rw [List.range_succ, List.filter_append, List.map_append, List.sum_append]
  cases h : swing w k m with
  | true => rw [List.filter_cons_of_pos h]; simp
  | false => rw [List.filter_cons_of_neg (by simp [h])]; simp
theorem pc9 {n m : Nat} (h9 : n ≤ 9) (hm : m < 2 ^ n) : pcR 9 m = pcR n m := by
  have := pcR_more n (9 - n) m hm
  rwa [show n + (9 - n) = 9 by omega] at this
theorem swing_pc {n m k : Nat} {w : List Bool} (h9 : n ≤ 9) (hm : m < 2 ^ n) (hk : k < n) (h : swing w k m = true) : pcR 9 m ≤ n - 1 := by
  simp only [swing, Bool.and_eq_true, Bool.not_eq_true'] at h
  rw [pc9 h9 hm]
  exact pcR_lt n m k hk h.1.1
theorem pvs_bounds (n : Nat) (w : List Bool) (k N : Nat) (h1 : 1 ≤ n) (h9 : n ≤ 9) (hk : k < n) (hN : N ≤ 2 ^ n) : 0 ≤ pvs n w k N ∧ pvs n w k N ≤ 362880 * N := by
  induction N with
  | zero => simp [pvs]
  | succ N ih =>
    have h2 := ih (by omega)
    rw [pvs_succ]
    cases hs : swing w k N with
    | true =>
      have := wgt_le (swing_pc h9 (by omega) hk hs) h1 h9
      simp only [↓reduceIte]; omega
    | false => simp only [Bool.false_eq_true, ↓reduceIte]; omega
theorem wgt_mul {n s : Nat} (hs : s ≤ n - 1) (h1 : 1 ≤ n) (h9 : n ≤ 9) : wrap64 (((fac s : Nat) : Int) * ((fac (n - 1 - s) : Nat) : Int)) = (wgt n s : Int) := by
  have := wgt_le hs h1 h9
  have e : ((fac s : Nat) : Int) * ((fac (n - 1 - s) : Nat) : Int) = (wgt n s : Int) := by rw [← Int.natCast_mul]; rfl
  rw [e, w64 (by omega) (by omega)]
theorem sub_pc {n s : Nat} (hs : s ≤ n - 1) (h1 : 1 ≤ n) (h9 : n ≤ 9) : wrap64 (wrap64 ((n : Int) - 1) - (s : Int)) = ((n - 1 - s : Nat) : Int) := by
  rw [w64 (x := (n : Int) - 1) (by omega) (by omega), w64 (by omega) (by omega)]; omega
theorem impl_votes_pivots.inner (n : Nat) (w : List Bool) (i : Nat) (N I : Int) (row res : List Int) (hw : w.length = 2 ^ n) (h1 : 1 ≤ n) (h9 : n ≤ 9) (hi : i < n) (hr : row.length = n) (h0 : row.getD i 0 = 0)
    (hcont : Ev (fun k => impl_votes_pivots.l0 k (row.set i (pvs n w i (2 ^ n))) N (wrap64 (I + 1)) (n : Int) w) res) :
    Ev (fun k => impl_votes_pivots.l1 k row (i : Int) N I (w.length : Int) 0 (n : Int) w) res := by
  have h512 : 2 ^ n ≤ 512 := pow_small (m := 9) h9
  have key := Ev.down (G := fun m k => impl_votes_pivots.l1 k (row.set i (pvs n w i m)) (i : Int) N I (w.length : Int) (m : Int) (n : Int) w) (R := fun _ => res) (2 ^ n)
    (by refine Ev.shift ?_
        simp only [impl_votes_pivots.l1, hw, Int.lt_irrefl, ↓reduceIte]
        exact hcont)
    (fun m hm ih => by
      refine Ev.shift ?_
      have d1 : (m : Int) < (w.length : Int) := by rw [hw]; exact Int.ofNat_lt.2 hm
      have d0 : (0 : Int) ≤ (i : Int) := by omega
      have d2 : (i : Int) < (row.length : Int) := by omega
      have hwm := w1 hm (show 2 ^ n ≤ 9223372036854775807 by omega)
      have hb := pvs_bounds n w i m h1 h9 hi (by omega)
      rw [pvs_succ] at ih
      simp only [impl_votes_pivots.l1, d1, ↓reduceIte]
      refine Ev.bind (Ev.one (impl_votes_isSwing.eq n w m i hw (by omega) hm hi)) ?_
      cases hs : swing w i m with
      | true =>
        have hpc := swing_pc h9 hm hi hs
        have hwl := wgt_le hpc h1 h9
        rw [hs, if_pos rfl] at ih
        simp only [↓reduceIte, List.length_set, d0, d2, hwm]
        refine Ev.bind (Ev.one (impl_count.eq m (by omega))) ?_
        refine Ev.bind (impl_factorial.ev _ (by omega)) ?_
        refine Ev.bind (Ev.one (impl_count.eq m (by omega))) ?_
        rw [sub_pc hpc h1 h9]
        refine Ev.bind (impl_factorial.ev _ (by omega)) ?_
        rw [wgt_mul hpc h1 h9]
        have eg : rd (row.set i (pvs n w i m)) (i : Int) = pvs n w i m := by rw [rd_nat, List.getD_eq_getElem?_getD, List.getElem?_set_self (by omega)]; rfl
        simp only [eg, Int.toNat_natCast, List.set_set]
        rw [w64 (by omega) (by omega)]
        exact ih
      | false =>
        rw [hs, if_neg (by decide), Int.add_zero] at ih
        simp only [Bool.false_eq_true, ↓reduceIte, hwm]
        exact ih)
  have k0 := key 0 (Nat.zero_le _)
  have e0 : row.set i (pvs n w i 0) = row := by
    have ez : pvs n w i 0 = 0 := rfl
    rw [ez]
    apply List.ext_getElem?
    intro j
    rw [List.getElem?_set]
    split
    · rename_i e; subst e
      rw [List.getD_eq_getElem?_getD, List.getElem?_eq_getElem (by omega), Option.getD_some] at h0
      rw [if_pos (by omega), List.getElem?_eq_getElem (by omega), h0]
    · rfl
  rw [e0] at k0
  exact k0
theorem impl_votes_pivots.ev (n : Nat) (w : List Bool) (hw : w.length = 2 ^ n) (h1 : 1 ≤ n) (h9 : n ≤ 9) : Ev (fun k => impl_votes_pivots.f k (n : Int) w) (pivl n w) := by
  have c0 : (0 : Int) ≤ (n : Int) := by omega
  have c1 : n ≤ 35184372088832 := by omega
  have sl := pivl_len n w
  unfold impl_votes_pivots.f
  simp only [c0, c1, ↓reduceIte, Int.toNat_natCast]
  refine Ev.bind (Ev.one rfl) ?_
  simp only [List.length_replicate]
  have key := Ev.down (G := fun i k => impl_votes_pivots.l0 k (filled (pivl n w) 0 i) (n : Int) (i : Int) (n : Int) w) (R := fun _ => pivl n w) n
    (by refine Ev.shift ?_
        have : filled (pivl n w) 0 n = pivl n w := by have := filled_all (pivl n w) 0; rwa [sl] at this
        simp only [impl_votes_pivots.l0, Int.lt_irrefl, ↓reduceIte, this]
        exact Ev.some)
    (fun i hi ih => by
      have hfl := filled_len (pivl n w) 0 i (by omega)
      have hset := filled_set (pivl n w) 0 0 i (by omega)
      rw [pivl_get n w i hi] at hset
      rw [← hset] at ih
      have hz : (filled (pivl n w) 0 i).getD i 0 = 0 := by
        unfold filled
        rw [List.getD_eq_getElem?_getD, List.getElem?_append_right (by rw [List.length_take]; omega), List.getElem?_replicate, if_pos (by rw [List.length_take]; omega)]; rfl
      refine Ev.shift ?_
      have d1 : (i : Int) < (n : Int) := by omega
      simp only [impl_votes_pivots.l0, d1, ↓reduceIte]
      exact impl_votes_pivots.inner n w i _ _ _ _ hw h1 h9 hi (by omega) hz (by rw [w1 hi (show n ≤ 9223372036854775807 by omega)]; exact ih))
  have := key 0 (Nat.zero_le _)
  rw [filled_zero, sl] at this
  exact this
theorem spec_pwPivots.inner (n : Nat) (w0 : List Bool) (out : List Int) (I : Int) (L : List Nat) (k : Nat) (w : List Bool) (res : List Int) (h1 : 1 ≤ n) (h9 : n ≤ 9) (hk : k < n) (hL : ∀ m ∈ L, m < 2 ^ n ∧ swing w k m = true) (hlen : L.length ≤ 512) (ho : out.length ≤ 9)
    (hcont : Ev (fun K => spec_pwPivots.l0 K w0 (n : Int) (out ++ [(L.map fun m => (wgt n (pcR 9 m) : Int)).sum]) (wrap64 (I + 1))) res) :
    Ev (fun K => spec_pwPivots.l1 K w0 (n : Int) out I 0 (L.map fun m : Nat => (m : Int)) ((L.map fun m : Nat => (m : Int)).length : Int) 0) res := by
  have h512 : 2 ^ n ≤ 512 := pow_small (m := 9) h9
  have key := back (P := fun j => ∀ a : Int, 0 ≤ a → a ≤ 362880 * j → a + ((L.drop j).map fun m => (wgt n (pcR 9 m) : Int)).sum = (L.map fun m => (wgt n (pcR 9 m) : Int)).sum →
      Ev (fun K => spec_pwPivots.l1 K w0 (n : Int) out I a (L.map fun m : Nat => (m : Int)) (L.length : Int) (j : Int)) res) L.length
    (by intro a _ _ he
        refine Ev.shift ?_
        have c : out.length < 17592186044416 := by omega
        rw [List.drop_length, List.map_nil, List.sum_nil, Int.add_zero] at he
        simp only [spec_pwPivots.l1, Int.lt_irrefl, ↓reduceIte, c, he]
        exact hcont)
    (by intro j hj ih a h0 hb he
        refine Ev.shift ?_
        have c1 : (j : Int) < (L.length : Int) := by omega
        have c0 : (0 : Int) ≤ (j : Int) := by omega
        have c2 : (j : Int) < ((L.map fun m : Nat => (m : Int)).length : Int) := by rw [List.length_map]; omega
        have hm := hL _ (getD_mem L 0 j hj)
        have eg : rd (L.map fun m : Nat => (m : Int)) (j : Int) = ((L.getD j 0 : Nat) : Int) := by
          rw [rd_nat, List.getD_eq_getElem?_getD, List.getElem?_map, List.getD_eq_getElem?_getD, List.getElem?_eq_getElem hj]; rfl
        have hpc := swing_pc h9 hm.1 hk hm.2
        have hwl := wgt_le hpc h1 h9
        rw [drop_getD L 0 j hj, List.map_cons, List.sum_cons] at he
        simp only [spec_pwPivots.l1, c0, c1, c2, ↓reduceIte, eg]
        refine Ev.bind (spec_voList.ev _ (by omega)) ?_
        simp only [sel_pc]
        refine Ev.bind (spec_pwTimes.ev _ (by omega)) ?_
        rw [sub_pc hpc h1 h9]
        refine Ev.bind (spec_pwTimes.ev _ (by omega)) ?_
        rw [wgt_mul hpc h1 h9, w64 (by omega) (by omega), w1 hj (by omega)]
        exact ih _ (by omega) (by omega) (by omega))
  have k0 := key 0 (Nat.zero_le _) 0 (by omega) (by omega) (by rw [List.drop_zero]; omega)
  rw [List.length_map]
  exact k0
theorem spec_pwPivots.ev (n : Nat) (w : List Bool) (hw : w.length = 2 ^ n) (h1 : 1 ≤ n) (h9 : n ≤ 9) : Ev (fun k => spec_pwPivots.f k w (n : Int)) (pivl n w) := by
  have h512 : 2 ^ n ≤ 512 := pow_small (m := 9) h9
  have sl := pivl_len n w
  unfold spec_pwPivots.f
  have key := Ev.down (G := fun i k => spec_pwPivots.l0 k w (n : Int) ((pivl n w).take i) (i : Int)) (R := fun _ => pivl n w) n
    (by refine Ev.shift ?_
        have : (pivl n w).take n = pivl n w := by have := List.take_length (l := pivl n w); rwa [sl] at this
        simp only [spec_pwPivots.l0, Int.lt_irrefl, ↓reduceIte, this]
        exact Ev.some)
    (fun i hi ih => by
      refine Ev.shift ?_
      have d1 : (i : Int) < (n : Int) := by omega
      rw [take_getD (pivl n w) 0 i (by omega), pivl_get n w i hi] at ih
      simp only [spec_pwPivots.l0, d1, ↓reduceIte]
      refine Ev.bind (spec_pwSwings.ev n w i hw (by omega) hi) ?_
      refine spec_pwPivots.inner n w ((pivl n w).take i) (i : Int) ((List.range (2 ^ n)).filter (swing w i)) i w _ h1 h9 hi (fun m hm => ?_) ?_ (by rw [List.length_take]; omega) (by rw [w1 hi (show n ≤ 9223372036854775807 by omega)]; exact ih)
      · rw [List.mem_filter, List.mem_range] at hm
        exact hm
      · have := List.length_filter_le (swing w i) (List.range (2 ^ n))
        rw [List.length_range] at this
        omega)
  exact key 0 (Nat.zero_le _)
/-- All pivots together are as many as all orders. -/
theorem pivl_sum (n : Nat) (w : List Bool) (h1 : 1 ≤ n) (h9 : n ≤ 9) (hmono : ∀ m k, m < 2 ^ n → k < n → m.testBit k = false → w.getD m false = true → w.getD (m + 2 ^ k) false = true) (h0 : w.getD 0 false = false) (hf : w.getD (2 ^ n - 1) false = true) :
    (pivl n w).sum = (fac n : Int) := by
  unfold pivl
  rw [sumN_list, ← sum_swings n h1 (fun m => w.getD m false) hmono h0 hf]
  refine sumN_congr n _ _ (fun k _ => ?_)
  unfold pvs
  rw [sum_filter, sumS_list]
  refine sumS_congr n _ _ (fun m hm => ?_)
  rw [pc9 h9 hm]
  rfl
end Go.Proofs.Ythkbaolpiigioaa.P

/- Weights of a set, by bits. -/
namespace Go.Proofs.Ythkbaolpiigioaa.P
open Go.RowKit Go.Proofs.YthkbaolpiigioaaW.PrintWords Go.Proofs.YthkbaolpiigioaaW.PrintLast Go.Proofs.YthkbaolpiigioaaW.PrintMore
theorem impl_Committee_weight.ev (q : Int) (l : List Int) (b : Nat) (h : ∀ x ∈ l, 0 ≤ x ∧ x ≤ 1000) (hl : l.length ≤ 64) (hb : b < 2 ^ 63) : Ev (fun k => impl_Committee_weight.f k q l (b : Int)) (wt l b) := by
  have key := back (P := fun i => ∀ s : Int, 0 ≤ s → s ≤ 1000 * i → Ev (fun k => impl_Committee_weight.l0 k (b : Int) s l (l.length : Int) (i : Int)) (s + wt (l.drop i) (b / 2 ^ i))) l.length
    (by intro s h0 h1
        refine Ev.shift ?_
        simp only [impl_Committee_weight.l0, Int.lt_irrefl, ↓reduceIte, List.drop_length, wt, Int.add_zero]
        exact Ev.some)
    (by intro i hi ih s h0 h1
        refine Ev.shift ?_
        have c1 : (i : Int) < (l.length : Int) := by omega
        have c0 : (0 : Int) ≤ (i : Int) := by omega
        have hx := h _ (getD_mem l 0 i hi)
        simp only [impl_Committee_weight.l0, c1, c0, ↓reduceIte, impl_has.eq b i (by omega) hb, Option.bind_some, w1 hi (show l.length ≤ 9223372036854775807 by omega), rd_nat, bit_nat]
        rw [drop_getD l 0 i hi, wt, Nat.div_div_eq_div_mul, show (2 ^ i * 2 : Nat) = 2 ^ (i + 1) from rfl]
        by_cases hbit : b / 2 ^ i % 2 = 1
        · simp only [hbit, decide_true, ↓reduceIte]
          rw [w64 (by omega) (by omega)]
          refine Ev.eq (ih _ (by omega) (by omega)) (by omega)
        · simp only [hbit, decide_false, Bool.false_eq_true, ↓reduceIte]
          refine Ev.eq (ih _ (by omega) (by omega)) (by omega))
  have := key 0 (Nat.zero_le _) 0 (by omega) (by omega)
  unfold impl_Committee_weight.f
  rw [List.drop_zero, Nat.pow_zero, Nat.div_one, Int.zero_add] at this
  exact this
end Go.Proofs.Ythkbaolpiigioaa.P

/- What is told of each set, by a function. -/
namespace Go.Proofs.Ythkbaolpiigioaa.P
open Go.RowKit Go.Proofs.YthkbaolpiigioaaW.PrintWords Go.Proofs.YthkbaolpiigioaaW.PrintLast Go.Proofs.YthkbaolpiigioaaW.PrintMore
theorem impl_votesOf.ev (n : Nat) (hn : n ≤ 40) (p : Nat → Int → Option Bool) (P : Nat → Bool) (h : ∀ b : Nat, b < 2 ^ n → Ev (fun k => p k (b : Int)) (P b)) : Ev (fun k => impl_votesOf.f k (n : Int) (p k)) ((n : Int), tab n P) := by
  obtain ⟨K, hK⟩ := Ev.all (p := fun k (b : Nat) => p k (b : Int)) (P := P) (List.range (2 ^ n)) (fun b hb => h b (List.mem_range.1 hb))
  have hpos := Nat.two_pow_pos n
  refine ⟨K + 2 ^ n + 1, fun k hk => ?_⟩
  have hq := hK k (by omega)
  show impl_votesOf.f k (n : Int) (p k) = _
  generalize p k = q at hq ⊢
  have hq : ∀ b : Nat, b < 2 ^ n → q (b : Int) = some (P b) := fun b hb => hq b (List.mem_range.2 hb)
  have h40 : 2 ^ n ≤ 1099511627776 := pow_small hn
  have hle : (2 ^ n : Nat) ≤ 281474976710656 := by omega
  have c0 : (0 : Int) ≤ (n : Int) := by omega
  have c1 : (0 : Int) ≤ ((2 ^ n : Nat) : Int) := by omega
  have hl := tab_len n P
  unfold impl_votesOf.f
  simp only [c0, ↓reduceIte, shl_one n (by omega), c1, Int.toNat_natCast, hle, Option.bind_some, List.length_replicate]
  have := downq (G := fun i k => impl_votesOf.l0 k q ((2 ^ n : Nat) : Int) (i : Int) (n : Int) (filled (tab n P) false i)) (R := fun _ => ((n : Int), tab n P)) (2 ^ n)
    (by intro k
        have : filled (tab n P) false (2 ^ n) = tab n P := by rw [← hl]; exact filled_all _ _
        simp only [impl_votesOf.l0, Int.lt_irrefl, ↓reduceIte, this])
    (fun i hi k ih => by
        have c1 : (i : Int) < ((2 ^ n : Nat) : Int) := by omega
        have c0 : (0 : Int) ≤ (i : Int) := by omega
        have c2 : (i : Int) < ((filled (tab n P) false i).length : Int) := by rw [filled_len _ _ _ (by omega)]; omega
        have hs := filled_set (tab n P) false false i (by omega)
        rw [tab_get n P i hi] at hs
        simp only [impl_votesOf.l0, c1, c0, c2, ↓reduceIte, hq i hi, Option.bind_some, w1 hi (show 2 ^ n ≤ 9223372036854775807 by omega), Int.toNat_natCast, hs]
        exact ih) 0 (Nat.zero_le _) k (by omega)
  rw [filled_zero, hl] at this
  exact this
end Go.Proofs.Ythkbaolpiigioaa.P

/- The votes of a committee. -/
namespace Go.Proofs.Ythkbaolpiigioaa.P
open Go.RowKit Go.Proofs.YthkbaolpiigioaaW.PrintWords Go.Proofs.YthkbaolpiigioaaW.PrintLast Go.Proofs.YthkbaolpiigioaaW.PrintMore
def cwin (q : Int) (l : List Int) (b : Nat) : Bool := decide (wt l b ≥ q)
theorem impl_Committee_votes.ev (q : Int) (l : List Int) (h : ∀ x ∈ l, 0 ≤ x ∧ x ≤ 1000) (hl : l.length ≤ 40) : Ev (fun k => impl_Committee_votes.f k q l) ((l.length : Int), tab l.length (cwin q l)) := by
  unfold impl_Committee_votes.f
  refine Ev.bind (impl_votesOf.ev l.length hl (fun k y => impl_Committee_votes_1.f k y q l) (cwin q l) (fun b hb => ?_)) Ev.some
  unfold impl_Committee_votes_1.f
  have h40 : 2 ^ l.length ≤ 1099511627776 := pow_small hl
  exact Ev.bind (impl_Committee_weight.ev q l b h (by omega) (by omega)) Ev.some
end Go.Proofs.Ythkbaolpiigioaa.P

/- Weights of a set, by bits. -/
namespace Go.Proofs.Ythkbaolpiigioaa.P
open Go.RowKit Go.Proofs.YthkbaolpiigioaaW.PrintWords Go.Proofs.YthkbaolpiigioaaW.PrintLast Go.Proofs.YthkbaolpiigioaaW.PrintMore
theorem spec_voWeight.ev (q : Int) (l : List Int) (b : Nat) (h : ∀ x ∈ l, 0 ≤ x ∧ x ≤ 1000) (hl : l.length ≤ 64) : Ev (fun k => spec_voWeight.f k q l (b : Int)) (wt l b) := by
  have key := back (P := fun i => ∀ s : Int, 0 ≤ s → s ≤ 1000 * i → Ev (fun k => spec_voWeight.l0 k (b : Int) s l (l.length : Int) (i : Int)) (s + wt (l.drop i) (b / 2 ^ i))) l.length
    (by intro s h0 h1
        refine Ev.shift ?_
        simp only [spec_voWeight.l0, Int.lt_irrefl, ↓reduceIte, List.drop_length, wt, Int.add_zero]
        exact Ev.some)
    (by intro i hi ih s h0 h1
        refine Ev.shift ?_
        have c1 : (i : Int) < (l.length : Int) := by omega
        have c0 : (0 : Int) ≤ (i : Int) := by omega
        have hx := h _ (getD_mem l 0 i hi)
        simp only [spec_voWeight.l0, c1, c0, ↓reduceIte, shr_nat b i (by omega), tmod_two, w1 hi (show l.length ≤ 9223372036854775807 by omega), rd_nat]
        rw [drop_getD l 0 i hi, wt, Nat.div_div_eq_div_mul, show (2 ^ i * 2 : Nat) = 2 ^ (i + 1) from rfl]
        by_cases hbit : b / 2 ^ i % 2 = 1
        · have hbit' : ((b / 2 ^ i % 2 : Nat) : Int) = 1 := by omega
          simp only [hbit, hbit', ↓reduceIte]
          rw [w64 (by omega) (by omega)]
          refine Ev.eq (ih _ (by omega) (by omega)) (by omega)
        · have hbit' : ¬ ((b / 2 ^ i % 2 : Nat) : Int) = 1 := by omega
          simp only [hbit, hbit', ↓reduceIte]
          refine Ev.eq (ih _ (by omega) (by omega)) (by omega))
  have := key 0 (Nat.zero_le _) 0 (by omega) (by omega)
  unfold spec_voWeight.f
  rw [List.drop_zero, Nat.pow_zero, Nat.div_one, Int.zero_add] at this
  exact this
end Go.Proofs.Ythkbaolpiigioaa.P

/- All members, by bits. -/
namespace Go.Proofs.Ythkbaolpiigioaa.P
open Go.RowKit Go.Proofs.YthkbaolpiigioaaW.PrintWords Go.Proofs.YthkbaolpiigioaaW.PrintLast Go.Proofs.YthkbaolpiigioaaW.PrintMore
theorem spec_voAll.eq (n : Nat) (hn : n < 63) : spec_voAll.f (n : Int) = some ((2 ^ n - 1 : Nat) : Int) := by
  have c0 : (0 : Int) ≤ (n : Int) := by omega
  have h1 := pow63 hn
  have h2 : 0 < 2 ^ n := Nat.two_pow_pos n
  unfold spec_voAll.f
  rw [if_pos c0, shl_one n hn, w64 (by omega) (by omega)]
  congr 1
  omega
end Go.Proofs.Ythkbaolpiigioaa.P

/- The votes of a committee. -/
namespace Go.Proofs.Ythkbaolpiigioaa.P
open Go.RowKit Go.Proofs.YthkbaolpiigioaaW.PrintWords Go.Proofs.YthkbaolpiigioaaW.PrintLast Go.Proofs.YthkbaolpiigioaaW.PrintMore
theorem spec_voWins.ev' (q : Int) (l : List Int) (h : ∀ x ∈ l, 0 ≤ x ∧ x ≤ 1000) (hl : l.length ≤ 40) : Ev (fun k => spec_voWins.f k q l) (tab l.length (fun b => decide (wt l b ≥ q))) := by
  have h40 : 2 ^ l.length ≤ 1099511627776 := pow_small hl
  have hp := Nat.two_pow_pos l.length
  have tl := tab_len l.length (fun b => decide (wt l b ≥ q))
  generalize ht : tab l.length (fun b => decide (wt l b ≥ q)) = t at tl ⊢
  have key := Ev.down (G := fun i k => spec_voWins.l0 k (t.take i) (i : Int) q l) (R := fun _ => t) (2 ^ l.length)
    (by refine Ev.shift ?_
        have c : ¬ (((2 ^ l.length : Nat) : Int) ≤ ((2 ^ l.length - 1 : Nat) : Int)) := by omega
        simp only [spec_voWins.l0, spec_voAll.eq l.length (by omega), Option.bind_some, c, ↓reduceIte]
        rw [← tl, List.take_length]
        exact Ev.some)
    (fun i hi ih => by
        refine Ev.shift ?_
        have c : (i : Int) ≤ ((2 ^ l.length - 1 : Nat) : Int) := by omega
        simp only [spec_voWins.l0, spec_voAll.eq l.length (by omega), Option.bind_some, c, ↓reduceIte]
        refine Ev.bind (spec_voWeight.ev q l i h (by omega)) ?_
        have c2 : (t.take i).length < 140737488355328 := by rw [List.length_take]; omega
        have e : t.take i ++ [decide (wt l i ≥ q)] = t.take (i + 1) := by
          rw [take_getD t false i (by omega), ← ht, tab_get _ _ i hi]
        simp only [c2, ↓reduceIte, w1 hi (show 2 ^ l.length ≤ 9223372036854775807 by omega), e]
        exact ih)
  exact key 0 (Nat.zero_le _)
end Go.Proofs.Ythkbaolpiigioaa.P

/- Plain laws of the printed functions on committees: what each answers. -/
namespace Go.Proofs.Ythkbaolpiigioaa.P
open Go.RowKit Go.Proofs.YthkbaolpiigioaaW.PrintWords Go.Proofs.YthkbaolpiigioaaW.PrintLast Go.Proofs.YthkbaolpiigioaaW.PrintMore
theorem impl_within.eq (a b c : Int) : impl_within.f a b c = some (inI b c a) := by
  unfold impl_within.f inI
  by_cases h : a ≥ b
  · have h' : b ≤ a := h
    simp [h']
  · have h' : ¬ b ≤ a := h
    simp [h']
theorem spec_l1In.eq (a b c : Int) : spec_l1In.f a b c = some (inI b c a) := by
  unfold spec_l1In.f inI
  by_cases h : a ≥ b
  · have h' : b ≤ a := h
    simp [h']
  · have h' : ¬ b ≤ a := h
    simp [h']
theorem impl_sumOf.ev (l : List Int) (hm : l.length ≤ 9223372036854775807) : Ev (fun k => impl_sumOf.f k l) (wsum l) := by
  have key := Ev.down (G := fun i k => impl_sumOf.l0 k ((l.take i).foldl (fun s x => wrap64 (s + x)) 0) l (l.length : Int) (i : Int)) (R := fun _ => wsum l) l.length
    (by refine Ev.shift ?_
        simp only [impl_sumOf.l0, Int.lt_irrefl, ↓reduceIte, List.take_length]
        exact Ev.some)
    (fun i hi ih => by
        refine Ev.shift ?_
        have c1 : (i : Int) < (l.length : Int) := by omega
        have c0 : (0 : Int) ≤ (i : Int) := by omega
        simp only [impl_sumOf.l0, c1, c0, ↓reduceIte, w1 hi hm, rd_nat]
        rw [foldl_take _ _ l 0 i hi] at ih
        exact ih)
  exact key 0 (Nat.zero_le _)
theorem spec_voSum.ev (l : List Int) (hm : l.length ≤ 9223372036854775807) : Ev (fun k => spec_voSum.f k l) (wsum l) := by
  have key := Ev.down (G := fun i k => spec_voSum.l0 k ((l.take i).foldl (fun s x => wrap64 (s + x)) 0) l (l.length : Int) (i : Int)) (R := fun _ => wsum l) l.length
    (by refine Ev.shift ?_
        simp only [spec_voSum.l0, Int.lt_irrefl, ↓reduceIte, List.take_length]
        exact Ev.some)
    (fun i hi ih => by
        refine Ev.shift ?_
        have c1 : (i : Int) < (l.length : Int) := by omega
        have c0 : (0 : Int) ≤ (i : Int) := by omega
        simp only [spec_voSum.l0, c1, c0, ↓reduceIte, w1 hi hm, rd_nat]
        rw [foldl_take _ _ l 0 i hi] at ih
        exact ih)
  exact key 0 (Nat.zero_le _)
theorem isComm_eq (q : Int) (l : List Int) : isComm q l = if (1 ≤ l.length ∧ l.length ≤ 9) ∧ l.all (inI 0 1000) = true then inI 1 (wsum l) q else false := by
  unfold isComm
  by_cases h : (1 ≤ l.length ∧ l.length ≤ 9) ∧ l.all (inI 0 1000) = true
  · have hm : ∀ x ∈ l, 0 ≤ x ∧ x ≤ 1000 := by
      have := h.2
      simp [inI] at this
      exact this
    rw [if_pos h, wsum_eq l hm (by omega)]
    simp only [h.1.1, h.1.2, h.2, decide_true, Bool.true_and]
  · rw [if_neg h]
    by_cases h1 : 1 ≤ l.length
    · by_cases h2 : l.length ≤ 9
      · have h3 : l.all (inI 0 1000) = false := by
          cases h4 : l.all (inI 0 1000) with
          | true => exact absurd ⟨⟨h1, h2⟩, h4⟩ h
          | false => rfl
        simp only [h3, Bool.and_false, Bool.false_and]
      · simp only [h2, decide_false, Bool.and_false, Bool.false_and]
    · simp only [h1, decide_false, Bool.false_and]
theorem slices_IndexFunc_int_int.ev (l : List Int) (hm : l.length ≤ 9223372036854775807) (p : Nat → Int → Option Bool) (P : Int → Bool) (h : ∀ x ∈ l, Ev (fun k => p k x) (P x)) : Ev (fun k => slices_IndexFunc_int_int.f k l (p k)) (idxFrom P 0 l) := by
  refine Ev.ask (F := fun k q => slices_IndexFunc_int_int.f k l q) l h ⟨l.length + 1, fun k hk q hq => ?_⟩
  unfold slices_IndexFunc_int_int.f
  have := downq (G := fun i k => slices_IndexFunc_int_int.l0 k l q (l.length : Int) (i : Int)) (R := fun i => idxFrom P i (l.drop i)) l.length
    (by intro k; simp only [slices_IndexFunc_int_int.l0, Int.lt_irrefl, ↓reduceIte, List.drop_length, idxFrom])
    (fun i hi k ih => by
      have c1 : (i : Int) < (l.length : Int) := by omega
      have c0 : (0 : Int) ≤ (i : Int) := by omega
      simp only [slices_IndexFunc_int_int.l0, c1, c0, ↓reduceIte, w1 hi hm, rd_nat, hq _ (getD_mem l 0 i hi), Option.bind_some]
      rw [drop_getD l 0 i hi, idxFrom, ih]
      split <;> rfl) 0 (Nat.zero_le _) k (by omega)
  rwa [List.drop_zero] at this
theorem slices_ContainsFunc_int_int.ev (l : List Int) (hm : l.length ≤ 9223372036854775807) (p : Nat → Int → Option Bool) (P : Int → Bool) (h : ∀ x ∈ l, Ev (fun k => p k x) (P x)) : Ev (fun k => slices_ContainsFunc_int_int.f k l (p k)) (l.any P) := by
  unfold slices_ContainsFunc_int_int.f
  refine Ev.bind (slices_IndexFunc_int_int.ev l hm p P h) ?_
  rw [idxFrom_nn]
  exact Ev.some
theorem impl_areIn.ev (l : List Int) (a b : Int) (hm : l.length ≤ 9223372036854775807) : Ev (fun k => impl_areIn.f k l a b) (l.all (inI a b)) := by
  unfold impl_areIn.f
  refine Ev.bind (slices_ContainsFunc_int_int.ev l hm (fun _ x => impl_areIn_1.f x a b) (fun x => !inI a b x) (fun x _ => ?_)) ?_
  · simp only [impl_areIn_1.f, impl_within.eq, Option.bind_some]; exact Ev.some
  · rw [all_any]; exact Ev.some
theorem impl_IsCommittee.ev (q : Int) (l : List Int) (hm : l.length ≤ 9223372036854775807) : Ev (fun k => impl_IsCommittee.f k q l) (isComm q l) := by
  rw [isComm_eq]
  unfold impl_IsCommittee.f
  by_cases h1 : 1 ≤ l.length
  · have c1 : (l.length : Int) ≥ 1 := by omega
    by_cases h2 : l.length ≤ 9
    · have c2 : (l.length : Int) ≤ 9 := by omega
      simp only [c1, c2, h1, h2, ↓reduceIte, and_self, true_and]
      refine Ev.bind (impl_areIn.ev l 0 1000 hm) ?_
      by_cases h3 : l.all (inI 0 1000) = true
      · simp only [h3, ↓reduceIte]
        refine Ev.bind (impl_sumOf.ev l hm) ?_
        simp only [impl_within.eq, Option.bind_some]
        exact Ev.some
      · simp only [h3]
        exact Ev.some
    · have c2 : ¬ (l.length : Int) ≤ 9 := by omega
      simp only [c1, c2, h2, ↓reduceIte, and_false, false_and]
      exact Ev.some
  · have c1 : ¬ (l.length : Int) ≥ 1 := by omega
    simp only [c1, h1, ↓reduceIte, false_and]
    exact Ev.some
theorem spec_l1All.ev (l : List Int) (a b : Int) (hm : l.length ≤ 9223372036854775807) : Ev (fun k => spec_l1All.f k l a b) (l.all (inI a b)) := by
  have key := Ev.down (G := fun i k => spec_l1All.l0 k a b l (l.length : Int) (i : Int)) (R := fun i => (l.drop i).all (inI a b)) l.length
    (by refine Ev.shift ?_
        simp only [spec_l1All.l0, Int.lt_irrefl, ↓reduceIte, List.drop_length, List.all_nil]
        exact Ev.some)
    (fun i hi ih => by
        refine Ev.shift ?_
        have c1 : (i : Int) < (l.length : Int) := by omega
        have c0 : (0 : Int) ≤ (i : Int) := by omega
        simp only [spec_l1All.l0, c1, c0, ↓reduceIte, w1 hi hm, rd_nat, spec_l1In.eq, Option.bind_some]
        rw [drop_getD l 0 i hi, List.all_cons]
        cases h : inI a b (l.getD i 0) with
        | true => simp only [↓reduceIte, Bool.true_and]; exact ih
        | false => simp only [Bool.false_eq_true, ↓reduceIte, Bool.false_and]; exact Ev.some)
  exact key 0 (Nat.zero_le _)
theorem spec_voGood.ev (q : Int) (l : List Int) (hm : l.length ≤ 9223372036854775807) : Ev (fun k => spec_voGood.f k q l) (isComm q l) := by
  rw [isComm_eq]
  unfold spec_voGood.f
  simp only [spec_l1In.eq, Option.bind_some]
  have e : inI 1 9 (l.length : Int) = decide (1 ≤ l.length ∧ l.length ≤ 9) := by
    unfold inI; rw [Bool.eq_iff_iff]; simp; omega
  rw [e]
  by_cases h : 1 ≤ l.length ∧ l.length ≤ 9
  · simp only [h, decide_true, ↓reduceIte, and_self, true_and]
    refine Ev.bind (spec_l1All.ev l 0 1000 hm) ?_
    refine Ev.shift ?_
    by_cases h3 : l.all (inI 0 1000) = true
    · simp only [spec_voGood.j0, h3, Bool.not_true, Bool.false_eq_true, ↓reduceIte]
      refine Ev.bind (spec_voSum.ev l hm) ?_
      simp only [spec_l1In.eq, Option.bind_some]
      exact Ev.some
    · have h4 : l.all (inI 0 1000) = false := by simpa using h3
      simp only [spec_voGood.j0, h4, Bool.not_false, Bool.false_eq_true, ↓reduceIte]
      exact Ev.some
  · simp only [h, decide_false, Bool.false_eq_true, ↓reduceIte, false_and]
    refine Ev.shift ?_
    simp only [spec_voGood.j0, ↓reduceIte]
    exact Ev.some
/-! ### the law's own words -/
theorem laws_toIntS.ev (l : List Int) (hm : l.length ≤ 1048576) : Ev (fun k => laws_toIntS.f k l) l := by
  unfold laws_toIntS.f
  have c1 : (0 : Int) ≤ (l.length : Int) := by omega
  have c2 : l.length ≤ 35184372088832 := by omega
  simp only [c1, c2, ↓reduceIte, Int.toNat_natCast]
  have key := Ev.down (G := fun i k => laws_toIntS.l0 k l (filled l 0 i) (i : Int)) (R := fun _ => l) l.length
    (by refine Ev.shift ?_
        simp only [laws_toIntS.l0, Int.lt_irrefl, ↓reduceIte, filled_all]
        exact Ev.some)
    (fun i hi ih => by
        refine Ev.shift ?_
        have c1 : (i : Int) < (l.length : Int) := by omega
        have c0 : (0 : Int) ≤ (i : Int) := by omega
        simp only [laws_toIntS.l0, filled_len l 0 i (by omega), c1, c0, ↓reduceIte, w1 hi (by omega), rd_nat, Int.toNat_natCast, filled_set l 0 0 i hi]
        exact ih)
  have := key 0 (Nat.zero_le _)
  rw [filled_zero] at this
  exact this
theorem laws_toCommittee.ev (q : Int) (l : List Int) (hm : l.length ≤ 1048576) : Ev (fun k => laws_toCommittee.f k q l) (q, l) := by
  unfold laws_toCommittee.f
  exact Ev.bind (laws_toIntS.ev l hm) Ev.some
theorem laws_eqIntS.ev (l : List Int) (hm : l.length ≤ 9223372036854775807) : Ev (fun k => laws_eqIntS.f k l l) true := by
  unfold laws_eqIntS.f
  simp only [↓reduceIte]
  have key := Ev.down (G := fun i k => laws_eqIntS.l0 k l l (i : Int)) (R := fun _ => true) l.length
    (by refine Ev.shift ?_
        simp only [laws_eqIntS.l0, Int.lt_irrefl, ↓reduceIte]
        exact Ev.some)
    (fun i hi ih => by
        refine Ev.shift ?_
        have c1 : (i : Int) < (l.length : Int) := by omega
        have c0 : (0 : Int) ≤ (i : Int) := by omega
        simp only [laws_eqIntS.l0, c1, c0, ↓reduceIte, w1 hi hm]
        exact ih)
  exact key 0 (Nat.zero_le _)
theorem laws_eqCommittee.ev (q : Int) (l : List Int) (hm : l.length ≤ 9223372036854775807) : Ev (fun k => laws_eqCommittee.f k q l q l) true := by
  unfold laws_eqCommittee.f
  simp only [↓reduceIte]
  refine Ev.bind (laws_eqIntS.ev l hm) ?_
  simp only [↓reduceIte]
  exact Ev.some
/-- What is left of the size that is let by. -/
theorem laws_szIntS.eq (l : List Int) (n : Int) (hm : l.length ≤ 9223372036854775807) (h0 : 0 ≤ n) (h1 : n ≤ 1048576) : laws_szIntS.f l n = some (if n < l.length then -1 else n - l.length) := by
  unfold laws_szIntS.f
  rw [w64 (by omega) (by omega)]
  by_cases h : n < l.length
  · rw [if_pos (by omega), if_pos h]
  · rw [if_neg (by omega), if_neg h]
theorem laws_szCommittee.eq (q : Int) (l : List Int) (n : Int) (hm : l.length ≤ 9223372036854775807) (h0 : 0 ≤ n) (h1 : n ≤ 1048576) : laws_szCommittee.f q l n = some (if n < l.length then -1 else n - l.length) := by
  unfold laws_szCommittee.f
  rw [laws_szIntS.eq l n hm h0 h1, Option.bind_some]
  by_cases h : n < l.length
  · rw [if_pos h, if_pos (by omega)]
  · rw [if_neg h, if_neg (by omega)]
end Go.Proofs.Ythkbaolpiigioaa.P

/- How two numbers compare. -/
namespace Go.Proofs.Ythkbaolpiigioaa.P
open Go.RowKit Go.Proofs.YthkbaolpiigioaaW.PrintWords Go.Proofs.YthkbaolpiigioaaW.PrintLast Go.Proofs.YthkbaolpiigioaaW.PrintMore
def cmpI (x y : Int) : Int := if x < y then -1 else if x > y then 1 else 0
theorem cmp_Compare_int.eq (x y : Int) : cmp_Compare_int.f x y = some (cmpI x y) := by
  have e : ∀ z, cmp_isNaN_int.f z = some false := fun z => by simp [cmp_isNaN_int.f]
  unfold cmp_Compare_int.f cmpI
  rw [e, e]
  simp only [Option.bind_some, Bool.false_eq_true, ↓reduceIte]
  split
  · rfl
  · split <;> rfl
end Go.Proofs.Ythkbaolpiigioaa.P

/- Pivots of a committee: all together are all orders. -/
namespace Go.Proofs.Ythkbaolpiigioaa.P
open Go.RowKit Go.Proofs.YthkbaolpiigioaaW.PrintWords Go.Proofs.YthkbaolpiigioaaW.PrintLast Go.Proofs.YthkbaolpiigioaaW.PrintMore
theorem wt_nil0 (l : List Int) : wt l 0 = 0 := by
  induction l with
  | nil => rfl
  | cons x l ih => rw [wt, Nat.zero_div, ih]; rfl
theorem wt_with (l : List Int) (m k : Nat) (hk : k < l.length) (hb : m.testBit k = false) : wt l (m + 2 ^ k) = wt l m + l.getD k 0 := by
  induction l generalizing m k with
  | nil => simp at hk
  | cons x l ih =>
    cases k with
    | zero =>
      have h2 : m % 2 = 0 := by
        rw [bit_nat, Nat.pow_zero, Nat.div_one, decide_eq_false_iff_not] at hb
        omega
      have e1 : (m + 2 ^ 0) % 2 = 1 := by rw [Nat.pow_zero]; omega
      have e2 : (m + 2 ^ 0) / 2 = m / 2 := by rw [Nat.pow_zero]; omega
      rw [wt, wt, e1, e2, if_pos rfl, if_neg (by omega)]
      simp only [List.getD_cons_zero]
      omega
    | succ k =>
      have e1 : (m + 2 ^ (k + 1)) % 2 = m % 2 := by rw [Nat.pow_succ]; omega
      have e2 : (m + 2 ^ (k + 1)) / 2 = m / 2 + 2 ^ k := by rw [Nat.pow_succ]; omega
      have hb2 : (m / 2).testBit k = false := by rw [Nat.testBit_succ] at hb; exact hb
      rw [wt, wt, e1, e2, ih (m / 2) k (by simpa using hk) hb2, List.getD_cons_succ]
      omega
theorem wt_full (l : List Int) : wt l (2 ^ l.length - 1) = l.sum := by
  induction l with
  | nil => rfl
  | cons x l ih =>
    have hp := Nat.two_pow_pos l.length
    have e1 : (2 ^ (l.length + 1) - 1) % 2 = 1 := by rw [Nat.pow_succ]; omega
    have e2 : (2 ^ (l.length + 1) - 1) / 2 = 2 ^ l.length - 1 := by rw [Nat.pow_succ]; omega
    rw [List.length_cons, wt, e1, e2, ih, if_pos rfl, List.sum_cons]
/-- Of how many orders each member of a committee is the pivot. -/
def pv (q : Int) (l : List Int) : List Int := pivl l.length (tab l.length (cwin q l))
theorem pv_len (q : Int) (l : List Int) : (pv q l).length = l.length := pivl_len _ _
theorem pv_sum (q : Int) (l : List Int) (h : isComm q l = true) : (pv q l).sum = (fac l.length : Int) := by
  have hlen := isComm_len h
  have hm := isComm_mem h
  have hq := isComm_q h
  have hp := Nat.two_pow_pos l.length
  refine pivl_sum l.length _ hlen.1 hlen.2 (fun m k hm2 hk hb hw => ?_) ?_ ?_
  · rw [tab_get _ _ _ (with_lt hm2 hk hb)]
    rw [tab_get _ _ _ hm2] at hw
    simp only [cwin, decide_eq_true_eq] at hw ⊢
    rw [wt_with l m k hk hb]
    have := hm _ (getD_mem l 0 k hk)
    omega
  · rw [tab_get _ _ _ hp]
    simp only [cwin, decide_eq_false_iff_not]
    rw [wt_nil0]; omega
  · rw [tab_get _ _ _ (by omega)]
    simp only [cwin, decide_eq_true_eq]
    rw [wt_full]; omega
theorem sum_mem (l : List Int) (h : ∀ x ∈ l, 0 ≤ x) : 0 ≤ l.sum ∧ ∀ x ∈ l, x ≤ l.sum := by
  induction l with
  | nil => simp
  | cons y l ih =>
    have h1 := h y (by simp)
    obtain ⟨h2, h3⟩ := ih (fun x hx => h x (by simp [hx]))
    rw [List.sum_cons]
    refine ⟨by omega, fun x hx => ?_⟩
    rcases List.mem_cons.1 hx with rfl | hx
    · omega
    · have := h3 x hx; omega
theorem pv_mem (q : Int) (l : List Int) (h : isComm q l = true) : ∀ x ∈ pv q l, 0 ≤ x ∧ x ≤ 362880 := by
  have hlen := isComm_len h
  have nn : ∀ x ∈ pv q l, 0 ≤ x := by
    intro x hx
    simp only [pv, pivl, List.mem_map, List.mem_range] at hx
    obtain ⟨k, hk, rfl⟩ := hx
    exact (pvs_bounds l.length _ k _ hlen.1 hlen.2 hk (Nat.le_refl _)).1
  intro x hx
  have h2 := (sum_mem _ nn).2 x hx
  have h3 := fac_nine hlen.2
  rw [pv_sum q l h] at h2
  exact ⟨nn x hx, by omega⟩
/-- What some members have together. -/
def osm (p s : List Int) : Int := (s.map fun k => p.getD k.toNat 0).sum
theorem osm_from (p s : List Int) (i : Nat) (hi : i < s.length) : osm p (s.drop i) = p.getD (s.getD i 0).toNat 0 + osm p (s.drop (i + 1)) := by
  rw [drop_getD s 0 i hi]; simp [osm]
theorem impl_byOrders.ev (q : Int) (l : List Int) (h : isComm q l = true) : Ev (fun k => impl_byOrders.f k q l) (pv q l, (fac l.length : Int)) := by
  have hlen := isComm_len h
  unfold impl_byOrders.f
  refine Ev.bind (impl_Committee_votes.ev q l (isComm_mem h) (by omega)) ?_
  refine Ev.bind (impl_votes_pivots.ev l.length _ (tab_len _ _) hlen.1 hlen.2) ?_
  exact Ev.bind (impl_factorial.ev l.length hlen.2) Ev.some
theorem wsum_P (p : List Int) (hp : ∀ x ∈ p, 0 ≤ x ∧ x ≤ 362880) (hl : p.length ≤ 9) : wsum p = p.sum := by
  have key : ∀ (l : List Int) (s : Int), 0 ≤ s → (∀ x ∈ l, 0 ≤ x ∧ x ≤ 362880) → s + 362880 * l.length ≤ 9223372036854775807 → l.foldl (fun s x => wrap64 (s + x)) s = s + l.sum := by
    intro l
    induction l with
    | nil => intro s _ _ _; simp
    | cons x l ih =>
      intro s hs h hb
      have h1 := h x (by simp)
      simp only [List.length_cons] at hb
      rw [List.foldl_cons, w64 (by omega) (by omega), ih (s + x) (by omega) (fun y hy => h y (by simp [hy])) (by omega), List.sum_cons]
      omega
  unfold wsum; rw [key p 0 (by omega) hp (by omega)]; omega
theorem spec_unPivots.ev (q : Int) (l s : List Int) (h : isComm q l = true) (hs : ∀ x ∈ s, 0 ≤ x ∧ x < (l.length : Int)) (hl : s.length ≤ 9) : Ev (fun k => spec_unPivots.f k q l s) (osm (pv q l) s, (fac l.length : Int)) := by
  have hlen := isComm_len h
  have hp := pv_mem q l h
  have hpl := pv_len q l
  have hsum := pv_sum q l h
  unfold spec_unPivots.f
  refine Ev.bind (spec_voWins.ev' q l (isComm_mem h) (by omega)) ?_
  refine Ev.bind (spec_pwPivots.ev l.length _ (tab_len _ _) hlen.1 hlen.2) ?_
  have e : pivl l.length (tab l.length (fun b => decide (wt l b ≥ q))) = pv q l := rfl
  rw [e]
  generalize pv q l = p at hp hpl hsum ⊢
  have key := back (P := fun i => ∀ a : Int, 0 ≤ a → a ≤ 362880 * i → Ev (fun k => spec_unPivots.l0 k p a s (s.length : Int) (i : Int)) (a + osm p (s.drop i), (fac l.length : Int))) s.length
    (by intro a h0 h1
        refine Ev.shift ?_
        simp only [spec_unPivots.l0, Int.lt_irrefl, ↓reduceIte, List.drop_length]
        refine Ev.bind (spec_voSum.ev p (by omega)) ?_
        rw [wsum_P p hp (by omega), hsum]
        exact Ev.eq Ev.some (by simp [osm]))
    (by intro i hi ih a h0 h1
        refine Ev.shift ?_
        have c1 : (i : Int) < (s.length : Int) := by omega
        have c0 : (0 : Int) ≤ (i : Int) := by omega
        have hx := hs _ (getD_mem s 0 i hi)
        obtain ⟨j, hj⟩ : ∃ j : Nat, s.getD i 0 = (j : Int) := ⟨(s.getD i 0).toNat, by omega⟩
        rw [hj] at hx
        have hpj := hp _ (getD_mem p 0 j (by omega))
        have d1 : (j : Int) < (p.length : Int) := by omega
        rw [osm_from p s i hi, hj, Int.toNat_natCast]
        simp only [spec_unPivots.l0, c1, c0, ↓reduceIte, rd_nat, hj, hx.1, d1, w1 hi (show s.length ≤ 9223372036854775807 by omega)]
        rw [w64 (by omega) (by omega)]
        refine Ev.eq (ih _ (by omega) (by omega)) ?_
        rw [Int.add_assoc])
  have := key 0 (Nat.zero_le _) 0 (by omega) (by omega)
  rw [List.drop_zero, Int.zero_add] at this
  exact this
end Go.Proofs.Ythkbaolpiigioaa.P

/- The numbers for which another number is greatest. -/
namespace Go.Proofs.Ythkbaolpiigioaa.P
open Go.RowKit Go.Proofs.YthkbaolpiigioaaW.PrintWords Go.Proofs.YthkbaolpiigioaaW.PrintLast Go.Proofs.YthkbaolpiigioaaW.PrintMore
/-- One number more: those so far, and their number. -/
def bstep (g : Nat → Option Int) (st : List Int × Int) (i : Nat) : List Int × Int :=
  match g i with
  | none => st
  | some x => if st.1 = [] then ([(i : Int)], x) else if x < st.2 then st else if x > st.2 then ([(i : Int)], x) else (st.1 ++ [(i : Int)], x)
def best (g : Nat → Option Int) (n : Nat) : List Int × Int := (List.range n).foldl (bstep g) ([], 0)
theorem best_succ (g : Nat → Option Int) (n : Nat) : best g (n + 1) = bstep g (best g n) n := by
  unfold best; rw [List.range_succ, List.foldl_append]; rfl
theorem bstep_len (g : Nat → Option Int) (st : List Int × Int) (i : Nat) : (bstep g st i).1.length ≤ st.1.length + 1 := by
  unfold bstep
  split
  · omega
  · split
    · simp
    · split
      · omega
      · split <;> simp
theorem best_len (g : Nat → Option Int) (n : Nat) : (best g n).1.length ≤ n := by
  induction n with
  | zero => simp [best]
  | succ n ih => rw [best_succ]; have := bstep_len g (best g n) n; omega
/-- An answer as the program tells it. -/
def tellO (x : Option Int) : Int × Bool := match x with
  | none => (0, false)
  | some x => (x, true)
theorem impl_bestOf.ev (n : Nat) (hn : n ≤ 1000000) (p : Nat → Int → Option (Int × Bool)) (g : Nat → Option Int) (h : ∀ b : Nat, b < n → Ev (fun k => p k (b : Int)) (tellO (g b))) : Ev (fun k => impl_bestOf.f k (n : Int) (p k)) ((best g n).1, decide ((best g n).1 ≠ [])) := by
  obtain ⟨K, hK⟩ := Ev.all (p := fun k (b : Nat) => p k (b : Int)) (P := fun b => tellO (g b)) (List.range n) (fun b hb => h b (List.mem_range.1 hb))
  refine ⟨K + 2 * n + 2, fun k hk => ?_⟩
  have hq := hK k (by omega)
  show impl_bestOf.f k (n : Int) (p k) = _
  generalize p k = q at hq ⊢
  have hq : ∀ b : Nat, b < n → q (b : Int) = some (tellO (g b)) := fun b hb => hq b (List.mem_range.2 hb)
  have key : ∀ d i, i + d = n → ∀ k, 2 * d + 1 < k + 1 → impl_bestOf.l0 k q (best g i).1 (best g i).2 (n : Int) (i : Int) = some ((best g n).1, decide ((best g n).1 ≠ [])) := by
    intro d
    induction d with
    | zero =>
      intro i hi k hk
      obtain rfl : i = n := by omega
      obtain ⟨k, rfl⟩ : ∃ j, k = j + 1 := ⟨k - 1, by omega⟩
      simp only [impl_bestOf.l0, Int.lt_irrefl, ↓reduceIte]
      congr 2
      rw [decide_eq_decide, ne_eq, ← List.length_eq_zero_iff]
      omega
    | succ d ih =>
      intro i hi k hk
      obtain ⟨k, rfl⟩ : ∃ j, k = j + 1 + 1 := ⟨k - 2, by omega⟩
      have c1 : (i : Int) < (n : Int) := by omega
      have hw := w1 (show i < n by omega) (show n ≤ 9223372036854775807 by omega)
      have h2 := ih (i + 1) (by omega) k (by omega)
      have hbl := best_len g i
      have c2 : (best g i).1.length < 17592186044416 := by omega
      rw [best_succ] at h2
      simp only [impl_bestOf.l0, c1, ↓reduceIte]
      rw [hq i (by omega), Option.bind_some]
      unfold bstep at h2
      cases hg : g i with
      | none =>
        rw [hg] at h2
        simp only [tellO, Bool.false_eq_true, ↓reduceIte, impl_bestOf.j1, hw]
        exact h2
      | some x =>
        rw [hg] at h2
        simp only [tellO, ↓reduceIte]
        by_cases he : (best g i).1 = []
        · have ce : ¬ ((best g i).1.length : Int) > 0 := by rw [he]; simp
          simp only [he, ↓reduceIte] at h2
          simp only [ce, ↓reduceIte, impl_bestOf.j1, Bool.false_eq_true, c2, hw, he, List.nil_append]
          first | exact h2 | (simp only [List.length_nil, Int.natCast_zero, gt_iff_lt, Int.lt_irrefl, ↓reduceIte]; exact h2) | (simp; exact h2)
        · have ce : ((best g i).1.length : Int) > 0 := by have := List.length_pos_iff.2 he; omega
          simp only [he, ↓reduceIte] at h2
          simp only [ce, ↓reduceIte, impl_bestOf.j1, hw]
          by_cases hlt : x < (best g i).2
          · simp only [hlt, ↓reduceIte] at h2
            simp only [hlt, decide_true, ↓reduceIte]
            exact h2
          · simp only [hlt, ↓reduceIte] at h2
            simp only [hlt, decide_false, Bool.false_eq_true, ↓reduceIte]
            by_cases hgt : x > (best g i).2
            · simp only [hgt, ↓reduceIte] at h2
              simp only [hgt, ↓reduceIte, Option.bind_some, List.length_nil, List.nil_append, show (0 : Nat) < 17592186044416 by decide]
              exact h2
            · simp only [hgt, ↓reduceIte] at h2
              simp only [hgt, ↓reduceIte, c2]
              exact h2
  have := key n 0 (by omega) k (by omega)
  unfold impl_bestOf.f
  exact this
end Go.Proofs.Ythkbaolpiigioaa.P

/- Members of a committee. -/
namespace Go.Proofs.Ythkbaolpiigioaa.P
open Go.RowKit Go.Proofs.YthkbaolpiigioaaW.PrintWords Go.Proofs.YthkbaolpiigioaaW.PrintLast Go.Proofs.YthkbaolpiigioaaW.PrintMore
def isMem (q : Int) (l : List Int) (i : Int) : Bool := isComm q l && inI 0 ((l.length : Int) - 1) i
theorem isMem_at {q : Int} {l : List Int} {i : Int} (h : isMem q l i = true) : isComm q l = true ∧ ∃ j : Nat, i = (j : Int) ∧ j < l.length := by
  simp only [isMem, inI, Bool.and_eq_true, decide_eq_true_eq] at h
  exact ⟨h.1, i.toNat, by omega, by omega⟩
theorem impl_isMember.ev (q : Int) (l : List Int) (i : Int) (hm : l.length ≤ 9223372036854775807) : Ev (fun k => impl_isMember.f k q l i) (isMem q l i) := by
  unfold impl_isMember.f isMem
  refine Ev.bind (impl_IsCommittee.ev q l hm) ?_
  cases h : isComm q l with
  | true => simp only [↓reduceIte, impl_within.eq, Option.bind_some, Bool.true_and]; rw [w64 (by omega) (by omega)]; exact Ev.some
  | false => exact Ev.some
theorem spec_pwMember.ev (q : Int) (l : List Int) (i : Int) (hm : l.length ≤ 9223372036854775807) : Ev (fun k => spec_pwMember.f k q l i) (isMem q l i) := by
  unfold spec_pwMember.f isMem
  refine Ev.bind (spec_voGood.ev q l hm) ?_
  cases h : isComm q l with
  | true => simp only [↓reduceIte, spec_l1In.eq, Option.bind_some, Bool.true_and]; rw [w64 (by omega) (by omega)]; exact Ev.some
  | false => exact Ev.some
end Go.Proofs.Ythkbaolpiigioaa.P

/- What marking a row, and looking at the marks, answers. -/
namespace Go.Proofs.Ythkbaolpiigioaa.P
open Go.RowKit Go.Proofs.YthkbaolpiigioaaW.PrintWords Go.Proofs.YthkbaolpiigioaaW.PrintLast Go.Proofs.YthkbaolpiigioaaW.PrintMore
theorem laws_markIntS.ev (l : List Int) (a : Int) (h0 : 0 ≤ a) (h1 : a ≤ 4000000000000000000) (hm : l.length ≤ 4000000000000000000) : Ev (fun k => laws_markIntS.f k l a) (a + (l.length : Int), marks a l.length) := by
  have hl : (marks a l.length).length = l.length := marks_len _ _
  have key := Ev.down (G := fun i k => laws_markIntS.l0 k (over (marks a l.length) l i) (a + (i : Int)) (i : Int)) (R := fun _ => (a + (l.length : Int), marks a l.length)) l.length
    (by refine Ev.shift ?_
        simp only [laws_markIntS.l0, over_all _ _ hl, hl, Int.lt_irrefl, ↓reduceIte]
        exact Ev.some)
    (fun i hi ih => by
        refine Ev.shift ?_
        have c1 : (i : Int) < ((over (marks a l.length) l i).length : Int) := by rw [over_len _ _ _ hl]; omega
        have c0 : (0 : Int) ≤ (i : Int) := by omega
        have e1 : wrap64 (a + (i : Int) + 1) = a + ((i + 1 : Nat) : Int) := by rw [w64 (by omega) (by omega)]; omega
        have e2 : (over (marks a l.length) l i).set i (a + (i : Int)) = over (marks a l.length) l (i + 1) := by
          have := over_set (marks a l.length) l 0 i hl hi
          rwa [marks_get a l.length i hi] at this
        simp only [laws_markIntS.l0, c1, c0, ↓reduceIte, w1 hi (by omega), Int.toNat_natCast, e1, e2]
        exact ih)
  have := key 0 (Nat.zero_le _)
  rw [over_zero] at this
  unfold laws_markIntS.f
  simpa using this
theorem laws_heldIntS.ev (a : Int) (n : Nat) (h0 : 0 ≤ a) (h1 : a ≤ 4000000000000000000) (hm : n ≤ 4000000000000000000) : Ev (fun k => laws_heldIntS.f k (marks a n) a) (a + (n : Int)) := by
  have key := Ev.down (G := fun i k => laws_heldIntS.l0 k (marks a n) (a + (i : Int)) (i : Int)) (R := fun _ => a + (n : Int)) n
    (by refine Ev.shift ?_
        simp only [laws_heldIntS.l0, marks_len, Int.lt_irrefl, ↓reduceIte]
        exact Ev.some)
    (fun i hi ih => by
        refine Ev.shift ?_
        have c1 : (i : Int) < (n : Int) := by omega
        have c0 : (0 : Int) ≤ (i : Int) := by omega
        have e1 : wrap64 (a + (i : Int) + 1) = a + ((i + 1 : Nat) : Int) := by rw [w64 (by omega) (by omega)]; omega
        simp only [laws_heldIntS.l0, marks_len, c1, c0, ↓reduceIte, w1 hi (show n ≤ 9223372036854775807 by omega), rd_nat, marks_get a n i hi, e1]
        exact ih)
  have := key 0 (Nat.zero_le _)
  unfold laws_heldIntS.f
  simpa using this
end Go.Proofs.Ythkbaolpiigioaa.P

/- Marks of a committee. -/
namespace Go.Proofs.Ythkbaolpiigioaa.P
open Go.RowKit Go.Proofs.YthkbaolpiigioaaW.PrintWords Go.Proofs.YthkbaolpiigioaaW.PrintLast Go.Proofs.YthkbaolpiigioaaW.PrintMore
theorem laws_markCommittee.ev (q : Int) (l : List Int) (a : Int) (h0 : 0 ≤ a) (h1 : a ≤ 4000000000000000000) (hm : l.length ≤ 4000000000000000000) : Ev (fun k => laws_markCommittee.f k q l a) (a + (l.length : Int), marks a l.length) := by
  unfold laws_markCommittee.f
  exact Ev.bind (laws_markIntS.ev l a h0 h1 hm) Ev.some
end Go.Proofs.Ythkbaolpiigioaa.P

/- The pure statement of FnExactQuotasOfPower. -/
namespace Go.Proofs.Ythkbaolpiigioaa.P
open Go.RowKit Go.Proofs.YthkbaolpiigioaaW.PrintWords Go.Proofs.YthkbaolpiigioaaW.PrintLast Go.Proofs.YthkbaolpiigioaaW.PrintMore
/-- The pivots of a member, at this quota less one. -/
def quG (l : List Int) (a i : Nat) : Option Int := some ((pv ((i : Int) + 1) l).getD a 0)
def quP (q : Int) (l : List Int) (a : Int) : List Int × Bool := if isMem q l a = true ∧ l.sum ≤ 200 then ((best (quG l a.toNat) l.sum.toNat).1.map (· + 1), true) else ([], false)
theorem quP_len (q : Int) (l : List Int) (a : Int) : (quP q l a).1.length ≤ 200 := by
  unfold quP
  split
  · rename_i h
    have := best_len (quG l a.toNat) l.sum.toNat
    rw [List.length_map]
    omega
  · simp
theorem isComm_any {q q' : Int} {l : List Int} (h : isComm q l = true) (h1 : 1 ≤ q') (h2 : q' ≤ l.sum) : isComm q' l = true := by
  simp only [isComm, inI, Bool.and_eq_true, decide_eq_true_eq] at h ⊢
  exact ⟨h.1, h1, h2⟩
theorem bstep_mem (g : Nat → Option Int) (st : List Int × Int) (i : Nat) (h : ∀ x ∈ st.1, 0 ≤ x ∧ x ≤ (i : Int)) : ∀ x ∈ (bstep g st i).1, 0 ≤ x ∧ x ≤ (i : Int) := by
  intro x hx
  unfold bstep at hx
  split at hx
  · exact h x hx
  · split at hx
    · simp only [List.mem_singleton] at hx; omega
    · split at hx
      · exact h x hx
      · split at hx
        · simp only [List.mem_singleton] at hx; omega
        · simp only [List.mem_append, List.mem_singleton] at hx
          rcases hx with hx | hx
          · exact h x hx
          · omega
theorem best_mem (g : Nat → Option Int) (n : Nat) : ∀ x ∈ (best g n).1, 0 ≤ x ∧ x ≤ (n : Int) := by
  induction n with
  | zero => simp [best]
  | succ n ih =>
    rw [best_succ]
    intro x hx
    have := bstep_mem g (best g n) n ih x hx
    omega
theorem best_ne (g : Nat → Option Int) (n : Nat) (y : Int) (h : g n = some y) : (best g (n + 1)).1 ≠ [] := by
  rw [best_succ]
  unfold bstep
  rw [h]
  simp only
  split
  · simp
  · rename_i h1
    split
    · exact h1
    · split <;> simp
theorem wS2 (n : Nat) (h : n ≤ 1000) : wrap64 ((n : Int) + 1 + 1) = ((n + 1 : Nat) : Int) + 1 := by rw [w64 (by omega) (by omega)]; omega
theorem inc_get (L : List Int) (f : Int → Int) (j : Nat) (hj : j < L.length) : ((L.take j).map f ++ L.drop j).getD j 0 = L.getD j 0 := by
  have e : ((L.take j).map f).length = j := by rw [List.length_map, List.length_take]; omega
  rw [List.getD_eq_getElem?_getD, List.getElem?_append_right (by omega), e, Nat.sub_self, List.getElem?_drop, Nat.add_zero, ← List.getD_eq_getElem?_getD]
theorem inc_set (L : List Int) (f : Int → Int) (j : Nat) (hj : j < L.length) : ((L.take j).map f ++ L.drop j).set j (f (L.getD j 0)) = (L.take (j + 1)).map f ++ L.drop (j + 1) := by
  have e : ((L.take j).map f).length = j := by rw [List.length_map, List.length_take]; omega
  rw [List.set_append_right _ _ (by omega), e, Nat.sub_self, List.drop_eq_getElem_cons hj, List.set_cons_zero, ← List.take_append_getElem hj, List.map_append, List.append_assoc, List.getD_eq_getElem?_getD, List.getElem?_eq_getElem hj]
  rfl
theorem impl_QuotasOfPower_1.ev (q : Int) (l : List Int) (a i : Nat) (h : isComm ((i : Int) + 1) l = true) (ha : a < l.length) (hi : i ≤ 1000) : Ev (fun k => impl_QuotasOfPower_1.f k (i : Int) q l (a : Int)) (tellO (quG l a i)) := by
  have hlen := isComm_len h
  have c1 : (0 : Int) ≤ (a : Int) := Int.natCast_nonneg _
  have c2 : (a : Int) < ((pv ((i : Int) + 1) l).length : Int) := by rw [pv_len]; omega
  unfold impl_QuotasOfPower_1.f
  rw [w64 (by omega) (by omega)]
  refine Ev.bind (impl_Committee_votes.ev _ l (isComm_mem h) (by omega)) ?_
  refine Ev.bind (impl_votes_pivots.ev l.length _ (tab_len _ _) (by omega) (by omega)) ?_
  refine Ev.ite_pos c1 (Ev.ite_pos c2 ?_)
  rw [rd_nat]
  exact Ev.some
theorem impl_QuotasOfPower.ev (q : Int) (l : List Int) (a : Int) (hm : l.length ≤ 9223372036854775807) : Ev (fun K => impl_QuotasOfPower.f K q l a) (quP q l a) := by
  have off : Ev (fun K => impl_QuotasOfPower.j0 K true q l a) (([] : List Int), false) := by
    refine Ev.shift ?_
    simp only [impl_QuotasOfPower.j0, ↓reduceIte]
    exact Ev.some
  unfold impl_QuotasOfPower.f quP
  refine Ev.bind (impl_isMember.ev q l a hm) ?_
  cases h : isMem q l a with
  | false => rw [if_neg (fun z => Bool.noConfusion z.1)]; exact Ev.ite_neg (by decide) off
  | true =>
    obtain ⟨hc, i, rfl, hi⟩ := isMem_at h
    have hlen := isComm_len hc
    have hq := isComm_q hc
    have hmem := isComm_mem hc
    refine Ev.ite_pos rfl ?_
    have hsum : Ev (fun k => impl_sumOf.f k l) l.sum := by
      refine Ev.eq (impl_sumOf.ev l (by omega)) ?_
      rw [wsum_eq l hmem (by omega)]
    have hscan : Ev (fun k => impl_isScanned.f k q l 200) (decide (l.sum ≤ 200)) := by
      unfold impl_isScanned.f
      refine Ev.bind (impl_IsCommittee.ev q l hm) ?_
      rw [hc]
      exact Ev.ite_pos rfl (Ev.bind hsum Ev.some)
    refine Ev.bind hscan ?_
    by_cases h2 : l.sum ≤ 200
    · rw [if_pos ⟨rfl, h2⟩, decide_eq_true h2]
      refine Ev.shift ?_
      simp only [impl_QuotasOfPower.j0]
      refine Ev.ite_neg (by decide) ?_
      refine Ev.bind hsum ?_
      obtain ⟨S, hS⟩ : ∃ S : Nat, l.sum = S := ⟨l.sum.toNat, by omega⟩
      rw [hS, Int.toNat_natCast, Int.toNat_natCast]
      refine Ev.bind (impl_bestOf.ev S (by omega) (fun K y => impl_QuotasOfPower_1.f K y q l (i : Int)) (quG l i) (fun b hb => impl_QuotasOfPower_1.ev q l i b (isComm_any hc (by omega) (by omega)) hi (by omega))) ?_
      have hbm := best_mem (quG l i) S
      have hbl := best_len (quG l i) S
      generalize (best (quG l i) S).1 = L at hbm hbl ⊢
      have key := Ev.down (G := fun j K => impl_QuotasOfPower.l0 K ((L.take j).map (· + 1) ++ L.drop j) (L.length : Int) (j : Int)) (R := fun _ => (L.map (· + 1), true)) L.length
        (by refine Ev.shift ?_
            simp only [impl_QuotasOfPower.l0, Int.lt_irrefl, ↓reduceIte, List.take_length, List.drop_length, List.append_nil]
            exact Ev.some)
        (fun j hj ih => by
          have c1 : (j : Int) < (L.length : Int) := by omega
          have c0 : (0 : Int) ≤ (j : Int) := by omega
          have hn : ((L.take j).map (· + 1) ++ L.drop j).length = L.length := by rw [List.length_append, List.length_map, List.length_take, List.length_drop]; omega
          have c2 : (j : Int) < ((((L.take j).map (· + 1) ++ L.drop j).length : Nat) : Int) := by rw [hn]; exact c1
          have hb := hbm (L.getD j 0) (by rw [List.getD_eq_getElem?_getD, List.getElem?_eq_getElem hj]; exact List.getElem_mem hj)
          refine Ev.shift ?_
          simp only [impl_QuotasOfPower.l0]
          refine Ev.ite_pos c1 (Ev.ite_pos c0 (Ev.ite_pos c2 ?_))
          rw [rd_nat, inc_get L _ j hj, w64 (x := L.getD j 0 + 1) (by omega) (by omega), Int.toNat_natCast, inc_set L (· + 1) j hj, w64 (x := (j : Int) + 1) (by omega) (by omega)]
          exact ih)
      exact key 0 (Nat.zero_le _)
    · rw [if_neg (fun z => h2 z.2), decide_eq_false h2]
      exact off
theorem spec_QuotasOfPower.ev (q : Int) (l : List Int) (a : Int) (hm : l.length ≤ 9223372036854775807) : Ev (fun K => spec_QuotasOfPower.f K q l a) (quP q l a) := by
  have off : Ev (fun K => spec_QuotasOfPower.j0 K a true q l) (([] : List Int), false) := by
    refine Ev.shift ?_
    simp only [spec_QuotasOfPower.j0, ↓reduceIte]
    exact Ev.some
  unfold spec_QuotasOfPower.f quP
  refine Ev.bind (spec_pwMember.ev q l a hm) ?_
  cases h : isMem q l a with
  | false => rw [if_neg (fun z => Bool.noConfusion z.1)]; exact Ev.ite_neg (by decide) off
  | true =>
    obtain ⟨hc, i, rfl, hi⟩ := isMem_at h
    have hlen := isComm_len hc
    have hq := isComm_q hc
    have hmem := isComm_mem hc
    refine Ev.ite_pos rfl ?_
    have hsum : Ev (fun k => spec_voSum.f k l) l.sum := by
      refine Ev.eq (spec_voSum.ev l (by omega)) ?_
      rw [wsum_eq l hmem (by omega)]
    refine Ev.bind hsum ?_
    by_cases h2 : l.sum ≤ 200
    · rw [if_pos ⟨rfl, h2⟩, decide_eq_false (by omega)]
      refine Ev.shift ?_
      simp only [spec_QuotasOfPower.j0]
      refine Ev.ite_neg (by decide) ?_
      obtain ⟨S, hS⟩ : ∃ S : Nat, l.sum = S := ⟨l.sum.toNat, by omega⟩
      rw [hS, Int.toNat_natCast, Int.toNat_natCast]
      rw [hS] at hsum
      have key := Ev.down (G := fun j K => spec_QuotasOfPower.l0 K (i : Int) ((best (quG l i) j).1.map (· + 1)) (if j = 0 then -1 else (best (quG l i) j).2) ((j : Int) + 1) q l) (R := fun _ => ((best (quG l i) S).1.map (· + 1), true)) S
        (by refine Ev.shift ?_
            simp only [spec_QuotasOfPower.l0]
            refine Ev.bind hsum ?_
            exact Ev.ite_neg (by omega) Ev.some)
        (fun j hj ih => by
          have hcj : isComm ((j : Int) + 1) l = true := isComm_any hc (by omega) (by omega)
          have hbl := best_len (quG l i) j
          have c3 : ((best (quG l i) j).1.map (· + 1)).length < 17592186044416 := by rw [List.length_map]; omega
          have c4 : ([] : List Int).length < 17592186044416 := by rw [List.length_nil]; omega
          have hx : 0 ≤ (pv ((j : Int) + 1) l).getD i 0 := by
            refine (pv_mem _ l hcj _ ?_).1
            rw [List.getD_eq_getElem?_getD, List.getElem?_eq_getElem (by rw [pv_len]; exact hi)]
            exact List.getElem_mem _
          have i2 := spec_unPivots.ev ((j : Int) + 1) l [(i : Int)] hcj (by intro x hx; rw [List.mem_singleton] at hx; omega) (by simp)
          rw [show osm (pv ((j : Int) + 1) l) [(i : Int)] = (pv ((j : Int) + 1) l).getD i 0 by simp [osm]] at i2
          have hj9 : j ≤ 1000 := by omega
          rw [if_neg (by omega), best_succ] at ih
          unfold bstep at ih
          rw [show quG l i j = some ((pv ((j : Int) + 1) l).getD i 0) from rfl] at ih
          simp only at ih
          have hne : j ≠ 0 → (best (quG l i) j).1 ≠ [] := fun h0 => by
            obtain ⟨m, rfl⟩ : ∃ m, j = m + 1 := ⟨j - 1, by omega⟩
            exact best_ne (quG l i) m _ rfl
          generalize (pv ((j : Int) + 1) l).getD i 0 = x at hx i2 ih
          refine Ev.shift ?_
          simp only [spec_QuotasOfPower.l0]
          refine Ev.bind hsum ?_
          refine Ev.ite_pos (by omega) ?_
          refine Ev.bind i2 ?_
          rw [wS2 j hj9]
          by_cases h0 : j = 0
          · subst h0
            rw [if_pos rfl]
            rw [if_pos (show (best (quG l i) 0).1 = [] from rfl)] at ih
            refine Ev.ite_pos (show x > -1 by omega) (Ev.ite_pos c4 ?_)
            exact ih
          · rw [if_neg h0]
            rw [if_neg (hne h0)] at ih
            generalize best (quG l i) j = st at ih c3 hbl ⊢
            obtain ⟨out, bst⟩ := st
            simp only at ih c3 ⊢
            by_cases hgt : x > bst
            · rw [if_neg (by omega), if_pos hgt] at ih
              exact Ev.ite_pos hgt (Ev.ite_pos c4 ih)
            · refine Ev.ite_neg hgt ?_
              by_cases heq : x = bst
              · rw [if_neg (by omega), if_neg (by omega), List.map_append] at ih
                refine Ev.ite_pos heq (Ev.ite_pos c3 ?_)
                rw [← heq]
                exact ih
              · rw [if_pos (by omega)] at ih
                exact Ev.ite_neg heq ih)
      exact key 0 (Nat.zero_le _)
    · rw [if_neg (fun z => h2 z.2), decide_eq_true (by omega)]
      exact off
theorem laws_FnExactQuotasOfPower_pure : laws_FnExactQuotasOfPower.Pure := by
  intro q l a hq hl ha
  apply Ev.rounds (r := true)
  unfold laws_FnExactQuotasOfPower.f
  refine Ev.bind0 (laws_szCommittee.eq q l 1048576 hl.1 (by omega) (by omega)) ?_
  by_cases h1 : (1048576 : Int) < l.length
  · simp only [h1, ↓reduceIte, show ((-1 : Int) < 0) from by omega]
    exact Ev.some
  · have c1 : ¬ ((1048576 : Int) - l.length < 0) := by omega
    simp only [h1, c1, ↓reduceIte]
    have t1 := laws_toCommittee.ev q l (by omega)
    have s1 := spec_QuotasOfPower.ev q l a hl.1
    have i1 := impl_QuotasOfPower.ev q l a hl.1
    have hv := quP_len q l a
    generalize quP q l a = v at s1 i1 hv
    obtain ⟨u, b⟩ := v
    simp only at hv
    have e1 := laws_eqCommittee.ev q l hl.1
    have e2 := laws_eqIntS.ev u (by omega)
    have m1 := laws_markCommittee.ev q l 1 (by omega) (by omega) (by omega)
    have m2 := laws_markIntS.ev u 1 (by omega) (by omega) (by omega)
    have k2 := laws_heldIntS.ev 1 u.length (by omega) (by omega) (by omega)
    repeat (first | with_reducible refine Ev.bind t1 ?_ | with_reducible refine Ev.bind s1 ?_ | with_reducible refine Ev.bind i1 ?_ | with_reducible refine Ev.bind e1 ?_ | with_reducible refine Ev.bind e2 ?_ | with_reducible refine Ev.bind m1 ?_ | with_reducible refine Ev.bind m2 ?_ | with_reducible refine Ev.bind k2 ?_ | with_reducible exact Ev.some | simp only [bne_self_eq_false, Bool.false_eq_true, ↓reduceIte, one_lt, one_lt2, Bool.not_true, Bool.not_false, List.length_nil])
end Go.Proofs.Ythkbaolpiigioaa.P
