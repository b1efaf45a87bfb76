/- Part 6 of the texts below the law FnExactBestSplits. Printed by this session's driver over the kit's printer, but for the hand contracts and the plain laws. -/
import Derived.ProofKit
import Derived.Deep.Slices
import Derived.Test.YthkbaolpiigioaaCBestSplits0
import Derived.Test.YthkbaolpiigioaaCBestSplits1
import Derived.Test.YthkbaolpiigioaaCBestSplits2
import Derived.Test.YthkbaolpiigioaaCBestSplits3
import Derived.Test.YthkbaolpiigioaaCBestSplits4
import Derived.Test.YthkbaolpiigioaaCBestSplits5
set_option linter.unusedVariables false
set_option linter.unusedSimpArgs false
/- From a datum's reading to a value that the printed contracts speak of: kind by kind. No program in sight. -/
namespace Go.Proofs.Ythkbaolpiigioaa.P
open Go.RowKit Go.ChangeShapes Go.WideShapes Go.Proofs.YthkbaolpiigioaaW.PrintWords Go.Proofs.YthkbaolpiigioaaW.PrintLast Go.Proofs.YthkbaolpiigioaaW.PrintMore
def okI (x : Int) : Prop := -9223372036854775808 ≤ x ∧ x ≤ 9223372036854775807
def okL {α : Type} (Ok : α → Prop) (l : List α) : Prop := l.length ≤ 9223372036854775807 ∧ ∀ x ∈ l, Ok x
structure Opens {α : Type} (P : Program) (T : TypeId) (d : Kd α) (Ok : α → Prop) : Prop where
  go : ∀ {H : Type} (enc : TypeId × Value → H) (w : World) (fuel : Nat) (cs : List Value) (x : DataW H × List MemPlace),
    DataW.trod enc P w 0 (fun _ => true) true fuel T cs = some x → ∃ a, d.K w a cs ∧ Ok a
theorem Opens.int {P : Program} {T : TypeId} (h : P.underlying T = some (.int .i64)) : Opens P T (Kd.int .i64) okI := by
  refine ⟨fun enc w fuel cs x hx => ?_⟩
  obtain ⟨n, rfl, _, hw⟩ := DataW.trod_int h hx
  refine ⟨n, rfl, ?_⟩
  have hmin : IntKind.i64.min = -9223372036854775808 := rfl
  have hmax : IntKind.i64.max = 9223372036854775807 := rfl
  simp only [Lit.wf, Bool.and_eq_true, decide_eq_true_eq] at hw
  unfold okI
  omega
theorem cells_get {w : World} {a : Addr} {n : Nat} {cs : List Value} (h : w.cells? 0 a n = some cs) : cs.length = n ∧ ∀ j u, cs[j]? = some u → w.cell? (a.add j) = some u := by
  unfold World.cells? at h
  rw [if_pos (Nat.zero_le _)] at h
  have key : ∀ (l : List Nat) (r : List Value), l.mapM (fun i => w.cell? (a.add i)) = some r → r.length = l.length ∧ ∀ (j : Nat) (u : Value) (i : Nat), r[j]? = some u → l[j]? = some i → w.cell? (a.add i) = some u := by
    intro l
    induction l with
    | nil => intro r hr; simp at hr; subst hr; simp
    | cons i l ih =>
      intro r hr
      simp only [List.mapM_cons, Option.bind_eq_bind, Option.bind_eq_some_iff] at hr
      obtain ⟨v, hv, r', hr', he⟩ := hr
      have he' : v :: r' = r := by simpa using he
      subst he'
      obtain ⟨h1, h2⟩ := ih r' hr'
      refine ⟨by simp [h1], fun j u k hj hk => ?_⟩
      cases j with
      | zero => simp at hj hk; subst hj; subst hk; exact hv
      | succ j => simp at hj hk; exact h2 j u k hj hk
  obtain ⟨h1, h2⟩ := key _ _ h
  refine ⟨by simpa using h1, fun j u hj => ?_⟩
  have hlt : j < cs.length := (List.getElem?_eq_some_iff.1 hj).1
  exact h2 j u j hj (by rw [List.getElem?_range (by simpa [h1] using hlt)])
theorem add_add_ (a : Addr) (i j : Nat) : (a.add i).add j = a.add (i + j) := Go.Deep.add_add a i j
theorem Opens.slice {α : Type} {P : Program} {T e : TypeId} {d : Kd α} {Ok : α → Prop} (h : P.underlying T = some (.slice e)) (hc : P.cellsOf e = d.sz) (hd : Opens P e d Ok) : Opens P T (Kd.slice e d) (okL Ok) := by
  refine ⟨fun enc w fuel cs x hx => ?_⟩
  rcases Go.Deep.open_slice h hx with ⟨rfl, _⟩ | ⟨a, len, cap, m, n, D, Pl, rfl, _, hl, hm, hmm, _, hel⟩
  · exact ⟨[], ⟨none, 0, rfl, Nat.le_refl _, Kd.C_nil _ _⟩, by simp, by simp⟩
  · have hm' : m = cap := by simpa using hmm
    subst hm'
    have hex : ∀ i, i < len → ∃ y : α × List Value, y.2.length = d.sz ∧ d.K w y.1 y.2 ∧ Ok y.1 ∧ ∀ j u, y.2[j]? = some u → w.cell? (a.add (i * d.sz + j)) = some u := by
      intro i hi
      obtain ⟨cs', h1, h2⟩ := hel i (by omega)
      rw [hc] at h1
      obtain ⟨hlen, hcell⟩ := cells_get h1
      obtain ⟨y, hy, ho⟩ := hd.go enc w n cs' _ h2
      exact ⟨(y, cs'), hlen, hy, ho, fun j u hj => by rw [← add_add_]; exact hcell j u hj⟩
    by_cases h0 : len = 0
    · subst h0
      exact ⟨[], ⟨some a, _, rfl, Nat.zero_le _, rfl, by simp, fun h => absurd h (Nat.lt_irrefl 0)⟩, by simp, by simp⟩
    · obtain ⟨y0, _⟩ := hex 0 (by omega)
      have : Inhabited (α × List Value) := ⟨y0⟩
      obtain ⟨f, hf⟩ := Go.Deep.choose_lt (α := α × List Value) hex
      have hlen : ((List.range len).map fun i => (f i).1).length = len := by simp
      have hget : ∀ j p, ((List.range len).map fun i => (f i).1)[j]? = some p → j < len ∧ p = (f j).1 := by
        intro j p hj
        obtain ⟨hlt, he⟩ := List.getElem?_eq_some_iff.1 hj
        simp at hlt he
        exact ⟨hlt, he.symm⟩
      refine ⟨(List.range len).map fun i => (f i).1, ⟨some a, m, by rw [hlen], by rw [hlen]; exact hl, by rw [hlen], by rw [hlen]; unfold maxLen at hm; omega, fun _ => ⟨a, rfl, fun j p hj => ?_⟩⟩, ?_, ?_⟩
      · obtain ⟨hlt, rfl⟩ := hget j p hj
        obtain ⟨h1, h2, _, h3⟩ := hf j hlt
        exact ⟨(f j).2, h1, h2, h3⟩
      · rw [hlen]; unfold maxLen at hm; omega
      · intro p hp
        obtain ⟨j, hj⟩ := List.mem_iff_getElem?.1 hp
        obtain ⟨hlt, rfl⟩ := hget j p hj
        exact (hf j hlt).2.2.1
theorem Opens.struct2 {α β γ : Type} {P : Program} {T : TypeId} {f0 f1 : Field} {d0 : Kd α} {d1 : Kd β} {Ok0 : α → Prop} {Ok1 : β → Prop} {F : γ → α × β} (h : P.underlying T = some (.struct #[f0, f1]))
    (o0 : f0.offset = 0) (s0 : P.cellsOf f0.type = d0.sz) (o1 : f1.offset = d0.sz) (s1 : P.cellsOf f1.type = d1.sz) (sT : P.cellsOf T = d0.sz + d1.sz)
    (h0 : Opens P f0.type d0 Ok0) (h1 : Opens P f1.type d1 Ok1) (sur : ∀ p, ∃ x, F x = p) : Opens P T (Kd.iso (Kd.pair d0 d1) F) (fun x => Ok0 (F x).1 ∧ Ok1 (F x).2) := by
  refine ⟨fun enc w fuel cs x hx => ?_⟩
  obtain ⟨y0, y1, n, _, hlen, r0, r1⟩ := trod_struct2 h hx
  rw [o0, s0, List.drop_zero] at r0
  rw [o1, s1] at r1
  obtain ⟨a0, k0, p0⟩ := h0.go enc w n _ _ r0
  obtain ⟨a1, k1, p1⟩ := h1.go enc w n _ _ r1
  obtain ⟨z, hz⟩ := sur (a0, a1)
  refine ⟨z, ?_, by rw [hz]; exact ⟨p0, p1⟩⟩
  show (Kd.pair d0 d1).K w (F z) cs
  rw [hz]
  refine ⟨_, _, ?_, k0, k1⟩
  rw [List.take_of_length_le (l := cs.drop d0.sz) (by rw [List.length_drop]; omega), List.take_append_drop]
/-- A struct's value: an aggregate of its cells, read as x. -/
theorem open_agg_ {α : Type} {H : Type} {enc : TypeId × Value → H} {P : Program} {w : World} {r : Reach} {b0 : Nat} {T : TypeId} {fs : Array Field} {d : Kd α} {Ok : α → Prop} {v : Value} {y : DataW H} {p : List MemPlace}
    (h : P.underlying T = some (.struct fs)) (ho : Opens P T d Ok) (hv : Value.okWide P w r b0 T v) (hd : DataW.Trod enc P w 0 (fun _ => true) true T v y p) : ∃ cs x, v = .agg cs ∧ d.K w x cs.toList ∧ Ok x := by
  obtain ⟨cs, rfl, _⟩ := okWide_struct h hv
  obtain ⟨fuel, hf⟩ := hd
  obtain ⟨x, hx, hok⟩ := ho.go enc w fuel _ _ hf
  exact ⟨cs, x, rfl, by simpa [Value.cells] using hx, hok⟩
theorem open_int_ {H : Type} {enc : TypeId × Value → H} {P : Program} {w : World} {r : Reach} {b0 : Nat} {T : TypeId} {v : Value} {y : DataW H} {p : List MemPlace}
    (h : P.underlying T = some (.int .i64)) (hv : Value.okWide P w r b0 T v) (hd : DataW.Trod enc P w 0 (fun _ => true) true T v y p) : ∃ n : Int, v = .int .i64 n ∧ okI n := by
  obtain ⟨n, rfl, _, _, hw⟩ := open_int h hv hd
  refine ⟨n, rfl, ?_⟩
  have hmin : IntKind.i64.min = -9223372036854775808 := rfl
  have hmax : IntKind.i64.max = 9223372036854775807 := rfl
  simp only [Lit.wf, Bool.and_eq_true, decide_eq_true_eq] at hw
  unfold okI
  omega
end Go.Proofs.Ythkbaolpiigioaa.P

namespace Go.Proofs.Ythkbaolpiigioaa.P
open Go.RowKit Go.Proofs.YthkbaolpiigioaaW.PrintWords Go.Proofs.YthkbaolpiigioaaW.PrintLast Go.Proofs.YthkbaolpiigioaaW.PrintMore
def ok_laws_Committee (x : S_laws_Committee) : Prop := okI x.f0 ∧ (okL okI) x.f1
theorem op_laws_Committee : Opens Try.prog 24 k_laws_Committee ok_laws_Committee :=
  Opens.struct2 (F := fun x : S_laws_Committee => (x.f0, x.f1)) Try.underlying24 rfl (by kernel_rfl) rfl (by kernel_rfl) (by kernel_rfl) (Opens.int Try.underlying3) (Opens.slice Try.underlying22 (by kernel_rfl) (Opens.int Try.underlying3)) (fun p => ⟨⟨p.1, p.2⟩, rfl⟩)
end Go.Proofs.Ythkbaolpiigioaa.P

/- Plain laws: loops told by rounds, lists, numbers. No program in sight. -/
namespace Go.Proofs.Ythkbaolpiigioaa.P
open Go.RowKit Go.Proofs.YthkbaolpiigioaaW.PrintWords Go.Proofs.YthkbaolpiigioaaW.PrintLast Go.Proofs.YthkbaolpiigioaaW.PrintMore
/-- A loop over 0 .. n - 1, told backwards: G i: the loop from i on, by rounds; R i: what it answers from there. -/
theorem Ev.down {ρ : Type} {G : Nat → Nat → Option ρ} {R : Nat → ρ} (n : Nat) (hend : Ev (G n) (R n)) (hstep : ∀ i, i < n → Ev (G (i + 1)) (R (i + 1)) → Ev (G i) (R i)) : ∀ i, i ≤ n → Ev (G i) (R i) := by
  have key : ∀ d i, i + d = n → Ev (G i) (R i) := by
    intro d
    induction d with
    | zero => intro i hi; obtain rfl : i = n := by omega
              exact hend
    | succ d ih => intro i hi; exact hstep i (by omega) (ih (i + 1) (by omega))
  intro i hi
  exact key (n - i) i (by omega)
theorem back {P : Nat → Prop} (n : Nat) (hend : P n) (hstep : ∀ i, i < n → P (i + 1) → P i) : ∀ i, i ≤ n → P i := by
  have key : ∀ d i, i + d = n → P i := by
    intro d
    induction d with
    | zero => intro i hi; obtain rfl : i = n := by omega
              exact hend
    | succ d ih => intro i hi; exact hstep i (by omega) (ih (i + 1) (by omega))
  intro i hi
  exact key (n - i) i (by omega)
theorem Ev.some {α : Type} {r : α} : Ev (fun _ => Option.some r) r := Ev.now r
theorem Ev.one {α : Type} {g : Option α} {r : α} (h : g = Option.some r) : Ev (fun _ => g) r := ⟨0, fun _ _ => h⟩
theorem Ev.bind0 {α β : Type} {g : Option α} {f : Nat → α → Option β} {a : α} {r : β} (h : g = Option.some a) (k : Ev (fun n => f n a) r) : Ev (fun n => g.bind (f n)) r := by
  subst h; exact k
theorem Ev.ite_pos {α : Type} {c : Prop} [Decidable c] {g f : Nat → Option α} {r : α} (hc : c) (h : Ev g r) : Ev (fun k => if c then g k else f k) r := by
  obtain ⟨K, h⟩ := h; exact ⟨K, fun k hk => (if_pos hc).trans (h k hk)⟩
theorem Ev.ite_neg {α : Type} {c : Prop} [Decidable c] {g f : Nat → Option α} {r : α} (hc : ¬ c) (h : Ev f r) : Ev (fun k => if c then g k else f k) r := by
  obtain ⟨K, h⟩ := h; exact ⟨K, fun k hk => (if_neg hc).trans (h k hk)⟩
theorem Ev.eq {α : Type} {g : Nat → Option α} {r r' : α} (h : Ev g r) (e : r = r') : Ev g r' := e ▸ h
theorem Ev.shift {α : Type} {g : Nat → Option α} {r : α} (h : Ev (fun k => g (k + 1)) r) : Ev g r := Ev.step (fun _ => rfl) h
theorem w64 {x : Int} (h0 : -9223372036854775808 ≤ x) (h1 : x ≤ 9223372036854775807) : wrap64 x = x := by unfold wrap64; omega
theorem w1 {i n : Nat} (h : i < n) (hn : n ≤ 9223372036854775807) : wrap64 ((i : Int) + 1) = ((i + 1 : Nat) : Int) := by unfold wrap64; omega
theorem rd_nat (l : List Int) (i : Nat) : rd l (i : Int) = l.getD i 0 := by simp [rd]
theorem rdB_nat (l : List Bool) (i : Nat) : rdOf false l (i : Int) = l.getD i false := by simp [rdOf]
/-! ### lists -/
theorem drop_getD {α : Type} (l : List α) (d : α) (i : Nat) (h : i < l.length) : l.drop i = l.getD i d :: l.drop (i + 1) := drop_cons l d i h
theorem take_getD {α : Type} (l : List α) (d : α) (i : Nat) (h : i < l.length) : l.take (i + 1) = l.take i ++ [l.getD i d] := by
  rw [List.take_succ_eq_append_getElem h, List.getD_eq_getElem?_getD, List.getElem?_eq_getElem h]; rfl
theorem getD_mem {α : Type} (l : List α) (d : α) (i : Nat) (h : i < l.length) : l.getD i d ∈ l := by
  rw [List.getD_eq_getElem?_getD, List.getElem?_eq_getElem h]; exact List.getElem_mem h
theorem foldl_take {α β : Type} (f : β → α → β) (b : β) (l : List α) (d : α) (i : Nat) (h : i < l.length) : (l.take (i + 1)).foldl f b = f ((l.take i).foldl f b) (l.getD i d) := by
  rw [take_getD l d i h, List.foldl_append]; rfl
/-- A row that is being filled. -/
def filled {α : Type} (l : List α) (z : α) (i : Nat) : List α := l.take i ++ List.replicate (l.length - i) z
theorem filled_len {α : Type} (l : List α) (z : α) (i : Nat) (h : i ≤ l.length) : (filled l z i).length = l.length := by unfold filled; simp; omega
theorem filled_zero {α : Type} (l : List α) (z : α) : filled l z 0 = List.replicate l.length z := by simp [filled]
theorem filled_all {α : Type} (l : List α) (z : α) : filled l z l.length = l := by simp [filled]
theorem filled_set {α : Type} (l : List α) (z d : α) (i : Nat) (h : i < l.length) : (filled l z i).set i (l.getD i d) = filled l z (i + 1) := by
  unfold filled
  have e : (l.take i).length = i := by simp; omega
  rw [take_getD l d i h, List.set_append_right i (l.getD i d) (by omega), e, Nat.sub_self, show l.length - i = (l.length - (i + 1)) + 1 by omega, List.replicate_succ]
  simp
/-! ### marks -/
def marks (a : Int) (n : Nat) : List Int := (List.range n).map fun i : Nat => a + (i : Int)
theorem marks_len (a : Int) (n : Nat) : (marks a n).length = n := by simp [marks]
theorem marks_get (a : Int) (n i : Nat) (h : i < n) : (marks a n).getD i 0 = a + (i : Int) := by simp [marks, List.getD_eq_getElem?_getD, List.getElem?_range h]
/-! ### committees -/
def inI (a b x : Int) : Bool := decide (a ≤ x) && decide (x ≤ b)
def isComm (q : Int) (l : List Int) : Bool := decide (1 ≤ l.length) && decide (l.length ≤ 9) && l.all (inI 0 1000) && inI 1 l.sum q
theorem isComm_len {q : Int} {l : List Int} (h : isComm q l = true) : 1 ≤ l.length ∧ l.length ≤ 9 := by simp [isComm] at h; exact ⟨h.1.1.1, h.1.1.2⟩
theorem isComm_mem {q : Int} {l : List Int} (h : isComm q l = true) : ∀ x ∈ l, 0 ≤ x ∧ x ≤ 1000 := by
  intro x hx
  simp [isComm, inI] at h
  exact h.1.2 x hx
theorem isComm_q {q : Int} {l : List Int} (h : isComm q l = true) : 1 ≤ q ∧ q ≤ l.sum := by simp [isComm, inI] at h; exact h.2
theorem sum_bounds (l : List Int) (h : ∀ x ∈ l, 0 ≤ x ∧ x ≤ 1000) : 0 ≤ l.sum ∧ l.sum ≤ 1000 * l.length := by
  induction l with
  | nil => simp
  | cons x l ih =>
    have h1 := h x (by simp)
    have h2 := ih (fun y hy => h y (by simp [hy]))
    simp only [List.sum_cons, List.length_cons]
    omega
/-- Wrapping sums of few small numbers do not wrap. -/
def wsum (l : List Int) : Int := l.foldl (fun s x => wrap64 (s + x)) 0
theorem wsum_from (l : List Int) (s : Int) (hs : 0 ≤ s) (h : ∀ x ∈ l, 0 ≤ x ∧ x ≤ 1000) (hb : s + 1000 * l.length ≤ 9223372036854775807) : l.foldl (fun s x => wrap64 (s + x)) s = s + l.sum := by
  induction l generalizing s with
  | nil => simp
  | cons x l ih =>
    have h1 := h x (by simp)
    simp only [List.length_cons] at hb
    rw [List.foldl_cons, w64 (by omega) (by omega), ih (s + x) (by omega) (fun y hy => h y (by simp [hy])) (by omega), List.sum_cons]
    omega
theorem wsum_eq (l : List Int) (h : ∀ x ∈ l, 0 ≤ x ∧ x ≤ 1000) (hb : l.length ≤ 9000000) : wsum l = l.sum := by
  unfold wsum; rw [wsum_from l 0 (by omega) h (by omega)]; omega
/-! ### numbers as bits -/
theorem shr_nat (x i : Nat) (h : i ≤ 64) : shr .i64 (x : Int) (i : Int) = ((x / 2 ^ i : Nat) : Int) := by
  unfold shr
  have e : min ((i : Int).toNat) IntKind.i64.bits = i := by
    have : IntKind.i64.bits = 64 := rfl
    omega
  rw [e]; simp
theorem pow63 {i : Nat} (h : i < 63) : 2 ^ i < 9223372036854775808 := Nat.lt_of_lt_of_le (Nat.pow_lt_pow_right (by omega) h) (by decide)
theorem shl_one (i : Nat) (h : i < 63) : shl .i64 1 (i : Int) = ((2 ^ i : Nat) : Int) := by
  unfold shl
  have e : min ((i : Int).toNat) IntKind.i64.bits = i := by
    have : IntKind.i64.bits = 64 := rfl
    omega
  have h1 := pow63 h
  have c : ((2 ^ i : Nat) : Int) = 2 ^ i := by simp
  rw [e, Int.one_mul, IntKind.wrap_i64, ← c]
  generalize 2 ^ i = z at h1
  omega
theorem i64_of (n : Int) (h0 : 0 ≤ n) (h1 : n < 2 ^ 63) : IntKind.i64.wrap n = n := by rw [IntKind.wrap_i64]; omega
theorem and_nat (a b : Nat) (ha : a < 2 ^ 63) (hb : b < 2 ^ 63) : Go.bits .and .i64 (a : Int) (b : Int) = ((a &&& b : Nat) : Int) := (bits_nat .i64 63 (by decide) i64_of a b ha hb).1
theorem or_nat (a b : Nat) (ha : a < 2 ^ 63) (hb : b < 2 ^ 63) : Go.bits .or .i64 (a : Int) (b : Int) = ((a ||| b : Nat) : Int) := (bits_nat .i64 63 (by decide) i64_of a b ha hb).2
theorem and_one (a : Nat) (ha : a < 2 ^ 63) : Go.bits .and .i64 (a : Int) 1 = ((a % 2 : Nat) : Int) := by
  have := and_nat a 1 ha (by decide)
  rw [Nat.and_one_is_mod] at this
  exact this
theorem tmod_two (a : Nat) : Int.tmod (a : Int) 2 = ((a % 2 : Nat) : Int) := by rw [Int.tmod_eq_emod_of_nonneg (by omega)]; omega
theorem bit_nat (b i : Nat) : b.testBit i = decide (b / 2 ^ i % 2 = 1) := by rw [Nat.testBit_eq_decide_div_mod_eq]
theorem or_pow {b i : Nat} (h : b.testBit i = false) : b ||| 2 ^ i = b + 2 ^ i := by
  apply Nat.eq_of_testBit_eq
  intro j
  rw [Nat.testBit_or, Nat.testBit_two_pow, Nat.add_comm]
  rcases Nat.lt_trichotomy j i with hj | hj | hj
  · rw [Nat.testBit_two_pow_add_gt hj]
    have : ¬ i = j := by omega
    simp [this]
  · subst hj
    rw [Nat.testBit_two_pow_add_eq, h]
    simp
  · have hd : (2 ^ i + b) / 2 ^ (i + 1) = b / 2 ^ (i + 1) := by
      have h0 : b / 2 ^ i % 2 = 0 := by
        rw [bit_nat] at h
        have h1 := Nat.mod_two_eq_zero_or_one (b / 2 ^ i)
        rcases h1 with h1 | h1
        · exact h1
        · simp [h1] at h
      rw [Nat.pow_succ, ← Nat.div_div_eq_div_mul, ← Nat.div_div_eq_div_mul, Nat.add_div_left _ (Nat.two_pow_pos i)]
      omega
    obtain ⟨d, rfl⟩ : ∃ d, j = i + 1 + d := ⟨j - (i + 1), by omega⟩
    have e : ∀ x : Nat, x.testBit (i + 1 + d) = (x / 2 ^ (i + 1)).testBit d := fun x => by
      rw [Nat.testBit_div_two_pow, Nat.add_comm d]
    rw [e, e, hd]
    have : ¬ i = i + 1 + d := by omega
    simp [this]
/-! ### weights of sets told by bits -/
def wt : List Int → Nat → Int
  | [], _ => 0
  | x :: l, b => (if b % 2 = 1 then x else 0) + wt l (b / 2)
/-- What is told of each set of n members, by bits. -/
def tab (n : Nat) (P : Nat → Bool) : List Bool := (List.range (2 ^ n)).map P
theorem tab_len (n : Nat) (P : Nat → Bool) : (tab n P).length = 2 ^ n := by simp [tab]
theorem tab_get (n : Nat) (P : Nat → Bool) (b : Nat) (h : b < 2 ^ n) : (tab n P).getD b false = P b := by simp [tab, List.getD_eq_getElem?_getD, List.getElem?_range h]
theorem pow_small {n m : Nat} (h : n ≤ m) : 2 ^ n ≤ 2 ^ m := Nat.pow_le_pow_right (by omega) h
/-- Of what is told by rounds for each of a list, from one round on all is told. -/
theorem Ev.all {α β : Type} {p : Nat → α → Option β} {P : α → β} (l : List α) (h : ∀ x ∈ l, Ev (fun k => p k x) (P x)) : ∃ K, ∀ k, K ≤ k → ∀ x ∈ l, p k x = Option.some (P x) := by
  induction l with
  | nil => exact ⟨0, fun _ _ _ h => by simp at h⟩
  | cons x l ih =>
    obtain ⟨K, hK⟩ := ih (fun y hy => h y (by simp [hy]))
    obtain ⟨K', hK'⟩ := h x (by simp)
    refine ⟨K + K', fun k hk y hy => ?_⟩
    rcases List.mem_cons.1 hy with rfl | hy
    · exact hK' k (by omega)
    · exact hK k (by omega) y hy
/-- A loop that asks what is told by rounds: from one round on, what is told stands, and the loop is told with it held. -/
theorem Ev.ask {α β γ : Type} {p : Nat → α → Option β} {P : α → β} (l : List α) (h : ∀ x ∈ l, Ev (fun k => p k x) (P x)) {F : Nat → (α → Option β) → Option γ} {r : γ} (hF : ∃ K, ∀ k, K ≤ k → ∀ q : α → Option β, (∀ x ∈ l, q x = Option.some (P x)) → F k q = Option.some r) : Ev (fun k => F k (p k)) r := by
  obtain ⟨K, hK⟩ := Ev.all l h
  obtain ⟨K', hK'⟩ := hF
  exact ⟨K + K', fun k hk => hK' k (by omega) _ (hK k (by omega))⟩
/-- A loop over 0 .. n - 1, told backwards, by so many rounds. -/
theorem downq {ρ : Type} {G : Nat → Nat → Option ρ} {R : Nat → ρ} (n : Nat) (hend : ∀ k, G n (k + 1) = Option.some (R n)) (hstep : ∀ i, i < n → ∀ k, G (i + 1) k = Option.some (R (i + 1)) → G i (k + 1) = Option.some (R i)) : ∀ i, i ≤ n → ∀ k, n - i < k → G i k = Option.some (R i) := by
  have key : ∀ d i, i + d = n → ∀ k, d < k → G i k = Option.some (R i) := by
    intro d
    induction d with
    | zero => intro i hi k hk
              obtain rfl : i = n := by omega
              obtain ⟨k, rfl⟩ : ∃ j, k = j + 1 := ⟨k - 1, by omega⟩
              exact hend k
    | succ d ih => intro i hi k hk
                   obtain ⟨k, rfl⟩ : ∃ j, k = j + 1 := ⟨k - 1, by omega⟩
                   exact hstep i (by omega) k (ih (i + 1) (by omega) k (by omega))
  intro i hi k hk
  exact key (n - i) i (by omega) k (by omega)
/-- Where the first of a list is for which something is true, or -1. -/
def idxFrom {α : Type} (P : α → Bool) : Nat → List α → Int
  | _, [] => -1
  | i, x :: l => if P x = true then (i : Int) else idxFrom P (i + 1) l
theorem idxFrom_nn {α : Type} (P : α → Bool) (l : List α) (i : Nat) : decide (idxFrom P i l ≥ 0) = l.any P := by
  induction l generalizing i with
  | nil => rfl
  | cons x l ih =>
    unfold idxFrom
    rw [List.any_cons]
    cases h : P x with
    | true => simp only [↓reduceIte, Bool.true_or, decide_eq_true_eq]; omega
    | false => simp only [Bool.false_eq_true, ↓reduceIte, Bool.false_or]; exact ih (i + 1)
/-- A row that is written over, from its head on. -/
def over {α : Type} (t l : List α) (i : Nat) : List α := t.take i ++ l.drop i
theorem over_zero {α : Type} (t l : List α) : over t l 0 = l := by simp [over]
theorem over_all {α : Type} (t l : List α) (h : t.length = l.length) : over t l l.length = t := by simp [over, ← h]
theorem over_len {α : Type} (t l : List α) (i : Nat) (h : t.length = l.length) : (over t l i).length = l.length := by simp [over]; omega
theorem over_set {α : Type} (t l : List α) (d : α) (i : Nat) (h : t.length = l.length) (hi : i < l.length) : (over t l i).set i (t.getD i d) = over t l (i + 1) := by
  unfold over
  have e : (t.take i).length = i := by simp; omega
  rw [take_getD t d i (by omega), List.set_append_right i (t.getD i d) (by omega), e, Nat.sub_self, List.drop_eq_getElem_cons hi, List.set_cons_zero, List.append_assoc]
  rfl
theorem one_lt (n : Nat) : ((1 : Int) + (n : Int) < 0) = False := by simp; omega
theorem one_lt2 (n m : Nat) : ((1 : Int) + (n : Int) + (m : Int) < 0) = False := by simp; omega
/-- Whether a set without a member loses, and wins with it. -/
def swing (w : List Bool) (i m : Nat) : Bool := !m.testBit i && !w.getD m false && w.getD (m + 2 ^ i) false
def swl (n : Nat) (w : List Bool) : List Int := (List.range n).map fun i => (((List.range (2 ^ n)).countP (swing w i) : Nat) : Int)
theorem swl_len (n : Nat) (w : List Bool) : (swl n w).length = n := by simp [swl]
theorem swl_get (n : Nat) (w : List Bool) (i : Nat) (h : i < n) : (swl n w).getD i 0 = (((List.range (2 ^ n)).countP (swing w i) : Nat) : Int) := by simp [swl, List.getD_eq_getElem?_getD, List.getElem?_range h]
theorem with_lt {n m i : Nat} (hm : m < 2 ^ n) (hi : i < n) (h : m.testBit i = false) : m + 2 ^ i < 2 ^ n := by
  rw [← or_pow h]; exact Nat.or_lt_two_pow hm (Nat.pow_lt_pow_right (by omega) hi)
end Go.Proofs.Ythkbaolpiigioaa.P

namespace Go.Proofs.Ythkbaolpiigioaa.P
/-- The pure statement of FnExactBestSplits. -/
def laws_FnExactBestSplits.Pure : Prop := ∀ (a0_0 : Int) (l0_1 : List Int) (a1 : Int), okI a0_0 → (okL okI) l0_1 → okI a1 → ∃ k, laws_FnExactBestSplits.f k a0_0 l0_1 a1 = some true
end Go.Proofs.Ythkbaolpiigioaa.P

/- Plain laws of the printed functions on committees: what each answers. -/
namespace Go.Proofs.Ythkbaolpiigioaa.P
open Go.RowKit Go.Proofs.YthkbaolpiigioaaW.PrintWords Go.Proofs.YthkbaolpiigioaaW.PrintLast Go.Proofs.YthkbaolpiigioaaW.PrintMore
theorem impl_within.eq (a b c : Int) : impl_within.f a b c = some (inI b c a) := by
  unfold impl_within.f inI
  by_cases h : a ≥ b
  · have h' : b ≤ a := h
    simp [h']
  · have h' : ¬ b ≤ a := h
    simp [h']
theorem spec_l1In.eq (a b c : Int) : spec_l1In.f a b c = some (inI b c a) := by
  unfold spec_l1In.f inI
  by_cases h : a ≥ b
  · have h' : b ≤ a := h
    simp [h']
  · have h' : ¬ b ≤ a := h
    simp [h']
theorem impl_sumOf.ev (l : List Int) (hm : l.length ≤ 9223372036854775807) : Ev (fun k => impl_sumOf.f k l) (wsum l) := by
  have key := Ev.down (G := fun i k => impl_sumOf.l0 k ((l.take i).foldl (fun s x => wrap64 (s + x)) 0) l (l.length : Int) (i : Int)) (R := fun _ => wsum l) l.length
    (by refine Ev.shift ?_
        simp only [impl_sumOf.l0, Int.lt_irrefl, ↓reduceIte, List.take_length]
        exact Ev.some)
    (fun i hi ih => by
        refine Ev.shift ?_
        have c1 : (i : Int) < (l.length : Int) := by omega
        have c0 : (0 : Int) ≤ (i : Int) := by omega
        simp only [impl_sumOf.l0, c1, c0, ↓reduceIte, w1 hi hm, rd_nat]
        rw [foldl_take _ _ l 0 i hi] at ih
        exact ih)
  exact key 0 (Nat.zero_le _)
theorem spec_voSum.ev (l : List Int) (hm : l.length ≤ 9223372036854775807) : Ev (fun k => spec_voSum.f k l) (wsum l) := by
  have key := Ev.down (G := fun i k => spec_voSum.l0 k ((l.take i).foldl (fun s x => wrap64 (s + x)) 0) l (l.length : Int) (i : Int)) (R := fun _ => wsum l) l.length
    (by refine Ev.shift ?_
        simp only [spec_voSum.l0, Int.lt_irrefl, ↓reduceIte, List.take_length]
        exact Ev.some)
    (fun i hi ih => by
        refine Ev.shift ?_
        have c1 : (i : Int) < (l.length : Int) := by omega
        have c0 : (0 : Int) ≤ (i : Int) := by omega
        simp only [spec_voSum.l0, c1, c0, ↓reduceIte, w1 hi hm, rd_nat]
        rw [foldl_take _ _ l 0 i hi] at ih
        exact ih)
  exact key 0 (Nat.zero_le _)
theorem isComm_eq (q : Int) (l : List Int) : isComm q l = if (1 ≤ l.length ∧ l.length ≤ 9) ∧ l.all (inI 0 1000) = true then inI 1 (wsum l) q else false := by
  unfold isComm
  by_cases h : (1 ≤ l.length ∧ l.length ≤ 9) ∧ l.all (inI 0 1000) = true
  · have hm : ∀ x ∈ l, 0 ≤ x ∧ x ≤ 1000 := by
      have := h.2
      simp [inI] at this
      exact this
    rw [if_pos h, wsum_eq l hm (by omega)]
    simp only [h.1.1, h.1.2, h.2, decide_true, Bool.true_and]
  · rw [if_neg h]
    by_cases h1 : 1 ≤ l.length
    · by_cases h2 : l.length ≤ 9
      · have h3 : l.all (inI 0 1000) = false := by
          cases h4 : l.all (inI 0 1000) with
          | true => exact absurd ⟨⟨h1, h2⟩, h4⟩ h
          | false => rfl
        simp only [h3, Bool.and_false, Bool.false_and]
      · simp only [h2, decide_false, Bool.and_false, Bool.false_and]
    · simp only [h1, decide_false, Bool.false_and]
theorem slices_IndexFunc_int_int.ev (l : List Int) (hm : l.length ≤ 9223372036854775807) (p : Nat → Int → Option Bool) (P : Int → Bool) (h : ∀ x ∈ l, Ev (fun k => p k x) (P x)) : Ev (fun k => slices_IndexFunc_int_int.f k l (p k)) (idxFrom P 0 l) := by
  refine Ev.ask (F := fun k q => slices_IndexFunc_int_int.f k l q) l h ⟨l.length + 1, fun k hk q hq => ?_⟩
  unfold slices_IndexFunc_int_int.f
  have := downq (G := fun i k => slices_IndexFunc_int_int.l0 k l q (l.length : Int) (i : Int)) (R := fun i => idxFrom P i (l.drop i)) l.length
    (by intro k; simp only [slices_IndexFunc_int_int.l0, Int.lt_irrefl, ↓reduceIte, List.drop_length, idxFrom])
    (fun i hi k ih => by
      have c1 : (i : Int) < (l.length : Int) := by omega
      have c0 : (0 : Int) ≤ (i : Int) := by omega
      simp only [slices_IndexFunc_int_int.l0, c1, c0, ↓reduceIte, w1 hi hm, rd_nat, hq _ (getD_mem l 0 i hi), Option.bind_some]
      rw [drop_getD l 0 i hi, idxFrom, ih]
      split <;> rfl) 0 (Nat.zero_le _) k (by omega)
  rwa [List.drop_zero] at this
theorem slices_ContainsFunc_int_int.ev (l : List Int) (hm : l.length ≤ 9223372036854775807) (p : Nat → Int → Option Bool) (P : Int → Bool) (h : ∀ x ∈ l, Ev (fun k => p k x) (P x)) : Ev (fun k => slices_ContainsFunc_int_int.f k l (p k)) (l.any P) := by
  unfold slices_ContainsFunc_int_int.f
  refine Ev.bind (slices_IndexFunc_int_int.ev l hm p P h) ?_
  rw [idxFrom_nn]
  exact Ev.some
theorem impl_areIn.ev (l : List Int) (a b : Int) (hm : l.length ≤ 9223372036854775807) : Ev (fun k => impl_areIn.f k l a b) (l.all (inI a b)) := by
  unfold impl_areIn.f
  refine Ev.bind (slices_ContainsFunc_int_int.ev l hm (fun _ x => impl_areIn_1.f x a b) (fun x => !inI a b x) (fun x _ => ?_)) ?_
  · simp only [impl_areIn_1.f, impl_within.eq, Option.bind_some]; exact Ev.some
  · rw [all_any]; exact Ev.some
theorem impl_IsCommittee.ev (q : Int) (l : List Int) (hm : l.length ≤ 9223372036854775807) : Ev (fun k => impl_IsCommittee.f k q l) (isComm q l) := by
  rw [isComm_eq]
  unfold impl_IsCommittee.f
  by_cases h1 : 1 ≤ l.length
  · have c1 : (l.length : Int) ≥ 1 := by omega
    by_cases h2 : l.length ≤ 9
    · have c2 : (l.length : Int) ≤ 9 := by omega
      simp only [c1, c2, h1, h2, ↓reduceIte, and_self, true_and]
      refine Ev.bind (impl_areIn.ev l 0 1000 hm) ?_
      by_cases h3 : l.all (inI 0 1000) = true
      · simp only [h3, ↓reduceIte]
        refine Ev.bind (impl_sumOf.ev l hm) ?_
        simp only [impl_within.eq, Option.bind_some]
        exact Ev.some
      · simp only [h3]
        exact Ev.some
    · have c2 : ¬ (l.length : Int) ≤ 9 := by omega
      simp only [c1, c2, h2, ↓reduceIte, and_false, false_and]
      exact Ev.some
  · have c1 : ¬ (l.length : Int) ≥ 1 := by omega
    simp only [c1, h1, ↓reduceIte, false_and]
    exact Ev.some
theorem spec_l1All.ev (l : List Int) (a b : Int) (hm : l.length ≤ 9223372036854775807) : Ev (fun k => spec_l1All.f k l a b) (l.all (inI a b)) := by
  have key := Ev.down (G := fun i k => spec_l1All.l0 k a b l (l.length : Int) (i : Int)) (R := fun i => (l.drop i).all (inI a b)) l.length
    (by refine Ev.shift ?_
        simp only [spec_l1All.l0, Int.lt_irrefl, ↓reduceIte, List.drop_length, List.all_nil]
        exact Ev.some)
    (fun i hi ih => by
        refine Ev.shift ?_
        have c1 : (i : Int) < (l.length : Int) := by omega
        have c0 : (0 : Int) ≤ (i : Int) := by omega
        simp only [spec_l1All.l0, c1, c0, ↓reduceIte, w1 hi hm, rd_nat, spec_l1In.eq, Option.bind_some]
        rw [drop_getD l 0 i hi, List.all_cons]
        cases h : inI a b (l.getD i 0) with
        | true => simp only [↓reduceIte, Bool.true_and]; exact ih
        | false => simp only [Bool.false_eq_true, ↓reduceIte, Bool.false_and]; exact Ev.some)
  exact key 0 (Nat.zero_le _)
theorem spec_voGood.ev (q : Int) (l : List Int) (hm : l.length ≤ 9223372036854775807) : Ev (fun k => spec_voGood.f k q l) (isComm q l) := by
  rw [isComm_eq]
  unfold spec_voGood.f
  simp only [spec_l1In.eq, Option.bind_some]
  have e : inI 1 9 (l.length : Int) = decide (1 ≤ l.length ∧ l.length ≤ 9) := by
    unfold inI; rw [Bool.eq_iff_iff]; simp; omega
  rw [e]
  by_cases h : 1 ≤ l.length ∧ l.length ≤ 9
  · simp only [h, decide_true, ↓reduceIte, and_self, true_and]
    refine Ev.bind (spec_l1All.ev l 0 1000 hm) ?_
    refine Ev.shift ?_
    by_cases h3 : l.all (inI 0 1000) = true
    · simp only [spec_voGood.j0, h3, Bool.not_true, Bool.false_eq_true, ↓reduceIte]
      refine Ev.bind (spec_voSum.ev l hm) ?_
      simp only [spec_l1In.eq, Option.bind_some]
      exact Ev.some
    · have h4 : l.all (inI 0 1000) = false := by simpa using h3
      simp only [spec_voGood.j0, h4, Bool.not_false, Bool.false_eq_true, ↓reduceIte]
      exact Ev.some
  · simp only [h, decide_false, Bool.false_eq_true, ↓reduceIte, false_and]
    refine Ev.shift ?_
    simp only [spec_voGood.j0, ↓reduceIte]
    exact Ev.some
/-! ### the law's own words -/
theorem laws_toIntS.ev (l : List Int) (hm : l.length ≤ 1048576) : Ev (fun k => laws_toIntS.f k l) l := by
  unfold laws_toIntS.f
  have c1 : (0 : Int) ≤ (l.length : Int) := by omega
  have c2 : l.length ≤ 35184372088832 := by omega
  simp only [c1, c2, ↓reduceIte, Int.toNat_natCast]
  have key := Ev.down (G := fun i k => laws_toIntS.l0 k l (filled l 0 i) (i : Int)) (R := fun _ => l) l.length
    (by refine Ev.shift ?_
        simp only [laws_toIntS.l0, Int.lt_irrefl, ↓reduceIte, filled_all]
        exact Ev.some)
    (fun i hi ih => by
        refine Ev.shift ?_
        have c1 : (i : Int) < (l.length : Int) := by omega
        have c0 : (0 : Int) ≤ (i : Int) := by omega
        simp only [laws_toIntS.l0, filled_len l 0 i (by omega), c1, c0, ↓reduceIte, w1 hi (by omega), rd_nat, Int.toNat_natCast, filled_set l 0 0 i hi]
        exact ih)
  have := key 0 (Nat.zero_le _)
  rw [filled_zero] at this
  exact this
theorem laws_toCommittee.ev (q : Int) (l : List Int) (hm : l.length ≤ 1048576) : Ev (fun k => laws_toCommittee.f k q l) (q, l) := by
  unfold laws_toCommittee.f
  exact Ev.bind (laws_toIntS.ev l hm) Ev.some
theorem laws_eqIntS.ev (l : List Int) (hm : l.length ≤ 9223372036854775807) : Ev (fun k => laws_eqIntS.f k l l) true := by
  unfold laws_eqIntS.f
  simp only [↓reduceIte]
  have key := Ev.down (G := fun i k => laws_eqIntS.l0 k l l (i : Int)) (R := fun _ => true) l.length
    (by refine Ev.shift ?_
        simp only [laws_eqIntS.l0, Int.lt_irrefl, ↓reduceIte]
        exact Ev.some)
    (fun i hi ih => by
        refine Ev.shift ?_
        have c1 : (i : Int) < (l.length : Int) := by omega
        have c0 : (0 : Int) ≤ (i : Int) := by omega
        simp only [laws_eqIntS.l0, c1, c0, ↓reduceIte, w1 hi hm]
        exact ih)
  exact key 0 (Nat.zero_le _)
theorem laws_eqCommittee.ev (q : Int) (l : List Int) (hm : l.length ≤ 9223372036854775807) : Ev (fun k => laws_eqCommittee.f k q l q l) true := by
  unfold laws_eqCommittee.f
  simp only [↓reduceIte]
  refine Ev.bind (laws_eqIntS.ev l hm) ?_
  simp only [↓reduceIte]
  exact Ev.some
/-- What is left of the size that is let by. -/
theorem laws_szIntS.eq (l : List Int) (n : Int) (hm : l.length ≤ 9223372036854775807) (h0 : 0 ≤ n) (h1 : n ≤ 1048576) : laws_szIntS.f l n = some (if n < l.length then -1 else n - l.length) := by
  unfold laws_szIntS.f
  rw [w64 (by omega) (by omega)]
  by_cases h : n < l.length
  · rw [if_pos (by omega), if_pos h]
  · rw [if_neg (by omega), if_neg h]
theorem laws_szCommittee.eq (q : Int) (l : List Int) (n : Int) (hm : l.length ≤ 9223372036854775807) (h0 : 0 ≤ n) (h1 : n ≤ 1048576) : laws_szCommittee.f q l n = some (if n < l.length then -1 else n - l.length) := by
  unfold laws_szCommittee.f
  rw [laws_szIntS.eq l n hm h0 h1, Option.bind_some]
  by_cases h : n < l.length
  · rw [if_pos h, if_pos (by omega)]
  · rw [if_neg h, if_neg (by omega)]
end Go.Proofs.Ythkbaolpiigioaa.P

/- A committee, if it is one. -/
namespace Go.Proofs.Ythkbaolpiigioaa.P
open Go.RowKit Go.Proofs.YthkbaolpiigioaaW.PrintWords Go.Proofs.YthkbaolpiigioaaW.PrintLast Go.Proofs.YthkbaolpiigioaaW.PrintMore
def ifC (q : Int) (l : List Int) : Int × List Int × Bool := if isComm q l = true then (q, l, true) else (0, [], false)
theorem impl_ifCommittee.ev (q : Int) (l : List Int) (hm : l.length ≤ 9223372036854775807) : Ev (fun k => impl_ifCommittee.f k q l) (ifC q l) := by
  unfold impl_ifCommittee.f ifC
  refine Ev.bind (impl_IsCommittee.ev q l hm) ?_
  cases isComm q l <;> exact Ev.some
end Go.Proofs.Ythkbaolpiigioaa.P

/- Members of a committee. -/
namespace Go.Proofs.Ythkbaolpiigioaa.P
open Go.RowKit Go.Proofs.YthkbaolpiigioaaW.PrintWords Go.Proofs.YthkbaolpiigioaaW.PrintLast Go.Proofs.YthkbaolpiigioaaW.PrintMore
def isMem (q : Int) (l : List Int) (i : Int) : Bool := isComm q l && inI 0 ((l.length : Int) - 1) i
theorem isMem_at {q : Int} {l : List Int} {i : Int} (h : isMem q l i = true) : isComm q l = true ∧ ∃ j : Nat, i = (j : Int) ∧ j < l.length := by
  simp only [isMem, inI, Bool.and_eq_true, decide_eq_true_eq] at h
  exact ⟨h.1, i.toNat, by omega, by omega⟩
theorem impl_isMember.ev (q : Int) (l : List Int) (i : Int) (hm : l.length ≤ 9223372036854775807) : Ev (fun k => impl_isMember.f k q l i) (isMem q l i) := by
  unfold impl_isMember.f isMem
  refine Ev.bind (impl_IsCommittee.ev q l hm) ?_
  cases h : isComm q l with
  | true => simp only [↓reduceIte, impl_within.eq, Option.bind_some, Bool.true_and]; rw [w64 (by omega) (by omega)]; exact Ev.some
  | false => exact Ev.some
theorem spec_pwMember.ev (q : Int) (l : List Int) (i : Int) (hm : l.length ≤ 9223372036854775807) : Ev (fun k => spec_pwMember.f k q l i) (isMem q l i) := by
  unfold spec_pwMember.f isMem
  refine Ev.bind (spec_voGood.ev q l hm) ?_
  cases h : isComm q l with
  | true => simp only [↓reduceIte, spec_l1In.eq, Option.bind_some, Bool.true_and]; rw [w64 (by omega) (by omega)]; exact Ev.some
  | false => exact Ev.some
end Go.Proofs.Ythkbaolpiigioaa.P

/- Copies of a row. -/
namespace Go.Proofs.Ythkbaolpiigioaa.P
open Go.RowKit Go.Proofs.YthkbaolpiigioaaW.PrintWords Go.Proofs.YthkbaolpiigioaaW.PrintLast Go.Proofs.YthkbaolpiigioaaW.PrintMore
theorem spec_l1Own.eq (l : List Int) (h : l.length < 17592186044416) : spec_l1Own.f l = some l := by
  unfold spec_l1Own.f
  simp only [Option.bind_some, List.length_nil, Nat.zero_add, h, ↓reduceIte, List.nil_append]
end Go.Proofs.Ythkbaolpiigioaa.P

/- Copies of a row. -/
namespace Go.Proofs.Ythkbaolpiigioaa.P
open Go.RowKit Go.Proofs.YthkbaolpiigioaaW.PrintWords Go.Proofs.YthkbaolpiigioaaW.PrintLast Go.Proofs.YthkbaolpiigioaaW.PrintMore
theorem slices_Clone_int_int.eq (l : List Int) (h : l.length < 17592186044416) : slices_Clone_int_int.f l = some l := by
  unfold slices_Clone_int_int.f
  rw [if_pos h]
end Go.Proofs.Ythkbaolpiigioaa.P

/- A committee with a member split. -/
namespace Go.Proofs.Ythkbaolpiigioaa.P
open Go.RowKit Go.Proofs.YthkbaolpiigioaaW.PrintWords Go.Proofs.YthkbaolpiigioaaW.PrintLast Go.Proofs.YthkbaolpiigioaaW.PrintMore
def splitL (l : List Int) (i : Nat) (p : Int) : List Int := l.take i ++ [p, rd l i - p] ++ l.drop (i + 1)
def part (q : Int) (l : List Int) (a p : Int) : Bool := isMem q l a && (inI 0 (rd l a) p && decide (l.length < 9))
def split (q : Int) (l : List Int) (a p : Int) : Int × List Int × Bool := if part q l a p = true then (q, splitL l a.toNat p, true) else (0, [], false)
theorem splitL_len (l : List Int) (i : Nat) (p : Int) (hi : i < l.length) : (splitL l i p).length = l.length + 1 := by
  unfold splitL
  simp only [List.length_append, List.length_take, List.length_drop, List.length_cons, List.length_nil]
  omega
theorem split_parts (l : List Int) (i : Nat) (hi : i < l.length) : l = l.take i ++ [rd l i] ++ l.drop (i + 1) := by
  rw [rd_nat, List.getD_eq_getElem?_getD, List.getElem?_eq_getElem hi, Option.getD_some, List.append_assoc, List.singleton_append, List.getElem_cons_drop, List.take_append_drop]
theorem rd_mem (l : List Int) (i : Nat) (hi : i < l.length) : rd l i ∈ l := by
  rw [rd_nat, List.getD_eq_getElem?_getD, List.getElem?_eq_getElem hi, Option.getD_some]
  exact List.getElem_mem hi
theorem splitL_comm (q : Int) (l : List Int) (i : Nat) (p : Int) (hc : isComm q l = true) (hi : i < l.length) (h0 : 0 ≤ p) (h1 : p ≤ rd l i) : isComm q (splitL l i p) = decide (l.length < 9) := by
  have hl := isComm_len hc
  have hs := split_parts l i hi
  have hn := splitL_len l i p hi
  have h3 : ∀ x ∈ l, inI 0 1000 x = true := by
    simp only [isComm, Bool.and_eq_true, List.all_eq_true] at hc
    exact hc.1.2
  have hr : 0 ≤ rd l i ∧ rd l i ≤ 1000 := isComm_mem hc _ (rd_mem l i hi)
  have hall : (splitL l i p).all (inI 0 1000) = true := by
    rw [List.all_eq_true]
    intro x hx
    unfold splitL at hx
    rw [List.mem_append, List.mem_append] at hx
    rcases hx with (hx | hx) | hx
    · exact h3 x (List.mem_of_mem_take hx)
    · simp only [List.mem_cons, List.not_mem_nil, or_false] at hx
      simp only [inI, Bool.and_eq_true, decide_eq_true_eq]
      rcases hx with rfl | rfl <;> omega
    · exact h3 x (List.mem_of_mem_drop hx)
  have hsum : (splitL l i p).sum = l.sum := by
    have e := congrArg List.sum hs
    rw [e]
    unfold splitL
    simp only [List.sum_append, List.sum_cons, List.sum_nil]
    omega
  have hq := isComm_q hc
  unfold isComm
  rw [hall, hsum, hn]
  simp only [inI, Bool.and_true]
  rw [Bool.eq_iff_iff]
  simp only [Bool.and_eq_true, decide_eq_true_eq]
  omega
theorem impl_SplitMember.ev (q : Int) (l : List Int) (a p : Int) (hm : l.length ≤ 9223372036854775807) : Ev (fun k => impl_SplitMember.f k q l a p) (split q l a p) := by
  have off : ∀ v : Int × List Int × Bool, v = (0, [], false) → Ev (fun k => impl_SplitMember.j0 k a p true q l) v := by
    rintro v rfl
    refine Ev.shift ?_
    simp only [impl_SplitMember.j0, ↓reduceIte]
    exact Ev.some
  unfold impl_SplitMember.f split part
  refine Ev.bind (impl_isMember.ev q l a hm) ?_
  cases h1 : isMem q l a with
  | false => simp only [Bool.false_eq_true, ↓reduceIte, Bool.false_and]; exact off _ rfl
  | true =>
    obtain ⟨hc, i, rfl, hi⟩ := isMem_at h1
    have hlen := isComm_len hc
    have ci : (i : Int) < (l.length : Int) := by omega
    have c0 : (0 : Int) ≤ (i : Int) := by omega
    simp only [↓reduceIte, Bool.true_and, c0, ci, impl_within.eq, Option.bind_some]
    cases h4 : inI 0 (rd l i) p with
    | false => simp only [Bool.not_false, Bool.false_eq_true, ↓reduceIte, Bool.false_and]; exact off _ rfl
    | true =>
      have hp : 0 ≤ p ∧ p ≤ rd l i := by simpa [inI] using h4
      have hr : 0 ≤ rd l i ∧ rd l i ≤ 1000 := isComm_mem hc (rd l i) (rd_mem l i hi)
      refine Ev.shift ?_
      simp only [Bool.not_true, impl_SplitMember.j0, Bool.false_eq_true, ↓reduceIte, slices_Clone_int_int.eq l (by omega), Option.bind_some, c0, ci, Int.toNat_natCast, Bool.true_and]
      have hins : slices_Insert_int_int.f (l.set i (wrap64 (rd l i - p))) (i : Int) [p] = some (splitL l i p) := by
        unfold slices_Insert_int_int.f
        rw [if_pos (by simp only [List.length_set, List.length_cons, List.length_nil]; omega), w64 (by omega) (by omega), Int.toNat_natCast]
        congr 1
        unfold splitL
        rw [List.take_set_of_le (by omega), List.drop_set, if_neg (by omega), Nat.sub_self, List.drop_eq_getElem_cons hi, List.set_cons_zero]
        simp
      refine Ev.bind (Ev.one hins) ?_
      refine Ev.eq (Ev.bind (impl_ifCommittee.ev _ _ (by rw [splitL_len l i p hi]; omega)) Ev.some) ?_
      unfold ifC
      rw [splitL_comm q l i p hc hi hp.1 hp.2]
theorem spec_unPart.ev (q : Int) (l : List Int) (a p : Int) (hm : l.length ≤ 9223372036854775807) : Ev (fun k => spec_unPart.f k q l a p) (part q l a p) := by
  unfold spec_unPart.f part
  refine Ev.bind (spec_pwMember.ev q l a hm) ?_
  cases h1 : isMem q l a with
  | false => simp only [Bool.false_eq_true, ↓reduceIte, Bool.false_and]; exact Ev.some
  | true =>
    obtain ⟨hc, i, rfl, hi⟩ := isMem_at h1
    have ci : (i : Int) < (l.length : Int) := by omega
    have c0 : (0 : Int) ≤ (i : Int) := by omega
    simp only [↓reduceIte, Bool.true_and, c0, ci, spec_l1In.eq, Option.bind_some]
    cases h4 : inI 0 (rd l i) p with
    | false => simp only [Bool.false_eq_true, ↓reduceIte, Bool.false_and]; exact Ev.some
    | true =>
      simp only [↓reduceIte, Bool.true_and]
      refine Ev.eq Ev.some ?_
      rw [decide_eq_decide]; omega
theorem part_at {q : Int} {l : List Int} {a p : Int} (h : part q l a p = true) : isComm q l = true ∧ l.length < 9 ∧ ∃ i : Nat, a = (i : Int) ∧ i < l.length ∧ 0 ≤ p ∧ p ≤ rd l i ∧ rd l i ≤ 1000 := by
  unfold part at h
  simp only [Bool.and_eq_true, decide_eq_true_eq] at h
  obtain ⟨hc, i, rfl, hi⟩ := isMem_at h.1
  have hp : 0 ≤ p ∧ p ≤ rd l i := by simpa [inI] using h.2.1
  exact ⟨hc, h.2.2, i, rfl, hi, hp.1, hp.2, (isComm_mem hc (rd l i) (rd_mem l i hi)).2⟩
theorem spec_unSplit.eq (q : Int) (l : List Int) (i : Nat) (p : Int) (hl : l.length ≤ 9) (hi : i < l.length) (hp : 0 ≤ p) (hr : p ≤ rd l i) (hr1 : rd l i ≤ 1000) : spec_unSplit.f q l i p = some (q, splitL l i p) := by
  have ci : (i : Int) < (l.length : Int) := by omega
  have c0 : (0 : Int) ≤ (i : Int) := by omega
  have c1 : (i : Int) ≤ (l.length : Int) := by omega
  have e : wrap64 ((i : Int) + 1) = ((i + 1 : Nat) : Int) := by rw [w64 (by omega) (by omega)]; omega
  have c2 : (0 : Int) ≤ ((i + 1 : Nat) : Int) := by omega
  have c3 : ((i + 1 : Nat) : Int) ≤ (l.length : Int) := by omega
  unfold spec_unSplit.f
  rw [if_pos c0, if_pos c1, Int.toNat_natCast, spec_l1Own.eq _ (by rw [List.length_take]; omega), Option.bind_some, if_pos ci, Option.bind_some, if_pos (by simp only [List.length_take, List.length_cons, List.length_nil]; omega), Option.bind_some, e, if_pos c2, if_pos c3, Int.toNat_natCast,
    if_pos (by simp only [List.length_append, List.length_drop, List.length_take, List.length_cons, List.length_nil]; omega), w64 (by omega) (by omega)]
  rfl
end Go.Proofs.Ythkbaolpiigioaa.P

/- How two numbers compare. -/
namespace Go.Proofs.Ythkbaolpiigioaa.P
open Go.RowKit Go.Proofs.YthkbaolpiigioaaW.PrintWords Go.Proofs.YthkbaolpiigioaaW.PrintLast Go.Proofs.YthkbaolpiigioaaW.PrintMore
def cmpI (x y : Int) : Int := if x < y then -1 else if x > y then 1 else 0
theorem cmp_Compare_int.eq (x y : Int) : cmp_Compare_int.f x y = some (cmpI x y) := by
  have e : ∀ z, cmp_isNaN_int.f z = some false := fun z => by simp [cmp_isNaN_int.f]
  unfold cmp_Compare_int.f cmpI
  rw [e, e]
  simp only [Option.bind_some, Bool.false_eq_true, ↓reduceIte]
  split
  · rfl
  · split <;> rfl
end Go.Proofs.Ythkbaolpiigioaa.P

/- A member of a set, by bits. -/
namespace Go.Proofs.Ythkbaolpiigioaa.P
open Go.RowKit Go.Proofs.YthkbaolpiigioaaW.PrintWords Go.Proofs.YthkbaolpiigioaaW.PrintLast Go.Proofs.YthkbaolpiigioaaW.PrintMore
theorem impl_has.eq (b i : Nat) (hi : i ≤ 64) (hb : b < 2 ^ 63) : impl_has.f (b : Int) (i : Int) = some (b.testBit i) := by
  have c : (0 : Int) ≤ (i : Int) := by omega
  have hd : b / 2 ^ i < 2 ^ 63 := Nat.lt_of_le_of_lt (Nat.div_le_self _ _) hb
  unfold impl_has.f
  rw [if_pos c, shr_nat b i hi, and_one _ hd, bit_nat]
  congr 1
  rcases Nat.mod_two_eq_zero_or_one (b / 2 ^ i) with h | h <;> rw [h] <;> rfl
end Go.Proofs.Ythkbaolpiigioaa.P

/- Weights of a set, by bits. -/
namespace Go.Proofs.Ythkbaolpiigioaa.P
open Go.RowKit Go.Proofs.YthkbaolpiigioaaW.PrintWords Go.Proofs.YthkbaolpiigioaaW.PrintLast Go.Proofs.YthkbaolpiigioaaW.PrintMore
theorem impl_Committee_weight.ev (q : Int) (l : List Int) (b : Nat) (h : ∀ x ∈ l, 0 ≤ x ∧ x ≤ 1000) (hl : l.length ≤ 64) (hb : b < 2 ^ 63) : Ev (fun k => impl_Committee_weight.f k q l (b : Int)) (wt l b) := by
  have key := back (P := fun i => ∀ s : Int, 0 ≤ s → s ≤ 1000 * i → Ev (fun k => impl_Committee_weight.l0 k (b : Int) s l (l.length : Int) (i : Int)) (s + wt (l.drop i) (b / 2 ^ i))) l.length
    (by intro s h0 h1
        refine Ev.shift ?_
        simp only [impl_Committee_weight.l0, Int.lt_irrefl, ↓reduceIte, List.drop_length, wt, Int.add_zero]
        exact Ev.some)
    (by intro i hi ih s h0 h1
        refine Ev.shift ?_
        have c1 : (i : Int) < (l.length : Int) := by omega
        have c0 : (0 : Int) ≤ (i : Int) := by omega
        have hx := h _ (getD_mem l 0 i hi)
        simp only [impl_Committee_weight.l0, c1, c0, ↓reduceIte, impl_has.eq b i (by omega) hb, Option.bind_some, w1 hi (show l.length ≤ 9223372036854775807 by omega), rd_nat, bit_nat]
        rw [drop_getD l 0 i hi, wt, Nat.div_div_eq_div_mul, show (2 ^ i * 2 : Nat) = 2 ^ (i + 1) from rfl]
        by_cases hbit : b / 2 ^ i % 2 = 1
        · simp only [hbit, decide_true, ↓reduceIte]
          rw [w64 (by omega) (by omega)]
          refine Ev.eq (ih _ (by omega) (by omega)) (by omega)
        · simp only [hbit, decide_false, Bool.false_eq_true, ↓reduceIte]
          refine Ev.eq (ih _ (by omega) (by omega)) (by omega))
  have := key 0 (Nat.zero_le _) 0 (by omega) (by omega)
  unfold impl_Committee_weight.f
  rw [List.drop_zero, Nat.pow_zero, Nat.div_one, Int.zero_add] at this
  exact this
end Go.Proofs.Ythkbaolpiigioaa.P

/- What is told of each set, by a function. -/
namespace Go.Proofs.Ythkbaolpiigioaa.P
open Go.RowKit Go.Proofs.YthkbaolpiigioaaW.PrintWords Go.Proofs.YthkbaolpiigioaaW.PrintLast Go.Proofs.YthkbaolpiigioaaW.PrintMore
theorem impl_votesOf.ev (n : Nat) (hn : n ≤ 40) (p : Nat → Int → Option Bool) (P : Nat → Bool) (h : ∀ b : Nat, b < 2 ^ n → Ev (fun k => p k (b : Int)) (P b)) : Ev (fun k => impl_votesOf.f k (n : Int) (p k)) ((n : Int), tab n P) := by
  obtain ⟨K, hK⟩ := Ev.all (p := fun k (b : Nat) => p k (b : Int)) (P := P) (List.range (2 ^ n)) (fun b hb => h b (List.mem_range.1 hb))
  have hpos := Nat.two_pow_pos n
  refine ⟨K + 2 ^ n + 1, fun k hk => ?_⟩
  have hq := hK k (by omega)
  show impl_votesOf.f k (n : Int) (p k) = _
  generalize p k = q at hq ⊢
  have hq : ∀ b : Nat, b < 2 ^ n → q (b : Int) = some (P b) := fun b hb => hq b (List.mem_range.2 hb)
  have h40 : 2 ^ n ≤ 1099511627776 := pow_small hn
  have hle : (2 ^ n : Nat) ≤ 281474976710656 := by omega
  have c0 : (0 : Int) ≤ (n : Int) := by omega
  have c1 : (0 : Int) ≤ ((2 ^ n : Nat) : Int) := by omega
  have hl := tab_len n P
  unfold impl_votesOf.f
  simp only [c0, ↓reduceIte, shl_one n (by omega), c1, Int.toNat_natCast, hle, Option.bind_some, List.length_replicate]
  have := downq (G := fun i k => impl_votesOf.l0 k q ((2 ^ n : Nat) : Int) (i : Int) (n : Int) (filled (tab n P) false i)) (R := fun _ => ((n : Int), tab n P)) (2 ^ n)
    (by intro k
        have : filled (tab n P) false (2 ^ n) = tab n P := by rw [← hl]; exact filled_all _ _
        simp only [impl_votesOf.l0, Int.lt_irrefl, ↓reduceIte, this])
    (fun i hi k ih => by
        have c1 : (i : Int) < ((2 ^ n : Nat) : Int) := by omega
        have c0 : (0 : Int) ≤ (i : Int) := by omega
        have c2 : (i : Int) < ((filled (tab n P) false i).length : Int) := by rw [filled_len _ _ _ (by omega)]; omega
        have hs := filled_set (tab n P) false false i (by omega)
        rw [tab_get n P i hi] at hs
        simp only [impl_votesOf.l0, c1, c0, c2, ↓reduceIte, hq i hi, Option.bind_some, w1 hi (show 2 ^ n ≤ 9223372036854775807 by omega), Int.toNat_natCast, hs]
        exact ih) 0 (Nat.zero_le _) k (by omega)
  rw [filled_zero, hl] at this
  exact this
end Go.Proofs.Ythkbaolpiigioaa.P

/- The votes of a committee. -/
namespace Go.Proofs.Ythkbaolpiigioaa.P
open Go.RowKit Go.Proofs.YthkbaolpiigioaaW.PrintWords Go.Proofs.YthkbaolpiigioaaW.PrintLast Go.Proofs.YthkbaolpiigioaaW.PrintMore
def cwin (q : Int) (l : List Int) (b : Nat) : Bool := decide (wt l b ≥ q)
theorem impl_Committee_votes.ev (q : Int) (l : List Int) (h : ∀ x ∈ l, 0 ≤ x ∧ x ≤ 1000) (hl : l.length ≤ 40) : Ev (fun k => impl_Committee_votes.f k q l) ((l.length : Int), tab l.length (cwin q l)) := by
  unfold impl_Committee_votes.f
  refine Ev.bind (impl_votesOf.ev l.length hl (fun k y => impl_Committee_votes_1.f k y q l) (cwin q l) (fun b hb => ?_)) Ev.some
  unfold impl_Committee_votes_1.f
  have h40 : 2 ^ l.length ≤ 1099511627776 := pow_small hl
  exact Ev.bind (impl_Committee_weight.ev q l b h (by omega) (by omega)) Ev.some
end Go.Proofs.Ythkbaolpiigioaa.P

/- How many swings each member has. -/
namespace Go.Proofs.Ythkbaolpiigioaa.P
open Go.RowKit Go.Proofs.YthkbaolpiigioaaW.PrintWords Go.Proofs.YthkbaolpiigioaaW.PrintLast Go.Proofs.YthkbaolpiigioaaW.PrintMore
theorem impl_votes_isSwing.eq (n : Nat) (w : List Bool) (m i : Nat) (hw : w.length = 2 ^ n) (hn : n ≤ 40) (hm : m < 2 ^ n) (hi : i < n) : impl_votes_isSwing.f (n : Int) w (m : Int) (i : Int) = some (swing w i m) := by
  have h40 : 2 ^ n ≤ 1099511627776 := pow_small hn
  have c0 : (0 : Int) ≤ (m : Int) := by omega
  have c1 : (0 : Int) ≤ (i : Int) := by omega
  have c2 : (m : Int) < (w.length : Int) := by omega
  have hp : 2 ^ i < 2 ^ 63 := Nat.pow_lt_pow_right (by omega) (by omega)
  unfold impl_votes_isSwing.f swing
  rw [impl_has.eq m i (by omega) (by omega), Option.bind_some]
  cases hb : m.testBit i with
  | true => simp
  | false =>
    have e : Go.bits .or .i64 (m : Int) (shl .i64 1 (i : Int)) = ((m + 2 ^ i : Nat) : Int) := by
      rw [shl_one i (by omega), or_nat m (2 ^ i) (by omega) hp, or_pow hb]
    have hlt := with_lt hm hi hb
    have hpos := Nat.two_pow_pos i
    have c3 : (0 : Int) ≤ ((m + 2 ^ i : Nat) : Int) := by omega
    have c4 : ((m + 2 ^ i : Nat) : Int) < (w.length : Int) := by omega
    simp only [e, c0, c1, c2, c3, c4, ↓reduceIte, rdB_nat, Bool.false_eq_true, Bool.not_false, Bool.true_and]
    cases w.getD m false <;> simp
theorem impl_votes_swings.ev (n : Nat) (w : List Bool) (hw : w.length = 2 ^ n) (hn : n ≤ 40) : Ev (fun k => impl_votes_swings.f k (n : Int) w) (swl n w) := by
  have h40 : 2 ^ n ≤ 1099511627776 := pow_small hn
  have c0 : (0 : Int) ≤ (n : Int) := by omega
  have c1 : n ≤ 35184372088832 := by omega
  have sl := swl_len n w
  unfold impl_votes_swings.f
  simp only [c0, c1, ↓reduceIte, Int.toNat_natCast, Option.bind_some, List.length_replicate]
  have key := Ev.down (G := fun i k => impl_votes_swings.l0 k (filled (swl n w) 0 i) (n : Int) (i : Int) (n : Int) w) (R := fun _ => swl n w) n
    (by refine Ev.shift ?_
        have : filled (swl n w) 0 n = swl n w := by have := filled_all (swl n w) 0; rwa [sl] at this
        simp only [impl_votes_swings.l0, Int.lt_irrefl, ↓reduceIte, this]
        exact Ev.some)
    (fun i hi ih => by
      have hfl := filled_len (swl n w) 0 i (by omega)
      have inner := back (P := fun m => Ev (fun k => impl_votes_swings.l1 k ((filled (swl n w) 0 i).set i (((List.range m).countP (swing w i) : Nat) : Int)) (i : Int) (n : Int) (i : Int) (w.length : Int) (m : Int) (n : Int) w) (swl n w)) (2 ^ n)
        (by refine Ev.shift ?_
            have e := filled_set (swl n w) 0 0 i (by omega)
            rw [swl_get n w i hi] at e
            simp only [impl_votes_swings.l1, hw, Int.lt_irrefl, ↓reduceIte, e, w1 hi (show n ≤ 9223372036854775807 by omega)]
            exact ih)
        (fun m hm ihm => by
          refine Ev.shift ?_
          have d1 : (m : Int) < (w.length : Int) := by omega
          have d0 : (0 : Int) ≤ (i : Int) := by omega
          have d2 : (i : Int) < ((filled (swl n w) 0 i).length : Int) := by omega
          simp only [impl_votes_swings.l1, d1, ↓reduceIte, impl_votes_isSwing.eq n w m i hw hn hm hi, Option.bind_some, List.length_set, d0, d2, w1 hm (show 2 ^ n ≤ 9223372036854775807 by omega), rd_nat, Int.toNat_natCast, List.set_set]
          rw [List.range_succ, List.countP_append, List.countP_singleton] at ihm
          have hc : (List.range m).countP (swing w i) ≤ m := by
            have := List.countP_le_length (p := swing w i) (l := List.range m)
            rwa [List.length_range] at this
          cases hs : swing w i m with
          | true =>
            have eg : ((filled (swl n w) 0 i).set i (((List.range m).countP (swing w i) : Nat) : Int)).getD i 0 = (((List.range m).countP (swing w i) : Nat) : Int) := by
              rw [List.getD_eq_getElem?_getD, List.getElem?_set_self (by omega)]; rfl
            simp only [hs, ↓reduceIte] at ihm
            simp only [↓reduceIte, eg]
            rw [show wrap64 ((((List.range m).countP (swing w i) : Nat) : Int) + 1) = (((List.range m).countP (swing w i) + 1 : Nat) : Int) by rw [w64 (by omega) (by omega)]; omega]
            exact ihm
          | false =>
            simp only [hs, Bool.false_eq_true, ↓reduceIte, Nat.add_zero] at ihm
            simp only [Bool.false_eq_true, ↓reduceIte]
            exact ihm)
      refine Ev.shift ?_
      have d1 : (i : Int) < (n : Int) := by omega
      simp only [impl_votes_swings.l0, d1, ↓reduceIte]
      have i0 := inner 0 (Nat.zero_le _)
      have e0 : (filled (swl n w) 0 i).set i 0 = filled (swl n w) 0 i := by
        apply List.ext_getElem?
        intro j
        rw [List.getElem?_set]
        split
        · rename_i h; subst h
          rw [if_pos (by omega)]
          unfold filled
          rw [List.getElem?_append_right (by simp; omega), List.getElem?_replicate]
          rw [if_pos (by simp; omega)]
        · rfl
      rw [List.range_zero, List.countP_nil] at i0
      simp only [Int.natCast_zero, e0] at i0
      exact i0)
  have := key 0 (Nat.zero_le _)
  rw [filled_zero, sl] at this
  exact this
end Go.Proofs.Ythkbaolpiigioaa.P

/- Weights of a set, by bits. -/
namespace Go.Proofs.Ythkbaolpiigioaa.P
open Go.RowKit Go.Proofs.YthkbaolpiigioaaW.PrintWords Go.Proofs.YthkbaolpiigioaaW.PrintLast Go.Proofs.YthkbaolpiigioaaW.PrintMore
theorem spec_voWeight.ev (q : Int) (l : List Int) (b : Nat) (h : ∀ x ∈ l, 0 ≤ x ∧ x ≤ 1000) (hl : l.length ≤ 64) : Ev (fun k => spec_voWeight.f k q l (b : Int)) (wt l b) := by
  have key := back (P := fun i => ∀ s : Int, 0 ≤ s → s ≤ 1000 * i → Ev (fun k => spec_voWeight.l0 k (b : Int) s l (l.length : Int) (i : Int)) (s + wt (l.drop i) (b / 2 ^ i))) l.length
    (by intro s h0 h1
        refine Ev.shift ?_
        simp only [spec_voWeight.l0, Int.lt_irrefl, ↓reduceIte, List.drop_length, wt, Int.add_zero]
        exact Ev.some)
    (by intro i hi ih s h0 h1
        refine Ev.shift ?_
        have c1 : (i : Int) < (l.length : Int) := by omega
        have c0 : (0 : Int) ≤ (i : Int) := by omega
        have hx := h _ (getD_mem l 0 i hi)
        simp only [spec_voWeight.l0, c1, c0, ↓reduceIte, shr_nat b i (by omega), tmod_two, w1 hi (show l.length ≤ 9223372036854775807 by omega), rd_nat]
        rw [drop_getD l 0 i hi, wt, Nat.div_div_eq_div_mul, show (2 ^ i * 2 : Nat) = 2 ^ (i + 1) from rfl]
        by_cases hbit : b / 2 ^ i % 2 = 1
        · have hbit' : ((b / 2 ^ i % 2 : Nat) : Int) = 1 := by omega
          simp only [hbit, hbit', ↓reduceIte]
          rw [w64 (by omega) (by omega)]
          refine Ev.eq (ih _ (by omega) (by omega)) (by omega)
        · have hbit' : ¬ ((b / 2 ^ i % 2 : Nat) : Int) = 1 := by omega
          simp only [hbit, hbit', ↓reduceIte]
          refine Ev.eq (ih _ (by omega) (by omega)) (by omega))
  have := key 0 (Nat.zero_le _) 0 (by omega) (by omega)
  unfold spec_voWeight.f
  rw [List.drop_zero, Nat.pow_zero, Nat.div_one, Int.zero_add] at this
  exact this
end Go.Proofs.Ythkbaolpiigioaa.P

/- All members, by bits. -/
namespace Go.Proofs.Ythkbaolpiigioaa.P
open Go.RowKit Go.Proofs.YthkbaolpiigioaaW.PrintWords Go.Proofs.YthkbaolpiigioaaW.PrintLast Go.Proofs.YthkbaolpiigioaaW.PrintMore
theorem spec_voAll.eq (n : Nat) (hn : n < 63) : spec_voAll.f (n : Int) = some ((2 ^ n - 1 : Nat) : Int) := by
  have c0 : (0 : Int) ≤ (n : Int) := by omega
  have h1 := pow63 hn
  have h2 : 0 < 2 ^ n := Nat.two_pow_pos n
  unfold spec_voAll.f
  rw [if_pos c0, shl_one n hn, w64 (by omega) (by omega)]
  congr 1
  omega
end Go.Proofs.Ythkbaolpiigioaa.P

/- The votes of a committee. -/
namespace Go.Proofs.Ythkbaolpiigioaa.P
open Go.RowKit Go.Proofs.YthkbaolpiigioaaW.PrintWords Go.Proofs.YthkbaolpiigioaaW.PrintLast Go.Proofs.YthkbaolpiigioaaW.PrintMore
theorem spec_voWins.ev' (q : Int) (l : List Int) (h : ∀ x ∈ l, 0 ≤ x ∧ x ≤ 1000) (hl : l.length ≤ 40) : Ev (fun k => spec_voWins.f k q l) (tab l.length (fun b => decide (wt l b ≥ q))) := by
  have h40 : 2 ^ l.length ≤ 1099511627776 := pow_small hl
  have hp := Nat.two_pow_pos l.length
  have tl := tab_len l.length (fun b => decide (wt l b ≥ q))
  generalize ht : tab l.length (fun b => decide (wt l b ≥ q)) = t at tl ⊢
  have key := Ev.down (G := fun i k => spec_voWins.l0 k (t.take i) (i : Int) q l) (R := fun _ => t) (2 ^ l.length)
    (by refine Ev.shift ?_
        have c : ¬ (((2 ^ l.length : Nat) : Int) ≤ ((2 ^ l.length - 1 : Nat) : Int)) := by omega
        simp only [spec_voWins.l0, spec_voAll.eq l.length (by omega), Option.bind_some, c, ↓reduceIte]
        rw [← tl, List.take_length]
        exact Ev.some)
    (fun i hi ih => by
        refine Ev.shift ?_
        have c : (i : Int) ≤ ((2 ^ l.length - 1 : Nat) : Int) := by omega
        simp only [spec_voWins.l0, spec_voAll.eq l.length (by omega), Option.bind_some, c, ↓reduceIte]
        refine Ev.bind (spec_voWeight.ev q l i h (by omega)) ?_
        have c2 : (t.take i).length < 140737488355328 := by rw [List.length_take]; omega
        have e : t.take i ++ [decide (wt l i ≥ q)] = t.take (i + 1) := by
          rw [take_getD t false i (by omega), ← ht, tab_get _ _ i hi]
        simp only [c2, ↓reduceIte, w1 hi (show 2 ^ l.length ≤ 9223372036854775807 by omega), e]
        exact ih)
  exact key 0 (Nat.zero_le _)
end Go.Proofs.Ythkbaolpiigioaa.P

/- How many swings each member has. -/
namespace Go.Proofs.Ythkbaolpiigioaa.P
open Go.RowKit Go.Proofs.YthkbaolpiigioaaW.PrintWords Go.Proofs.YthkbaolpiigioaaW.PrintLast Go.Proofs.YthkbaolpiigioaaW.PrintMore
theorem spec_pwSwings.ev (n : Nat) (w : List Bool) (i : Nat) (hw : w.length = 2 ^ n) (hn : n ≤ 40) (hi : i < n) : Ev (fun k => spec_pwSwings.f k w (i : Int)) (((List.range (2 ^ n)).filter (swing w i)).map fun m : Nat => (m : Int)) := by
  have h40 : 2 ^ n ≤ 1099511627776 := pow_small hn
  have c0 : (0 : Int) ≤ (i : Int) := by omega
  have key := back (P := fun m => Ev (fun k => spec_pwSwings.l0 k w (i : Int) (((List.range m).filter (swing w i)).map fun m : Nat => (m : Int)) w (w.length : Int) (m : Int)) (((List.range (2 ^ n)).filter (swing w i)).map fun m : Nat => (m : Int))) (2 ^ n)
    (by refine Ev.shift ?_
        simp only [spec_pwSwings.l0, hw, Int.lt_irrefl, ↓reduceIte]
        exact Ev.some)
    (fun m hm ih => by
      refine Ev.shift ?_
      have d1 : (m : Int) < (w.length : Int) := by omega
      have d0 : (0 : Int) ≤ (m : Int) := by omega
      rw [List.range_succ, List.filter_append, List.map_append] at ih
      have hc : (((List.range m).filter (swing w i)).map fun m : Nat => (m : Int)).length < 17592186044416 := by
        have := List.length_filter_le (swing w i) (List.range m)
        rw [List.length_range] at this
        rw [List.length_map]; omega
      have hp : 2 ^ i < 2 ^ 63 := Nat.pow_lt_pow_right (by omega) (by omega)
      simp only [spec_pwSwings.l0, d1, d0, c0, ↓reduceIte, shr_nat m i (by omega), tmod_two, rdB_nat, shl_one i (by omega), w1 hm (show 2 ^ n ≤ 9223372036854775807 by omega)]
      have off : swing w i m = false → Ev (fun k => spec_pwSwings.l0 k w (i : Int) (((List.range m).filter (swing w i)).map fun m : Nat => (m : Int)) w (w.length : Int) ((m + 1 : Nat) : Int)) (((List.range (2 ^ n)).filter (swing w i)).map fun m : Nat => (m : Int)) := by
        intro hs
        rw [List.filter_cons_of_neg (by simp [hs]), List.filter_nil, List.map_nil, List.append_nil] at ih
        exact ih
      have on : swing w i m = true → Ev (fun k => spec_pwSwings.l0 k w (i : Int) ((((List.range m).filter (swing w i)).map fun m : Nat => (m : Int)) ++ [(m : Int)]) w (w.length : Int) ((m + 1 : Nat) : Int)) (((List.range (2 ^ n)).filter (swing w i)).map fun m : Nat => (m : Int)) := by
        intro hs
        rw [List.filter_cons_of_pos hs, List.filter_nil] at ih
        exact ih
      cases hb : m.testBit i with
      | true =>
        rw [bit_nat, decide_eq_true_eq] at hb
        have hb' : ¬ ((m / 2 ^ i % 2 : Nat) : Int) = 0 := by omega
        simp only [hb', ↓reduceIte]
        exact off (by unfold swing; rw [bit_nat, hb]; rfl)
      | false =>
        have hlt := with_lt hm hi hb
        have hpos := Nat.two_pow_pos i
        have hb0 := hb
        rw [bit_nat, decide_eq_false_iff_not] at hb
        have hb' : ((m / 2 ^ i % 2 : Nat) : Int) = 0 := by omega
        simp only [hb', ↓reduceIte]
        cases h1 : w.getD m false with
        | true =>
          simp only [↓reduceIte]
          exact off (by unfold swing; rw [hb0, h1]; rfl)
        | false =>
          have ew : wrap64 ((m : Int) + ((2 ^ i : Nat) : Int)) = ((m + 2 ^ i : Nat) : Int) := by rw [w64 (by omega) (by omega)]; omega
          have d3 : (0 : Int) ≤ ((m + 2 ^ i : Nat) : Int) := by omega
          have d4 : ((m + 2 ^ i : Nat) : Int) < (w.length : Int) := by omega
          simp only [Bool.false_eq_true, ↓reduceIte, ew, d3, d4, rdB_nat, hc]
          cases h2 : w.getD (m + 2 ^ i) false with
          | true =>
            simp only [↓reduceIte]
            exact on (by unfold swing; rw [hb0, h1, h2]; rfl)
          | false =>
            simp only [Bool.false_eq_true, ↓reduceIte]
            exact off (by unfold swing; rw [hb0, h1, h2]; rfl))
  exact key 0 (Nat.zero_le _)
theorem spec_pwCounts.ev (n : Nat) (w : List Bool) (hw : w.length = 2 ^ n) (hn : n ≤ 40) : Ev (fun k => spec_pwCounts.f k w (n : Int)) (swl n w) := by
  have sl := swl_len n w
  have key := back (P := fun i => Ev (fun k => spec_pwCounts.l0 k w (n : Int) ((swl n w).take i) (i : Int)) (swl n w)) n
    (by refine Ev.shift ?_
        have : (swl n w).take n = swl n w := by rw [List.take_of_length_le (by omega)]
        simp only [spec_pwCounts.l0, Int.lt_irrefl, ↓reduceIte, this]
        exact Ev.some)
    (fun i hi ih => by
      refine Ev.shift ?_
      have d1 : (i : Int) < (n : Int) := by omega
      simp only [spec_pwCounts.l0, d1, ↓reduceIte]
      refine Ev.bind (spec_pwSwings.ev n w i hw hn hi) ?_
      have hc : ((swl n w).take i).length < 17592186044416 := by rw [List.length_take]; omega
      have e : (swl n w).take i ++ [(((((List.range (2 ^ n)).filter (swing w i)).map fun m : Nat => (m : Int)).length : Nat) : Int)] = (swl n w).take (i + 1) := by
        rw [take_getD (swl n w) 0 i (by omega), swl_get n w i hi, List.length_map, List.countP_eq_length_filter]
      simp only [hc, ↓reduceIte, e, w1 hi (show n ≤ 9223372036854775807 by omega)]
      exact ih)
  exact key 0 (Nat.zero_le _)
end Go.Proofs.Ythkbaolpiigioaa.P

/- Swings as powers: what some members have together, and what they gain. -/
namespace Go.Proofs.Ythkbaolpiigioaa.P
open Go.RowKit Go.Proofs.YthkbaolpiigioaaW.PrintWords Go.Proofs.YthkbaolpiigioaaW.PrintLast Go.Proofs.YthkbaolpiigioaaW.PrintMore
/-- The swings of a committee's members. -/
def sw (q : Int) (l : List Int) : List Int := swl l.length (tab l.length (cwin q l))
theorem sw_len (q : Int) (l : List Int) : (sw q l).length = l.length := swl_len _ _
theorem sw_mem (q : Int) (l : List Int) (h : l.length ≤ 9) : ∀ x ∈ sw q l, 0 ≤ x ∧ x ≤ 1000 := by
  intro x hx
  simp only [sw, swl, List.mem_map, List.mem_range] at hx
  obtain ⟨i, _, rfl⟩ := hx
  have h1 := List.countP_le_length (p := swing (tab l.length (cwin q l)) i) (l := List.range (2 ^ l.length))
  rw [List.length_range] at h1
  have h2 : 2 ^ l.length ≤ 512 := pow_small (m := 9) h
  omega
/-- What some members have together. -/
def osum (p s : List Int) : Int := (s.map fun k => p.getD k.toNat 0).sum
theorem osum_bounds (p s : List Int) (hp : ∀ x ∈ p, 0 ≤ x ∧ x ≤ 1000) : 0 ≤ osum p s ∧ osum p s ≤ 1000 * s.length := by
  induction s with
  | nil => simp [osum]
  | cons x s ih =>
    have h : 0 ≤ p.getD x.toNat 0 ∧ p.getD x.toNat 0 ≤ 1000 := by
      by_cases h : x.toNat < p.length
      · exact hp _ (getD_mem p 0 _ h)
      · rw [List.getD_eq_getElem?_getD, List.getElem?_eq_none (by omega)]; simp
    have e : osum p (x :: s) = p.getD x.toNat 0 + osum p s := by simp [osum]
    rw [e, List.length_cons]
    omega
theorem osum_from (p s : List Int) (i : Nat) (hi : i < s.length) : osum p (s.drop i) = p.getD (s.getD i 0).toNat 0 + osum p (s.drop (i + 1)) := by
  rw [drop_getD s 0 i hi]; simp [osum]
theorem impl_powers_of.ev (p : List Int) (t : Int) (s : List Int) (hp : ∀ x ∈ p, 0 ≤ x ∧ x ≤ 1000) (hs : ∀ x ∈ s, 0 ≤ x ∧ x < (p.length : Int)) (hl : s.length ≤ 1048576) : Ev (fun k => impl_powers_of.f k p t s) (osum p s) := by
  unfold impl_powers_of.f
  have key := back (P := fun i => ∀ a : Int, 0 ≤ a → a ≤ 1000 * i → Ev (fun k => impl_powers_of.l0 k a s (s.length : Int) (i : Int) p t) (a + osum p (s.drop i))) s.length
    (by intro a h0 h1
        refine Ev.shift ?_
        simp only [impl_powers_of.l0, Int.lt_irrefl, ↓reduceIte, List.drop_length]
        exact Ev.eq Ev.some (by simp [osum]))
    (by intro i hi ih a h0 h1
        refine Ev.shift ?_
        have c1 : (i : Int) < (s.length : Int) := by omega
        have c0 : (0 : Int) ≤ (i : Int) := by omega
        have hx := hs _ (getD_mem s 0 i hi)
        obtain ⟨j, hj⟩ : ∃ j : Nat, s.getD i 0 = (j : Int) := ⟨(s.getD i 0).toNat, by omega⟩
        rw [hj] at hx
        have hpj := hp _ (getD_mem p 0 j (by omega))
        rw [osum_from p s i hi, hj, Int.toNat_natCast]
        simp only [impl_powers_of.l0, c1, c0, ↓reduceIte, rd_nat, hj, hx.1, hx.2, w1 hi (show s.length ≤ 9223372036854775807 by omega)]
        rw [w64 (by omega) (by omega)]
        exact Ev.eq (ih _ (by omega) (by omega)) (by omega))
  have := key 0 (Nat.zero_le _) 0 (by omega) (by omega)
  rw [List.drop_zero, Int.zero_add] at this
  exact this
def gainV (a b x y : Int) : Int := cmpI (x * b) (a * y)
theorem mul_b {x y : Int} (hx : 0 ≤ x) (hx' : x ≤ 1048576000) (hy : 0 ≤ y) (hy' : y ≤ 1048576000) : 0 ≤ x * y ∧ x * y ≤ 1099511627776000000 := by
  refine ⟨Int.mul_nonneg hx hy, ?_⟩
  calc x * y ≤ 1048576000 * 1048576000 := Int.mul_le_mul hx' hy' hy (by decide)
    _ ≤ _ := by decide
theorem impl_gain.ev (p : List Int) (b : Int) (s p' : List Int) (b' : Int) (s' : List Int) (hp : ∀ x ∈ p, 0 ≤ x ∧ x ≤ 1000) (hs : ∀ x ∈ s, 0 ≤ x ∧ x < (p.length : Int)) (hl : s.length ≤ 1048576)
    (hp' : ∀ x ∈ p', 0 ≤ x ∧ x ≤ 1000) (hs' : ∀ x ∈ s', 0 ≤ x ∧ x < (p'.length : Int)) (hl' : s'.length ≤ 1048576) (hb : 0 ≤ b ∧ b ≤ 1048576000) (hb' : 0 ≤ b' ∧ b' ≤ 1048576000) :
    Ev (fun k => impl_gain.f k p b s p' b' s') (gainV (osum p s) b (osum p' s') b') := by
  have h1 := osum_bounds p s hp
  have h2 := osum_bounds p' s' hp'
  have m1 := mul_b h2.1 (by omega) hb.1 hb.2
  have m2 := mul_b h1.1 (by omega) hb'.1 hb'.2
  unfold impl_gain.f gainV
  refine Ev.bind (impl_powers_of.ev p' b' s' hp' hs' hl') ?_
  refine Ev.bind (impl_powers_of.ev p b s hp hs hl) ?_
  rw [w64 (by omega) (by omega), w64 (by omega) (by omega)]
  exact Ev.bind (Ev.one (cmp_Compare_int.eq _ _)) Ev.some
theorem spec_unGain.eq (a b x y : Int) (ha : 0 ≤ a ∧ a ≤ 1048576000) (hb : 0 ≤ b ∧ b ≤ 1048576000) (hx : 0 ≤ x ∧ x ≤ 1048576000) (hy : 0 ≤ y ∧ y ≤ 1048576000) : spec_unGain.f a b x y = some (gainV a b x y) := by
  have m1 := mul_b hx.1 hx.2 hb.1 hb.2
  have m2 := mul_b ha.1 ha.2 hy.1 hy.2
  unfold spec_unGain.f spec_l1Sign.f gainV cmpI
  generalize x * b = u at m1 ⊢
  generalize a * y = v at m2 ⊢
  rw [w64 (x := u) (by omega) (by omega), w64 (x := v) (by omega) (by omega), w64 (by omega) (by omega)]
  by_cases h1 : u - v > 0
  · rw [if_pos h1, if_neg (by omega), if_pos (by omega)]; rfl
  · rw [if_neg h1]
    by_cases h2 : u - v < 0
    · rw [if_pos h2, if_pos (by omega)]; rfl
    · rw [if_neg h2, if_neg (by omega), if_neg (by omega)]; rfl
theorem sw_sum (q : Int) (l : List Int) (h : l.length ≤ 9) : 0 ≤ (sw q l).sum ∧ (sw q l).sum ≤ 9000 := by
  have := sum_bounds (sw q l) (sw_mem q l h)
  rw [sw_len] at this
  omega
theorem spec_unSwings.ev (q : Int) (l s : List Int) (h : isComm q l = true) (hs : ∀ x ∈ s, 0 ≤ x ∧ x < (l.length : Int)) (hl : s.length ≤ 1048576) : Ev (fun k => spec_unSwings.f k q l s) (osum (sw q l) s, (sw q l).sum) := by
  have hlen := isComm_len h
  have hp := sw_mem q l hlen.2
  have hpl := sw_len q l
  unfold spec_unSwings.f
  refine Ev.bind (spec_voWins.ev' q l (isComm_mem h) (by omega)) ?_
  refine Ev.bind (spec_pwCounts.ev l.length _ (tab_len _ _) (by omega)) ?_
  have e : swl l.length (tab l.length (fun b => decide (wt l b ≥ q))) = sw q l := rfl
  rw [e]
  generalize sw q l = p at hp hpl ⊢
  have key := back (P := fun i => ∀ a : Int, 0 ≤ a → a ≤ 1000 * i → Ev (fun k => spec_unSwings.l0 k p a s (s.length : Int) (i : Int)) (a + osum p (s.drop i), p.sum)) s.length
    (by intro a h0 h1
        refine Ev.shift ?_
        simp only [spec_unSwings.l0, Int.lt_irrefl, ↓reduceIte, List.drop_length]
        refine Ev.bind (spec_voSum.ev p (by omega)) ?_
        rw [wsum_eq p hp (by omega)]
        exact Ev.eq Ev.some (by simp [osum]))
    (by intro i hi ih a h0 h1
        refine Ev.shift ?_
        have c1 : (i : Int) < (s.length : Int) := by omega
        have c0 : (0 : Int) ≤ (i : Int) := by omega
        have hx := hs _ (getD_mem s 0 i hi)
        obtain ⟨j, hj⟩ : ∃ j : Nat, s.getD i 0 = (j : Int) := ⟨(s.getD i 0).toNat, by omega⟩
        rw [hj] at hx
        have hpj := hp _ (getD_mem p 0 j (by omega))
        have d1 : (j : Int) < (p.length : Int) := by omega
        rw [osum_from p s i hi, hj, Int.toNat_natCast]
        simp only [spec_unSwings.l0, c1, c0, ↓reduceIte, rd_nat, hj, hx.1, d1, w1 hi (show s.length ≤ 9223372036854775807 by omega)]
        rw [w64 (by omega) (by omega)]
        refine Ev.eq (ih _ (by omega) (by omega)) ?_
        rw [Int.add_assoc])
  have := key 0 (Nat.zero_le _) 0 (by omega) (by omega)
  rw [List.drop_zero, Int.zero_add] at this
  exact this
end Go.Proofs.Ythkbaolpiigioaa.P

/- A committee has a swing. -/
namespace Go.Proofs.Ythkbaolpiigioaa.P
open Go.RowKit Go.Proofs.YthkbaolpiigioaaW.PrintWords Go.Proofs.YthkbaolpiigioaaW.PrintLast Go.Proofs.YthkbaolpiigioaaW.PrintMore
theorem wtS_zero (l : List Int) : wt l 0 = 0 := by
  induction l with
  | nil => rfl
  | cons x l ih => rw [wt, Nat.zero_div, ih]; rfl
theorem wtS_full (l : List Int) (i : Nat) (hi : i ≤ l.length) : wt l (2 ^ i - 1) = (l.take i).sum := by
  induction l generalizing i with
  | nil => simp [wt]
  | cons x l ih =>
    cases i with
    | zero => exact wtS_zero _
    | succ i =>
      have hp : 0 < 2 ^ i := Nat.two_pow_pos i
      have e1 : (2 ^ (i + 1) - 1) % 2 = 1 := by rw [Nat.pow_succ]; omega
      have e2 : (2 ^ (i + 1) - 1) / 2 = 2 ^ i - 1 := by rw [Nat.pow_succ]; omega
      rw [wt, e1, e2, if_pos rfl, ih i (by simp at hi; omega), List.take_succ_cons, List.sum_cons]
theorem sum_ge_mem (p : List Int) (hp : ∀ x ∈ p, 0 ≤ x) (x : Int) (hx : x ∈ p) : x ≤ p.sum := by
  induction p with
  | nil => cases hx
  | cons y p ih =>
    have h0 : 0 ≤ p.sum := by
      clear ih hx
      induction p with
      | nil => simp
      | cons z p ih2 =>
        have := hp z (by simp)
        have := ih2 (fun w hw => hp w (by simp only [List.mem_cons] at hw ⊢; rcases hw with h | h <;> simp [h]))
        rw [List.sum_cons]; omega
    have := hp y (by simp)
    rw [List.sum_cons]
    rcases List.mem_cons.1 hx with rfl | hx
    · omega
    · have := ih (fun w hw => hp w (by simp [hw])) hx
      omega
theorem sw_pos (q : Int) (l : List Int) (h : isComm q l = true) : 0 < (sw q l).sum := by
  have hlen := isComm_len h
  have hq := isComm_q h
  have hex : ∃ i, i < l.length ∧ cwin q l (2 ^ i - 1) = false ∧ cwin q l (2 ^ (i + 1) - 1) = true := by
    refine Classical.byContradiction fun hn => ?_
    have key : ∀ j, j ≤ l.length → cwin q l (2 ^ j - 1) = false := by
      intro j
      induction j with
      | zero =>
        intro _
        have : wt l (2 ^ 0 - 1) = 0 := wtS_zero l
        simp only [cwin, this, decide_eq_false_iff_not]
        omega
      | succ j ih =>
        intro hj
        cases hc : cwin q l (2 ^ (j + 1) - 1) with
        | false => rfl
        | true => exact absurd ⟨j, by omega, ih (by omega), hc⟩ hn
    have h1 := key l.length (Nat.le_refl _)
    have h2 := wtS_full l l.length (Nat.le_refl _)
    rw [List.take_length] at h2
    simp only [cwin, h2, decide_eq_false_iff_not] at h1
    omega
  obtain ⟨i, hi, h1, h2⟩ := hex
  have hp : 0 < 2 ^ i := Nat.two_pow_pos i
  have hlt : 2 ^ (i + 1) ≤ 2 ^ l.length := Nat.pow_le_pow_right (by omega) (by omega)
  have e : 2 ^ i - 1 + 2 ^ i = 2 ^ (i + 1) - 1 := by rw [Nat.pow_succ]; omega
  have hs : swing (tab l.length (cwin q l)) i (2 ^ i - 1) = true := by
    unfold swing
    rw [e, tab_get _ _ _ (by omega), tab_get _ _ _ (by omega), h1, h2, Nat.testBit_lt_two_pow (by omega)]
    rfl
  have hc : 0 < (List.range (2 ^ l.length)).countP (swing (tab l.length (cwin q l)) i) := List.countP_pos_iff.2 ⟨2 ^ i - 1, List.mem_range.2 (by omega), hs⟩
  have hm : ((((List.range (2 ^ l.length)).countP (swing (tab l.length (cwin q l)) i) : Nat) : Int)) ∈ sw q l := by
    unfold sw swl
    exact List.mem_map.2 ⟨i, List.mem_range.2 hi, rfl⟩
  have := sum_ge_mem (sw q l) (fun x hx => (sw_mem q l hlen.2 x hx).1) _ hm
  omega
end Go.Proofs.Ythkbaolpiigioaa.P

/- The swings of a committee, and all of them together. -/
namespace Go.Proofs.Ythkbaolpiigioaa.P
open Go.RowKit Go.Proofs.YthkbaolpiigioaaW.PrintWords Go.Proofs.YthkbaolpiigioaaW.PrintLast Go.Proofs.YthkbaolpiigioaaW.PrintMore
theorem impl_bySwings.ev (q : Int) (l : List Int) (h : isComm q l = true) : Ev (fun k => impl_bySwings.f k q l) (sw q l, (sw q l).sum) := by
  have hlen := isComm_len h
  unfold impl_bySwings.f
  refine Ev.bind (impl_Committee_votes.ev q l (isComm_mem h) (by omega)) ?_
  refine Ev.bind (impl_votes_swings.ev l.length _ (tab_len _ _) (by omega)) ?_
  have e : swl l.length (tab l.length (cwin q l)) = sw q l := rfl
  simp only [e]
  refine Ev.bind (impl_sumOf.ev _ (by rw [sw_len]; omega)) ?_
  rw [wsum_eq _ (sw_mem q l hlen.2) (by rw [sw_len]; omega)]
  exact Ev.some
end Go.Proofs.Ythkbaolpiigioaa.P

/- Shares in lowest terms. -/
namespace Go.Proofs.Ythkbaolpiigioaa.P
open Go.RowKit Go.Proofs.YthkbaolpiigioaaW.PrintWords Go.Proofs.YthkbaolpiigioaaW.PrintLast Go.Proofs.YthkbaolpiigioaaW.PrintMore
theorem tmodN (a b : Nat) : Int.tmod (a : Int) (b : Int) = ((a % b : Nat) : Int) := by rw [Int.tmod_eq_emod_of_nonneg (by omega)]; exact (Int.natCast_emod _ _).symm
theorem tdivN (a b : Nat) : Int.tdiv (a : Int) (b : Int) = ((a / b : Nat) : Int) := by rw [Int.tdiv_eq_ediv_of_nonneg (by omega)]; exact (Int.natCast_ediv _ _).symm
theorem gcd_step (a b : Nat) : Nat.gcd b (a % b) = Nat.gcd a b := by rw [Nat.gcd_comm b, ← Nat.gcd_rec, Nat.gcd_comm]
theorem impl_gcd.ev (a b : Nat) : Ev (fun k => impl_gcd.f k (a : Int) (b : Int)) ((Nat.gcd a b : Nat) : Int) := by
  unfold impl_gcd.f
  induction b using Nat.strongRecOn generalizing a with
  | _ b ih =>
    refine Ev.shift ?_
    by_cases hb : b = 0
    · subst hb
      simp only [impl_gcd.l0, Int.natCast_zero, ↓reduceIte, Nat.gcd_zero_right]
      exact Ev.some
    · have c : ¬ (b : Int) = 0 := by omega
      simp only [impl_gcd.l0, c, ↓reduceIte, tmodN]
      exact Ev.eq (ih (a % b) (Nat.mod_lt _ (by omega)) b) (congrArg _ (gcd_step a b))
theorem spec_pwCommon.ev (a b : Nat) : Ev (fun k => spec_pwCommon.f k (a : Int) (b : Int)) ((Nat.gcd a b : Nat) : Int) := by
  unfold spec_pwCommon.f
  induction b using Nat.strongRecOn generalizing a with
  | _ b ih =>
    refine Ev.shift ?_
    by_cases hb : b = 0
    · subst hb
      have c : ¬ ((0 : Nat) : Int) > 0 := by omega
      simp only [spec_pwCommon.l0, c, ↓reduceIte, Nat.gcd_zero_right]
      exact Ev.some
    · have c : ¬ (b : Int) = 0 := by omega
      have c2 : (b : Int) > 0 := by omega
      simp only [spec_pwCommon.l0, c, c2, ↓reduceIte, tmodN]
      exact Ev.eq (ih (a % b) (Nat.mod_lt _ (by omega)) b) (congrArg _ (gcd_step a b))
theorem wN (x : Nat) (h : x ≤ 1099511627776) : wrap64 (x : Int) = (x : Int) := w64 (by omega) (by omega)
/-- A share in lowest terms. -/
def shareN (n d : Nat) : Int × Int := (((n / Nat.gcd n d : Nat) : Int), ((d / Nat.gcd n d : Nat) : Int))
theorem impl_shareOf.ev (n d : Nat) (hd : 0 < d) (hn : n ≤ 1099511627776) (hd2 : d ≤ 1099511627776) : Ev (fun k => impl_shareOf.f k (n : Int) (d : Int)) (shareN n d) := by
  have hg : 0 < Nat.gcd n d := Nat.gcd_pos_of_pos_right n hd
  have h1 := Nat.div_le_self n (Nat.gcd n d)
  have h2 := Nat.div_le_self d (Nat.gcd n d)
  unfold impl_shareOf.f shareN
  refine Ev.bind (impl_gcd.ev n d) ?_
  have c : ¬ ((Nat.gcd n d : Nat) : Int) = 0 := by omega
  simp only [c, ↓reduceIte, tdivN]
  rw [wN _ (Nat.le_trans h1 hn), wN _ (Nat.le_trans h2 hd2)]
  exact Ev.some
theorem spec_pwShare.ev (n d : Nat) (hd : 0 < d) (hn : n ≤ 1099511627776) (hd2 : d ≤ 1099511627776) : Ev (fun k => spec_pwShare.f k (n : Int) (d : Int)) (shareN n d) := by
  have hg : 0 < Nat.gcd n d := Nat.gcd_pos_of_pos_right n hd
  have h1 := Nat.div_le_self n (Nat.gcd n d)
  have h2 := Nat.div_le_self d (Nat.gcd n d)
  unfold spec_pwShare.f shareN
  refine Ev.bind (spec_pwCommon.ev n d) ?_
  have c : ¬ ((Nat.gcd n d : Nat) : Int) = 0 := by omega
  simp only [c, ↓reduceIte, tdivN]
  rw [wN _ (Nat.le_trans h1 hn), wN _ (Nat.le_trans h2 hd2)]
  exact Ev.some
end Go.Proofs.Ythkbaolpiigioaa.P

/- What marking a row, and looking at the marks, answers. -/
namespace Go.Proofs.Ythkbaolpiigioaa.P
open Go.RowKit Go.Proofs.YthkbaolpiigioaaW.PrintWords Go.Proofs.YthkbaolpiigioaaW.PrintLast Go.Proofs.YthkbaolpiigioaaW.PrintMore
theorem laws_markIntS.ev (l : List Int) (a : Int) (h0 : 0 ≤ a) (h1 : a ≤ 4000000000000000000) (hm : l.length ≤ 4000000000000000000) : Ev (fun k => laws_markIntS.f k l a) (a + (l.length : Int), marks a l.length) := by
  have hl : (marks a l.length).length = l.length := marks_len _ _
  have key := Ev.down (G := fun i k => laws_markIntS.l0 k (over (marks a l.length) l i) (a + (i : Int)) (i : Int)) (R := fun _ => (a + (l.length : Int), marks a l.length)) l.length
    (by refine Ev.shift ?_
        simp only [laws_markIntS.l0, over_all _ _ hl, hl, Int.lt_irrefl, ↓reduceIte]
        exact Ev.some)
    (fun i hi ih => by
        refine Ev.shift ?_
        have c1 : (i : Int) < ((over (marks a l.length) l i).length : Int) := by rw [over_len _ _ _ hl]; omega
        have c0 : (0 : Int) ≤ (i : Int) := by omega
        have e1 : wrap64 (a + (i : Int) + 1) = a + ((i + 1 : Nat) : Int) := by rw [w64 (by omega) (by omega)]; omega
        have e2 : (over (marks a l.length) l i).set i (a + (i : Int)) = over (marks a l.length) l (i + 1) := by
          have := over_set (marks a l.length) l 0 i hl hi
          rwa [marks_get a l.length i hi] at this
        simp only [laws_markIntS.l0, c1, c0, ↓reduceIte, w1 hi (by omega), Int.toNat_natCast, e1, e2]
        exact ih)
  have := key 0 (Nat.zero_le _)
  rw [over_zero] at this
  unfold laws_markIntS.f
  simpa using this
theorem laws_heldIntS.ev (a : Int) (n : Nat) (h0 : 0 ≤ a) (h1 : a ≤ 4000000000000000000) (hm : n ≤ 4000000000000000000) : Ev (fun k => laws_heldIntS.f k (marks a n) a) (a + (n : Int)) := by
  have key := Ev.down (G := fun i k => laws_heldIntS.l0 k (marks a n) (a + (i : Int)) (i : Int)) (R := fun _ => a + (n : Int)) n
    (by refine Ev.shift ?_
        simp only [laws_heldIntS.l0, marks_len, Int.lt_irrefl, ↓reduceIte]
        exact Ev.some)
    (fun i hi ih => by
        refine Ev.shift ?_
        have c1 : (i : Int) < (n : Int) := by omega
        have c0 : (0 : Int) ≤ (i : Int) := by omega
        have e1 : wrap64 (a + (i : Int) + 1) = a + ((i + 1 : Nat) : Int) := by rw [w64 (by omega) (by omega)]; omega
        simp only [laws_heldIntS.l0, marks_len, c1, c0, ↓reduceIte, w1 hi (show n ≤ 9223372036854775807 by omega), rd_nat, marks_get a n i hi, e1]
        exact ih)
  have := key 0 (Nat.zero_le _)
  unfold laws_heldIntS.f
  simpa using this
end Go.Proofs.Ythkbaolpiigioaa.P

/- Marks of a committee. -/
namespace Go.Proofs.Ythkbaolpiigioaa.P
open Go.RowKit Go.Proofs.YthkbaolpiigioaaW.PrintWords Go.Proofs.YthkbaolpiigioaaW.PrintLast Go.Proofs.YthkbaolpiigioaaW.PrintMore
theorem laws_markCommittee.ev (q : Int) (l : List Int) (a : Int) (h0 : 0 ≤ a) (h1 : a ≤ 4000000000000000000) (hm : l.length ≤ 4000000000000000000) : Ev (fun k => laws_markCommittee.f k q l a) (a + (l.length : Int), marks a l.length) := by
  unfold laws_markCommittee.f
  exact Ev.bind (laws_markIntS.ev l a h0 h1 hm) Ev.some
end Go.Proofs.Ythkbaolpiigioaa.P

/- The pure statement of FnExactBestSplits. -/
namespace Go.Proofs.Ythkbaolpiigioaa.P
open Go.RowKit Go.Proofs.YthkbaolpiigioaaW.PrintWords Go.Proofs.YthkbaolpiigioaaW.PrintLast Go.Proofs.YthkbaolpiigioaaW.PrintMore
def spX (q : Int) (l : List Int) (i p : Nat) : Nat := (osum (sw q (splitL l i p)) [(i : Int), ((i + 1 : Nat) : Int)]).toNat
def spY (q : Int) (l : List Int) (i p : Nat) : Nat := (sw q (splitL l i p)).sum.toNat
def nextS (p x y : Nat) (s : List Int × Nat × Nat) : List Int × Nat × Nat :=
  if p = 0 ∨ s.2.1 * y < x * s.2.2 then ([(p : Int)], x, y) else if x * s.2.2 = s.2.1 * y then (s.1 ++ [(p : Int)], s.2) else s
def bs (X Y : Nat → Nat) : Nat → List Int × Nat × Nat
  | 0 => ([], 0, 1)
  | p + 1 => nextS p (X p) (Y p) (bs X Y p)
def bI (s : List Int × Nat × Nat) : Nat → Int × Int
  | 0 => (-1, 1)
  | _ + 1 => shareN s.2.1 s.2.2
theorem bs_ok (X Y : Nat → Nat) (N : Nat) (h : ∀ p, p < N → X p ≤ 9000 ∧ 0 < Y p ∧ Y p ≤ 9000) (p : Nat) (hp : p ≤ N) : (bs X Y p).1.length ≤ p ∧ (bs X Y p).2.1 ≤ 9000 ∧ 0 < (bs X Y p).2.2 ∧ (bs X Y p).2.2 ≤ 9000 := by
  induction p with
  | zero => exact ⟨by simp [bs], by simp [bs], by simp [bs], by simp [bs]⟩
  | succ p ih =>
    obtain ⟨h1, h2, h3, h4⟩ := ih (by omega)
    obtain ⟨g1, g2, g3⟩ := h p (by omega)
    rw [bs]
    unfold nextS
    split
    · exact ⟨by simp, g1, g2, g3⟩
    · split
      · exact ⟨by simp only [List.length_append, List.length_cons, List.length_nil]; omega, h2, h3, h4⟩
      · exact ⟨by omega, h2, h3, h4⟩
theorem cmpI_nat (a b : Nat) : cmpI (a : Int) (b : Int) = if a < b then -1 else if b < a then 1 else 0 := by
  unfold cmpI
  by_cases h1 : a < b
  · rw [if_pos (by omega), if_pos h1]
  · rw [if_neg (by omega), if_neg h1]
    by_cases h2 : b < a
    · rw [if_pos (by omega), if_pos h2]
    · rw [if_neg (by omega), if_neg h2]
theorem mul9 {x y : Nat} (hx : x ≤ 9000) (hy : y ≤ 9000) : x * y ≤ 81000000 := Nat.mul_le_mul hx hy
theorem cmp_share (x y n d : Nat) (hy : 0 < y) (hd : 0 < d) (b1 : x ≤ 9000) (b2 : y ≤ 9000) (b3 : n ≤ 9000) (b4 : d ≤ 9000) :
    impl_compare.f (shareN x y).1 (shareN x y).2 (shareN n d).1 (shareN n d).2 = some (if x * d < n * y then -1 else if n * y < x * d then 1 else 0) := by
  have hg : 0 < Nat.gcd x y := Nat.gcd_pos_of_pos_right x hy
  have hh : 0 < Nat.gcd n d := Nat.gcd_pos_of_pos_right n hd
  obtain ⟨x', ex⟩ := Nat.gcd_dvd_left x y
  obtain ⟨y', ey⟩ := Nat.gcd_dvd_right x y
  obtain ⟨n', en⟩ := Nat.gcd_dvd_left n d
  obtain ⟨d', ed⟩ := Nat.gcd_dvd_right n d
  unfold shareN
  generalize Nat.gcd x y = g at *
  generalize Nat.gcd n d = m at *
  have e1 : x / g = x' := by rw [ex, Nat.mul_div_cancel_left _ hg]
  have e2 : y / g = y' := by rw [ey, Nat.mul_div_cancel_left _ hg]
  have e3 : n / m = n' := by rw [en, Nat.mul_div_cancel_left _ hh]
  have e4 : d / m = d' := by rw [ed, Nat.mul_div_cancel_left _ hh]
  rw [e1, e2, e3, e4]
  have f1 := Nat.div_le_self x g
  have f2 := Nat.div_le_self y g
  have f3 := Nat.div_le_self n m
  have f4 := Nat.div_le_self d m
  rw [e1] at f1
  rw [e2] at f2
  rw [e3] at f3
  rw [e4] at f4
  have p1 := mul9 (x := x') (y := d') (by omega) (by omega)
  have p2 := mul9 (x := n') (y := y') (by omega) (by omega)
  have k1 : x * d = (x' * d') * (g * m) := by rw [ex, ed]; simp only [Nat.mul_comm, Nat.mul_left_comm, Nat.mul_assoc]
  have k2 : n * y = (n' * y') * (g * m) := by rw [en, ey]; simp only [Nat.mul_comm, Nat.mul_left_comm, Nat.mul_assoc]
  have hm : 0 < g * m := Nat.mul_pos hg hh
  unfold impl_compare.f
  have c1 : (x' : Int) * (d' : Int) = ((x' * d' : Nat) : Int) := (Int.natCast_mul _ _).symm
  have c2 : (n' : Int) * (y' : Int) = ((n' * y' : Nat) : Int) := (Int.natCast_mul _ _).symm
  rw [c1, c2, w64 (by omega) (by omega), w64 (by omega) (by omega), cmp_Compare_int.eq, cmpI_nat, k1, k2, Option.bind_some]
  simp only [Nat.mul_lt_mul_right hm]
theorem cmp_first (x y : Nat) (hy : 0 < y) (b1 : x ≤ 9000) (b2 : y ≤ 9000) : impl_compare.f (shareN x y).1 (shareN x y).2 (-1) 1 = some 1 := by
  have hg : 0 < Nat.gcd x y := Nat.gcd_pos_of_pos_right x hy
  have h1 : 0 < y / Nat.gcd x y := Nat.div_pos (Nat.le_of_dvd hy (Nat.gcd_dvd_right x y)) hg
  have f1 := Nat.div_le_self x (Nat.gcd x y)
  have f2 := Nat.div_le_self y (Nat.gcd x y)
  unfold impl_compare.f shareN
  generalize x / Nat.gcd x y = u at f1 ⊢
  generalize y / Nat.gcd x y = v at f2 h1 ⊢
  simp only
  rw [w64 (by omega) (by omega), w64 (by omega) (by omega), cmp_Compare_int.eq, Option.bind_some]
  unfold cmpI
  rw [if_neg (by omega), if_pos (by omega)]
def bestSp (q : Int) (l : List Int) (a : Int) : List Int × Bool := if part q l a 0 = true ∧ rd l a ≤ 20 then ((bs (spX q l a.toNat) (spY q l a.toNat) ((rd l a).toNat + 1)).1, true) else ([], false)
theorem part_up {q : Int} {l : List Int} {i : Nat} {p : Int} (h : part q l i 0 = true) (h0 : 0 ≤ p) (h1 : p ≤ rd l i) : part q l i p = true := by
  unfold part at h ⊢
  simp only [Bool.and_eq_true, inI, decide_eq_true_eq] at h ⊢
  exact ⟨h.1, ⟨h0, h1⟩, h.2.2⟩
theorem sp_ok {q : Int} {l : List Int} {i : Nat} (h : part q l i 0 = true) (p : Nat) (hp : (p : Int) ≤ rd l i) : isComm q (splitL l i p) = true ∧ (splitL l i p).length = l.length + 1 ∧ osum (sw q (splitL l i p)) [(i : Int), ((i + 1 : Nat) : Int)] = (spX q l i p : Int) ∧ (sw q (splitL l i p)).sum = (spY q l i p : Int) ∧ spX q l i p ≤ 9000 ∧ 0 < spY q l i p ∧ spY q l i p ≤ 9000 := by
  obtain ⟨hc, hl, j, ej, hi, _, _, _⟩ := part_at h
  obtain rfl : i = j := by omega
  have hc' : isComm q (splitL l i p) = true := by rw [splitL_comm q l i p hc hi (by omega) hp]; simpa using hl
  have hl2 := isComm_len hc'
  have s2 := sw_sum q _ hl2.2
  have o2 := osum_bounds (sw q (splitL l i p)) [(i : Int), ((i + 1 : Nat) : Int)] (sw_mem q _ hl2.2)
  simp only [List.length_cons, List.length_nil] at o2
  have h0 := sw_pos q _ hc'
  unfold spX spY
  exact ⟨hc', splitL_len l i p hi, by omega, by omega, by omega, by omega, by omega⟩
theorem bestSp_len (q : Int) (l : List Int) (a : Int) : (bestSp q l a).1.length ≤ 21 := by
  unfold bestSp
  split
  · rename_i h
    obtain ⟨hc, hl, i, rfl, hi, h0, h1, h2⟩ := part_at h.1
    rw [Int.toNat_natCast]
    have := (bs_ok (spX q l i) (spY q l i) ((rd l i).toNat + 1) (fun p hp => (sp_ok h.1 p (by omega)).2.2.2.2) _ (Nat.le_refl _)).1
    simp only; omega
  · simp
theorem wS (n : Nat) (h : n ≤ 100) : wrap64 ((n : Int) + 1) = ((n + 1 : Nat) : Int) := by rw [w64 (by omega) (by omega)]; omega
theorem impl_BestSplits.step (q : Int) (l : List Int) (i j N : Nat) (out : List Int) (n d x y : Nat) (b : Int × Int) (r : List Int × Bool) (hm : l.length ≤ 9223372036854775807) (hp : part q l i j = true) (hcj : isComm q (splitL l i j) = true) (hnj : (splitL l i j).length = l.length + 1) (hi : i < l.length) (hjN : j < N) (hN : N ≤ 21)
    (eX : osum (sw q (splitL l i j)) [(i : Int), ((i + 1 : Nat) : Int)] = (x : Int)) (eY : (sw q (splitL l i j)).sum = (y : Int)) (bX : x ≤ 9000) (pY : 0 < y) (bY : y ≤ 9000) (hol : out.length ≤ 21) (hsn : n ≤ 9000) (hsd : 0 < d) (hsd2 : d ≤ 9000) (hb : (j = 0 ∧ b = (-1, 1)) ∨ (0 < j ∧ b = shareN n d))
    (ih : Ev (fun K => impl_BestSplits.l0 K (i : Int) (nextS j x y (out, n, d)).1 (N : Int) ((j + 1 : Nat) : Int) q l (shareN (nextS j x y (out, n, d)).2.1 (nextS j x y (out, n, d)).2.2).1 (shareN (nextS j x y (out, n, d)).2.1 (nextS j x y (out, n, d)).2.2).2) r) :
    Ev (fun K => impl_BestSplits.l0 K (i : Int) out (N : Int) (j : Int) q l b.1 b.2) r := by
  have hls := isComm_len hcj
  have hi9 : i ≤ 100 := by omega
  have hj9 : j ≤ 100 := by omega
  have hself : impl_compare.f (shareN x y).1 (shareN x y).2 (shareN x y).1 (shareN x y).2 = some 0 := by
    rw [cmp_share _ _ _ _ pY pY bX bY bX bY, if_neg (Nat.lt_irrefl _), if_neg (Nat.lt_irrefl _)]
  have c0 : (j : Int) < (N : Int) := by omega
  have i1 := impl_SplitMember.ev q l i j hm
  rw [show split q l i j = (q, splitL l i j, true) from if_pos hp] at i1
  have i2 := impl_bySwings.ev q _ hcj
  have i3 := impl_powers_of.ev (sw q (splitL l i j)) (sw q (splitL l i j)).sum [(i : Int), ((i + 1 : Nat) : Int)] (sw_mem q _ hls.2) (by rw [sw_len]; intro x hx; simp only [List.mem_cons, List.not_mem_nil, or_false] at hx; omega) (by simp)
  rw [eX, eY] at i3
  rw [eY] at i2
  have i4 := impl_shareOf.ev x y pY (by omega) (by omega)
  have hz0 : ([] : List Int).length < 17592186044416 := by rw [List.length_nil]; omega
  have new : nextS j x y (out, n, d) = ([(j : Int)], x, y) → Ev (fun K => impl_BestSplits.j2 K (i : Int) [] (j : Int) (N : Int) (j : Int) q l (shareN x y).1 (shareN x y).2 (shareN x y).1 (shareN x y).2) r := by
    intro e
    rw [e] at ih
    refine Ev.shift ?_
    simp only [impl_BestSplits.j2]
    refine Ev.bind (Ev.one hself) ?_
    refine Ev.ite_pos rfl (Ev.ite_pos hz0 ?_)
    rw [wS j hj9]
    exact ih
  refine Ev.shift ?_
  simp only [impl_BestSplits.l0]
  refine Ev.ite_pos c0 ?_
  refine Ev.bind i1 ?_
  refine Ev.ite_pos rfl ?_
  refine Ev.bind i2 ?_
  rw [wS i hi9]
  refine Ev.bind i3 ?_
  refine Ev.bind i4 ?_
  rcases hb with ⟨rfl, rfl⟩ | ⟨hj0, rfl⟩
  · refine Ev.bind (Ev.one (cmp_first _ _ pY bX bY)) ?_
    refine Ev.ite_pos (by decide) ?_
    exact new (if_pos (.inl rfl))
  · have hc2 := cmp_share x y n d pY hsd bX bY hsn hsd2
    refine Ev.bind (Ev.one hc2) ?_
    by_cases hgt : n * y < x * d
    · rw [if_neg (by omega), if_pos hgt]
      refine Ev.ite_pos (by decide) ?_
      exact new (if_pos (.inr hgt))
    · unfold nextS at ih
      rw [if_neg (by simp only; omega)] at ih
      rw [if_neg hgt] at hc2
      rw [if_neg hgt]
      by_cases heq : x * d = n * y
      · rw [if_pos heq] at ih
        rw [if_neg (by omega)] at hc2
        rw [if_neg (by omega)]
        refine Ev.ite_neg (by decide) ?_
        refine Ev.shift ?_
        simp only [impl_BestSplits.j2]
        refine Ev.bind (Ev.one hc2) ?_
        refine Ev.ite_pos rfl (Ev.ite_pos (by omega) ?_)
        rw [wS j hj9]
        exact ih
      · rw [if_neg heq] at ih
        rw [if_pos (by omega)] at hc2
        rw [if_pos (by omega)]
        refine Ev.ite_neg (by decide) ?_
        refine Ev.shift ?_
        simp only [impl_BestSplits.j2]
        refine Ev.bind (Ev.one hc2) ?_
        refine Ev.ite_neg (by decide) ?_
        rw [wS j hj9]
        exact ih
theorem impl_BestSplits.ev (q : Int) (l : List Int) (a : Int) (hm : l.length ≤ 9223372036854775807) : Ev (fun K => impl_BestSplits.f K q l a) (bestSp q l a) := by
  have off : Ev (fun K => impl_BestSplits.j0 K a true q l) (([] : List Int), false) := by
    refine Ev.shift ?_
    simp only [impl_BestSplits.j0, ↓reduceIte]
    exact Ev.some
  unfold impl_BestSplits.f bestSp
  refine Ev.bind (impl_isMember.ev q l a hm) ?_
  cases h1 : isMem q l a with
  | false =>
    rw [if_neg (by simp [part, h1])]
    simp only [Bool.false_eq_true, ↓reduceIte]
    exact off
  | true =>
    obtain ⟨hc, i, rfl, hi⟩ := isMem_at h1
    have hlen := isComm_len hc
    have ci : (i : Int) < (l.length : Int) := by omega
    have c0 : (0 : Int) ≤ (i : Int) := by omega
    have hr := isComm_mem hc _ (rd_mem l i hi)
    refine Ev.ite_pos rfl (Ev.ite_pos c0 (Ev.ite_pos ci ?_))
    by_cases h20 : rd l i > 20
    · rw [if_neg (fun z => by have := z.2; omega)]
      simp only [h20, decide_true]
      exact off
    · simp only [h20, decide_false]
      refine Ev.shift ?_
      simp only [impl_BestSplits.j0]
      refine Ev.ite_neg (by decide) (Ev.ite_pos c0 (Ev.ite_pos ci ?_))
      obtain ⟨N, hN⟩ : ∃ N : Nat, rd l i + 1 = N := ⟨(rd l i + 1).toNat, by omega⟩
      rw [w64 (by omega) (by omega), hN]
      have eN : (rd l i).toNat + 1 = N := by omega
      by_cases h9 : l.length < 9
      · have hp0 : part q l i 0 = true := by
          unfold part
          simp only [h1, inI, Bool.and_eq_true, decide_eq_true_eq]
          exact ⟨trivial, ⟨by omega, by omega⟩, h9⟩
        rw [if_pos ⟨hp0, by omega⟩, eN, Int.toNat_natCast]
        have B := fun p (hp : p < N) => sp_ok hp0 p (by omega)
        have OK := bs_ok (spX q l i) (spY q l i) N (fun p hp => (B p hp).2.2.2.2)
        have key := Ev.down (G := fun j K => impl_BestSplits.l0 K (i : Int) (bs (spX q l i) (spY q l i) j).1 (N : Int) (j : Int) q l (bI (bs (spX q l i) (spY q l i) j) j).1 (bI (bs (spX q l i) (spY q l i) j) j).2) (R := fun _ => ((bs (spX q l i) (spY q l i) N).1, true)) N
          (by refine Ev.shift ?_
              simp only [impl_BestSplits.l0]
              exact Ev.ite_neg (by omega) Ev.some)
          (fun j hj ih => by
            obtain ⟨hcj, hnj, eX, eY, bX, pY, bY⟩ := B j hj
            obtain ⟨hol, hsn, hsd, hsd2⟩ := OK j (by omega)
            refine impl_BestSplits.step q l i j N _ _ _ _ _ _ _ hm (part_up hp0 (by omega) (by omega)) hcj hnj (by omega) (by omega) (by omega) eX eY bX pY bY (by omega) hsn hsd hsd2 ?_ ih
            cases j with
            | zero => exact .inl ⟨rfl, rfl⟩
            | succ p => exact .inr ⟨by omega, rfl⟩)
        exact key 0 (Nat.zero_le _)
      · have hp0 : ¬ part q l i 0 = true := fun z => h9 (part_at z).2.1
        rw [if_neg (fun z => hp0 z.1)]
        refine Ev.shift ?_
        simp only [impl_BestSplits.l0]
        refine Ev.ite_pos (by omega) ?_
        refine Ev.bind (impl_SplitMember.ev q l i 0 hm) ?_
        rw [show split q l i 0 = (0, [], false) from if_neg hp0]
        exact Ev.ite_neg (by decide) Ev.some
theorem spec_BestSplits.step (q : Int) (l L : List Int) (i j : Nat) (out : List Int) (n d x y : Nat) (r : List Int × Bool) (hi : i < l.length) (hl : l.length ≤ 9) (hjN : (j : Int) ≤ rd l i) (hN : rd l i ≤ 20)
    (i1 : spec_unSplit.f q l i j = some (q, L)) (i2 : Ev (fun k => spec_unSwings.f k q L [(i : Int), ((i + 1 : Nat) : Int)]) ((x : Int), (y : Int))) (bX : x ≤ 9000) (bY : y ≤ 9000) (hol : out.length ≤ 21) (hsn : n ≤ 9000) (hsd2 : d ≤ 9000)
    (ih : Ev (fun K => spec_BestSplits.l0 K (i : Int) (nextS j x y (out, n, d)).1 ((nextS j x y (out, n, d)).2.1 : Int) ((nextS j x y (out, n, d)).2.2 : Int) ((j + 1 : Nat) : Int) q l) r) :
    Ev (fun K => spec_BestSplits.l0 K (i : Int) out (n : Int) (d : Int) (j : Int) q l) r := by
  have hi9 : i ≤ 100 := by omega
  have hj9 : j ≤ 100 := by omega
  have ci : (i : Int) < (l.length : Int) := by omega
  have c0 : (0 : Int) ≤ (i : Int) := by omega
  have c3 : out.length < 17592186044416 := by omega
  have i3 : spec_unGain.f (n : Int) (d : Int) (x : Int) (y : Int) = some (if x * d < n * y then -1 else if n * y < x * d then 1 else 0) := by
    rw [spec_unGain.eq _ _ _ _ (by omega) (by omega) (by omega) (by omega)]
    unfold gainV
    rw [← Int.natCast_mul, ← Int.natCast_mul, cmpI_nat]
  refine Ev.shift ?_
  simp only [spec_BestSplits.l0]
  refine Ev.ite_pos c0 (Ev.ite_pos ci (Ev.ite_pos hjN ?_))
  refine Ev.bind (Ev.one i1) ?_
  rw [wS i hi9]
  refine Ev.bind i2 ?_
  refine Ev.bind (Ev.one i3) ?_
  have new : nextS j x y (out, n, d) = ([(j : Int)], x, y) → ∀ t : Int, Ev (fun K => spec_BestSplits.j2 K (i : Int) out (n : Int) (d : Int) (j : Int) (x : Int) (y : Int) t true q l) r := by
    intro e t
    rw [e] at ih
    refine Ev.shift ?_
    simp only [spec_BestSplits.j2]
    refine Ev.ite_pos trivial ?_
    rw [wS j hj9]
    exact ih
  by_cases hj0 : j = 0
  · refine Ev.ite_pos (by omega) ?_
    exact new (if_pos (.inl hj0)) _
  · refine Ev.ite_neg (by omega) ?_
    by_cases hgt : n * y < x * d
    · rw [if_neg (by omega), if_pos hgt]
      exact new (if_pos (.inr hgt)) _
    · unfold nextS at ih
      rw [if_neg (by simp only; omega)] at ih
      rw [if_neg hgt]
      by_cases heq : x * d = n * y
      · rw [if_pos heq] at ih
        rw [if_neg (by omega)]
        refine Ev.shift ?_
        simp only [spec_BestSplits.j2]
        refine Ev.ite_neg (by decide) (Ev.ite_pos trivial (Ev.ite_pos c3 ?_))
        rw [wS j hj9]
        exact ih
      · rw [if_neg heq] at ih
        rw [if_pos (by omega)]
        refine Ev.shift ?_
        simp only [spec_BestSplits.j2]
        refine Ev.ite_neg (by decide) (Ev.ite_neg (by decide) ?_)
        rw [wS j hj9]
        exact ih
theorem spec_BestSplits.ev (q : Int) (l : List Int) (a : Int) (hm : l.length ≤ 9223372036854775807) : Ev (fun K => spec_BestSplits.f K q l a) (bestSp q l a) := by
  have off : Ev (fun K => spec_BestSplits.j0 K a true q l) (([] : List Int), false) := by
    refine Ev.shift ?_
    simp only [spec_BestSplits.j0, ↓reduceIte]
    exact Ev.some
  unfold spec_BestSplits.f bestSp
  refine Ev.bind (spec_unPart.ev q l a 0 hm) ?_
  by_cases h1 : part q l a 0 = true
  · rw [h1]
    obtain ⟨hc, hl9, i, rfl, hi, _, _, hr1⟩ := part_at h1
    have hlen := isComm_len hc
    have ci : (i : Int) < (l.length : Int) := by omega
    have c0 : (0 : Int) ≤ (i : Int) := by omega
    have hr := isComm_mem hc _ (rd_mem l i hi)
    refine Ev.ite_pos rfl (Ev.ite_pos c0 (Ev.ite_pos ci ?_))
    by_cases h20 : rd l i > 20
    · rw [if_neg (fun z => by have := z.2; omega)]
      simp only [h20, decide_true]
      exact off
    · simp only [h20, decide_false]
      refine Ev.shift ?_
      simp only [spec_BestSplits.j0]
      refine Ev.ite_neg (by decide) ?_
      rw [if_pos ⟨trivial, by omega⟩, Int.toNat_natCast]
      obtain ⟨N, hN⟩ : ∃ N : Nat, (rd l i).toNat + 1 = N := ⟨_, rfl⟩
      rw [hN]
      have B := fun p (hp : p < N) => sp_ok h1 p (by omega)
      have OK := bs_ok (spX q l i) (spY q l i) N (fun p hp => (B p hp).2.2.2.2)
      have key := Ev.down (G := fun j K => spec_BestSplits.l0 K (i : Int) (bs (spX q l i) (spY q l i) j).1 ((bs (spX q l i) (spY q l i) j).2.1 : Int) ((bs (spX q l i) (spY q l i) j).2.2 : Int) (j : Int) q l) (R := fun _ => ((bs (spX q l i) (spY q l i) N).1, true)) N
        (by refine Ev.shift ?_
            simp only [spec_BestSplits.l0]
            exact Ev.ite_pos c0 (Ev.ite_pos ci (Ev.ite_neg (by omega) Ev.some)))
        (fun j hj ih => by
          obtain ⟨hcj, hnj, eX, eY, bX, pY, bY⟩ := B j hj
          obtain ⟨hol, hsn, hsd, hsd2⟩ := OK j (by omega)
          have i2 := spec_unSwings.ev q (splitL l i j) [(i : Int), ((i + 1 : Nat) : Int)] hcj (by intro x hx; simp only [List.mem_cons, List.not_mem_nil, or_false] at hx; omega) (by simp)
          rw [eX, eY] at i2
          exact spec_BestSplits.step q l (splitL l i j) i j _ _ _ _ _ _ hi (by omega) (by omega) (by omega) (spec_unSplit.eq q l i j (by omega) hi (by omega) (by omega) (by omega)) i2 bX bY (by omega) hsn hsd2 ih)
      exact key 0 (Nat.zero_le _)
  · rw [if_neg (fun z => h1 z.1)]
    exact Ev.ite_neg h1 off
theorem laws_FnExactBestSplits_pure : laws_FnExactBestSplits.Pure := by
  intro q l a hq hl ha
  apply Ev.rounds (r := true)
  unfold laws_FnExactBestSplits.f
  refine Ev.bind0 (laws_szCommittee.eq q l 1048576 hl.1 (by omega) (by omega)) ?_
  by_cases h1 : (1048576 : Int) < l.length
  · simp only [h1, ↓reduceIte, show ((-1 : Int) < 0) from by omega]
    exact Ev.some
  · have c1 : ¬ ((1048576 : Int) - l.length < 0) := by omega
    simp only [h1, c1, ↓reduceIte]
    have t1 := laws_toCommittee.ev q l (by omega)
    have s1 := spec_BestSplits.ev q l a hl.1
    have i1 := impl_BestSplits.ev q l a hl.1
    have hv := bestSp_len q l a
    generalize bestSp q l a = v at s1 i1 hv
    obtain ⟨u, b⟩ := v
    simp only at hv
    have e1 := laws_eqCommittee.ev q l hl.1
    have e2 := laws_eqIntS.ev u (by omega)
    have m1 := laws_markCommittee.ev q l 1 (by omega) (by omega) (by omega)
    have m2 := laws_markIntS.ev u 1 (by omega) (by omega) (by omega)
    have k2 := laws_heldIntS.ev 1 u.length (by omega) (by omega) (by omega)
    repeat (first | with_reducible refine Ev.bind t1 ?_ | with_reducible refine Ev.bind s1 ?_ | with_reducible refine Ev.bind i1 ?_ | with_reducible refine Ev.bind e1 ?_ | with_reducible refine Ev.bind e2 ?_ | with_reducible refine Ev.bind m1 ?_ | with_reducible refine Ev.bind m2 ?_ | with_reducible refine Ev.bind k2 ?_ | with_reducible exact Ev.some | simp only [bne_self_eq_false, Bool.false_eq_true, ↓reduceIte, one_lt, one_lt2, Bool.not_true, Bool.not_false, List.length_nil])
end Go.Proofs.Ythkbaolpiigioaa.P
