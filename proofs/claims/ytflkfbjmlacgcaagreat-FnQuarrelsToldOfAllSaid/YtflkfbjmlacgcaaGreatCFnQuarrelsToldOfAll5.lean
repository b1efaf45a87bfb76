/- Part 5 of the texts below the law FnQuarrelsToldOfAll. Printed by this session's driver over the kit's printer, but for the hand contracts and the plain laws. -/
import Derived.ProofKit
import Derived.Deep.Slices
import Derived.Tactics
import Derived.Test.YtflkfbjmlacgcaaGreatCFnQuarrelsToldOfAll0
import Derived.Test.YtflkfbjmlacgcaaGreatCFnQuarrelsToldOfAll1
import Derived.Test.YtflkfbjmlacgcaaGreatCFnQuarrelsToldOfAll2
import Derived.Test.YtflkfbjmlacgcaaGreatCFnQuarrelsToldOfAll3
import Derived.Test.YtflkfbjmlacgcaaGreatCFnQuarrelsToldOfAll4
set_option linter.unusedVariables false
set_option linter.unusedSimpArgs false
namespace Go.Proofs.YtflkfbjmlacgcaaGreat.P
open Go.RowKit Go.ChangeShapes Go.WideShapes Go.Proofs.YtflkfbjmlacgcaaGreatW.PrintWords Go.Proofs.YtflkfbjmlacgcaaGreatW.PrintLast Go.Proofs.YtflkfbjmlacgcaaGreatW.PrintMore
def okI (x : Int) : Prop := -9223372036854775808 ≤ x ∧ x ≤ 9223372036854775807
def okL {α : Type} (Ok : α → Prop) (l : List α) : Prop := l.length ≤ 9223372036854775807 ∧ ∀ x ∈ l, Ok x
structure Opens {α : Type} (P : Program) (T : TypeId) (d : Kd α) (Ok : α → Prop) : Prop where
  go : ∀ {H : Type} (enc : TypeId × Value → H) (w : World) (fuel : Nat) (cs : List Value) (x : DataW H × List MemPlace),
    DataW.trod enc P w 0 (fun _ => true) true fuel T cs = some x → ∃ a, d.K w a cs ∧ Ok a
theorem Opens.int {P : Program} {T : TypeId} (h : P.underlying T = some (.int .i64)) : Opens P T (Kd.int .i64) okI := by
  refine ⟨fun enc w fuel cs x hx => ?_⟩
  obtain ⟨n, rfl, _, hw⟩ := DataW.trod_int h hx
  refine ⟨n, rfl, ?_⟩
  have hmin : IntKind.i64.min = -9223372036854775808 := rfl
  have hmax : IntKind.i64.max = 9223372036854775807 := rfl
  simp only [Lit.wf, Bool.and_eq_true, decide_eq_true_eq] at hw
  unfold okI
  omega
theorem cells_get {w : World} {a : Addr} {n : Nat} {cs : List Value} (h : w.cells? 0 a n = some cs) : cs.length = n ∧ ∀ j u, cs[j]? = some u → w.cell? (a.add j) = some u := by
  unfold World.cells? at h
  rw [if_pos (Nat.zero_le _)] at h
  have key : ∀ (l : List Nat) (r : List Value), l.mapM (fun i => w.cell? (a.add i)) = some r → r.length = l.length ∧ ∀ (j : Nat) (u : Value) (i : Nat), r[j]? = some u → l[j]? = some i → w.cell? (a.add i) = some u := by
    intro l
    induction l with
    | nil => intro r hr; simp at hr; subst hr; simp
    | cons i l ih =>
      intro r hr
      simp only [List.mapM_cons, Option.bind_eq_bind, Option.bind_eq_some_iff] at hr
      obtain ⟨v, hv, r', hr', he⟩ := hr
      have he' : v :: r' = r := by simpa using he
      subst he'
      obtain ⟨h1, h2⟩ := ih r' hr'
      refine ⟨by simp [h1], fun j u k hj hk => ?_⟩
      cases j with
      | zero => simp at hj hk; subst hj; subst hk; exact hv
      | succ j => simp at hj hk; exact h2 j u k hj hk
  obtain ⟨h1, h2⟩ := key _ _ h
  refine ⟨by simpa using h1, fun j u hj => ?_⟩
  have hlt : j < cs.length := (List.getElem?_eq_some_iff.1 hj).1
  exact h2 j u j hj (by rw [List.getElem?_range (by simpa [h1] using hlt)])
theorem add_add_ (a : Addr) (i j : Nat) : (a.add i).add j = a.add (i + j) := Go.Deep.add_add a i j
theorem Opens.slice {α : Type} {P : Program} {T e : TypeId} {d : Kd α} {Ok : α → Prop} (h : P.underlying T = some (.slice e)) (hc : P.cellsOf e = d.sz) (hd : Opens P e d Ok) : Opens P T (Kd.slice e d) (okL Ok) := by
  refine ⟨fun enc w fuel cs x hx => ?_⟩
  rcases Go.Deep.open_slice h hx with ⟨rfl, _⟩ | ⟨a, len, cap, m, n, D, Pl, rfl, _, hl, hm, hmm, _, hel⟩
  · exact ⟨[], ⟨none, 0, rfl, Nat.le_refl _, Kd.C_nil _ _⟩, by simp, by simp⟩
  · have hm' : m = cap := by simpa using hmm
    subst hm'
    have hex : ∀ i, i < len → ∃ y : α × List Value, y.2.length = d.sz ∧ d.K w y.1 y.2 ∧ Ok y.1 ∧ ∀ j u, y.2[j]? = some u → w.cell? (a.add (i * d.sz + j)) = some u := by
      intro i hi
      obtain ⟨cs', h1, h2⟩ := hel i (by omega)
      rw [hc] at h1
      obtain ⟨hlen, hcell⟩ := cells_get h1
      obtain ⟨y, hy, ho⟩ := hd.go enc w n cs' _ h2
      exact ⟨(y, cs'), hlen, hy, ho, fun j u hj => by rw [← add_add_]; exact hcell j u hj⟩
    by_cases h0 : len = 0
    · subst h0
      exact ⟨[], ⟨some a, _, rfl, Nat.zero_le _, rfl, by simp, fun h => absurd h (Nat.lt_irrefl 0)⟩, by simp, by simp⟩
    · obtain ⟨y0, _⟩ := hex 0 (by omega)
      have : Inhabited (α × List Value) := ⟨y0⟩
      obtain ⟨f, hf⟩ := Go.Deep.choose_lt (α := α × List Value) hex
      have hlen : ((List.range len).map fun i => (f i).1).length = len := by simp
      have hget : ∀ j p, ((List.range len).map fun i => (f i).1)[j]? = some p → j < len ∧ p = (f j).1 := by
        intro j p hj
        obtain ⟨hlt, he⟩ := List.getElem?_eq_some_iff.1 hj
        simp at hlt he
        exact ⟨hlt, he.symm⟩
      refine ⟨(List.range len).map fun i => (f i).1, ⟨some a, m, by rw [hlen], by rw [hlen]; exact hl, by rw [hlen], by rw [hlen]; unfold maxLen at hm; omega, fun _ => ⟨a, rfl, fun j p hj => ?_⟩⟩, ?_, ?_⟩
      · obtain ⟨hlt, rfl⟩ := hget j p hj
        obtain ⟨h1, h2, _, h3⟩ := hf j hlt
        exact ⟨(f j).2, h1, h2, h3⟩
      · rw [hlen]; unfold maxLen at hm; omega
      · intro p hp
        obtain ⟨j, hj⟩ := List.mem_iff_getElem?.1 hp
        obtain ⟨hlt, rfl⟩ := hget j p hj
        exact (hf j hlt).2.2.1
theorem Opens.struct2 {α β γ : Type} {P : Program} {T : TypeId} {f0 f1 : Field} {d0 : Kd α} {d1 : Kd β} {Ok0 : α → Prop} {Ok1 : β → Prop} {F : γ → α × β} (h : P.underlying T = some (.struct #[f0, f1]))
    (o0 : f0.offset = 0) (s0 : P.cellsOf f0.type = d0.sz) (o1 : f1.offset = d0.sz) (s1 : P.cellsOf f1.type = d1.sz) (sT : P.cellsOf T = d0.sz + d1.sz)
    (h0 : Opens P f0.type d0 Ok0) (h1 : Opens P f1.type d1 Ok1) (sur : ∀ p, ∃ x, F x = p) : Opens P T (Kd.iso (Kd.pair d0 d1) F) (fun x => Ok0 (F x).1 ∧ Ok1 (F x).2) := by
  refine ⟨fun enc w fuel cs x hx => ?_⟩
  obtain ⟨y0, y1, n, _, hlen, r0, r1⟩ := trod_struct2 h hx
  rw [o0, s0, List.drop_zero] at r0
  rw [o1, s1] at r1
  obtain ⟨a0, k0, p0⟩ := h0.go enc w n _ _ r0
  obtain ⟨a1, k1, p1⟩ := h1.go enc w n _ _ r1
  obtain ⟨z, hz⟩ := sur (a0, a1)
  refine ⟨z, ?_, by rw [hz]; exact ⟨p0, p1⟩⟩
  show (Kd.pair d0 d1).K w (F z) cs
  rw [hz]
  refine ⟨_, _, ?_, k0, k1⟩
  rw [List.take_of_length_le (l := cs.drop d0.sz) (by rw [List.length_drop]; omega), List.take_append_drop]
theorem open_agg_ {α : Type} {H : Type} {enc : TypeId × Value → H} {P : Program} {w : World} {r : Reach} {b0 : Nat} {T : TypeId} {fs : Array Field} {d : Kd α} {Ok : α → Prop} {v : Value} {y : DataW H} {p : List MemPlace}
    (h : P.underlying T = some (.struct fs)) (ho : Opens P T d Ok) (hv : Value.okWide P w r b0 T v) (hd : DataW.Trod enc P w 0 (fun _ => true) true T v y p) : ∃ cs x, v = .agg cs ∧ d.K w x cs.toList ∧ Ok x := by
  obtain ⟨cs, rfl, _⟩ := okWide_struct h hv
  obtain ⟨fuel, hf⟩ := hd
  obtain ⟨x, hx, hok⟩ := ho.go enc w fuel _ _ hf
  exact ⟨cs, x, rfl, by simpa [Value.cells] using hx, hok⟩
theorem open_int_ {H : Type} {enc : TypeId × Value → H} {P : Program} {w : World} {r : Reach} {b0 : Nat} {T : TypeId} {v : Value} {y : DataW H} {p : List MemPlace}
    (h : P.underlying T = some (.int .i64)) (hv : Value.okWide P w r b0 T v) (hd : DataW.Trod enc P w 0 (fun _ => true) true T v y p) : ∃ n : Int, v = .int .i64 n ∧ okI n := by
  obtain ⟨n, rfl, _, _, hw⟩ := open_int h hv hd
  refine ⟨n, rfl, ?_⟩
  have hmin : IntKind.i64.min = -9223372036854775808 := rfl
  have hmax : IntKind.i64.max = 9223372036854775807 := rfl
  simp only [Lit.wf, Bool.and_eq_true, decide_eq_true_eq] at hw
  unfold okI
  omega
end Go.Proofs.YtflkfbjmlacgcaaGreat.P

namespace Go.Proofs.YtflkfbjmlacgcaaGreat.P
open Go.RowKit Go.Proofs.YtflkfbjmlacgcaaGreatW.PrintWords Go.Proofs.YtflkfbjmlacgcaaGreatW.PrintLast Go.Proofs.YtflkfbjmlacgcaaGreatW.PrintMore
def ok_impl_Committee (x : S_impl_Committee) : Prop := okI x.f0 ∧ (okL okI) x.f1
theorem op_impl_Committee : Opens Tryz.prog 24 k_impl_Committee ok_impl_Committee :=
  Opens.struct2 (F := fun x : S_impl_Committee => (x.f0, x.f1)) Tryz.underlying24 rfl (by kernel_rfl) rfl (by kernel_rfl) (by kernel_rfl) (Opens.int Tryz.underlying3) (Opens.slice Tryz.underlying22 (by kernel_rfl) (Opens.int Tryz.underlying3)) (fun p => ⟨⟨p.1, p.2⟩, rfl⟩)
end Go.Proofs.YtflkfbjmlacgcaaGreat.P

namespace Go.Proofs.YtflkfbjmlacgcaaGreat.P
def laws_FnQuarrelsToldOfAll.Pure : Prop := ∀ (a0_0 : Int) (l0_1 : List Int) (a1 : Int) (a2 : Int) (a3_0 : Int) (l3_1 : List Int) (a4 : Int), okI a0_0 → (okL okI) l0_1 → okI a1 → okI a2 → okI a3_0 → (okL okI) l3_1 → okI a4 → ∃ k, laws_FnQuarrelsToldOfAll.f k a0_0 l0_1 a1 a2 a3_0 l3_1 a4 = some true
end Go.Proofs.YtflkfbjmlacgcaaGreat.P

namespace Go.Proofs.YtflkfbjmlacgcaaGreat.P
open Go.RowKit Go.Proofs.YtflkfbjmlacgcaaGreatW.PrintWords Go.Proofs.YtflkfbjmlacgcaaGreatW.PrintLast Go.Proofs.YtflkfbjmlacgcaaGreatW.PrintMore
theorem Ev.down {ρ : Type} {G : Nat → Nat → Option ρ} {R : Nat → ρ} (n : Nat) (hend : Ev (G n) (R n)) (hstep : ∀ i, i < n → Ev (G (i + 1)) (R (i + 1)) → Ev (G i) (R i)) : ∀ i, i ≤ n → Ev (G i) (R i) := by
  have key : ∀ d i, i + d = n → Ev (G i) (R i) := by
    intro d
    induction d with
    | zero => intro i hi; obtain rfl : i = n := by omega
              exact hend
    | succ d ih => intro i hi; exact hstep i (by omega) (ih (i + 1) (by omega))
  intro i hi
  exact key (n - i) i (by omega)
theorem back {P : Nat → Prop} (n : Nat) (hend : P n) (hstep : ∀ i, i < n → P (i + 1) → P i) : ∀ i, i ≤ n → P i := by
  have key : ∀ d i, i + d = n → P i := by
    intro d
    induction d with
    | zero => intro i hi; obtain rfl : i = n := by omega
              exact hend
    | succ d ih => intro i hi; exact hstep i (by omega) (ih (i + 1) (by omega))
  intro i hi
  exact key (n - i) i (by omega)
theorem Ev.some {α : Type} {r : α} : Ev (fun _ => Option.some r) r := Ev.now r
theorem Ev.one {α : Type} {g : Option α} {r : α} (h : g = Option.some r) : Ev (fun _ => g) r := ⟨0, fun _ _ => h⟩
theorem Ev.ite_pos {α : Type} {c : Prop} [Decidable c] {g f : Nat → Option α} {r : α} (hc : c) (h : Ev g r) : Ev (fun k => if c then g k else f k) r := by
  obtain ⟨K, h⟩ := h; exact ⟨K, fun k hk => (if_pos hc).trans (h k hk)⟩
theorem Ev.ite_neg {α : Type} {c : Prop} [Decidable c] {g f : Nat → Option α} {r : α} (hc : ¬ c) (h : Ev f r) : Ev (fun k => if c then g k else f k) r := by
  obtain ⟨K, h⟩ := h; exact ⟨K, fun k hk => (if_neg hc).trans (h k hk)⟩
theorem Ev.eq {α : Type} {g : Nat → Option α} {r r' : α} (h : Ev g r) (e : r = r') : Ev g r' := e ▸ h
theorem Ev.shift {α : Type} {g : Nat → Option α} {r : α} (h : Ev (fun k => g (k + 1)) r) : Ev g r := Ev.step (fun _ => rfl) h
theorem w64 {x : Int} (h0 : -9223372036854775808 ≤ x) (h1 : x ≤ 9223372036854775807) : wrap64 x = x := by unfold wrap64; omega
theorem w1 {i n : Nat} (h : i < n) (hn : n ≤ 9223372036854775807) : wrap64 ((i : Int) + 1) = ((i + 1 : Nat) : Int) := by unfold wrap64; omega
theorem rd_nat (l : List Int) (i : Nat) : rd l (i : Int) = l.getD i 0 := by simp [rd]
theorem rdB_nat (l : List Bool) (i : Nat) : rdOf false l (i : Int) = l.getD i false := by simp [rdOf]
theorem drop_getD {α : Type} (l : List α) (d : α) (i : Nat) (h : i < l.length) : l.drop i = l.getD i d :: l.drop (i + 1) := drop_cons l d i h
theorem take_getD {α : Type} (l : List α) (d : α) (i : Nat) (h : i < l.length) : l.take (i + 1) = l.take i ++ [l.getD i d] := by
  rw [List.take_succ_eq_append_getElem h, List.getD_eq_getElem?_getD, List.getElem?_eq_getElem h]; rfl
theorem getD_mem {α : Type} (l : List α) (d : α) (i : Nat) (h : i < l.length) : l.getD i d ∈ l := by
  rw [List.getD_eq_getElem?_getD, List.getElem?_eq_getElem h]; exact List.getElem_mem h
theorem foldl_take {α β : Type} (f : β → α → β) (b : β) (l : List α) (d : α) (i : Nat) (h : i < l.length) : (l.take (i + 1)).foldl f b = f ((l.take i).foldl f b) (l.getD i d) := by
  rw [take_getD l d i h, List.foldl_append]; rfl
def filled {α : Type} (l : List α) (z : α) (i : Nat) : List α := l.take i ++ List.replicate (l.length - i) z
theorem filled_len {α : Type} (l : List α) (z : α) (i : Nat) (h : i ≤ l.length) : (filled l z i).length = l.length := by unfold filled; simp; omega
theorem filled_zero {α : Type} (l : List α) (z : α) : filled l z 0 = List.replicate l.length z := by simp [filled]
theorem filled_all {α : Type} (l : List α) (z : α) : filled l z l.length = l := by simp [filled]
theorem filled_set {α : Type} (l : List α) (z d : α) (i : Nat) (h : i < l.length) : (filled l z i).set i (l.getD i d) = filled l z (i + 1) := by
  unfold filled
  have e : (l.take i).length = i := by simp; omega
  rw [take_getD l d i h, List.set_append_right i (l.getD i d) (by omega), e, Nat.sub_self, show l.length - i = (l.length - (i + 1)) + 1 by omega, List.replicate_succ]
  simp
def marks (a : Int) (n : Nat) : List Int := (List.range n).map fun i : Nat => a + (i : Int)
def inI (a b x : Int) : Bool := decide (a ≤ x) && decide (x ≤ b)
def isComm (q : Int) (l : List Int) : Bool := decide (1 ≤ l.length) && decide (l.length ≤ 9) && l.all (inI 0 1000) && inI 1 l.sum q
theorem isComm_len {q : Int} {l : List Int} (h : isComm q l = true) : 1 ≤ l.length ∧ l.length ≤ 9 := by simp [isComm] at h; exact ⟨h.1.1.1, h.1.1.2⟩
theorem isComm_mem {q : Int} {l : List Int} (h : isComm q l = true) : ∀ x ∈ l, 0 ≤ x ∧ x ≤ 1000 := by
  intro x hx
  simp [isComm, inI] at h
  exact h.1.2 x hx
theorem isComm_q {q : Int} {l : List Int} (h : isComm q l = true) : 1 ≤ q ∧ q ≤ l.sum := by simp [isComm, inI] at h; exact h.2
theorem sum_bounds (l : List Int) (h : ∀ x ∈ l, 0 ≤ x ∧ x ≤ 1000) : 0 ≤ l.sum ∧ l.sum ≤ 1000 * l.length := by
  induction l with
  | nil => simp
  | cons x l ih =>
    have h1 := h x (by simp)
    have h2 := ih (fun y hy => h y (by simp [hy]))
    simp only [List.sum_cons, List.length_cons]
    omega
def wsum (l : List Int) : Int := l.foldl (fun s x => wrap64 (s + x)) 0
theorem wsum_from (l : List Int) (s : Int) (hs : 0 ≤ s) (h : ∀ x ∈ l, 0 ≤ x ∧ x ≤ 1000) (hb : s + 1000 * l.length ≤ 9223372036854775807) : l.foldl (fun s x => wrap64 (s + x)) s = s + l.sum := by
  induction l generalizing s with
  | nil => simp
  | cons x l ih =>
    have h1 := h x (by simp)
    simp only [List.length_cons] at hb
    rw [List.foldl_cons, w64 (by omega) (by omega), ih (s + x) (by omega) (fun y hy => h y (by simp [hy])) (by omega), List.sum_cons]
    omega
theorem wsum_eq (l : List Int) (h : ∀ x ∈ l, 0 ≤ x ∧ x ≤ 1000) (hb : l.length ≤ 9000000) : wsum l = l.sum := by
  unfold wsum; rw [wsum_from l 0 (by omega) h (by omega)]; omega
theorem shr_nat (x i : Nat) (h : i ≤ 64) : shr .i64 (x : Int) (i : Int) = ((x / 2 ^ i : Nat) : Int) := by
  unfold shr
  have e : min ((i : Int).toNat) IntKind.i64.bits = i := by
    have : IntKind.i64.bits = 64 := rfl
    omega
  rw [e]; simp
theorem pow63 {i : Nat} (h : i < 63) : 2 ^ i < 9223372036854775808 := Nat.lt_of_lt_of_le (Nat.pow_lt_pow_right (by omega) h) (by decide)
theorem shl_one (i : Nat) (h : i < 63) : shl .i64 1 (i : Int) = ((2 ^ i : Nat) : Int) := by
  unfold shl
  have e : min ((i : Int).toNat) IntKind.i64.bits = i := by
    have : IntKind.i64.bits = 64 := rfl
    omega
  have h1 := pow63 h
  have c : ((2 ^ i : Nat) : Int) = 2 ^ i := by simp
  rw [e, Int.one_mul, IntKind.wrap_i64, ← c]
  generalize 2 ^ i = z at h1
  omega
theorem i64_of (n : Int) (h0 : 0 ≤ n) (h1 : n < 2 ^ 63) : IntKind.i64.wrap n = n := by rw [IntKind.wrap_i64]; omega
theorem and_nat (a b : Nat) (ha : a < 2 ^ 63) (hb : b < 2 ^ 63) : Go.bits .and .i64 (a : Int) (b : Int) = ((a &&& b : Nat) : Int) := (bits_nat .i64 63 (by decide) i64_of a b ha hb).1
theorem or_nat (a b : Nat) (ha : a < 2 ^ 63) (hb : b < 2 ^ 63) : Go.bits .or .i64 (a : Int) (b : Int) = ((a ||| b : Nat) : Int) := (bits_nat .i64 63 (by decide) i64_of a b ha hb).2
theorem and_one (a : Nat) (ha : a < 2 ^ 63) : Go.bits .and .i64 (a : Int) 1 = ((a % 2 : Nat) : Int) := by
  have := and_nat a 1 ha (by decide)
  rw [Nat.and_one_is_mod] at this
  exact this
theorem tmod_two (a : Nat) : Int.tmod (a : Int) 2 = ((a % 2 : Nat) : Int) := by rw [Int.tmod_eq_emod_of_nonneg (by omega)]; omega
theorem bit_nat (b i : Nat) : b.testBit i = decide (b / 2 ^ i % 2 = 1) := by rw [Nat.testBit_eq_decide_div_mod_eq]
theorem or_pow {b i : Nat} (h : b.testBit i = false) : b ||| 2 ^ i = b + 2 ^ i := by
  apply Nat.eq_of_testBit_eq
  intro j
  rw [Nat.testBit_or, Nat.testBit_two_pow, Nat.add_comm]
  rcases Nat.lt_trichotomy j i with hj | hj | hj
  · rw [Nat.testBit_two_pow_add_gt hj]
    have : ¬ i = j := by omega
    simp [this]
  · subst hj
    rw [Nat.testBit_two_pow_add_eq, h]
    simp
  · have hd : (2 ^ i + b) / 2 ^ (i + 1) = b / 2 ^ (i + 1) := by
      have h0 : b / 2 ^ i % 2 = 0 := by
        rw [bit_nat] at h
        have h1 := Nat.mod_two_eq_zero_or_one (b / 2 ^ i)
        rcases h1 with h1 | h1
        · exact h1
        · simp [h1] at h
      rw [Nat.pow_succ, ← Nat.div_div_eq_div_mul, ← Nat.div_div_eq_div_mul, Nat.add_div_left _ (Nat.two_pow_pos i)]
      omega
    obtain ⟨d, rfl⟩ : ∃ d, j = i + 1 + d := ⟨j - (i + 1), by omega⟩
    have e : ∀ x : Nat, x.testBit (i + 1 + d) = (x / 2 ^ (i + 1)).testBit d := fun x => by
      rw [Nat.testBit_div_two_pow, Nat.add_comm d]
    rw [e, e, hd]
    have : ¬ i = i + 1 + d := by omega
    simp [this]
def wt : List Int → Nat → Int
  | [], _ => 0
  | x :: l, b => (if b % 2 = 1 then x else 0) + wt l (b / 2)
def tab (n : Nat) (P : Nat → Bool) : List Bool := (List.range (2 ^ n)).map P
theorem tab_len (n : Nat) (P : Nat → Bool) : (tab n P).length = 2 ^ n := by simp [tab]
theorem tab_get (n : Nat) (P : Nat → Bool) (b : Nat) (h : b < 2 ^ n) : (tab n P).getD b false = P b := by simp [tab, List.getD_eq_getElem?_getD, List.getElem?_range h]
theorem pow_small {n m : Nat} (h : n ≤ m) : 2 ^ n ≤ 2 ^ m := Nat.pow_le_pow_right (by omega) h
def sel (n : Nat) (P : Nat → Bool) : List Int := ((List.range n).filter P).map fun i : Nat => (i : Int)
theorem sel_succ (n : Nat) (P : Nat → Bool) : sel (n + 1) P = sel n P ++ (if P n = true then [(n : Int)] else []) := by
  unfold sel
  rw [List.range_succ, List.filter_append, List.map_append]
  congr 1
  cases h : P n <;> simp [h]
theorem sel_len (n : Nat) (P : Nat → Bool) : (sel n P).length ≤ n := by
  have := List.length_filter_le P (List.range n)
  simp [sel] at *; omega
theorem Ev.all {α β : Type} {p : Nat → α → Option β} {P : α → β} (l : List α) (h : ∀ x ∈ l, Ev (fun k => p k x) (P x)) : ∃ K, ∀ k, K ≤ k → ∀ x ∈ l, p k x = Option.some (P x) := by
  induction l with
  | nil => exact ⟨0, fun _ _ _ h => by simp at h⟩
  | cons x l ih =>
    obtain ⟨K, hK⟩ := ih (fun y hy => h y (by simp [hy]))
    obtain ⟨K', hK'⟩ := h x (by simp)
    refine ⟨K + K', fun k hk y hy => ?_⟩
    rcases List.mem_cons.1 hy with rfl | hy
    · exact hK' k (by omega)
    · exact hK k (by omega) y hy
theorem Ev.ask {α β γ : Type} {p : Nat → α → Option β} {P : α → β} (l : List α) (h : ∀ x ∈ l, Ev (fun k => p k x) (P x)) {F : Nat → (α → Option β) → Option γ} {r : γ} (hF : ∃ K, ∀ k, K ≤ k → ∀ q : α → Option β, (∀ x ∈ l, q x = Option.some (P x)) → F k q = Option.some r) : Ev (fun k => F k (p k)) r := by
  obtain ⟨K, hK⟩ := Ev.all l h
  obtain ⟨K', hK'⟩ := hF
  exact ⟨K + K', fun k hk => hK' k (by omega) _ (hK k (by omega))⟩
theorem downq {ρ : Type} {G : Nat → Nat → Option ρ} {R : Nat → ρ} (n : Nat) (hend : ∀ k, G n (k + 1) = Option.some (R n)) (hstep : ∀ i, i < n → ∀ k, G (i + 1) k = Option.some (R (i + 1)) → G i (k + 1) = Option.some (R i)) : ∀ i, i ≤ n → ∀ k, n - i < k → G i k = Option.some (R i) := by
  have key : ∀ d i, i + d = n → ∀ k, d < k → G i k = Option.some (R i) := by
    intro d
    induction d with
    | zero => intro i hi k hk
              obtain rfl : i = n := by omega
              obtain ⟨k, rfl⟩ : ∃ j, k = j + 1 := ⟨k - 1, by omega⟩
              exact hend k
    | succ d ih => intro i hi k hk
                   obtain ⟨k, rfl⟩ : ∃ j, k = j + 1 := ⟨k - 1, by omega⟩
                   exact hstep i (by omega) k (ih (i + 1) (by omega) k (by omega))
  intro i hi k hk
  exact key (n - i) i (by omega) k (by omega)
def idxFrom {α : Type} (P : α → Bool) : Nat → List α → Int
  | _, [] => -1
  | i, x :: l => if P x = true then (i : Int) else idxFrom P (i + 1) l
theorem idxFrom_nn {α : Type} (P : α → Bool) (l : List α) (i : Nat) : decide (idxFrom P i l ≥ 0) = l.any P := by
  induction l generalizing i with
  | nil => rfl
  | cons x l ih =>
    unfold idxFrom
    rw [List.any_cons]
    cases h : P x with
    | true => simp only [↓reduceIte, Bool.true_or, decide_eq_true_eq]; omega
    | false => simp only [Bool.false_eq_true, ↓reduceIte, Bool.false_or]; exact ih (i + 1)
def over {α : Type} (t l : List α) (i : Nat) : List α := t.take i ++ l.drop i
theorem over_zero {α : Type} (t l : List α) : over t l 0 = l := by simp [over]
theorem over_all {α : Type} (t l : List α) (h : t.length = l.length) : over t l l.length = t := by simp [over, ← h]
theorem over_len {α : Type} (t l : List α) (i : Nat) (h : t.length = l.length) : (over t l i).length = l.length := by simp [over]; omega
theorem over_set {α : Type} (t l : List α) (d : α) (i : Nat) (h : t.length = l.length) (hi : i < l.length) : (over t l i).set i (t.getD i d) = over t l (i + 1) := by
  unfold over
  have e : (t.take i).length = i := by simp; omega
  rw [take_getD t d i (by omega), List.set_append_right i (t.getD i d) (by omega), e, Nat.sub_self, List.drop_eq_getElem_cons hi, List.set_cons_zero, List.append_assoc]
  rfl
theorem over_get {α : Type} (t l : List α) (d : α) (i : Nat) (h : t.length = l.length) (hi : i < l.length) : (over t l i).getD i d = l.getD i d := by
  unfold over
  rw [List.getD_eq_getElem?_getD, List.getD_eq_getElem?_getD, List.getElem?_append_right (by simp; omega), List.length_take, Nat.min_eq_left (by omega), Nat.sub_self, List.getElem?_drop, Nat.add_zero]
def allF (P : Nat → Bool) (n i : Nat) : Bool := (List.range' i (n - i)).all P
theorem allF_end (P : Nat → Bool) (n : Nat) : allF P n n = true := by simp [allF]
theorem allF_step (P : Nat → Bool) (n i : Nat) (h : i < n) : allF P n i = (P i && allF P n (i + 1)) := by
  unfold allF
  obtain ⟨d, rfl⟩ : ∃ d, n = i + d + 1 := ⟨n - i - 1, by omega⟩
  rw [show i + d + 1 - i = d + 1 by omega, show i + d + 1 - (i + 1) = d by omega, List.range'_succ, List.all_cons]
theorem allF_iff (P : Nat → Bool) (n : Nat) : allF P n 0 = true ↔ ∀ j, j < n → P j = true := by
  simp only [allF, List.all_eq_true, List.mem_range'_1, Nat.sub_zero, Nat.zero_add, Nat.zero_le, true_and]
def bitsOf (l : List Int) : Nat := l.foldl (fun m x => m ||| 2 ^ x.toNat) 0
theorem bitsOf_lt (l : List Int) (n : Nat) (h : ∀ x ∈ l, 0 ≤ x ∧ x < n) (m : Nat) (hm : m < 2 ^ n) : l.foldl (fun m x => m ||| 2 ^ x.toNat) m < 2 ^ n := by
  induction l generalizing m with
  | nil => exact hm
  | cons x l ih =>
    have h1 := h x (by simp)
    rw [List.foldl_cons]
    exact ih (fun y hy => h y (by simp [hy])) _ (Nat.or_lt_two_pow hm (Nat.pow_lt_pow_right (by omega) (by omega)))
def swing (w : List Bool) (i m : Nat) : Bool := !m.testBit i && !w.getD m false && w.getD (m + 2 ^ i) false
def swl (n : Nat) (w : List Bool) : List Int := (List.range n).map fun i => (((List.range (2 ^ n)).countP (swing w i) : Nat) : Int)
theorem swl_len (n : Nat) (w : List Bool) : (swl n w).length = n := by simp [swl]
theorem swl_get (n : Nat) (w : List Bool) (i : Nat) (h : i < n) : (swl n w).getD i 0 = (((List.range (2 ^ n)).countP (swing w i) : Nat) : Int) := by simp [swl, List.getD_eq_getElem?_getD, List.getElem?_range h]
theorem with_lt {n m i : Nat} (hm : m < 2 ^ n) (hi : i < n) (h : m.testBit i = false) : m + 2 ^ i < 2 ^ n := by
  rw [← or_pow h]; exact Nat.or_lt_two_pow hm (Nat.pow_lt_pow_right (by omega) hi)
def incr (l : List Int) (i : Nat) : Bool := i == 0 || decide (l.getD (i - 1) 0 < l.getD i 0)
def isSetN (l : List Int) (n : Int) : Bool := l.all (inI 0 (n - 1)) && allF (incr l) l.length 0
theorem isSetN_mem {l : List Int} {n : Int} (h : isSetN l n = true) : ∀ x ∈ l, 0 ≤ x ∧ x < n := by
  intro x hx
  simp only [isSetN, Bool.and_eq_true, List.all_eq_true, inI, decide_eq_true_eq] at h
  have := h.1 x hx
  omega
theorem allF_and (P Q : Nat → Bool) (n i : Nat) : allF (fun j => P j && Q j) n i = (allF P n i && allF Q n i) := by
  unfold allF
  induction (List.range' i (n - i)) with
  | nil => rfl
  | cons x l ih => simp only [List.all_cons, ih]; cases P x <;> cases Q x <;> simp
theorem allF_drop {α : Type} (P : α → Bool) (l : List α) (d : α) (i : Nat) (h : i ≤ l.length) : allF (fun j => P (l.getD j d)) l.length i = (l.drop i).all P := by
  refine back (P := fun i => allF (fun j => P (l.getD j d)) l.length i = (l.drop i).all P) l.length ?_ ?_ i h
  · rw [allF_end]; simp
  · intro i hi ih
    rw [allF_step _ _ _ hi, ih, drop_getD l d i hi, List.all_cons]
def hasN (s : List Int) (v : Int) : Bool := s.any fun x => decide (v = x)
theorem slices_Contains_int_int.ev (l : List Int) (v : Int) (hm : l.length ≤ 9223372036854775807) : Ev (fun k => slices_Contains_int_int.f k l v) (hasN l v) := by
  unfold slices_Contains_int_int.f slices_Index_int_int.f hasN
  have key := Ev.down (G := fun i k => slices_Index_int_int.l0 k l v (l.length : Int) (i : Int)) (R := fun i => idxFrom (fun x => decide (v = x)) i (l.drop i)) l.length
    (by refine Ev.shift ?_
        simp only [slices_Index_int_int.l0, Int.lt_irrefl, ↓reduceIte, List.drop_length, idxFrom]
        exact Ev.some)
    (fun i hi ih => by
        refine Ev.shift ?_
        have c1 : (i : Int) < (l.length : Int) := by omega
        have c0 : (0 : Int) ≤ (i : Int) := by omega
        simp only [slices_Index_int_int.l0, c1, c0, ↓reduceIte, w1 hi hm, rd_nat]
        rw [drop_getD l 0 i hi, idxFrom]
        by_cases hv : v = l.getD i 0
        · simp only [← hv, ↓reduceIte, decide_true]; exact Ev.some
        · simp only [hv, ↓reduceIte, decide_false, Bool.false_eq_true]; exact ih)
  have k0 := key 0 (Nat.zero_le _)
  rw [List.drop_zero] at k0
  refine Ev.bind k0 ?_
  rw [idxFrom_nn]
  exact Ev.some
theorem impl_within.eq (a b c : Int) : impl_within.f a b c = some (inI b c a) := by
  unfold impl_within.f inI
  by_cases h : a ≥ b
  · have h' : b ≤ a := h
    simp [h']
  · have h' : ¬ b ≤ a := h
    simp [h']
theorem spec_l1In.eq (a b c : Int) : spec_l1In.f a b c = some (inI b c a) := by
  unfold spec_l1In.f inI
  by_cases h : a ≥ b
  · have h' : b ≤ a := h
    simp [h']
  · have h' : ¬ b ≤ a := h
    simp [h']
theorem impl_sumOf.ev (l : List Int) (hm : l.length ≤ 9223372036854775807) : Ev (fun k => impl_sumOf.f k l) (wsum l) := by
  have key := Ev.down (G := fun i k => impl_sumOf.l0 k ((l.take i).foldl (fun s x => wrap64 (s + x)) 0) l (l.length : Int) (i : Int)) (R := fun _ => wsum l) l.length
    (by refine Ev.shift ?_
        simp only [impl_sumOf.l0, Int.lt_irrefl, ↓reduceIte, List.take_length]
        exact Ev.some)
    (fun i hi ih => by
        refine Ev.shift ?_
        have c1 : (i : Int) < (l.length : Int) := by omega
        have c0 : (0 : Int) ≤ (i : Int) := by omega
        simp only [impl_sumOf.l0, c1, c0, ↓reduceIte, w1 hi hm, rd_nat]
        rw [foldl_take _ _ l 0 i hi] at ih
        exact ih)
  exact key 0 (Nat.zero_le _)
theorem spec_voSum.ev (l : List Int) (hm : l.length ≤ 9223372036854775807) : Ev (fun k => spec_voSum.f k l) (wsum l) := by
  have key := Ev.down (G := fun i k => spec_voSum.l0 k ((l.take i).foldl (fun s x => wrap64 (s + x)) 0) l (l.length : Int) (i : Int)) (R := fun _ => wsum l) l.length
    (by refine Ev.shift ?_
        simp only [spec_voSum.l0, Int.lt_irrefl, ↓reduceIte, List.take_length]
        exact Ev.some)
    (fun i hi ih => by
        refine Ev.shift ?_
        have c1 : (i : Int) < (l.length : Int) := by omega
        have c0 : (0 : Int) ≤ (i : Int) := by omega
        simp only [spec_voSum.l0, c1, c0, ↓reduceIte, w1 hi hm, rd_nat]
        rw [foldl_take _ _ l 0 i hi] at ih
        exact ih)
  exact key 0 (Nat.zero_le _)
theorem isComm_eq (q : Int) (l : List Int) : isComm q l = if (1 ≤ l.length ∧ l.length ≤ 9) ∧ l.all (inI 0 1000) = true then inI 1 (wsum l) q else false := by
  unfold isComm
  by_cases h : (1 ≤ l.length ∧ l.length ≤ 9) ∧ l.all (inI 0 1000) = true
  · have hm : ∀ x ∈ l, 0 ≤ x ∧ x ≤ 1000 := by
      have := h.2
      simp [inI] at this
      exact this
    rw [if_pos h, wsum_eq l hm (by omega)]
    simp only [h.1.1, h.1.2, h.2, decide_true, Bool.true_and]
  · rw [if_neg h]
    by_cases h1 : 1 ≤ l.length
    · by_cases h2 : l.length ≤ 9
      · have h3 : l.all (inI 0 1000) = false := by
          cases h4 : l.all (inI 0 1000) with
          | true => exact absurd ⟨⟨h1, h2⟩, h4⟩ h
          | false => rfl
        simp only [h3, Bool.and_false, Bool.false_and]
      · simp only [h2, decide_false, Bool.and_false, Bool.false_and]
    · simp only [h1, decide_false, Bool.false_and]
theorem slices_IndexFunc_int_int.ev (l : List Int) (hm : l.length ≤ 9223372036854775807) (p : Nat → Int → Option Bool) (P : Int → Bool) (h : ∀ x ∈ l, Ev (fun k => p k x) (P x)) : Ev (fun k => slices_IndexFunc_int_int.f k l (p k)) (idxFrom P 0 l) := by
  refine Ev.ask (F := fun k q => slices_IndexFunc_int_int.f k l q) l h ⟨l.length + 1, fun k hk q hq => ?_⟩
  unfold slices_IndexFunc_int_int.f
  have := downq (G := fun i k => slices_IndexFunc_int_int.l0 k l q (l.length : Int) (i : Int)) (R := fun i => idxFrom P i (l.drop i)) l.length
    (by intro k; simp only [slices_IndexFunc_int_int.l0, Int.lt_irrefl, ↓reduceIte, List.drop_length, idxFrom])
    (fun i hi k ih => by
      have c1 : (i : Int) < (l.length : Int) := by omega
      have c0 : (0 : Int) ≤ (i : Int) := by omega
      simp only [slices_IndexFunc_int_int.l0, c1, c0, ↓reduceIte, w1 hi hm, rd_nat, hq _ (getD_mem l 0 i hi), Option.bind_some]
      rw [drop_getD l 0 i hi, idxFrom, ih]
      split <;> rfl) 0 (Nat.zero_le _) k (by omega)
  rwa [List.drop_zero] at this
theorem slices_ContainsFunc_int_int.ev (l : List Int) (hm : l.length ≤ 9223372036854775807) (p : Nat → Int → Option Bool) (P : Int → Bool) (h : ∀ x ∈ l, Ev (fun k => p k x) (P x)) : Ev (fun k => slices_ContainsFunc_int_int.f k l (p k)) (l.any P) := by
  unfold slices_ContainsFunc_int_int.f
  refine Ev.bind (slices_IndexFunc_int_int.ev l hm p P h) ?_
  rw [idxFrom_nn]
  exact Ev.some
theorem impl_areIn.ev (l : List Int) (a b : Int) (hm : l.length ≤ 9223372036854775807) : Ev (fun k => impl_areIn.f k l a b) (l.all (inI a b)) := by
  unfold impl_areIn.f
  refine Ev.bind (slices_ContainsFunc_int_int.ev l hm (fun _ x => impl_areIn_1.f x a b) (fun x => !inI a b x) (fun x _ => ?_)) ?_
  · simp only [impl_areIn_1.f, impl_within.eq, Option.bind_some]; exact Ev.some
  · rw [all_any]; exact Ev.some
theorem impl_IsCommittee.ev (q : Int) (l : List Int) (hm : l.length ≤ 9223372036854775807) : Ev (fun k => impl_IsCommittee.f k q l) (isComm q l) := by
  rw [isComm_eq]
  unfold impl_IsCommittee.f
  by_cases h1 : 1 ≤ l.length
  · have c1 : (l.length : Int) ≥ 1 := by omega
    by_cases h2 : l.length ≤ 9
    · have c2 : (l.length : Int) ≤ 9 := by omega
      simp only [c1, c2, h1, h2, ↓reduceIte, and_self, true_and]
      refine Ev.bind (impl_areIn.ev l 0 1000 hm) ?_
      by_cases h3 : l.all (inI 0 1000) = true
      · simp only [h3, ↓reduceIte]
        refine Ev.bind (impl_sumOf.ev l hm) ?_
        simp only [impl_within.eq, Option.bind_some]
        exact Ev.some
      · simp only [h3]
        exact Ev.some
    · have c2 : ¬ (l.length : Int) ≤ 9 := by omega
      simp only [c1, c2, h2, ↓reduceIte, and_false, false_and]
      exact Ev.some
  · have c1 : ¬ (l.length : Int) ≥ 1 := by omega
    simp only [c1, h1, ↓reduceIte, false_and]
    exact Ev.some
theorem spec_l1All.ev (l : List Int) (a b : Int) (hm : l.length ≤ 9223372036854775807) : Ev (fun k => spec_l1All.f k l a b) (l.all (inI a b)) := by
  have key := Ev.down (G := fun i k => spec_l1All.l0 k a b l (l.length : Int) (i : Int)) (R := fun i => (l.drop i).all (inI a b)) l.length
    (by refine Ev.shift ?_
        simp only [spec_l1All.l0, Int.lt_irrefl, ↓reduceIte, List.drop_length, List.all_nil]
        exact Ev.some)
    (fun i hi ih => by
        refine Ev.shift ?_
        have c1 : (i : Int) < (l.length : Int) := by omega
        have c0 : (0 : Int) ≤ (i : Int) := by omega
        simp only [spec_l1All.l0, c1, c0, ↓reduceIte, w1 hi hm, rd_nat, spec_l1In.eq, Option.bind_some]
        rw [drop_getD l 0 i hi, List.all_cons]
        cases h : inI a b (l.getD i 0) with
        | true => simp only [↓reduceIte, Bool.true_and]; exact ih
        | false => simp only [Bool.false_eq_true, ↓reduceIte, Bool.false_and]; exact Ev.some)
  exact key 0 (Nat.zero_le _)
theorem spec_voGood.ev (q : Int) (l : List Int) (hm : l.length ≤ 9223372036854775807) : Ev (fun k => spec_voGood.f k q l) (isComm q l) := by
  rw [isComm_eq]
  unfold spec_voGood.f
  simp only [spec_l1In.eq, Option.bind_some]
  have e : inI 1 9 (l.length : Int) = decide (1 ≤ l.length ∧ l.length ≤ 9) := by
    unfold inI; rw [Bool.eq_iff_iff]; simp; omega
  rw [e]
  by_cases h : 1 ≤ l.length ∧ l.length ≤ 9
  · simp only [h, decide_true, ↓reduceIte, and_self, true_and]
    refine Ev.bind (spec_l1All.ev l 0 1000 hm) ?_
    refine Ev.shift ?_
    by_cases h3 : l.all (inI 0 1000) = true
    · simp only [spec_voGood.j0, h3, Bool.not_true, Bool.false_eq_true, ↓reduceIte]
      refine Ev.bind (spec_voSum.ev l hm) ?_
      simp only [spec_l1In.eq, Option.bind_some]
      exact Ev.some
    · have h4 : l.all (inI 0 1000) = false := by simpa using h3
      simp only [spec_voGood.j0, h4, Bool.not_false, Bool.false_eq_true, ↓reduceIte]
      exact Ev.some
  · simp only [h, decide_false, Bool.false_eq_true, ↓reduceIte, false_and]
    refine Ev.shift ?_
    simp only [spec_voGood.j0, ↓reduceIte]
    exact Ev.some
theorem impl_isIncreasing.ev (l : List Int) (hl : l.length ≤ 9223372036854775807) : Ev (fun k => impl_isIncreasing.f k l) (allF (incr l) l.length 0) := by
  have key := Ev.down (G := fun i k => impl_isIncreasing.l0 k l (l.length : Int) (i : Int)) (R := fun i => allF (incr l) l.length i) l.length
    (by refine Ev.shift ?_
        simp only [impl_isIncreasing.l0, Int.lt_irrefl, ↓reduceIte, allF_end]
        exact Ev.some)
    (fun i hi ih => by
        refine Ev.shift ?_
        have c1 : (i : Int) < (l.length : Int) := by omega
        have c0 : (0 : Int) ≤ (i : Int) := by omega
        rw [allF_step _ _ _ hi]
        simp only [impl_isIncreasing.l0, c1, c0, ↓reduceIte, w1 hi hl]
        by_cases h0 : i = 0
        · subst h0
          simp only [show ¬ ((0 : Nat) : Int) > 0 by omega, ↓reduceIte, incr, beq_self_eq_true, Bool.true_or, Bool.true_and]
          exact ih
        · have c2 : (i : Int) > 0 := by omega
          have e : wrap64 ((i : Int) - 1) = ((i - 1 : Nat) : Int) := by rw [w64 (by omega) (by omega)]; omega
          have c3 : (0 : Int) ≤ ((i - 1 : Nat) : Int) := by omega
          have c4 : ((i - 1 : Nat) : Int) < (l.length : Int) := by omega
          have hb : (i == 0) = false := by simp [h0]
          simp only [c2, ↓reduceIte, e, c3, c4, rd_nat, incr, hb, Bool.false_or]
          by_cases h1 : l.getD (i - 1) 0 < l.getD i 0
          · have h2 : ¬ l.getD i 0 ≤ l.getD (i - 1) 0 := by omega
            simp only [h1, h2, ↓reduceIte, decide_true, Bool.true_and]
            exact ih
          · have h2 : l.getD i 0 ≤ l.getD (i - 1) 0 := by omega
            simp only [h1, h2, ↓reduceIte, decide_false, Bool.false_and]
            exact Ev.some)
  exact key 0 (Nat.zero_le _)
theorem impl_isSet.ev (l : List Int) (n : Int) (hl : l.length ≤ 9223372036854775807) (h0 : -9000 ≤ n) (h1 : n ≤ 9223372036854775807) : Ev (fun k => impl_isSet.f k l n) (isSetN l n) := by
  unfold impl_isSet.f isSetN
  rw [w64 (by omega) (by omega)]
  refine Ev.bind (impl_areIn.ev l 0 (n - 1) hl) ?_
  cases l.all (inI 0 (n - 1)) with
  | false => exact Ev.some
  | true =>
    simp only [↓reduceIte, Bool.true_and]
    exact Ev.bind (impl_isIncreasing.ev l hl) Ev.some
theorem spec_voSet.ev (l : List Int) (n : Int) (hl : l.length ≤ 9223372036854775807) (h0 : -9000 ≤ n) (h1 : n ≤ 9223372036854775807) : Ev (fun k => spec_voSet.f k n l) (isSetN l n) := by
  unfold spec_voSet.f isSetN
  rw [w64 (by omega) (by omega)]
  refine Ev.bind (a := l.all (inI 0 (n - 1)) && allF (incr l) l.length 0) ?_ Ev.some
  have e : (l.all (inI 0 (n - 1)) && allF (incr l) l.length 0) = allF (fun j => inI 0 (n - 1) (l.getD j 0) && incr l j) l.length 0 := by
    rw [allF_and, allF_drop (inI 0 (n - 1)) l 0 0 (Nat.zero_le _), List.drop_zero]
  rw [e]
  have key := Ev.down (G := fun i k => spec_l1Rising.l0 k l 0 (n - 1) l (l.length : Int) (i : Int)) (R := fun i => allF (fun j => inI 0 (n - 1) (l.getD j 0) && incr l j) l.length i) l.length
    (by refine Ev.shift ?_
        simp only [spec_l1Rising.l0, Int.lt_irrefl, ↓reduceIte, allF_end]
        exact Ev.some)
    (fun i hi ih => by
        refine Ev.shift ?_
        have c1 : (i : Int) < (l.length : Int) := by omega
        have c0 : (0 : Int) ≤ (i : Int) := by omega
        rw [allF_step _ _ _ hi]
        simp only [spec_l1Rising.l0, c1, c0, ↓reduceIte, w1 hi hl, spec_l1In.eq, Option.bind_some, rd_nat]
        cases inI 0 (n - 1) (l.getD i 0) with
        | false => simp only [Bool.false_eq_true, ↓reduceIte, Bool.false_and]; exact Ev.some
        | true =>
          simp only [↓reduceIte, Bool.true_and]
          by_cases h0 : i = 0
          · subst h0
            simp only [show ¬ ((0 : Nat) : Int) > 0 by omega, ↓reduceIte, incr, beq_self_eq_true, Bool.true_or, Bool.true_and]
            exact ih
          · have c2 : (i : Int) > 0 := by omega
            have e : wrap64 ((i : Int) - 1) = ((i - 1 : Nat) : Int) := by rw [w64 (by omega) (by omega)]; omega
            have c3 : (0 : Int) ≤ ((i - 1 : Nat) : Int) := by omega
            have c4 : ((i - 1 : Nat) : Int) < (l.length : Int) := by omega
            have hb : (i == 0) = false := by simp [h0]
            simp only [c2, ↓reduceIte, e, c3, c4, rd_nat, incr, hb, Bool.false_or]
            by_cases h1 : l.getD (i - 1) 0 < l.getD i 0
            · have h2 : ¬ l.getD (i - 1) 0 ≥ l.getD i 0 := by omega
              simp only [h1, h2, ↓reduceIte, decide_true, Bool.true_and]
              exact ih
            · have h2 : l.getD (i - 1) 0 ≥ l.getD i 0 := by omega
              simp only [h1, h2, ↓reduceIte, decide_false, Bool.false_and]
              exact Ev.some)
  exact key 0 (Nat.zero_le _)
theorem impl_isSetOf.ev (q : Int) (l s : List Int) (hm : l.length ≤ 9223372036854775807) (hs : s.length ≤ 9223372036854775807) : Ev (fun k => impl_isSetOf.f k q l s) (isComm q l && isSetN s l.length) := by
  unfold impl_isSetOf.f
  refine Ev.bind (impl_IsCommittee.ev q l hm) ?_
  cases h : isComm q l with
  | false => exact Ev.some
  | true => simp only [↓reduceIte, Bool.true_and]; exact Ev.bind (impl_isSet.ev s l.length hs (by omega) (by omega)) Ev.some
theorem spec_voAsked.ev (q : Int) (l s : List Int) (hm : l.length ≤ 9223372036854775807) (hs : s.length ≤ 9223372036854775807) : Ev (fun k => spec_voAsked.f k q l s) (isComm q l && isSetN s l.length) := by
  unfold spec_voAsked.f
  refine Ev.bind (spec_voGood.ev q l hm) ?_
  cases h : isComm q l with
  | false => exact Ev.some
  | true => simp only [↓reduceIte, Bool.true_and]; exact Ev.bind (spec_voSet.ev s l.length hs (by omega) (by omega)) Ev.some
theorem impl_maskOf.ev (l : List Int) (hl : l.length ≤ 1048576) (h : ∀ x ∈ l, 0 ≤ x ∧ x < 62) : Ev (fun k => impl_maskOf.f k l) (bitsOf l : Int) := by
  have key := Ev.down (G := fun i k => impl_maskOf.l0 k (((l.take i).foldl (fun m x => m ||| 2 ^ x.toNat) 0 : Nat) : Int) l (l.length : Int) (i : Int)) (R := fun _ => (bitsOf l : Int)) l.length
    (by refine Ev.shift ?_
        simp only [impl_maskOf.l0, Int.lt_irrefl, ↓reduceIte, List.take_length]
        exact Ev.some)
    (fun i hi ih => by
        refine Ev.shift ?_
        have c1 : (i : Int) < (l.length : Int) := by omega
        have c0 : (0 : Int) ≤ (i : Int) := by omega
        have hx := h _ (getD_mem l 0 i hi)
        have hm : (l.take i).foldl (fun m x => m ||| 2 ^ x.toNat) 0 < 2 ^ 62 := bitsOf_lt _ 62 (fun y hy => h y (List.mem_of_mem_take hy)) 0 (by decide)
        rw [foldl_take _ _ l 0 i hi] at ih
        simp only [impl_maskOf.l0, c1, c0, ↓reduceIte, w1 hi (show l.length ≤ 9223372036854775807 by omega), rd_nat, hx.1]
        obtain ⟨j, hj⟩ : ∃ j : Nat, l.getD i 0 = (j : Int) := ⟨(l.getD i 0).toNat, by omega⟩
        rw [hj] at ih hx ⊢
        have hp : 2 ^ j < 2 ^ 63 := Nat.pow_lt_pow_right (by omega) (by omega)
        rw [shl_one j (by omega), or_nat _ _ (Nat.lt_of_lt_of_le hm (by decide)) hp]
        exact ih)
  exact key 0 (Nat.zero_le _)
theorem impl_has.eq (b i : Nat) (hi : i ≤ 64) (hb : b < 2 ^ 63) : impl_has.f (b : Int) (i : Int) = some (b.testBit i) := by
  have c : (0 : Int) ≤ (i : Int) := by omega
  have hd : b / 2 ^ i < 2 ^ 63 := Nat.lt_of_le_of_lt (Nat.div_le_self _ _) hb
  unfold impl_has.f
  rw [if_pos c, shr_nat b i hi, and_one _ hd, bit_nat]
  congr 1
  rcases Nat.mod_two_eq_zero_or_one (b / 2 ^ i) with h | h <;> rw [h] <;> rfl
theorem impl_Committee_weight.ev (q : Int) (l : List Int) (b : Nat) (h : ∀ x ∈ l, 0 ≤ x ∧ x ≤ 1000) (hl : l.length ≤ 64) (hb : b < 2 ^ 63) : Ev (fun k => impl_Committee_weight.f k q l (b : Int)) (wt l b) := by
  have key := back (P := fun i => ∀ s : Int, 0 ≤ s → s ≤ 1000 * i → Ev (fun k => impl_Committee_weight.l0 k (b : Int) s l (l.length : Int) (i : Int)) (s + wt (l.drop i) (b / 2 ^ i))) l.length
    (by intro s h0 h1
        refine Ev.shift ?_
        simp only [impl_Committee_weight.l0, Int.lt_irrefl, ↓reduceIte, List.drop_length, wt, Int.add_zero]
        exact Ev.some)
    (by intro i hi ih s h0 h1
        refine Ev.shift ?_
        have c1 : (i : Int) < (l.length : Int) := by omega
        have c0 : (0 : Int) ≤ (i : Int) := by omega
        have hx := h _ (getD_mem l 0 i hi)
        simp only [impl_Committee_weight.l0, c1, c0, ↓reduceIte, impl_has.eq b i (by omega) hb, Option.bind_some, w1 hi (show l.length ≤ 9223372036854775807 by omega), rd_nat, bit_nat]
        rw [drop_getD l 0 i hi, wt, Nat.div_div_eq_div_mul, show (2 ^ i * 2 : Nat) = 2 ^ (i + 1) from rfl]
        by_cases hbit : b / 2 ^ i % 2 = 1
        · simp only [hbit, decide_true, ↓reduceIte]
          rw [w64 (by omega) (by omega)]
          refine Ev.eq (ih _ (by omega) (by omega)) (by omega)
        · simp only [hbit, decide_false, Bool.false_eq_true, ↓reduceIte]
          refine Ev.eq (ih _ (by omega) (by omega)) (by omega))
  have := key 0 (Nat.zero_le _) 0 (by omega) (by omega)
  unfold impl_Committee_weight.f
  rw [List.drop_zero, Nat.pow_zero, Nat.div_one, Int.zero_add] at this
  exact this
theorem sel_more (n d m : Nat) (h : m < 2 ^ n) : sel (n + d) m.testBit = sel n m.testBit := by
  induction d with
  | zero => rfl
  | succ d ih =>
    rw [show n + (d + 1) = (n + d) + 1 from rfl, sel_succ, ih, Nat.testBit_lt_two_pow (Nat.lt_of_lt_of_le h (Nat.pow_le_pow_right (by omega) (by omega)))]
    simp
theorem spec_voList.ev (m : Nat) (h : m < 512) : Ev (fun k => spec_voList.f k (m : Int)) (sel 9 m.testBit) := by
  unfold spec_voList.f
  have key := Ev.down (G := fun i k => spec_voList.l0 k (m : Int) (sel i m.testBit) (i : Int)) (R := fun _ => sel 9 m.testBit) 9
    (by refine Ev.shift ?_
        have c0 : (0 : Int) ≤ ((9 : Nat) : Int) := by omega
        have e : m / 2 ^ 9 = 0 := Nat.div_eq_of_lt h
        have c : ¬ (((0 : Nat) : Int) > 0) := by omega
        simp only [spec_voList.l0, c0, ↓reduceIte, shr_nat m 9 (by omega), e, c]
        exact Ev.some)
    (fun i hi ih => by
      refine Ev.shift ?_
      have c0 : (0 : Int) ≤ (i : Int) := by omega
      have c2 : (sel i m.testBit).length < 17592186044416 := by have := sel_len i m.testBit; omega
      rw [sel_succ] at ih
      simp only [spec_voList.l0, c0, ↓reduceIte, shr_nat m i (by omega), tmod_two, c2, w1 hi (by omega)]
      by_cases hz : m / 2 ^ i = 0
      · have c : ¬ (((m / 2 ^ i : Nat) : Int) > 0) := by rw [hz]; decide
        simp only [c, ↓reduceIte]
        refine Ev.eq Ev.some ?_
        have hlt : m < 2 ^ i := by
          rcases Nat.div_eq_zero_iff.1 hz with h | h
          · exact absurd h (by have := Nat.two_pow_pos i; omega)
          · exact h
        have := sel_more i (9 - i) m hlt
        rw [show i + (9 - i) = 9 by omega] at this
        exact this.symm
      · have c : (((m / 2 ^ i : Nat) : Int) > 0) := Int.natCast_pos.2 (Nat.pos_of_ne_zero hz)
        simp only [c, ↓reduceIte]
        cases hb : m.testBit i with
        | true =>
          rw [bit_nat, decide_eq_true_eq] at hb
          have c3 : ((m / 2 ^ i % 2 : Nat) : Int) = 1 := by omega
          rw [bit_nat, show decide (m / 2 ^ i % 2 = 1) = true from decide_eq_true hb, if_pos rfl] at ih
          simp only [c3, ↓reduceIte]
          exact ih
        | false =>
          rw [hb, if_neg (by decide), List.append_nil] at ih
          rw [bit_nat, decide_eq_false_iff_not] at hb
          have c3 : ¬ ((m / 2 ^ i % 2 : Nat) : Int) = 1 := by omega
          simp only [c3, ↓reduceIte]
          exact ih)
  exact key 0 (by omega)
theorem impl_votesOf.ev (n : Nat) (hn : n ≤ 40) (p : Nat → Int → Option Bool) (P : Nat → Bool) (h : ∀ b : Nat, b < 2 ^ n → Ev (fun k => p k (b : Int)) (P b)) : Ev (fun k => impl_votesOf.f k (n : Int) (p k)) ((n : Int), tab n P) := by
  obtain ⟨K, hK⟩ := Ev.all (p := fun k (b : Nat) => p k (b : Int)) (P := P) (List.range (2 ^ n)) (fun b hb => h b (List.mem_range.1 hb))
  have hpos := Nat.two_pow_pos n
  refine ⟨K + 2 ^ n + 1, fun k hk => ?_⟩
  have hq := hK k (by omega)
  show impl_votesOf.f k (n : Int) (p k) = _
  generalize p k = q at hq ⊢
  have hq : ∀ b : Nat, b < 2 ^ n → q (b : Int) = some (P b) := fun b hb => hq b (List.mem_range.2 hb)
  have h40 : 2 ^ n ≤ 1099511627776 := pow_small hn
  have hle : (2 ^ n : Nat) ≤ 281474976710656 := by omega
  have c0 : (0 : Int) ≤ (n : Int) := by omega
  have c1 : (0 : Int) ≤ ((2 ^ n : Nat) : Int) := by omega
  have hl := tab_len n P
  unfold impl_votesOf.f
  simp only [c0, ↓reduceIte, shl_one n (by omega), c1, Int.toNat_natCast, hle, Option.bind_some, List.length_replicate]
  have := downq (G := fun i k => impl_votesOf.l0 k q ((2 ^ n : Nat) : Int) (i : Int) (n : Int) (filled (tab n P) false i)) (R := fun _ => ((n : Int), tab n P)) (2 ^ n)
    (by intro k
        have : filled (tab n P) false (2 ^ n) = tab n P := by rw [← hl]; exact filled_all _ _
        simp only [impl_votesOf.l0, Int.lt_irrefl, ↓reduceIte, this])
    (fun i hi k ih => by
        have c1 : (i : Int) < ((2 ^ n : Nat) : Int) := by omega
        have c0 : (0 : Int) ≤ (i : Int) := by omega
        have c2 : (i : Int) < ((filled (tab n P) false i).length : Int) := by rw [filled_len _ _ _ (by omega)]; omega
        have hs := filled_set (tab n P) false false i (by omega)
        rw [tab_get n P i hi] at hs
        simp only [impl_votesOf.l0, c1, c0, c2, ↓reduceIte, hq i hi, Option.bind_some, w1 hi (show 2 ^ n ≤ 9223372036854775807 by omega), Int.toNat_natCast, hs]
        exact ih) 0 (Nat.zero_le _) k (by omega)
  rw [filled_zero, hl] at this
  exact this
def cwin (q : Int) (l : List Int) (b : Nat) : Bool := decide (wt l b ≥ q)
theorem impl_Committee_votes.ev (q : Int) (l : List Int) (h : ∀ x ∈ l, 0 ≤ x ∧ x ≤ 1000) (hl : l.length ≤ 40) : Ev (fun k => impl_Committee_votes.f k q l) ((l.length : Int), tab l.length (cwin q l)) := by
  unfold impl_Committee_votes.f
  refine Ev.bind (impl_votesOf.ev l.length hl (fun k y => impl_Committee_votes_1.f k y q l) (cwin q l) (fun b hb => ?_)) Ev.some
  unfold impl_Committee_votes_1.f
  have h40 : 2 ^ l.length ≤ 1099511627776 := pow_small hl
  exact Ev.bind (impl_Committee_weight.ev q l b h (by omega) (by omega)) Ev.some
theorem laws_zSame.ev (l : List Int) (hl : l.length ≤ 9223372036854775807) : Ev (fun k => laws_zSame.f k l l) true := by
  unfold laws_zSame.f
  refine Ev.ite_pos rfl ?_
  have key := Ev.down (G := fun i k => laws_zSame.l0 k l l (l.length : Int) (i : Int)) (R := fun _ => true) l.length
    (by refine Ev.shift ?_
        simp only [laws_zSame.l0, Int.lt_irrefl, ↓reduceIte]
        exact Ev.some)
    (fun i hi ih => by
      refine Ev.shift ?_
      have c1 : (i : Int) < (l.length : Int) := by omega
      have c0 : (0 : Int) ≤ (i : Int) := by omega
      simp only [laws_zSame.l0, c1, c0, ↓reduceIte, w1 hi hl]
      exact ih)
  exact key 0 (Nat.zero_le _)
theorem laws_zHas.ev (l : List Int) (v : Int) (hl : l.length ≤ 9223372036854775807) : Ev (fun k => laws_zHas.f k l v) (hasN l v) := by
  unfold laws_zHas.f hasN
  have key := Ev.down (G := fun i k => laws_zHas.l0 k v l (l.length : Int) (i : Int)) (R := fun i => (l.drop i).any fun x => decide (v = x)) l.length
    (by refine Ev.shift ?_
        simp only [laws_zHas.l0, Int.lt_irrefl, ↓reduceIte, List.drop_length, List.any_nil]
        exact Ev.some)
    (fun i hi ih => by
      refine Ev.shift ?_
      have c1 : (i : Int) < (l.length : Int) := by omega
      have c0 : (0 : Int) ≤ (i : Int) := by omega
      rw [drop_getD l 0 i hi, List.any_cons]
      simp only [laws_zHas.l0, c1, c0, ↓reduceIte, w1 hi hl, rd_nat]
      by_cases e : l.getD i 0 = v
      · refine Ev.ite_pos e ?_
        rw [decide_eq_true e.symm]
        exact Ev.some
      · refine Ev.ite_neg e ?_
        rw [decide_eq_false (fun h => e h.symm), Bool.false_or]
        exact ih)
  exact key 0 (Nat.zero_le _)
theorem laws_zRises.ev (l : List Int) (hl : l.length ≤ 1048576) (hr : l.Pairwise (· < ·)) : Ev (fun k => laws_zRises.f k l) true := by
  unfold laws_zRises.f
  have key := Ev.down (G := fun i k => laws_zRises.l0 k l ((i + 1 : Nat) : Int)) (R := fun _ => true) (l.length)
    (by refine Ev.shift ?_
        have c : ¬ (((l.length + 1 : Nat) : Int) < (l.length : Int)) := by omega
        simp only [laws_zRises.l0, c, ↓reduceIte]
        exact Ev.some)
    (fun i hi ih => by
      refine Ev.shift ?_
      by_cases c : ((i + 1 : Nat) : Int) < (l.length : Int)
      · have e : wrap64 (((i + 1 : Nat) : Int) - 1) = (i : Int) := by rw [w64 (by omega) (by omega)]; omega
        have c0 : (0 : Int) ≤ (i : Int) := by omega
        have c1 : (i : Int) < (l.length : Int) := by omega
        have c2 : (0 : Int) ≤ ((i + 1 : Nat) : Int) := by omega
        have hlt : l.getD i 0 < l.getD (i + 1) 0 := by
          rw [List.getD_eq_getElem?_getD, List.getD_eq_getElem?_getD, List.getElem?_eq_getElem hi, List.getElem?_eq_getElem (show i + 1 < l.length by omega)]
          exact List.pairwise_iff_getElem.1 hr i (i + 1) hi (by omega) (by omega)
        have c3 : ¬ (l.getD i 0 ≥ l.getD (i + 1) 0) := by omega
        have e2 : wrap64 (((i + 1 : Nat) : Int) + 1) = ((i + 1 + 1 : Nat) : Int) := by rw [w64 (by omega) (by omega)]; omega
        simp only [laws_zRises.l0, c, e, e2, c0, c1, c2, c3, rd_nat, ↓reduceIte]
        exact ih
      · simp only [laws_zRises.l0, c, ↓reduceIte]
        exact Ev.some)
  exact key 0 (Nat.zero_le _)
theorem laws_zSet.ev (m : Nat) (h : m < 512) : Ev (fun k => laws_zSet.f k (m : Int)) (sel 9 m.testBit) := by
  unfold laws_zSet.f
  have key := Ev.down (G := fun i k => laws_zSet.l0 k (m : Int) (sel i m.testBit) (i : Int)) (R := fun _ => sel 9 m.testBit) 9
    (by refine Ev.shift ?_
        have c0 : (0 : Int) ≤ ((9 : Nat) : Int) := by omega
        have e : m / 2 ^ 9 = 0 := Nat.div_eq_of_lt h
        have c : ¬ (((0 : Nat) : Int) > 0) := by omega
        simp only [laws_zSet.l0, c0, ↓reduceIte, shr_nat m 9 (by omega), e, c]
        exact Ev.some)
    (fun i hi ih => by
      refine Ev.shift ?_
      have c0 : (0 : Int) ≤ (i : Int) := by omega
      have c2 : (sel i m.testBit).length < 17592186044416 := by have := sel_len i m.testBit; omega
      rw [sel_succ] at ih
      simp only [laws_zSet.l0, c0, ↓reduceIte, shr_nat m i (by omega), tmod_two, c2, w1 hi (by omega)]
      by_cases hz : m / 2 ^ i = 0
      · have c : ¬ (((m / 2 ^ i : Nat) : Int) > 0) := by rw [hz]; decide
        simp only [c, ↓reduceIte]
        refine Ev.eq Ev.some ?_
        have hlt : m < 2 ^ i := by
          rcases Nat.div_eq_zero_iff.1 hz with h | h
          · exact absurd h (by have := Nat.two_pow_pos i; omega)
          · exact h
        have := sel_more i (9 - i) m hlt
        rw [show i + (9 - i) = 9 by omega] at this
        exact this.symm
      · have c : (((m / 2 ^ i : Nat) : Int) > 0) := Int.natCast_pos.2 (Nat.pos_of_ne_zero hz)
        simp only [c, ↓reduceIte]
        cases hb : m.testBit i with
        | true =>
          rw [bit_nat, decide_eq_true_eq] at hb
          have c3 : ((m / 2 ^ i % 2 : Nat) : Int) = 1 := by omega
          rw [bit_nat, show decide (m / 2 ^ i % 2 = 1) = true from decide_eq_true hb, if_pos rfl] at ih
          simp only [c3, ↓reduceIte]
          exact ih
        | false =>
          rw [hb, if_neg (by decide), List.append_nil] at ih
          rw [bit_nat, decide_eq_false_iff_not] at hb
          have c3 : ¬ ((m / 2 ^ i % 2 : Nat) : Int) = 1 := by omega
          simp only [c3, ↓reduceIte]
          exact ih)
  exact key 0 (by omega)
theorem zbits_all : ((List.range 512).all fun m => bitsOf (sel 9 m.testBit) == m && (List.range 10).all fun n => !(decide (m < 2 ^ n)) || isSetN (sel 9 m.testBit) (n : Int)) = true := by decide +kernel
theorem zbits {m : Nat} (h : m < 512) : bitsOf (sel 9 m.testBit) = m ∧ ∀ n : Nat, n ≤ 9 → m < 2 ^ n → isSetN (sel 9 m.testBit) (n : Int) = true := by
  have q := zbits_all
  rw [List.all_eq_true] at q
  have q := q m (List.mem_range.2 h)
  rw [Bool.and_eq_true, List.all_eq_true] at q
  refine ⟨by simpa using q.1, fun n hn hm => ?_⟩
  have := q.2 n (List.mem_range.2 (by omega))
  simpa [hm] using this
theorem impl_IsWinning.bits (q : Int) (l : List Int) (hc : isComm q l = true) (m : Nat) (h : m < 2 ^ l.length) : Ev (fun k => impl_IsWinning.f k q l (sel 9 m.testBit)) (cwin q l m, true) := by
  have hlen := isComm_len hc
  have h9 : 2 ^ l.length ≤ 512 := pow_small (m := 9) hlen.2
  obtain ⟨e, hs⟩ := zbits (show m < 512 by omega)
  have hs := hs l.length hlen.2 h
  have hmem := isSetN_mem hs
  have hsl := sel_len 9 m.testBit
  unfold impl_IsWinning.f
  have a := impl_isSetOf.ev q l (sel 9 m.testBit) (by omega) (by omega)
  rw [hc, hs] at a
  refine Ev.bind a (Ev.ite_pos rfl ?_)
  have b := impl_maskOf.ev (sel 9 m.testBit) (by omega) (fun x hx => by have := hmem x hx; omega)
  rw [e] at b
  refine Ev.bind b (Ev.bind (impl_Committee_weight.ev q l m (isComm_mem hc) (by omega) (by omega)) Ev.some)
def bstep (g : Nat → Option Int) (st : List Int × Int) (i : Nat) : List Int × Int :=
  match g i with
  | none => st
  | some x => if st.1 = [] then ([(i : Int)], x) else if x < st.2 then st else if x > st.2 then ([(i : Int)], x) else (st.1 ++ [(i : Int)], x)
def best (g : Nat → Option Int) (n : Nat) : List Int × Int := (List.range n).foldl (bstep g) ([], 0)
theorem best_succ (g : Nat → Option Int) (n : Nat) : best g (n + 1) = bstep g (best g n) n := by
  unfold best; rw [List.range_succ, List.foldl_append]; rfl
theorem bstep_len (g : Nat → Option Int) (st : List Int × Int) (i : Nat) : (bstep g st i).1.length ≤ st.1.length + 1 := by
  unfold bstep
  split
  · omega
  · split
    · simp
    · split
      · omega
      · split <;> simp
theorem best_len (g : Nat → Option Int) (n : Nat) : (best g n).1.length ≤ n := by
  induction n with
  | zero => simp [best]
  | succ n ih => rw [best_succ]; have := bstep_len g (best g n) n; omega
def tellO (x : Option Int) : Int × Bool := match x with
  | none => (0, false)
  | some x => (x, true)
theorem impl_bestOf.ev (n : Nat) (hn : n ≤ 1000000) (p : Nat → Int → Option (Int × Bool)) (g : Nat → Option Int) (h : ∀ b : Nat, b < n → Ev (fun k => p k (b : Int)) (tellO (g b))) : Ev (fun k => impl_bestOf.f k (n : Int) (p k)) ((best g n).1, decide ((best g n).1 ≠ [])) := by
  obtain ⟨K, hK⟩ := Ev.all (p := fun k (b : Nat) => p k (b : Int)) (P := fun b => tellO (g b)) (List.range n) (fun b hb => h b (List.mem_range.1 hb))
  refine ⟨K + 2 * n + 2, fun k hk => ?_⟩
  have hq := hK k (by omega)
  show impl_bestOf.f k (n : Int) (p k) = _
  generalize p k = q at hq ⊢
  have hq : ∀ b : Nat, b < n → q (b : Int) = some (tellO (g b)) := fun b hb => hq b (List.mem_range.2 hb)
  have key : ∀ d i, i + d = n → ∀ k, 2 * d + 1 < k + 1 → impl_bestOf.l0 k q (best g i).1 (best g i).2 (n : Int) (i : Int) = some ((best g n).1, decide ((best g n).1 ≠ [])) := by
    intro d
    induction d with
    | zero =>
      intro i hi k hk
      obtain rfl : i = n := by omega
      obtain ⟨k, rfl⟩ : ∃ j, k = j + 1 := ⟨k - 1, by omega⟩
      simp only [impl_bestOf.l0, Int.lt_irrefl, ↓reduceIte]
      congr 2
      rw [decide_eq_decide, ne_eq, ← List.length_eq_zero_iff]
      omega
    | succ d ih =>
      intro i hi k hk
      obtain ⟨k, rfl⟩ : ∃ j, k = j + 1 + 1 := ⟨k - 2, by omega⟩
      have c1 : (i : Int) < (n : Int) := by omega
      have hw := w1 (show i < n by omega) (show n ≤ 9223372036854775807 by omega)
      have h2 := ih (i + 1) (by omega) k (by omega)
      have hbl := best_len g i
      have c2 : (best g i).1.length < 17592186044416 := by omega
      rw [best_succ] at h2
      simp only [impl_bestOf.l0, c1, ↓reduceIte]
      rw [hq i (by omega), Option.bind_some]
      unfold bstep at h2
      cases hg : g i with
      | none =>
        rw [hg] at h2
        simp only [tellO, Bool.false_eq_true, ↓reduceIte, impl_bestOf.j1, hw]
        exact h2
      | some x =>
        rw [hg] at h2
        simp only [tellO, ↓reduceIte]
        by_cases he : (best g i).1 = []
        · have ce : ¬ ((best g i).1.length : Int) > 0 := by rw [he]; simp
          simp only [he, ↓reduceIte] at h2
          simp only [ce, ↓reduceIte, impl_bestOf.j1, Bool.false_eq_true, c2, hw, he, List.nil_append]
          first | exact h2 | (simp only [List.length_nil, Int.natCast_zero, gt_iff_lt, Int.lt_irrefl, ↓reduceIte]; exact h2) | (simp; exact h2)
        · have ce : ((best g i).1.length : Int) > 0 := by have := List.length_pos_iff.2 he; omega
          simp only [he, ↓reduceIte] at h2
          simp only [ce, ↓reduceIte, impl_bestOf.j1, hw]
          by_cases hlt : x < (best g i).2
          · simp only [hlt, ↓reduceIte] at h2
            simp only [hlt, decide_true, ↓reduceIte]
            exact h2
          · simp only [hlt, ↓reduceIte] at h2
            simp only [hlt, decide_false, Bool.false_eq_true, ↓reduceIte]
            by_cases hgt : x > (best g i).2
            · simp only [hgt, ↓reduceIte] at h2
              simp only [hgt, ↓reduceIte, Option.bind_some, List.length_nil, List.nil_append, show (0 : Nat) < 17592186044416 by decide]
              exact h2
            · simp only [hgt, ↓reduceIte] at h2
              simp only [hgt, ↓reduceIte, c2]
              exact h2
  have := key n 0 (by omega) k (by omega)
  unfold impl_bestOf.f
  exact this
theorem best_top (g : Nat → Option Int) (n : Nat) : (∀ i x, i < n → g i = some x → (best g n).1 ≠ [] ∧ x ≤ (best g n).2 ∧ ((i : Int) ∈ (best g n).1 ↔ x = (best g n).2)) ∧ (∀ y ∈ (best g n).1, ∃ i, i < n ∧ y = (i : Int) ∧ g i = some (best g n).2) ∧ (best g n).1.Pairwise (· < ·) := by
  induction n with
  | zero => exact ⟨fun i x h => absurd h (by omega), fun y hy => by simp [best] at hy, by simp [best]⟩
  | succ n ih =>
    rw [best_succ]
    generalize best g n = st at ih ⊢
    obtain ⟨L, v⟩ := st
    simp only at ih
    obtain ⟨h1, h2, h3⟩ := ih
    have hlt : ∀ y ∈ L, y < (n : Int) := fun y hy => by obtain ⟨i, hi, rfl, _⟩ := h2 y hy; omega
    have nn : (n : Int) ∉ L := fun h => by have := hlt _ h; omega
    unfold bstep
    cases hg : g n with
    | none =>
      refine ⟨fun i x hi hx => ?_, fun y hy => ?_, h3⟩
      · rcases Nat.lt_succ_iff_lt_or_eq.1 hi with hi | rfl
        · exact h1 i x hi hx
        · rw [hg] at hx; cases hx
      · obtain ⟨i, hi, e⟩ := h2 y hy
        exact ⟨i, by omega, e⟩
    | some x =>
      simp only
      by_cases hn : L = []
      · subst hn
        rw [if_pos rfl]
        refine ⟨fun i z hi hz => ?_, fun y hy => ?_, List.pairwise_singleton _ _⟩
        · rcases Nat.lt_succ_iff_lt_or_eq.1 hi with hi | rfl
          · exact absurd rfl (h1 i z hi hz).1
          · rw [hg] at hz; obtain rfl := Option.some.inj hz; simp
        · obtain rfl := List.mem_singleton.1 hy
          exact ⟨n, by omega, rfl, hg⟩
      · rw [if_neg hn]
        by_cases c1 : x < v
        · rw [if_pos c1]
          refine ⟨fun i z hi hz => ?_, fun y hy => ?_, h3⟩
          · rcases Nat.lt_succ_iff_lt_or_eq.1 hi with hi | rfl
            · exact h1 i z hi hz
            · rw [hg] at hz; obtain rfl := Option.some.inj hz
              exact ⟨hn, by simp only; omega, fun h => absurd h nn, fun h => by simp only at h; omega⟩
          · obtain ⟨i, hi, e⟩ := h2 y hy
            exact ⟨i, by omega, e⟩
        · rw [if_neg c1]
          by_cases c2 : x > v
          · rw [if_pos c2]
            refine ⟨fun i z hi hz => ?_, fun y hy => ?_, List.pairwise_singleton _ _⟩
            · rcases Nat.lt_succ_iff_lt_or_eq.1 hi with hi | rfl
              · have := (h1 i z hi hz).2.1
                refine ⟨by simp, by simp only; omega, fun h => ?_, fun h => by simp only at h; omega⟩
                rw [List.mem_singleton] at h; omega
              · rw [hg] at hz; obtain rfl := Option.some.inj hz; simp
            · obtain rfl := List.mem_singleton.1 hy
              exact ⟨n, by omega, rfl, hg⟩
          · rw [if_neg c2]
            obtain rfl : x = v := by omega
            refine ⟨fun i z hi hz => ?_, fun y hy => ?_, ?_⟩
            · rcases Nat.lt_succ_iff_lt_or_eq.1 hi with hi | rfl
              · obtain ⟨_, a, b⟩ := h1 i z hi hz
                refine ⟨by simp, a, ?_⟩
                rw [← b, List.mem_append, List.mem_singleton]
                constructor
                · rintro (h | h)
                  · exact h
                  · omega
                · exact Or.inl
              · rw [hg] at hz; obtain rfl := Option.some.inj hz; simp
            · rcases List.mem_append.1 hy with hy | hy
              · obtain ⟨i, hi, e⟩ := h2 y hy
                exact ⟨i, by omega, e⟩
              · obtain rfl := List.mem_singleton.1 hy
                exact ⟨n, by omega, rfl, hg⟩
            · rw [List.pairwise_append]
              refine ⟨h3, List.pairwise_singleton _ _, fun a ha b hb => ?_⟩
              obtain rfl := List.mem_singleton.1 hb
              exact hlt a ha
def ifC (q : Int) (l : List Int) : Int × List Int × Bool := if isComm q l = true then (q, l, true) else (0, [], false)
theorem impl_ifCommittee.ev (q : Int) (l : List Int) (hm : l.length ≤ 9223372036854775807) : Ev (fun k => impl_ifCommittee.f k q l) (ifC q l) := by
  unfold impl_ifCommittee.f ifC
  refine Ev.bind (impl_IsCommittee.ev q l hm) ?_
  cases isComm q l <;> exact Ev.some
def isMem (q : Int) (l : List Int) (i : Int) : Bool := isComm q l && inI 0 ((l.length : Int) - 1) i
theorem isMem_at {q : Int} {l : List Int} {i : Int} (h : isMem q l i = true) : isComm q l = true ∧ ∃ j : Nat, i = (j : Int) ∧ j < l.length := by
  simp only [isMem, inI, Bool.and_eq_true, decide_eq_true_eq] at h
  exact ⟨h.1, i.toNat, by omega, by omega⟩
theorem impl_isMember.ev (q : Int) (l : List Int) (i : Int) (hm : l.length ≤ 9223372036854775807) : Ev (fun k => impl_isMember.f k q l i) (isMem q l i) := by
  unfold impl_isMember.f isMem
  refine Ev.bind (impl_IsCommittee.ev q l hm) ?_
  cases h : isComm q l with
  | true => simp only [↓reduceIte, impl_within.eq, Option.bind_some, Bool.true_and]; rw [w64 (by omega) (by omega)]; exact Ev.some
  | false => exact Ev.some
theorem spec_pwMember.ev (q : Int) (l : List Int) (i : Int) (hm : l.length ≤ 9223372036854775807) : Ev (fun k => spec_pwMember.f k q l i) (isMem q l i) := by
  unfold spec_pwMember.f isMem
  refine Ev.bind (spec_voGood.ev q l hm) ?_
  cases h : isComm q l with
  | true => simp only [↓reduceIte, spec_l1In.eq, Option.bind_some, Bool.true_and]; rw [w64 (by omega) (by omega)]; exact Ev.some
  | false => exact Ev.some
theorem spec_l1Own.eq (l : List Int) (h : l.length < 17592186044416) : spec_l1Own.f l = some l := by
  unfold spec_l1Own.f
  simp only [Option.bind_some, List.length_nil, Nat.zero_add, h, ↓reduceIte, List.nil_append]
theorem slices_Clone_int_int.eq (l : List Int) (h : l.length < 17592186044416) : slices_Clone_int_int.f l = some l := by
  unfold slices_Clone_int_int.f
  rw [if_pos h]
def splitL (l : List Int) (i : Nat) (p : Int) : List Int := l.take i ++ [p, rd l i - p] ++ l.drop (i + 1)
def part (q : Int) (l : List Int) (a p : Int) : Bool := isMem q l a && (inI 0 (rd l a) p && decide (l.length < 9))
def split (q : Int) (l : List Int) (a p : Int) : Int × List Int × Bool := if part q l a p = true then (q, splitL l a.toNat p, true) else (0, [], false)
theorem splitL_len (l : List Int) (i : Nat) (p : Int) (hi : i < l.length) : (splitL l i p).length = l.length + 1 := by
  unfold splitL
  simp only [List.length_append, List.length_take, List.length_drop, List.length_cons, List.length_nil]
  omega
theorem split_parts (l : List Int) (i : Nat) (hi : i < l.length) : l = l.take i ++ [rd l i] ++ l.drop (i + 1) := by
  rw [rd_nat, List.getD_eq_getElem?_getD, List.getElem?_eq_getElem hi, Option.getD_some, List.append_assoc, List.singleton_append, List.getElem_cons_drop, List.take_append_drop]
theorem rd_mem (l : List Int) (i : Nat) (hi : i < l.length) : rd l i ∈ l := by
  rw [rd_nat, List.getD_eq_getElem?_getD, List.getElem?_eq_getElem hi, Option.getD_some]
  exact List.getElem_mem hi
theorem splitL_comm (q : Int) (l : List Int) (i : Nat) (p : Int) (hc : isComm q l = true) (hi : i < l.length) (h0 : 0 ≤ p) (h1 : p ≤ rd l i) : isComm q (splitL l i p) = decide (l.length < 9) := by
  have hl := isComm_len hc
  have hs := split_parts l i hi
  have hn := splitL_len l i p hi
  have h3 : ∀ x ∈ l, inI 0 1000 x = true := by
    simp only [isComm, Bool.and_eq_true, List.all_eq_true] at hc
    exact hc.1.2
  have hr : 0 ≤ rd l i ∧ rd l i ≤ 1000 := isComm_mem hc _ (rd_mem l i hi)
  have hall : (splitL l i p).all (inI 0 1000) = true := by
    rw [List.all_eq_true]
    intro x hx
    unfold splitL at hx
    rw [List.mem_append, List.mem_append] at hx
    rcases hx with (hx | hx) | hx
    · exact h3 x (List.mem_of_mem_take hx)
    · simp only [List.mem_cons, List.not_mem_nil, or_false] at hx
      simp only [inI, Bool.and_eq_true, decide_eq_true_eq]
      rcases hx with rfl | rfl <;> omega
    · exact h3 x (List.mem_of_mem_drop hx)
  have hsum : (splitL l i p).sum = l.sum := by
    have e := congrArg List.sum hs
    rw [e]
    unfold splitL
    simp only [List.sum_append, List.sum_cons, List.sum_nil]
    omega
  have hq := isComm_q hc
  unfold isComm
  rw [hall, hsum, hn]
  simp only [inI, Bool.and_true]
  rw [Bool.eq_iff_iff]
  simp only [Bool.and_eq_true, decide_eq_true_eq]
  omega
theorem impl_SplitMember.ev (q : Int) (l : List Int) (a p : Int) (hm : l.length ≤ 9223372036854775807) : Ev (fun k => impl_SplitMember.f k q l a p) (split q l a p) := by
  have off : ∀ v : Int × List Int × Bool, v = (0, [], false) → Ev (fun k => impl_SplitMember.j0 k a p true q l) v := by
    rintro v rfl
    refine Ev.shift ?_
    simp only [impl_SplitMember.j0, ↓reduceIte]
    exact Ev.some
  unfold impl_SplitMember.f split part
  refine Ev.bind (impl_isMember.ev q l a hm) ?_
  cases h1 : isMem q l a with
  | false => simp only [Bool.false_eq_true, ↓reduceIte, Bool.false_and]; exact off _ rfl
  | true =>
    obtain ⟨hc, i, rfl, hi⟩ := isMem_at h1
    have hlen := isComm_len hc
    have ci : (i : Int) < (l.length : Int) := by omega
    have c0 : (0 : Int) ≤ (i : Int) := by omega
    simp only [↓reduceIte, Bool.true_and, c0, ci, impl_within.eq, Option.bind_some]
    cases h4 : inI 0 (rd l i) p with
    | false => simp only [Bool.not_false, Bool.false_eq_true, ↓reduceIte, Bool.false_and]; exact off _ rfl
    | true =>
      have hp : 0 ≤ p ∧ p ≤ rd l i := by simpa [inI] using h4
      have hr : 0 ≤ rd l i ∧ rd l i ≤ 1000 := isComm_mem hc (rd l i) (rd_mem l i hi)
      refine Ev.shift ?_
      simp only [Bool.not_true, impl_SplitMember.j0, Bool.false_eq_true, ↓reduceIte, slices_Clone_int_int.eq l (by omega), Option.bind_some, c0, ci, Int.toNat_natCast, Bool.true_and]
      have hins : slices_Insert_int_int.f (l.set i (wrap64 (rd l i - p))) (i : Int) [p] = some (splitL l i p) := by
        unfold slices_Insert_int_int.f
        rw [if_pos (by simp only [List.length_set, List.length_cons, List.length_nil]; omega), w64 (by omega) (by omega), Int.toNat_natCast]
        congr 1
        unfold splitL
        rw [List.take_set_of_le (by omega), List.drop_set, if_neg (by omega), Nat.sub_self, List.drop_eq_getElem_cons hi, List.set_cons_zero]
        simp
      refine Ev.bind (Ev.one hins) ?_
      refine Ev.eq (Ev.bind (impl_ifCommittee.ev _ _ (by rw [splitL_len l i p hi]; omega)) Ev.some) ?_
      unfold ifC
      rw [splitL_comm q l i p hc hi hp.1 hp.2]
theorem spec_unPart.ev (q : Int) (l : List Int) (a p : Int) (hm : l.length ≤ 9223372036854775807) : Ev (fun k => spec_unPart.f k q l a p) (part q l a p) := by
  unfold spec_unPart.f part
  refine Ev.bind (spec_pwMember.ev q l a hm) ?_
  cases h1 : isMem q l a with
  | false => simp only [Bool.false_eq_true, ↓reduceIte, Bool.false_and]; exact Ev.some
  | true =>
    obtain ⟨hc, i, rfl, hi⟩ := isMem_at h1
    have ci : (i : Int) < (l.length : Int) := by omega
    have c0 : (0 : Int) ≤ (i : Int) := by omega
    simp only [↓reduceIte, Bool.true_and, c0, ci, spec_l1In.eq, Option.bind_some]
    cases h4 : inI 0 (rd l i) p with
    | false => simp only [Bool.false_eq_true, ↓reduceIte, Bool.false_and]; exact Ev.some
    | true =>
      simp only [↓reduceIte, Bool.true_and]
      refine Ev.eq Ev.some ?_
      rw [decide_eq_decide]; omega
theorem part_at {q : Int} {l : List Int} {a p : Int} (h : part q l a p = true) : isComm q l = true ∧ l.length < 9 ∧ ∃ i : Nat, a = (i : Int) ∧ i < l.length ∧ 0 ≤ p ∧ p ≤ rd l i ∧ rd l i ≤ 1000 := by
  unfold part at h
  simp only [Bool.and_eq_true, decide_eq_true_eq] at h
  obtain ⟨hc, i, rfl, hi⟩ := isMem_at h.1
  have hp : 0 ≤ p ∧ p ≤ rd l i := by simpa [inI] using h.2.1
  exact ⟨hc, h.2.2, i, rfl, hi, hp.1, hp.2, (isComm_mem hc (rd l i) (rd_mem l i hi)).2⟩
theorem spec_unSplit.eq (q : Int) (l : List Int) (i : Nat) (p : Int) (hl : l.length ≤ 9) (hi : i < l.length) (hp : 0 ≤ p) (hr : p ≤ rd l i) (hr1 : rd l i ≤ 1000) : spec_unSplit.f q l i p = some (q, splitL l i p) := by
  have ci : (i : Int) < (l.length : Int) := by omega
  have c0 : (0 : Int) ≤ (i : Int) := by omega
  have c1 : (i : Int) ≤ (l.length : Int) := by omega
  have e : wrap64 ((i : Int) + 1) = ((i + 1 : Nat) : Int) := by rw [w64 (by omega) (by omega)]; omega
  have c2 : (0 : Int) ≤ ((i + 1 : Nat) : Int) := by omega
  have c3 : ((i + 1 : Nat) : Int) ≤ (l.length : Int) := by omega
  unfold spec_unSplit.f
  rw [if_pos c0, if_pos c1, Int.toNat_natCast, spec_l1Own.eq _ (by rw [List.length_take]; omega), Option.bind_some, if_pos ci, Option.bind_some, if_pos (by simp only [List.length_take, List.length_cons, List.length_nil]; omega), Option.bind_some, e, if_pos c2, if_pos c3, Int.toNat_natCast,
    if_pos (by simp only [List.length_append, List.length_drop, List.length_take, List.length_cons, List.length_nil]; omega), w64 (by omega) (by omega)]
  rfl
end Go.Proofs.YtflkfbjmlacgcaaGreat.P

namespace Go.Proofs.YtflkfbjmlacgcaaGreat.P
def cmpI (x y : Int) : Int := if x < y then -1 else if x > y then 1 else 0
end Go.Proofs.YtflkfbjmlacgcaaGreat.P

namespace Go.Proofs.YtflkfbjmlacgcaaGreat.P
open Go.RowKit Go.Proofs.YtflkfbjmlacgcaaGreatW.PrintWords Go.Proofs.YtflkfbjmlacgcaaGreatW.PrintLast Go.Proofs.YtflkfbjmlacgcaaGreatW.PrintMore
theorem cmp_Compare_int.eq (x y : Int) : cmp_Compare_int.f x y = some (cmpI x y) := by
  have e : ∀ z, cmp_isNaN_int.f z = some false := fun z => by simp [cmp_isNaN_int.f]
  unfold cmp_Compare_int.f cmpI
  rw [e, e]
  simp only [Option.bind_some, Bool.false_eq_true, ↓reduceIte]
  split
  · rfl
  · split <;> rfl
theorem impl_votes_isSwing.eq (n : Nat) (w : List Bool) (m i : Nat) (hw : w.length = 2 ^ n) (hn : n ≤ 40) (hm : m < 2 ^ n) (hi : i < n) : impl_votes_isSwing.f (n : Int) w (m : Int) (i : Int) = some (swing w i m) := by
  have h40 : 2 ^ n ≤ 1099511627776 := pow_small hn
  have c0 : (0 : Int) ≤ (m : Int) := by omega
  have c1 : (0 : Int) ≤ (i : Int) := by omega
  have c2 : (m : Int) < (w.length : Int) := by omega
  have hp : 2 ^ i < 2 ^ 63 := Nat.pow_lt_pow_right (by omega) (by omega)
  unfold impl_votes_isSwing.f swing
  rw [impl_has.eq m i (by omega) (by omega), Option.bind_some]
  cases hb : m.testBit i with
  | true => simp
  | false =>
    have e : Go.bits .or .i64 (m : Int) (shl .i64 1 (i : Int)) = ((m + 2 ^ i : Nat) : Int) := by
      rw [shl_one i (by omega), or_nat m (2 ^ i) (by omega) hp, or_pow hb]
    have hlt := with_lt hm hi hb
    have hpos := Nat.two_pow_pos i
    have c3 : (0 : Int) ≤ ((m + 2 ^ i : Nat) : Int) := by omega
    have c4 : ((m + 2 ^ i : Nat) : Int) < (w.length : Int) := by omega
    simp only [e, c0, c1, c2, c3, c4, ↓reduceIte, rdB_nat, Bool.false_eq_true, Bool.not_false, Bool.true_and]
    cases w.getD m false <;> simp
theorem impl_votes_swings.ev (n : Nat) (w : List Bool) (hw : w.length = 2 ^ n) (hn : n ≤ 40) : Ev (fun k => impl_votes_swings.f k (n : Int) w) (swl n w) := by
  have h40 : 2 ^ n ≤ 1099511627776 := pow_small hn
  have c0 : (0 : Int) ≤ (n : Int) := by omega
  have c1 : n ≤ 35184372088832 := by omega
  have sl := swl_len n w
  unfold impl_votes_swings.f
  simp only [c0, c1, ↓reduceIte, Int.toNat_natCast, Option.bind_some, List.length_replicate]
  have key := Ev.down (G := fun i k => impl_votes_swings.l0 k (filled (swl n w) 0 i) (n : Int) (i : Int) (n : Int) w) (R := fun _ => swl n w) n
    (by refine Ev.shift ?_
        have : filled (swl n w) 0 n = swl n w := by have := filled_all (swl n w) 0; rwa [sl] at this
        simp only [impl_votes_swings.l0, Int.lt_irrefl, ↓reduceIte, this]
        exact Ev.some)
    (fun i hi ih => by
      have hfl := filled_len (swl n w) 0 i (by omega)
      have inner := back (P := fun m => Ev (fun k => impl_votes_swings.l1 k ((filled (swl n w) 0 i).set i (((List.range m).countP (swing w i) : Nat) : Int)) (i : Int) (n : Int) (i : Int) (w.length : Int) (m : Int) (n : Int) w) (swl n w)) (2 ^ n)
        (by refine Ev.shift ?_
            have e := filled_set (swl n w) 0 0 i (by omega)
            rw [swl_get n w i hi] at e
            simp only [impl_votes_swings.l1, hw, Int.lt_irrefl, ↓reduceIte, e, w1 hi (show n ≤ 9223372036854775807 by omega)]
            exact ih)
        (fun m hm ihm => by
          refine Ev.shift ?_
          have d1 : (m : Int) < (w.length : Int) := by omega
          have d0 : (0 : Int) ≤ (i : Int) := by omega
          have d2 : (i : Int) < ((filled (swl n w) 0 i).length : Int) := by omega
          simp only [impl_votes_swings.l1, d1, ↓reduceIte, impl_votes_isSwing.eq n w m i hw hn hm hi, Option.bind_some, List.length_set, d0, d2, w1 hm (show 2 ^ n ≤ 9223372036854775807 by omega), rd_nat, Int.toNat_natCast, List.set_set]
          rw [List.range_succ, List.countP_append, List.countP_singleton] at ihm
          have hc : (List.range m).countP (swing w i) ≤ m := by
            have := List.countP_le_length (p := swing w i) (l := List.range m)
            rwa [List.length_range] at this
          cases hs : swing w i m with
          | true =>
            have eg : ((filled (swl n w) 0 i).set i (((List.range m).countP (swing w i) : Nat) : Int)).getD i 0 = (((List.range m).countP (swing w i) : Nat) : Int) := by
              rw [List.getD_eq_getElem?_getD, List.getElem?_set_self (by omega)]; rfl
            simp only [hs, ↓reduceIte] at ihm
            simp only [↓reduceIte, eg]
            rw [show wrap64 ((((List.range m).countP (swing w i) : Nat) : Int) + 1) = (((List.range m).countP (swing w i) + 1 : Nat) : Int) by rw [w64 (by omega) (by omega)]; omega]
            exact ihm
          | false =>
            simp only [hs, Bool.false_eq_true, ↓reduceIte, Nat.add_zero] at ihm
            simp only [Bool.false_eq_true, ↓reduceIte]
            exact ihm)
      refine Ev.shift ?_
      have d1 : (i : Int) < (n : Int) := by omega
      simp only [impl_votes_swings.l0, d1, ↓reduceIte]
      have i0 := inner 0 (Nat.zero_le _)
      have e0 : (filled (swl n w) 0 i).set i 0 = filled (swl n w) 0 i := by
        apply List.ext_getElem?
        intro j
        rw [List.getElem?_set]
        split
        · rename_i h; subst h
          rw [if_pos (by omega)]
          unfold filled
          rw [List.getElem?_append_right (by simp; omega), List.getElem?_replicate]
          rw [if_pos (by simp; omega)]
        · rfl
      rw [List.range_zero, List.countP_nil] at i0
      simp only [Int.natCast_zero, e0] at i0
      exact i0)
  have := key 0 (Nat.zero_le _)
  rw [filled_zero, sl] at this
  exact this
theorem spec_voWeight.ev (q : Int) (l : List Int) (b : Nat) (h : ∀ x ∈ l, 0 ≤ x ∧ x ≤ 1000) (hl : l.length ≤ 64) : Ev (fun k => spec_voWeight.f k q l (b : Int)) (wt l b) := by
  have key := back (P := fun i => ∀ s : Int, 0 ≤ s → s ≤ 1000 * i → Ev (fun k => spec_voWeight.l0 k (b : Int) s l (l.length : Int) (i : Int)) (s + wt (l.drop i) (b / 2 ^ i))) l.length
    (by intro s h0 h1
        refine Ev.shift ?_
        simp only [spec_voWeight.l0, Int.lt_irrefl, ↓reduceIte, List.drop_length, wt, Int.add_zero]
        exact Ev.some)
    (by intro i hi ih s h0 h1
        refine Ev.shift ?_
        have c1 : (i : Int) < (l.length : Int) := by omega
        have c0 : (0 : Int) ≤ (i : Int) := by omega
        have hx := h _ (getD_mem l 0 i hi)
        simp only [spec_voWeight.l0, c1, c0, ↓reduceIte, shr_nat b i (by omega), tmod_two, w1 hi (show l.length ≤ 9223372036854775807 by omega), rd_nat]
        rw [drop_getD l 0 i hi, wt, Nat.div_div_eq_div_mul, show (2 ^ i * 2 : Nat) = 2 ^ (i + 1) from rfl]
        by_cases hbit : b / 2 ^ i % 2 = 1
        · have hbit' : ((b / 2 ^ i % 2 : Nat) : Int) = 1 := by omega
          simp only [hbit, hbit', ↓reduceIte]
          rw [w64 (by omega) (by omega)]
          refine Ev.eq (ih _ (by omega) (by omega)) (by omega)
        · have hbit' : ¬ ((b / 2 ^ i % 2 : Nat) : Int) = 1 := by omega
          simp only [hbit, hbit', ↓reduceIte]
          refine Ev.eq (ih _ (by omega) (by omega)) (by omega))
  have := key 0 (Nat.zero_le _) 0 (by omega) (by omega)
  unfold spec_voWeight.f
  rw [List.drop_zero, Nat.pow_zero, Nat.div_one, Int.zero_add] at this
  exact this
theorem spec_voAll.eq (n : Nat) (hn : n < 63) : spec_voAll.f (n : Int) = some ((2 ^ n - 1 : Nat) : Int) := by
  have c0 : (0 : Int) ≤ (n : Int) := by omega
  have h1 := pow63 hn
  have h2 : 0 < 2 ^ n := Nat.two_pow_pos n
  unfold spec_voAll.f
  rw [if_pos c0, shl_one n hn, w64 (by omega) (by omega)]
  congr 1
  omega
theorem spec_voWins.ev' (q : Int) (l : List Int) (h : ∀ x ∈ l, 0 ≤ x ∧ x ≤ 1000) (hl : l.length ≤ 40) : Ev (fun k => spec_voWins.f k q l) (tab l.length (fun b => decide (wt l b ≥ q))) := by
  have h40 : 2 ^ l.length ≤ 1099511627776 := pow_small hl
  have hp := Nat.two_pow_pos l.length
  have tl := tab_len l.length (fun b => decide (wt l b ≥ q))
  generalize ht : tab l.length (fun b => decide (wt l b ≥ q)) = t at tl ⊢
  have key := Ev.down (G := fun i k => spec_voWins.l0 k (t.take i) (i : Int) q l) (R := fun _ => t) (2 ^ l.length)
    (by refine Ev.shift ?_
        have c : ¬ (((2 ^ l.length : Nat) : Int) ≤ ((2 ^ l.length - 1 : Nat) : Int)) := by omega
        simp only [spec_voWins.l0, spec_voAll.eq l.length (by omega), Option.bind_some, c, ↓reduceIte]
        rw [← tl, List.take_length]
        exact Ev.some)
    (fun i hi ih => by
        refine Ev.shift ?_
        have c : (i : Int) ≤ ((2 ^ l.length - 1 : Nat) : Int) := by omega
        simp only [spec_voWins.l0, spec_voAll.eq l.length (by omega), Option.bind_some, c, ↓reduceIte]
        refine Ev.bind (spec_voWeight.ev q l i h (by omega)) ?_
        have c2 : (t.take i).length < 140737488355328 := by rw [List.length_take]; omega
        have e : t.take i ++ [decide (wt l i ≥ q)] = t.take (i + 1) := by
          rw [take_getD t false i (by omega), ← ht, tab_get _ _ i hi]
        simp only [c2, ↓reduceIte, w1 hi (show 2 ^ l.length ≤ 9223372036854775807 by omega), e]
        exact ih)
  exact key 0 (Nat.zero_le _)
theorem spec_pwSwings.ev (n : Nat) (w : List Bool) (i : Nat) (hw : w.length = 2 ^ n) (hn : n ≤ 40) (hi : i < n) : Ev (fun k => spec_pwSwings.f k w (i : Int)) (((List.range (2 ^ n)).filter (swing w i)).map fun m : Nat => (m : Int)) := by
  have h40 : 2 ^ n ≤ 1099511627776 := pow_small hn
  have c0 : (0 : Int) ≤ (i : Int) := by omega
  have key := back (P := fun m => Ev (fun k => spec_pwSwings.l0 k w (i : Int) (((List.range m).filter (swing w i)).map fun m : Nat => (m : Int)) w (w.length : Int) (m : Int)) (((List.range (2 ^ n)).filter (swing w i)).map fun m : Nat => (m : Int))) (2 ^ n)
    (by refine Ev.shift ?_
        simp only [spec_pwSwings.l0, hw, Int.lt_irrefl, ↓reduceIte]
        exact Ev.some)
    (fun m hm ih => by
      refine Ev.shift ?_
      have d1 : (m : Int) < (w.length : Int) := by omega
      have d0 : (0 : Int) ≤ (m : Int) := by omega
      rw [List.range_succ, List.filter_append, List.map_append] at ih
      have hc : (((List.range m).filter (swing w i)).map fun m : Nat => (m : Int)).length < 17592186044416 := by
        have := List.length_filter_le (swing w i) (List.range m)
        rw [List.length_range] at this
        rw [List.length_map]; omega
      have hp : 2 ^ i < 2 ^ 63 := Nat.pow_lt_pow_right (by omega) (by omega)
      simp only [spec_pwSwings.l0, d1, d0, c0, ↓reduceIte, shr_nat m i (by omega), tmod_two, rdB_nat, shl_one i (by omega), w1 hm (show 2 ^ n ≤ 9223372036854775807 by omega)]
      have off : swing w i m = false → Ev (fun k => spec_pwSwings.l0 k w (i : Int) (((List.range m).filter (swing w i)).map fun m : Nat => (m : Int)) w (w.length : Int) ((m + 1 : Nat) : Int)) (((List.range (2 ^ n)).filter (swing w i)).map fun m : Nat => (m : Int)) := by
        intro hs
        rw [List.filter_cons_of_neg (by simp [hs]), List.filter_nil, List.map_nil, List.append_nil] at ih
        exact ih
      have on : swing w i m = true → Ev (fun k => spec_pwSwings.l0 k w (i : Int) ((((List.range m).filter (swing w i)).map fun m : Nat => (m : Int)) ++ [(m : Int)]) w (w.length : Int) ((m + 1 : Nat) : Int)) (((List.range (2 ^ n)).filter (swing w i)).map fun m : Nat => (m : Int)) := by
        intro hs
        rw [List.filter_cons_of_pos hs, List.filter_nil] at ih
        exact ih
      cases hb : m.testBit i with
      | true =>
        rw [bit_nat, decide_eq_true_eq] at hb
        have hb' : ¬ ((m / 2 ^ i % 2 : Nat) : Int) = 0 := by omega
        simp only [hb', ↓reduceIte]
        exact off (by unfold swing; rw [bit_nat, hb]; rfl)
      | false =>
        have hlt := with_lt hm hi hb
        have hpos := Nat.two_pow_pos i
        have hb0 := hb
        rw [bit_nat, decide_eq_false_iff_not] at hb
        have hb' : ((m / 2 ^ i % 2 : Nat) : Int) = 0 := by omega
        simp only [hb', ↓reduceIte]
        cases h1 : w.getD m false with
        | true =>
          simp only [↓reduceIte]
          exact off (by unfold swing; rw [hb0, h1]; rfl)
        | false =>
          have ew : wrap64 ((m : Int) + ((2 ^ i : Nat) : Int)) = ((m + 2 ^ i : Nat) : Int) := by rw [w64 (by omega) (by omega)]; omega
          have d3 : (0 : Int) ≤ ((m + 2 ^ i : Nat) : Int) := by omega
          have d4 : ((m + 2 ^ i : Nat) : Int) < (w.length : Int) := by omega
          simp only [Bool.false_eq_true, ↓reduceIte, ew, d3, d4, rdB_nat, hc]
          cases h2 : w.getD (m + 2 ^ i) false with
          | true =>
            simp only [↓reduceIte]
            exact on (by unfold swing; rw [hb0, h1, h2]; rfl)
          | false =>
            simp only [Bool.false_eq_true, ↓reduceIte]
            exact off (by unfold swing; rw [hb0, h1, h2]; rfl))
  exact key 0 (Nat.zero_le _)
theorem spec_pwCounts.ev (n : Nat) (w : List Bool) (hw : w.length = 2 ^ n) (hn : n ≤ 40) : Ev (fun k => spec_pwCounts.f k w (n : Int)) (swl n w) := by
  have sl := swl_len n w
  have key := back (P := fun i => Ev (fun k => spec_pwCounts.l0 k w (n : Int) ((swl n w).take i) (i : Int)) (swl n w)) n
    (by refine Ev.shift ?_
        have : (swl n w).take n = swl n w := by rw [List.take_of_length_le (by omega)]
        simp only [spec_pwCounts.l0, Int.lt_irrefl, ↓reduceIte, this]
        exact Ev.some)
    (fun i hi ih => by
      refine Ev.shift ?_
      have d1 : (i : Int) < (n : Int) := by omega
      simp only [spec_pwCounts.l0, d1, ↓reduceIte]
      refine Ev.bind (spec_pwSwings.ev n w i hw hn hi) ?_
      have hc : ((swl n w).take i).length < 17592186044416 := by rw [List.length_take]; omega
      have e : (swl n w).take i ++ [(((((List.range (2 ^ n)).filter (swing w i)).map fun m : Nat => (m : Int)).length : Nat) : Int)] = (swl n w).take (i + 1) := by
        rw [take_getD (swl n w) 0 i (by omega), swl_get n w i hi, List.length_map, List.countP_eq_length_filter]
      simp only [hc, ↓reduceIte, e, w1 hi (show n ≤ 9223372036854775807 by omega)]
      exact ih)
  exact key 0 (Nat.zero_le _)
def sw (q : Int) (l : List Int) : List Int := swl l.length (tab l.length (cwin q l))
theorem sw_len (q : Int) (l : List Int) : (sw q l).length = l.length := swl_len _ _
theorem sw_mem (q : Int) (l : List Int) (h : l.length ≤ 9) : ∀ x ∈ sw q l, 0 ≤ x ∧ x ≤ 1000 := by
  intro x hx
  simp only [sw, swl, List.mem_map, List.mem_range] at hx
  obtain ⟨i, _, rfl⟩ := hx
  have h1 := List.countP_le_length (p := swing (tab l.length (cwin q l)) i) (l := List.range (2 ^ l.length))
  rw [List.length_range] at h1
  have h2 : 2 ^ l.length ≤ 512 := pow_small (m := 9) h
  omega
def osum (p s : List Int) : Int := (s.map fun k => p.getD k.toNat 0).sum
theorem osum_bounds (p s : List Int) (hp : ∀ x ∈ p, 0 ≤ x ∧ x ≤ 1000) : 0 ≤ osum p s ∧ osum p s ≤ 1000 * s.length := by
  induction s with
  | nil => simp [osum]
  | cons x s ih =>
    have h : 0 ≤ p.getD x.toNat 0 ∧ p.getD x.toNat 0 ≤ 1000 := by
      by_cases h : x.toNat < p.length
      · exact hp _ (getD_mem p 0 _ h)
      · rw [List.getD_eq_getElem?_getD, List.getElem?_eq_none (by omega)]; simp
    have e : osum p (x :: s) = p.getD x.toNat 0 + osum p s := by simp [osum]
    rw [e, List.length_cons]
    omega
theorem osum_from (p s : List Int) (i : Nat) (hi : i < s.length) : osum p (s.drop i) = p.getD (s.getD i 0).toNat 0 + osum p (s.drop (i + 1)) := by
  rw [drop_getD s 0 i hi]; simp [osum]
theorem impl_powers_of.ev (p : List Int) (t : Int) (s : List Int) (hp : ∀ x ∈ p, 0 ≤ x ∧ x ≤ 1000) (hs : ∀ x ∈ s, 0 ≤ x ∧ x < (p.length : Int)) (hl : s.length ≤ 1048576) : Ev (fun k => impl_powers_of.f k p t s) (osum p s) := by
  unfold impl_powers_of.f
  have key := back (P := fun i => ∀ a : Int, 0 ≤ a → a ≤ 1000 * i → Ev (fun k => impl_powers_of.l0 k a s (s.length : Int) (i : Int) p t) (a + osum p (s.drop i))) s.length
    (by intro a h0 h1
        refine Ev.shift ?_
        simp only [impl_powers_of.l0, Int.lt_irrefl, ↓reduceIte, List.drop_length]
        exact Ev.eq Ev.some (by simp [osum]))
    (by intro i hi ih a h0 h1
        refine Ev.shift ?_
        have c1 : (i : Int) < (s.length : Int) := by omega
        have c0 : (0 : Int) ≤ (i : Int) := by omega
        have hx := hs _ (getD_mem s 0 i hi)
        obtain ⟨j, hj⟩ : ∃ j : Nat, s.getD i 0 = (j : Int) := ⟨(s.getD i 0).toNat, by omega⟩
        rw [hj] at hx
        have hpj := hp _ (getD_mem p 0 j (by omega))
        rw [osum_from p s i hi, hj, Int.toNat_natCast]
        simp only [impl_powers_of.l0, c1, c0, ↓reduceIte, rd_nat, hj, hx.1, hx.2, w1 hi (show s.length ≤ 9223372036854775807 by omega)]
        rw [w64 (by omega) (by omega)]
        exact Ev.eq (ih _ (by omega) (by omega)) (by omega))
  have := key 0 (Nat.zero_le _) 0 (by omega) (by omega)
  rw [List.drop_zero, Int.zero_add] at this
  exact this
def gainV (a b x y : Int) : Int := cmpI (x * b) (a * y)
theorem mul_b {x y : Int} (hx : 0 ≤ x) (hx' : x ≤ 1048576000) (hy : 0 ≤ y) (hy' : y ≤ 1048576000) : 0 ≤ x * y ∧ x * y ≤ 1099511627776000000 := by
  refine ⟨Int.mul_nonneg hx hy, ?_⟩
  calc x * y ≤ 1048576000 * 1048576000 := Int.mul_le_mul hx' hy' hy (by decide)
    _ ≤ _ := by decide
theorem spec_unGain.eq (a b x y : Int) (ha : 0 ≤ a ∧ a ≤ 1048576000) (hb : 0 ≤ b ∧ b ≤ 1048576000) (hx : 0 ≤ x ∧ x ≤ 1048576000) (hy : 0 ≤ y ∧ y ≤ 1048576000) : spec_unGain.f a b x y = some (gainV a b x y) := by
  have m1 := mul_b hx.1 hx.2 hb.1 hb.2
  have m2 := mul_b ha.1 ha.2 hy.1 hy.2
  unfold spec_unGain.f spec_l1Sign.f gainV cmpI
  generalize x * b = u at m1 ⊢
  generalize a * y = v at m2 ⊢
  rw [w64 (x := u) (by omega) (by omega), w64 (x := v) (by omega) (by omega), w64 (by omega) (by omega)]
  by_cases h1 : u - v > 0
  · rw [if_pos h1, if_neg (by omega), if_pos (by omega)]; rfl
  · rw [if_neg h1]
    by_cases h2 : u - v < 0
    · rw [if_pos h2, if_pos (by omega)]; rfl
    · rw [if_neg h2, if_neg (by omega), if_neg (by omega)]; rfl
theorem sw_sum (q : Int) (l : List Int) (h : l.length ≤ 9) : 0 ≤ (sw q l).sum ∧ (sw q l).sum ≤ 9000 := by
  have := sum_bounds (sw q l) (sw_mem q l h)
  rw [sw_len] at this
  omega
theorem spec_unSwings.ev (q : Int) (l s : List Int) (h : isComm q l = true) (hs : ∀ x ∈ s, 0 ≤ x ∧ x < (l.length : Int)) (hl : s.length ≤ 1048576) : Ev (fun k => spec_unSwings.f k q l s) (osum (sw q l) s, (sw q l).sum) := by
  have hlen := isComm_len h
  have hp := sw_mem q l hlen.2
  have hpl := sw_len q l
  unfold spec_unSwings.f
  refine Ev.bind (spec_voWins.ev' q l (isComm_mem h) (by omega)) ?_
  refine Ev.bind (spec_pwCounts.ev l.length _ (tab_len _ _) (by omega)) ?_
  have e : swl l.length (tab l.length (fun b => decide (wt l b ≥ q))) = sw q l := rfl
  rw [e]
  generalize sw q l = p at hp hpl ⊢
  have key := back (P := fun i => ∀ a : Int, 0 ≤ a → a ≤ 1000 * i → Ev (fun k => spec_unSwings.l0 k p a s (s.length : Int) (i : Int)) (a + osum p (s.drop i), p.sum)) s.length
    (by intro a h0 h1
        refine Ev.shift ?_
        simp only [spec_unSwings.l0, Int.lt_irrefl, ↓reduceIte, List.drop_length]
        refine Ev.bind (spec_voSum.ev p (by omega)) ?_
        rw [wsum_eq p hp (by omega)]
        exact Ev.eq Ev.some (by simp [osum]))
    (by intro i hi ih a h0 h1
        refine Ev.shift ?_
        have c1 : (i : Int) < (s.length : Int) := by omega
        have c0 : (0 : Int) ≤ (i : Int) := by omega
        have hx := hs _ (getD_mem s 0 i hi)
        obtain ⟨j, hj⟩ : ∃ j : Nat, s.getD i 0 = (j : Int) := ⟨(s.getD i 0).toNat, by omega⟩
        rw [hj] at hx
        have hpj := hp _ (getD_mem p 0 j (by omega))
        have d1 : (j : Int) < (p.length : Int) := by omega
        rw [osum_from p s i hi, hj, Int.toNat_natCast]
        simp only [spec_unSwings.l0, c1, c0, ↓reduceIte, rd_nat, hj, hx.1, d1, w1 hi (show s.length ≤ 9223372036854775807 by omega)]
        rw [w64 (by omega) (by omega)]
        refine Ev.eq (ih _ (by omega) (by omega)) ?_
        rw [Int.add_assoc])
  have := key 0 (Nat.zero_le _) 0 (by omega) (by omega)
  rw [List.drop_zero, Int.zero_add] at this
  exact this
theorem wtS_zero (l : List Int) : wt l 0 = 0 := by
  induction l with
  | nil => rfl
  | cons x l ih => rw [wt, Nat.zero_div, ih]; rfl
theorem wtS_full (l : List Int) (i : Nat) (hi : i ≤ l.length) : wt l (2 ^ i - 1) = (l.take i).sum := by
  induction l generalizing i with
  | nil => simp [wt]
  | cons x l ih =>
    cases i with
    | zero => exact wtS_zero _
    | succ i =>
      have hp : 0 < 2 ^ i := Nat.two_pow_pos i
      have e1 : (2 ^ (i + 1) - 1) % 2 = 1 := by rw [Nat.pow_succ]; omega
      have e2 : (2 ^ (i + 1) - 1) / 2 = 2 ^ i - 1 := by rw [Nat.pow_succ]; omega
      rw [wt, e1, e2, if_pos rfl, ih i (by simp at hi; omega), List.take_succ_cons, List.sum_cons]
theorem sum_ge_mem (p : List Int) (hp : ∀ x ∈ p, 0 ≤ x) (x : Int) (hx : x ∈ p) : x ≤ p.sum := by
  induction p with
  | nil => cases hx
  | cons y p ih =>
    have h0 : 0 ≤ p.sum := by
      clear ih hx
      induction p with
      | nil => simp
      | cons z p ih2 =>
        have := hp z (by simp)
        have := ih2 (fun w hw => hp w (by simp only [List.mem_cons] at hw ⊢; rcases hw with h | h <;> simp [h]))
        rw [List.sum_cons]; omega
    have := hp y (by simp)
    rw [List.sum_cons]
    rcases List.mem_cons.1 hx with rfl | hx
    · omega
    · have := ih (fun w hw => hp w (by simp [hw])) hx
      omega
theorem sw_pos (q : Int) (l : List Int) (h : isComm q l = true) : 0 < (sw q l).sum := by
  have hlen := isComm_len h
  have hq := isComm_q h
  have hex : ∃ i, i < l.length ∧ cwin q l (2 ^ i - 1) = false ∧ cwin q l (2 ^ (i + 1) - 1) = true := by
    refine Classical.byContradiction fun hn => ?_
    have key : ∀ j, j ≤ l.length → cwin q l (2 ^ j - 1) = false := by
      intro j
      induction j with
      | zero =>
        intro _
        have : wt l (2 ^ 0 - 1) = 0 := wtS_zero l
        simp only [cwin, this, decide_eq_false_iff_not]
        omega
      | succ j ih =>
        intro hj
        cases hc : cwin q l (2 ^ (j + 1) - 1) with
        | false => rfl
        | true => exact absurd ⟨j, by omega, ih (by omega), hc⟩ hn
    have h1 := key l.length (Nat.le_refl _)
    have h2 := wtS_full l l.length (Nat.le_refl _)
    rw [List.take_length] at h2
    simp only [cwin, h2, decide_eq_false_iff_not] at h1
    omega
  obtain ⟨i, hi, h1, h2⟩ := hex
  have hp : 0 < 2 ^ i := Nat.two_pow_pos i
  have hlt : 2 ^ (i + 1) ≤ 2 ^ l.length := Nat.pow_le_pow_right (by omega) (by omega)
  have e : 2 ^ i - 1 + 2 ^ i = 2 ^ (i + 1) - 1 := by rw [Nat.pow_succ]; omega
  have hs : swing (tab l.length (cwin q l)) i (2 ^ i - 1) = true := by
    unfold swing
    rw [e, tab_get _ _ _ (by omega), tab_get _ _ _ (by omega), h1, h2, Nat.testBit_lt_two_pow (by omega)]
    rfl
  have hc : 0 < (List.range (2 ^ l.length)).countP (swing (tab l.length (cwin q l)) i) := List.countP_pos_iff.2 ⟨2 ^ i - 1, List.mem_range.2 (by omega), hs⟩
  have hm : ((((List.range (2 ^ l.length)).countP (swing (tab l.length (cwin q l)) i) : Nat) : Int)) ∈ sw q l := by
    unfold sw swl
    exact List.mem_map.2 ⟨i, List.mem_range.2 hi, rfl⟩
  have := sum_ge_mem (sw q l) (fun x hx => (sw_mem q l hlen.2 x hx).1) _ hm
  omega
theorem impl_bySwings.ev (q : Int) (l : List Int) (h : isComm q l = true) : Ev (fun k => impl_bySwings.f k q l) (sw q l, (sw q l).sum) := by
  have hlen := isComm_len h
  unfold impl_bySwings.f
  refine Ev.bind (impl_Committee_votes.ev q l (isComm_mem h) (by omega)) ?_
  refine Ev.bind (impl_votes_swings.ev l.length _ (tab_len _ _) (by omega)) ?_
  have e : swl l.length (tab l.length (cwin q l)) = sw q l := rfl
  simp only [e]
  refine Ev.bind (impl_sumOf.ev _ (by rw [sw_len]; omega)) ?_
  rw [wsum_eq _ (sw_mem q l hlen.2) (by rw [sw_len]; omega)]
  exact Ev.some
theorem tmodN (a b : Nat) : Int.tmod (a : Int) (b : Int) = ((a % b : Nat) : Int) := by rw [Int.tmod_eq_emod_of_nonneg (by omega)]; exact (Int.natCast_emod _ _).symm
theorem tdivN (a b : Nat) : Int.tdiv (a : Int) (b : Int) = ((a / b : Nat) : Int) := by rw [Int.tdiv_eq_ediv_of_nonneg (by omega)]; exact (Int.natCast_ediv _ _).symm
theorem gcd_step (a b : Nat) : Nat.gcd b (a % b) = Nat.gcd a b := by rw [Nat.gcd_comm b, ← Nat.gcd_rec, Nat.gcd_comm]
theorem impl_gcd.ev (a b : Nat) : Ev (fun k => impl_gcd.f k (a : Int) (b : Int)) ((Nat.gcd a b : Nat) : Int) := by
  unfold impl_gcd.f
  induction b using Nat.strongRecOn generalizing a with
  | _ b ih =>
    refine Ev.shift ?_
    by_cases hb : b = 0
    · subst hb
      simp only [impl_gcd.l0, Int.natCast_zero, ↓reduceIte, Nat.gcd_zero_right]
      exact Ev.some
    · have c : ¬ (b : Int) = 0 := by omega
      simp only [impl_gcd.l0, c, ↓reduceIte, tmodN]
      exact Ev.eq (ih (a % b) (Nat.mod_lt _ (by omega)) b) (congrArg _ (gcd_step a b))
theorem wN (x : Nat) (h : x ≤ 1099511627776) : wrap64 (x : Int) = (x : Int) := w64 (by omega) (by omega)
def shareN (n d : Nat) : Int × Int := (((n / Nat.gcd n d : Nat) : Int), ((d / Nat.gcd n d : Nat) : Int))
theorem impl_shareOf.ev (n d : Nat) (hd : 0 < d) (hn : n ≤ 1099511627776) (hd2 : d ≤ 1099511627776) : Ev (fun k => impl_shareOf.f k (n : Int) (d : Int)) (shareN n d) := by
  have hg : 0 < Nat.gcd n d := Nat.gcd_pos_of_pos_right n hd
  have h1 := Nat.div_le_self n (Nat.gcd n d)
  have h2 := Nat.div_le_self d (Nat.gcd n d)
  unfold impl_shareOf.f shareN
  refine Ev.bind (impl_gcd.ev n d) ?_
  have c : ¬ ((Nat.gcd n d : Nat) : Int) = 0 := by omega
  simp only [c, ↓reduceIte, tdivN]
  rw [wN _ (Nat.le_trans h1 hn), wN _ (Nat.le_trans h2 hd2)]
  exact Ev.some
def spX (q : Int) (l : List Int) (i p : Nat) : Nat := (osum (sw q (splitL l i p)) [(i : Int), ((i + 1 : Nat) : Int)]).toNat
def spY (q : Int) (l : List Int) (i p : Nat) : Nat := (sw q (splitL l i p)).sum.toNat
def nextS (p x y : Nat) (s : List Int × Nat × Nat) : List Int × Nat × Nat :=
  if p = 0 ∨ s.2.1 * y < x * s.2.2 then ([(p : Int)], x, y) else if x * s.2.2 = s.2.1 * y then (s.1 ++ [(p : Int)], s.2) else s
def bs (X Y : Nat → Nat) : Nat → List Int × Nat × Nat
  | 0 => ([], 0, 1)
  | p + 1 => nextS p (X p) (Y p) (bs X Y p)
def bI (s : List Int × Nat × Nat) : Nat → Int × Int
  | 0 => (-1, 1)
  | _ + 1 => shareN s.2.1 s.2.2
theorem bs_ok (X Y : Nat → Nat) (N : Nat) (h : ∀ p, p < N → X p ≤ 9000 ∧ 0 < Y p ∧ Y p ≤ 9000) (p : Nat) (hp : p ≤ N) : (bs X Y p).1.length ≤ p ∧ (bs X Y p).2.1 ≤ 9000 ∧ 0 < (bs X Y p).2.2 ∧ (bs X Y p).2.2 ≤ 9000 := by
  induction p with
  | zero => exact ⟨by simp [bs], by simp [bs], by simp [bs], by simp [bs]⟩
  | succ p ih =>
    obtain ⟨h1, h2, h3, h4⟩ := ih (by omega)
    obtain ⟨g1, g2, g3⟩ := h p (by omega)
    rw [bs]
    unfold nextS
    split
    · exact ⟨by simp, g1, g2, g3⟩
    · split
      · exact ⟨by simp only [List.length_append, List.length_cons, List.length_nil]; omega, h2, h3, h4⟩
      · exact ⟨by omega, h2, h3, h4⟩
theorem cmpI_nat (a b : Nat) : cmpI (a : Int) (b : Int) = if a < b then -1 else if b < a then 1 else 0 := by
  unfold cmpI
  by_cases h1 : a < b
  · rw [if_pos (by omega), if_pos h1]
  · rw [if_neg (by omega), if_neg h1]
    by_cases h2 : b < a
    · rw [if_pos (by omega), if_pos h2]
    · rw [if_neg (by omega), if_neg h2]
theorem mul9 {x y : Nat} (hx : x ≤ 9000) (hy : y ≤ 9000) : x * y ≤ 81000000 := Nat.mul_le_mul hx hy
theorem cmp_share (x y n d : Nat) (hy : 0 < y) (hd : 0 < d) (b1 : x ≤ 9000) (b2 : y ≤ 9000) (b3 : n ≤ 9000) (b4 : d ≤ 9000) :
    impl_compare.f (shareN x y).1 (shareN x y).2 (shareN n d).1 (shareN n d).2 = some (if x * d < n * y then -1 else if n * y < x * d then 1 else 0) := by
  have hg : 0 < Nat.gcd x y := Nat.gcd_pos_of_pos_right x hy
  have hh : 0 < Nat.gcd n d := Nat.gcd_pos_of_pos_right n hd
  obtain ⟨x', ex⟩ := Nat.gcd_dvd_left x y
  obtain ⟨y', ey⟩ := Nat.gcd_dvd_right x y
  obtain ⟨n', en⟩ := Nat.gcd_dvd_left n d
  obtain ⟨d', ed⟩ := Nat.gcd_dvd_right n d
  unfold shareN
  generalize Nat.gcd x y = g at *
  generalize Nat.gcd n d = m at *
  have e1 : x / g = x' := by rw [ex, Nat.mul_div_cancel_left _ hg]
  have e2 : y / g = y' := by rw [ey, Nat.mul_div_cancel_left _ hg]
  have e3 : n / m = n' := by rw [en, Nat.mul_div_cancel_left _ hh]
  have e4 : d / m = d' := by rw [ed, Nat.mul_div_cancel_left _ hh]
  rw [e1, e2, e3, e4]
  have f1 := Nat.div_le_self x g
  have f2 := Nat.div_le_self y g
  have f3 := Nat.div_le_self n m
  have f4 := Nat.div_le_self d m
  rw [e1] at f1
  rw [e2] at f2
  rw [e3] at f3
  rw [e4] at f4
  have p1 := mul9 (x := x') (y := d') (by omega) (by omega)
  have p2 := mul9 (x := n') (y := y') (by omega) (by omega)
  have k1 : x * d = (x' * d') * (g * m) := by rw [ex, ed]; simp only [Nat.mul_comm, Nat.mul_left_comm, Nat.mul_assoc]
  have k2 : n * y = (n' * y') * (g * m) := by rw [en, ey]; simp only [Nat.mul_comm, Nat.mul_left_comm, Nat.mul_assoc]
  have hm : 0 < g * m := Nat.mul_pos hg hh
  unfold impl_compare.f
  have c1 : (x' : Int) * (d' : Int) = ((x' * d' : Nat) : Int) := (Int.natCast_mul _ _).symm
  have c2 : (n' : Int) * (y' : Int) = ((n' * y' : Nat) : Int) := (Int.natCast_mul _ _).symm
  rw [c1, c2, w64 (by omega) (by omega), w64 (by omega) (by omega), cmp_Compare_int.eq, cmpI_nat, k1, k2, Option.bind_some]
  simp only [Nat.mul_lt_mul_right hm]
theorem cmp_first (x y : Nat) (hy : 0 < y) (b1 : x ≤ 9000) (b2 : y ≤ 9000) : impl_compare.f (shareN x y).1 (shareN x y).2 (-1) 1 = some 1 := by
  have hg : 0 < Nat.gcd x y := Nat.gcd_pos_of_pos_right x hy
  have h1 : 0 < y / Nat.gcd x y := Nat.div_pos (Nat.le_of_dvd hy (Nat.gcd_dvd_right x y)) hg
  have f1 := Nat.div_le_self x (Nat.gcd x y)
  have f2 := Nat.div_le_self y (Nat.gcd x y)
  unfold impl_compare.f shareN
  generalize x / Nat.gcd x y = u at f1 ⊢
  generalize y / Nat.gcd x y = v at f2 h1 ⊢
  simp only
  rw [w64 (by omega) (by omega), w64 (by omega) (by omega), cmp_Compare_int.eq, Option.bind_some]
  unfold cmpI
  rw [if_neg (by omega), if_pos (by omega)]
def bestSp (q : Int) (l : List Int) (a : Int) : List Int × Bool := if part q l a 0 = true ∧ rd l a ≤ 20 then ((bs (spX q l a.toNat) (spY q l a.toNat) ((rd l a).toNat + 1)).1, true) else ([], false)
theorem part_up {q : Int} {l : List Int} {i : Nat} {p : Int} (h : part q l i 0 = true) (h0 : 0 ≤ p) (h1 : p ≤ rd l i) : part q l i p = true := by
  unfold part at h ⊢
  simp only [Bool.and_eq_true, inI, decide_eq_true_eq] at h ⊢
  exact ⟨h.1, ⟨h0, h1⟩, h.2.2⟩
theorem sp_ok {q : Int} {l : List Int} {i : Nat} (h : part q l i 0 = true) (p : Nat) (hp : (p : Int) ≤ rd l i) : isComm q (splitL l i p) = true ∧ (splitL l i p).length = l.length + 1 ∧ osum (sw q (splitL l i p)) [(i : Int), ((i + 1 : Nat) : Int)] = (spX q l i p : Int) ∧ (sw q (splitL l i p)).sum = (spY q l i p : Int) ∧ spX q l i p ≤ 9000 ∧ 0 < spY q l i p ∧ spY q l i p ≤ 9000 := by
  obtain ⟨hc, hl, j, ej, hi, _, _, _⟩ := part_at h
  obtain rfl : i = j := by omega
  have hc' : isComm q (splitL l i p) = true := by rw [splitL_comm q l i p hc hi (by omega) hp]; simpa using hl
  have hl2 := isComm_len hc'
  have s2 := sw_sum q _ hl2.2
  have o2 := osum_bounds (sw q (splitL l i p)) [(i : Int), ((i + 1 : Nat) : Int)] (sw_mem q _ hl2.2)
  simp only [List.length_cons, List.length_nil] at o2
  have h0 := sw_pos q _ hc'
  unfold spX spY
  exact ⟨hc', splitL_len l i p hi, by omega, by omega, by omega, by omega, by omega⟩
theorem bestSp_len (q : Int) (l : List Int) (a : Int) : (bestSp q l a).1.length ≤ 21 := by
  unfold bestSp
  split
  · rename_i h
    obtain ⟨hc, hl, i, rfl, hi, h0, h1, h2⟩ := part_at h.1
    rw [Int.toNat_natCast]
    have := (bs_ok (spX q l i) (spY q l i) ((rd l i).toNat + 1) (fun p hp => (sp_ok h.1 p (by omega)).2.2.2.2) _ (Nat.le_refl _)).1
    simp only; omega
  · simp
theorem wS (n : Nat) (h : n ≤ 100) : wrap64 ((n : Int) + 1) = ((n + 1 : Nat) : Int) := by rw [w64 (by omega) (by omega)]; omega
theorem impl_BestSplits.step (q : Int) (l : List Int) (i j N : Nat) (out : List Int) (n d x y : Nat) (b : Int × Int) (r : List Int × Bool) (hm : l.length ≤ 9223372036854775807) (hp : part q l i j = true) (hcj : isComm q (splitL l i j) = true) (hnj : (splitL l i j).length = l.length + 1) (hi : i < l.length) (hjN : j < N) (hN : N ≤ 21)
    (eX : osum (sw q (splitL l i j)) [(i : Int), ((i + 1 : Nat) : Int)] = (x : Int)) (eY : (sw q (splitL l i j)).sum = (y : Int)) (bX : x ≤ 9000) (pY : 0 < y) (bY : y ≤ 9000) (hol : out.length ≤ 21) (hsn : n ≤ 9000) (hsd : 0 < d) (hsd2 : d ≤ 9000) (hb : (j = 0 ∧ b = (-1, 1)) ∨ (0 < j ∧ b = shareN n d))
    (ih : Ev (fun K => impl_BestSplits.l0 K (i : Int) (nextS j x y (out, n, d)).1 (N : Int) ((j + 1 : Nat) : Int) q l (shareN (nextS j x y (out, n, d)).2.1 (nextS j x y (out, n, d)).2.2).1 (shareN (nextS j x y (out, n, d)).2.1 (nextS j x y (out, n, d)).2.2).2) r) :
    Ev (fun K => impl_BestSplits.l0 K (i : Int) out (N : Int) (j : Int) q l b.1 b.2) r := by
  have hls := isComm_len hcj
  have hi9 : i ≤ 100 := by omega
  have hj9 : j ≤ 100 := by omega
  have hself : impl_compare.f (shareN x y).1 (shareN x y).2 (shareN x y).1 (shareN x y).2 = some 0 := by
    rw [cmp_share _ _ _ _ pY pY bX bY bX bY, if_neg (Nat.lt_irrefl _), if_neg (Nat.lt_irrefl _)]
  have c0 : (j : Int) < (N : Int) := by omega
  have i1 := impl_SplitMember.ev q l i j hm
  rw [show split q l i j = (q, splitL l i j, true) from if_pos hp] at i1
  have i2 := impl_bySwings.ev q _ hcj
  have i3 := impl_powers_of.ev (sw q (splitL l i j)) (sw q (splitL l i j)).sum [(i : Int), ((i + 1 : Nat) : Int)] (sw_mem q _ hls.2) (by rw [sw_len]; intro x hx; simp only [List.mem_cons, List.not_mem_nil, or_false] at hx; omega) (by simp)
  rw [eX, eY] at i3
  rw [eY] at i2
  have i4 := impl_shareOf.ev x y pY (by omega) (by omega)
  have hz0 : ([] : List Int).length < 17592186044416 := by rw [List.length_nil]; omega
  have new : nextS j x y (out, n, d) = ([(j : Int)], x, y) → Ev (fun K => impl_BestSplits.j2 K (i : Int) [] (j : Int) (N : Int) (j : Int) q l (shareN x y).1 (shareN x y).2 (shareN x y).1 (shareN x y).2) r := by
    intro e
    rw [e] at ih
    refine Ev.shift ?_
    simp only [impl_BestSplits.j2]
    refine Ev.bind (Ev.one hself) ?_
    refine Ev.ite_pos rfl (Ev.ite_pos hz0 ?_)
    rw [wS j hj9]
    exact ih
  refine Ev.shift ?_
  simp only [impl_BestSplits.l0]
  refine Ev.ite_pos c0 ?_
  refine Ev.bind i1 ?_
  refine Ev.ite_pos rfl ?_
  refine Ev.bind i2 ?_
  rw [wS i hi9]
  refine Ev.bind i3 ?_
  refine Ev.bind i4 ?_
  rcases hb with ⟨rfl, rfl⟩ | ⟨hj0, rfl⟩
  · refine Ev.bind (Ev.one (cmp_first _ _ pY bX bY)) ?_
    refine Ev.ite_pos (by decide) ?_
    exact new (if_pos (.inl rfl))
  · have hc2 := cmp_share x y n d pY hsd bX bY hsn hsd2
    refine Ev.bind (Ev.one hc2) ?_
    by_cases hgt : n * y < x * d
    · rw [if_neg (by omega), if_pos hgt]
      refine Ev.ite_pos (by decide) ?_
      exact new (if_pos (.inr hgt))
    · unfold nextS at ih
      rw [if_neg (by simp only; omega)] at ih
      rw [if_neg hgt] at hc2
      rw [if_neg hgt]
      by_cases heq : x * d = n * y
      · rw [if_pos heq] at ih
        rw [if_neg (by omega)] at hc2
        rw [if_neg (by omega)]
        refine Ev.ite_neg (by decide) ?_
        refine Ev.shift ?_
        simp only [impl_BestSplits.j2]
        refine Ev.bind (Ev.one hc2) ?_
        refine Ev.ite_pos rfl (Ev.ite_pos (by omega) ?_)
        rw [wS j hj9]
        exact ih
      · rw [if_neg heq] at ih
        rw [if_pos (by omega)] at hc2
        rw [if_pos (by omega)]
        refine Ev.ite_neg (by decide) ?_
        refine Ev.shift ?_
        simp only [impl_BestSplits.j2]
        refine Ev.bind (Ev.one hc2) ?_
        refine Ev.ite_neg (by decide) ?_
        rw [wS j hj9]
        exact ih
theorem impl_BestSplits.ev (q : Int) (l : List Int) (a : Int) (hm : l.length ≤ 9223372036854775807) : Ev (fun K => impl_BestSplits.f K q l a) (bestSp q l a) := by
  have off : Ev (fun K => impl_BestSplits.j0 K a true q l) (([] : List Int), false) := by
    refine Ev.shift ?_
    simp only [impl_BestSplits.j0, ↓reduceIte]
    exact Ev.some
  unfold impl_BestSplits.f bestSp
  refine Ev.bind (impl_isMember.ev q l a hm) ?_
  cases h1 : isMem q l a with
  | false =>
    rw [if_neg (by simp [part, h1])]
    simp only [Bool.false_eq_true, ↓reduceIte]
    exact off
  | true =>
    obtain ⟨hc, i, rfl, hi⟩ := isMem_at h1
    have hlen := isComm_len hc
    have ci : (i : Int) < (l.length : Int) := by omega
    have c0 : (0 : Int) ≤ (i : Int) := by omega
    have hr := isComm_mem hc _ (rd_mem l i hi)
    refine Ev.ite_pos rfl (Ev.ite_pos c0 (Ev.ite_pos ci ?_))
    by_cases h20 : rd l i > 20
    · rw [if_neg (fun z => by have := z.2; omega)]
      simp only [h20, decide_true]
      exact off
    · simp only [h20, decide_false]
      refine Ev.shift ?_
      simp only [impl_BestSplits.j0]
      refine Ev.ite_neg (by decide) (Ev.ite_pos c0 (Ev.ite_pos ci ?_))
      obtain ⟨N, hN⟩ : ∃ N : Nat, rd l i + 1 = N := ⟨(rd l i + 1).toNat, by omega⟩
      rw [w64 (by omega) (by omega), hN]
      have eN : (rd l i).toNat + 1 = N := by omega
      by_cases h9 : l.length < 9
      · have hp0 : part q l i 0 = true := by
          unfold part
          simp only [h1, inI, Bool.and_eq_true, decide_eq_true_eq]
          exact ⟨trivial, ⟨by omega, by omega⟩, h9⟩
        rw [if_pos ⟨hp0, by omega⟩, eN, Int.toNat_natCast]
        have B := fun p (hp : p < N) => sp_ok hp0 p (by omega)
        have OK := bs_ok (spX q l i) (spY q l i) N (fun p hp => (B p hp).2.2.2.2)
        have key := Ev.down (G := fun j K => impl_BestSplits.l0 K (i : Int) (bs (spX q l i) (spY q l i) j).1 (N : Int) (j : Int) q l (bI (bs (spX q l i) (spY q l i) j) j).1 (bI (bs (spX q l i) (spY q l i) j) j).2) (R := fun _ => ((bs (spX q l i) (spY q l i) N).1, true)) N
          (by refine Ev.shift ?_
              simp only [impl_BestSplits.l0]
              exact Ev.ite_neg (by omega) Ev.some)
          (fun j hj ih => by
            obtain ⟨hcj, hnj, eX, eY, bX, pY, bY⟩ := B j hj
            obtain ⟨hol, hsn, hsd, hsd2⟩ := OK j (by omega)
            refine impl_BestSplits.step q l i j N _ _ _ _ _ _ _ hm (part_up hp0 (by omega) (by omega)) hcj hnj (by omega) (by omega) (by omega) eX eY bX pY bY (by omega) hsn hsd hsd2 ?_ ih
            cases j with
            | zero => exact .inl ⟨rfl, rfl⟩
            | succ p => exact .inr ⟨by omega, rfl⟩)
        exact key 0 (Nat.zero_le _)
      · have hp0 : ¬ part q l i 0 = true := fun z => h9 (part_at z).2.1
        rw [if_neg (fun z => hp0 z.1)]
        refine Ev.shift ?_
        simp only [impl_BestSplits.l0]
        refine Ev.ite_pos (by omega) ?_
        refine Ev.bind (impl_SplitMember.ev q l i 0 hm) ?_
        rw [show split q l i 0 = (0, [], false) from if_neg hp0]
        exact Ev.ite_neg (by decide) Ev.some
theorem spec_BestSplits.step (q : Int) (l L : List Int) (i j : Nat) (out : List Int) (n d x y : Nat) (r : List Int × Bool) (hi : i < l.length) (hl : l.length ≤ 9) (hjN : (j : Int) ≤ rd l i) (hN : rd l i ≤ 20)
    (i1 : spec_unSplit.f q l i j = some (q, L)) (i2 : Ev (fun k => spec_unSwings.f k q L [(i : Int), ((i + 1 : Nat) : Int)]) ((x : Int), (y : Int))) (bX : x ≤ 9000) (bY : y ≤ 9000) (hol : out.length ≤ 21) (hsn : n ≤ 9000) (hsd2 : d ≤ 9000)
    (ih : Ev (fun K => spec_BestSplits.l0 K (i : Int) (nextS j x y (out, n, d)).1 ((nextS j x y (out, n, d)).2.1 : Int) ((nextS j x y (out, n, d)).2.2 : Int) ((j + 1 : Nat) : Int) q l) r) :
    Ev (fun K => spec_BestSplits.l0 K (i : Int) out (n : Int) (d : Int) (j : Int) q l) r := by
  have hi9 : i ≤ 100 := by omega
  have hj9 : j ≤ 100 := by omega
  have ci : (i : Int) < (l.length : Int) := by omega
  have c0 : (0 : Int) ≤ (i : Int) := by omega
  have c3 : out.length < 17592186044416 := by omega
  have i3 : spec_unGain.f (n : Int) (d : Int) (x : Int) (y : Int) = some (if x * d < n * y then -1 else if n * y < x * d then 1 else 0) := by
    rw [spec_unGain.eq _ _ _ _ (by omega) (by omega) (by omega) (by omega)]
    unfold gainV
    rw [← Int.natCast_mul, ← Int.natCast_mul, cmpI_nat]
  refine Ev.shift ?_
  simp only [spec_BestSplits.l0]
  refine Ev.ite_pos c0 (Ev.ite_pos ci (Ev.ite_pos hjN ?_))
  refine Ev.bind (Ev.one i1) ?_
  rw [wS i hi9]
  refine Ev.bind i2 ?_
  refine Ev.bind (Ev.one i3) ?_
  have new : nextS j x y (out, n, d) = ([(j : Int)], x, y) → ∀ t : Int, Ev (fun K => spec_BestSplits.j2 K (i : Int) out (n : Int) (d : Int) (j : Int) (x : Int) (y : Int) t true q l) r := by
    intro e t
    rw [e] at ih
    refine Ev.shift ?_
    simp only [spec_BestSplits.j2]
    refine Ev.ite_pos trivial ?_
    rw [wS j hj9]
    exact ih
  by_cases hj0 : j = 0
  · refine Ev.ite_pos (by omega) ?_
    exact new (if_pos (.inl hj0)) _
  · refine Ev.ite_neg (by omega) ?_
    by_cases hgt : n * y < x * d
    · rw [if_neg (by omega), if_pos hgt]
      exact new (if_pos (.inr hgt)) _
    · unfold nextS at ih
      rw [if_neg (by simp only; omega)] at ih
      rw [if_neg hgt]
      by_cases heq : x * d = n * y
      · rw [if_pos heq] at ih
        rw [if_neg (by omega)]
        refine Ev.shift ?_
        simp only [spec_BestSplits.j2]
        refine Ev.ite_neg (by decide) (Ev.ite_pos trivial (Ev.ite_pos c3 ?_))
        rw [wS j hj9]
        exact ih
      · rw [if_neg heq] at ih
        rw [if_pos (by omega)]
        refine Ev.shift ?_
        simp only [spec_BestSplits.j2]
        refine Ev.ite_neg (by decide) (Ev.ite_neg (by decide) ?_)
        rw [wS j hj9]
        exact ih
theorem spec_BestSplits.ev (q : Int) (l : List Int) (a : Int) (hm : l.length ≤ 9223372036854775807) : Ev (fun K => spec_BestSplits.f K q l a) (bestSp q l a) := by
  have off : Ev (fun K => spec_BestSplits.j0 K a true q l) (([] : List Int), false) := by
    refine Ev.shift ?_
    simp only [spec_BestSplits.j0, ↓reduceIte]
    exact Ev.some
  unfold spec_BestSplits.f bestSp
  refine Ev.bind (spec_unPart.ev q l a 0 hm) ?_
  by_cases h1 : part q l a 0 = true
  · rw [h1]
    obtain ⟨hc, hl9, i, rfl, hi, _, _, hr1⟩ := part_at h1
    have hlen := isComm_len hc
    have ci : (i : Int) < (l.length : Int) := by omega
    have c0 : (0 : Int) ≤ (i : Int) := by omega
    have hr := isComm_mem hc _ (rd_mem l i hi)
    refine Ev.ite_pos rfl (Ev.ite_pos c0 (Ev.ite_pos ci ?_))
    by_cases h20 : rd l i > 20
    · rw [if_neg (fun z => by have := z.2; omega)]
      simp only [h20, decide_true]
      exact off
    · simp only [h20, decide_false]
      refine Ev.shift ?_
      simp only [spec_BestSplits.j0]
      refine Ev.ite_neg (by decide) ?_
      rw [if_pos ⟨trivial, by omega⟩, Int.toNat_natCast]
      obtain ⟨N, hN⟩ : ∃ N : Nat, (rd l i).toNat + 1 = N := ⟨_, rfl⟩
      rw [hN]
      have B := fun p (hp : p < N) => sp_ok h1 p (by omega)
      have OK := bs_ok (spX q l i) (spY q l i) N (fun p hp => (B p hp).2.2.2.2)
      have key := Ev.down (G := fun j K => spec_BestSplits.l0 K (i : Int) (bs (spX q l i) (spY q l i) j).1 ((bs (spX q l i) (spY q l i) j).2.1 : Int) ((bs (spX q l i) (spY q l i) j).2.2 : Int) (j : Int) q l) (R := fun _ => ((bs (spX q l i) (spY q l i) N).1, true)) N
        (by refine Ev.shift ?_
            simp only [spec_BestSplits.l0]
            exact Ev.ite_pos c0 (Ev.ite_pos ci (Ev.ite_neg (by omega) Ev.some)))
        (fun j hj ih => by
          obtain ⟨hcj, hnj, eX, eY, bX, pY, bY⟩ := B j hj
          obtain ⟨hol, hsn, hsd, hsd2⟩ := OK j (by omega)
          have i2 := spec_unSwings.ev q (splitL l i j) [(i : Int), ((i + 1 : Nat) : Int)] hcj (by intro x hx; simp only [List.mem_cons, List.not_mem_nil, or_false] at hx; omega) (by simp)
          rw [eX, eY] at i2
          exact spec_BestSplits.step q l (splitL l i j) i j _ _ _ _ _ _ hi (by omega) (by omega) (by omega) (spec_unSplit.eq q l i j (by omega) hi (by omega) (by omega) (by omega)) i2 bX bY (by omega) hsn hsd2 ih)
      exact key 0 (Nat.zero_le _)
  · rw [if_neg (fun z => h1 z.1)]
    exact Ev.ite_neg h1 off
theorem inv_perm (N : Nat) (f : Nat → Nat) (h1 : ∀ x, x < N → f x < N) (h2 : ∀ x, x < N → f (f x) = x) : ((List.range N).map f).Perm (List.range N) := by
  refine (List.perm_ext_iff_of_nodup ?_ List.nodup_range).2 fun a => ?_
  · refine List.Pairwise.map f (R := fun a b => (a < N ∧ b < N ∧ a ≠ b)) (S := (· ≠ ·)) (fun a b hab e => ?_) ?_
    · exact hab.2.2 (by rw [← h2 a hab.1, ← h2 b hab.2.1, e])
    · rw [List.pairwise_iff_getElem]
      intro i j hi hj hij
      simp only [List.length_range] at hi hj
      simp only [List.getElem_range]
      omega
  · rw [List.mem_map, List.mem_range]
    constructor
    · rintro ⟨x, hx, rfl⟩
      exact h1 x (List.mem_range.1 hx)
    · intro ha
      exact ⟨f a, List.mem_range.2 (h1 a ha), h2 a ha⟩
def sg (i k : Nat) : Nat := if k = i then i + 1 else if k = i + 1 then i else k
def tu (i b : Nat) : Nat := if b.testBit i = b.testBit (i + 1) then b else (b ^^^ 2 ^ i) ^^^ 2 ^ (i + 1)
theorem sg_sg (i k : Nat) : sg i (sg i k) = k := by unfold sg; repeat' split
                                                    all_goals omega
theorem sg_lt {i k n : Nat} (hi : i + 1 < n) (hk : k < n) : sg i k < n := by unfold sg; repeat' split
                                                                             all_goals omega
theorem tu_bit (i b k : Nat) : (tu i b).testBit k = b.testBit (sg i k) := by
  unfold tu sg
  split
  · rename_i h
    split
    · rename_i e; rw [e, h]
    · split
      · rename_i e; rw [e, h]
      · rfl
  · rename_i h
    rw [Nat.testBit_xor, Nat.testBit_xor, Nat.testBit_two_pow, Nat.testBit_two_pow]
    by_cases e : k = i
    · subst e
      rw [if_pos rfl, decide_eq_true rfl, decide_eq_false (show ¬ k + 1 = k by omega)]
      cases h1 : b.testBit k <;> cases h2 : b.testBit (k + 1) <;> simp [h1, h2] at h ⊢
    · rw [if_neg e, decide_eq_false (show ¬ i = k by omega)]
      by_cases e2 : k = i + 1
      · subst e2
        rw [if_pos rfl, decide_eq_true rfl]
        cases h1 : b.testBit i <;> cases h2 : b.testBit (i + 1) <;> simp [h1, h2] at h ⊢
      · rw [if_neg e2, decide_eq_false (show ¬ i + 1 = k by omega)]
        simp
theorem tu_tu (i b : Nat) : tu i (tu i b) = b := by
  apply Nat.eq_of_testBit_eq
  intro k
  rw [tu_bit, tu_bit, sg_sg]
theorem tu_lt {i b n : Nat} (hi : i + 1 < n) (hb : b < 2 ^ n) : tu i b < 2 ^ n := by
  unfold tu
  split
  · exact hb
  · have p1 : 2 ^ i < 2 ^ n := Nat.pow_lt_pow_right (by omega) (by omega)
    have p2 : 2 ^ (i + 1) < 2 ^ n := Nat.pow_lt_pow_right (by omega) (by omega)
    exact Nat.xor_lt_two_pow (Nat.xor_lt_two_pow hb p1) p2
theorem tu_add {i b k : Nat} (h : b.testBit k = false) : tu i (b + 2 ^ k) = tu i b + 2 ^ sg i k := by
  have h2 : (tu i b).testBit (sg i k) = false := by rw [tu_bit, sg_sg, h]
  rw [← or_pow h, ← or_pow h2]
  apply Nat.eq_of_testBit_eq
  intro j
  rw [tu_bit, Nat.testBit_or, Nat.testBit_or, tu_bit, Nat.testBit_two_pow, Nat.testBit_two_pow]
  congr 1
  rw [decide_eq_decide]
  constructor
  · intro e; rw [e, sg_sg]
  · intro e; rw [← e, sg_sg]
theorem tu_mod (i b : Nat) : tu (i + 1) b % 2 = b % 2 := by
  have h := tu_bit (i + 1) b 0
  have e : sg (i + 1) 0 = 0 := by unfold sg; rw [if_neg (by omega), if_neg (by omega)]
  rw [e, Nat.testBit_zero, Nat.testBit_zero, decide_eq_decide] at h
  omega
theorem tu_half (i b : Nat) : tu (i + 1) b / 2 = tu i (b / 2) := by
  apply Nat.eq_of_testBit_eq
  intro k
  rw [← Nat.testBit_succ, tu_bit, tu_bit, ← Nat.testBit_succ]
  congr 1
  unfold sg
  repeat' split
  all_goals omega
theorem wt_turn (A : List Int) (x y : Int) (B : List Int) (b : Nat) : wt (A ++ y :: x :: B) (tu A.length b) = wt (A ++ x :: y :: B) b := by
  induction A generalizing b with
  | nil =>
    have h0 := tu_bit 0 b 0
    have h1 := tu_bit 0 b 1
    have e0 : sg 0 0 = 1 := rfl
    have e1 : sg 0 1 = 0 := rfl
    rw [e0, Nat.testBit_zero, ← Nat.zero_add 1, Nat.testBit_succ, Nat.testBit_zero, decide_eq_decide] at h0
    rw [e1, Nat.testBit_zero, ← Nat.zero_add 1, Nat.testBit_succ, Nat.testBit_zero, decide_eq_decide] at h1
    have h2 : tu 0 b / 2 / 2 = b / 2 / 2 := by
      apply Nat.eq_of_testBit_eq
      intro k
      rw [← Nat.testBit_succ, ← Nat.testBit_succ, tu_bit, ← Nat.testBit_succ, ← Nat.testBit_succ]
      congr 1
    simp only [List.nil_append, List.cons_append, List.length_nil, wt, h0, h1, h2]
    omega
  | cons a A ih =>
    simp only [List.cons_append, List.length_cons, wt, tu_mod, tu_half]
    rw [ih]
theorem swing_turn (q : Int) (A : List Int) (x y : Int) (B : List Int) (k m : Nat) (hm : m < 2 ^ (A ++ ([x, y] ++ B)).length) (hk : k < (A ++ ([x, y] ++ B)).length) :
    swing (tab (A ++ ([y, x] ++ B)).length (cwin q (A ++ ([y, x] ++ B)))) (sg A.length k) (tu A.length m) = swing (tab (A ++ ([x, y] ++ B)).length (cwin q (A ++ ([x, y] ++ B)))) k m := by
  have hl : (A ++ ([y, x] ++ B)).length = (A ++ ([x, y] ++ B)).length := by simp
  have hi : A.length + 1 < (A ++ ([x, y] ++ B)).length := by simp only [List.length_append, List.length_cons, List.length_nil]; omega
  have hw : ∀ b, b < 2 ^ (A ++ ([x, y] ++ B)).length → (tab (A ++ ([y, x] ++ B)).length (cwin q (A ++ ([y, x] ++ B)))).getD (tu A.length b) false = (tab (A ++ ([x, y] ++ B)).length (cwin q (A ++ ([x, y] ++ B)))).getD b false := by
    intro b hb
    rw [hl, tab_get _ _ _ (tu_lt hi hb), tab_get _ _ _ hb]
    unfold cwin
    rw [show wt (A ++ ([y, x] ++ B)) (tu A.length b) = wt (A ++ ([x, y] ++ B)) b from wt_turn A x y B b]
  unfold swing
  rw [tu_bit, sg_sg, hw m hm]
  cases hb : m.testBit k with
  | true => rfl
  | false => rw [← tu_add hb, hw _ (with_lt hm hk hb)]
theorem sw_turn (q : Int) (A : List Int) (x y : Int) (B : List Int) (k : Nat) (hk : k < (A ++ ([x, y] ++ B)).length) : (sw q (A ++ ([y, x] ++ B))).getD (sg A.length k) 0 = (sw q (A ++ ([x, y] ++ B))).getD k 0 := by
  have hl : (A ++ ([y, x] ++ B)).length = (A ++ ([x, y] ++ B)).length := by simp
  have hi : A.length + 1 < (A ++ ([x, y] ++ B)).length := by simp only [List.length_append, List.length_cons, List.length_nil]; omega
  unfold sw
  rw [swl_get _ _ _ hk, swl_get _ _ _ (by rw [hl]; exact sg_lt hi hk)]
  congr 1
  rw [← (inv_perm (2 ^ (A ++ ([y, x] ++ B)).length) (tu A.length) (fun b hb => by rw [hl] at hb ⊢; exact tu_lt hi hb) (fun b _ => tu_tu _ b)).countP_eq, List.countP_map]
  rw [hl]
  apply List.countP_congr
  intro m hm
  have := swing_turn q A x y B k m (List.mem_range.1 hm) hk
  rw [hl] at this
  simp only [Function.comp_apply, this]
theorem perm_sum {a b : List Int} (h : a.Perm b) : a.sum = b.sum := by
  induction h with
  | nil => rfl
  | cons x _ ih => simp only [List.sum_cons, ih]
  | swap x y l => simp only [List.sum_cons]; omega
  | trans _ _ h1 h2 => rw [h1, h2]
theorem sum_getD (l : List Int) : l.sum = ((List.range l.length).map fun k => l.getD k 0).sum := by
  congr 1
  apply List.ext_getElem?
  intro i
  by_cases h : i < l.length
  · simp [List.getElem?_range h, List.getElem?_eq_getElem h, List.getD_eq_getElem?_getD, h]
  · rw [List.getElem?_eq_none (by omega), List.getElem?_eq_none (by simp; omega)]
theorem sw_turn_sum (q : Int) (A : List Int) (x y : Int) (B : List Int) : (sw q (A ++ ([y, x] ++ B))).sum = (sw q (A ++ ([x, y] ++ B))).sum := by
  have hl : (A ++ ([y, x] ++ B)).length = (A ++ ([x, y] ++ B)).length := by simp
  have hi : A.length + 1 < (A ++ ([x, y] ++ B)).length := by simp only [List.length_append, List.length_cons, List.length_nil]; omega
  rw [sum_getD, sum_getD (sw q (A ++ ([x, y] ++ B))), sw_len, sw_len, hl]
  rw [← perm_sum ((inv_perm (A ++ ([x, y] ++ B)).length (sg A.length) (fun k hk => sg_lt hi hk) (fun k _ => sg_sg _ k)).map fun k => (sw q (A ++ ([y, x] ++ B))).getD k 0), List.map_map]
  congr 1
  apply List.map_congr_left
  intro k hk
  exact sw_turn q A x y B k (List.mem_range.1 hk)
theorem split_turn (q : Int) (l : List Int) (i : Nat) (p : Int) (hi : i < l.length) :
    osum (sw q (splitL l i (rd l i - p))) [(i : Int), ((i + 1 : Nat) : Int)] = osum (sw q (splitL l i p)) [(i : Int), ((i + 1 : Nat) : Int)] ∧ (sw q (splitL l i (rd l i - p))).sum = (sw q (splitL l i p)).sum := by
  have hA : (l.take i).length = i := by rw [List.length_take]; omega
  have e1 : splitL l i p = l.take i ++ ([p, rd l i - p] ++ l.drop (i + 1)) := by unfold splitL; rw [List.append_assoc]
  have e2 : splitL l i (rd l i - p) = l.take i ++ ([rd l i - p, p] ++ l.drop (i + 1)) := by
    unfold splitL; rw [List.append_assoc, show rd l i - (rd l i - p) = p by omega]
  rw [e1, e2]
  refine ⟨?_, sw_turn_sum q _ _ _ _⟩
  have hk : i + 1 < (l.take i ++ ([p, rd l i - p] ++ l.drop (i + 1))).length := by simp only [List.length_append, List.length_cons, List.length_nil, hA]; omega
  have a := sw_turn q (l.take i) p (rd l i - p) (l.drop (i + 1)) i (by omega)
  have b := sw_turn q (l.take i) p (rd l i - p) (l.drop (i + 1)) (i + 1) hk
  rw [hA] at a b
  have s0 : sg i i = i + 1 := by unfold sg; rw [if_pos rfl]
  have s1 : sg i (i + 1) = i := by unfold sg; rw [if_neg (by omega), if_pos rfl]
  rw [s0] at a
  rw [s1] at b
  simp only [osum, List.map_cons, List.map_nil, List.sum_cons, List.sum_nil, Int.toNat_natCast]
  omega
theorem cross_lt {a b n d x y : Nat} (h1 : a * d ≤ n * b) (h2 : n * y < x * d) (hb : 0 < b) : a * y < x * b := by
  by_cases h : a * y < x * b
  · exact h
  · have h3 : x * b ≤ a * y := by omega
    have e1 : x * d * b ≤ n * y * b := by
      calc x * d * b = x * b * d := by simp only [Nat.mul_assoc, Nat.mul_comm, Nat.mul_left_comm]
        _ ≤ a * y * d := Nat.mul_le_mul_right d h3
        _ = a * d * y := by simp only [Nat.mul_assoc, Nat.mul_comm, Nat.mul_left_comm]
        _ ≤ n * b * y := Nat.mul_le_mul_right y h1
        _ = n * y * b := by simp only [Nat.mul_assoc, Nat.mul_comm, Nat.mul_left_comm]
    have e2 : n * y * b < x * d * b := Nat.mul_lt_mul_of_pos_right h2 hb
    omega
theorem bs_top (X Y : Nat → Nat) (n : Nat) (hY : ∀ p, p < n → 0 < Y p) : (0 < n → (bs X Y n).1 ≠ []) ∧ 0 < (bs X Y n).2.2 ∧ (∀ p, p < n → X p * (bs X Y n).2.2 ≤ (bs X Y n).2.1 * Y p ∧ ((p : Int) ∈ (bs X Y n).1 ↔ X p * (bs X Y n).2.2 = (bs X Y n).2.1 * Y p)) ∧ (∀ y ∈ (bs X Y n).1, ∃ i, i < n ∧ y = (i : Int)) ∧ (bs X Y n).1.Pairwise (· < ·) := by
  induction n with
  | zero => exact ⟨fun h => absurd h (by omega), by simp [bs], fun p h => absurd h (by omega), fun y hy => by simp [bs] at hy, by simp [bs]⟩
  | succ n ih =>
    have ih := ih (fun p hp => hY p (by omega))
    have hn := hY n (by omega)
    rw [bs]
    generalize bs X Y n = st at ih ⊢
    obtain ⟨L, v, d⟩ := st
    simp only at ih
    obtain ⟨h0, hd, h1, h2, h3⟩ := ih
    have hlt : ∀ y ∈ L, y < (n : Int) := fun y hy => by obtain ⟨i, hi, rfl⟩ := h2 y hy; omega
    have nn : (n : Int) ∉ L := fun h => by have := hlt _ h; omega
    unfold nextS
    simp only
    by_cases c1 : n = 0 ∨ v * Y n < X n * d
    · rw [if_pos c1]
      refine ⟨fun _ => by simp, hn, fun p hp => ?_, fun y hy => ⟨n, by omega, List.mem_singleton.1 hy⟩, List.pairwise_singleton _ _⟩
      rcases Nat.lt_succ_iff_lt_or_eq.1 hp with hp | rfl
      · have := cross_lt (h1 p hp).1 (show v * Y n < X n * d by rcases c1 with c | c; omega; exact c) (hY p (by omega))
        refine ⟨by simp only; omega, fun h => ?_, fun h => by simp only at h; omega⟩
        rw [List.mem_singleton] at h; omega
      · simp
    · rw [if_neg c1]
      have c0 : 0 < n := by omega
      by_cases c2 : X n * d = v * Y n
      · rw [if_pos c2]
        refine ⟨fun _ => by simp, hd, fun p hp => ?_, fun y hy => ?_, ?_⟩
        · simp only [List.mem_append, List.mem_singleton]
          rcases Nat.lt_succ_iff_lt_or_eq.1 hp with hp | rfl
          · obtain ⟨a, b⟩ := h1 p hp
            refine ⟨a, ?_⟩
            rw [← b]
            constructor
            · rintro (h | h)
              · exact h
              · omega
            · exact Or.inl
          · exact ⟨by omega, fun _ => c2, fun _ => Or.inr rfl⟩
        · rcases List.mem_append.1 hy with hy | hy
          · obtain ⟨i, hi, e⟩ := h2 y hy
            exact ⟨i, by omega, e⟩
          · exact ⟨n, by omega, List.mem_singleton.1 hy⟩
        · simp only
          rw [List.pairwise_append]
          refine ⟨h3, List.pairwise_singleton _ _, fun a ha b hb => ?_⟩
          obtain rfl := List.mem_singleton.1 hb
          exact hlt a ha
      · rw [if_neg c2]
        refine ⟨fun _ => h0 c0, hd, fun p hp => ?_, fun y hy => ?_, h3⟩
        · rcases Nat.lt_succ_iff_lt_or_eq.1 hp with hp | rfl
          · exact h1 p hp
          · exact ⟨by simp only; omega, fun h => absurd h nn, fun h => absurd h c2⟩
        · obtain ⟨i, hi, e⟩ := h2 y hy
          exact ⟨i, by omega, e⟩
theorem getD_el {α : Type} (l : List α) (d : α) (i : Nat) (h : i < l.length) : l.getD i d = l[i] := by rw [List.getD_eq_getElem?_getD, List.getElem?_eq_getElem h]; rfl
theorem rises_first {L : List Int} (h : L.Pairwise (· < ·)) (hn : L ≠ []) : ∀ y ∈ L, L.getD 0 0 ≤ y ∧ y ≤ L.getD (L.length - 1) 0 := by
  intro y hy
  have hp := List.length_pos_iff.2 hn
  obtain ⟨i, hi, rfl⟩ := List.getElem_of_mem hy
  have hm := List.pairwise_iff_getElem.1 h
  rw [getD_el _ _ _ hp, getD_el _ _ _ (show L.length - 1 < L.length by omega)]
  constructor
  · by_cases e : i = 0
    · subst e; exact Int.le_refl _
    · exact Int.le_of_lt (hm 0 i hp hi (by omega))
  · by_cases e : i = L.length - 1
    · subst e; exact Int.le_refl _
    · exact Int.le_of_lt (hm i (L.length - 1) hi (by omega) (by omega))
theorem pairs_ends {L : List Int} (N : Int) (h : L.Pairwise (· < ·)) (hn : L ≠ []) (hs : ∀ y ∈ L, N - y ∈ L) : L.getD (L.length - 1) 0 = N - L.getD 0 0 := by
  have hp := List.length_pos_iff.2 hn
  have f := rises_first h hn
  have a := f _ (hs _ (getD_mem L 0 0 hp))
  have b := f _ (hs _ (getD_mem L 0 (L.length - 1) (by omega)))
  omega
theorem bestSp_facts {q : Int} {l : List Int} {a : Int} (h : (bestSp q l a).2 = true) : (∃ i : Nat, a = (i : Int) ∧ i < l.length) ∧ rd l a ≤ 20 ∧ (bestSp q l a).1 ≠ [] ∧ (bestSp q l a).1.Pairwise (· < ·) ∧ (∀ y ∈ (bestSp q l a).1, 0 ≤ y ∧ y ≤ rd l a) ∧ ∀ y ∈ (bestSp q l a).1, rd l a - y ∈ (bestSp q l a).1 := by
  unfold bestSp at h ⊢
  split at h
  · rename_i hc
    rw [if_pos hc]
    obtain ⟨hcm, hl, i, rfl, hi, h0, h1, h2⟩ := part_at hc.1
    refine ⟨⟨i, rfl, hi⟩, hc.2, ?_⟩
    simp only [Int.toNat_natCast]
    have hr : 0 ≤ rd l (i : Int) := by omega
    obtain ⟨g0, g1, g2, g3, g4⟩ := bs_top (spX q l i) (spY q l i) ((rd l i).toNat + 1) (fun p hp => (sp_ok hc.1 p (by omega)).2.2.2.2.2.1)
    refine ⟨g0 (by omega), g4, fun y hy => ?_, fun y hy => ?_⟩
    · obtain ⟨p, hp, rfl⟩ := g3 y hy
      omega
    · obtain ⟨p, hp, rfl⟩ := g3 y hy
      have e : rd l (i : Int) - (p : Int) = (((rd l i).toNat - p : Nat) : Int) := by omega
      obtain ⟨t1, t2⟩ := split_turn q l i (p : Int) hi
      have eX : spX q l i ((rd l i).toNat - p) = spX q l i p := by
        unfold spX; rw [← e, t1]
      have eY : spY q l i ((rd l i).toNat - p) = spY q l i p := by
        unfold spY; rw [← e, t2]
      have k := ((g2 p hp).2).1 hy
      rw [e, (g2 ((rd l i).toNat - p) (by omega)).2, eX, eY]
      exact k
  · cases h
def qwin (q : Int) (l : List Int) (i j b : Nat) : Bool := cwin q l b && !(b.testBit i && b.testBit j)
def isPair (q : Int) (l : List Int) (i j : Int) : Bool := isMem q l i && isMem q l j && decide (i ≠ j)
def quar (q : Int) (l : List Int) (i j : Int) : Int × List Bool × Bool := if isPair q l i j = true then ((l.length : Int), tab l.length (qwin q l i.toNat j.toNat), true) else (0, [], false)
theorem isPair_at {q : Int} {l : List Int} {i j : Int} (h : isPair q l i j = true) : isComm q l = true ∧ i ≠ j ∧ ∃ a b : Nat, i = (a : Int) ∧ j = (b : Int) ∧ a < l.length ∧ b < l.length := by
  simp only [isPair, Bool.and_eq_true, decide_eq_true_eq] at h
  obtain ⟨h1, a, ha, ha'⟩ := isMem_at h.1.1
  obtain ⟨_, b, hb, hb'⟩ := isMem_at h.1.2
  exact ⟨h1, h.2, a, b, ha, hb, ha', hb'⟩
theorem impl_quarrel.ev (q : Int) (l : List Int) (i j : Int) (hm : l.length ≤ 9223372036854775807) : Ev (fun k => impl_quarrel.f k q l i j) (quar q l i j) := by
  have off : ∀ v : Int × List Bool × Bool, v = (0, [], false) → Ev (fun k => impl_quarrel.j0 k true q l i j) v := by
    rintro v rfl
    refine Ev.shift ?_
    simp only [impl_quarrel.j0, ↓reduceIte]
    exact Ev.some
  unfold impl_quarrel.f quar
  refine Ev.bind (impl_isMember.ev q l i hm) ?_
  cases h1 : isMem q l i with
  | false => simp only [Bool.false_eq_true, ↓reduceIte, isPair, h1, Bool.false_and]; exact off _ rfl
  | true =>
    simp only [↓reduceIte]
    refine Ev.bind (impl_isMember.ev q l j hm) ?_
    cases h2 : isMem q l j with
    | false => simp only [Bool.false_eq_true, ↓reduceIte, isPair, h1, h2, Bool.false_and, Bool.and_false]; exact off _ rfl
    | true =>
      simp only [↓reduceIte]
      by_cases h3 : i = j
      · subst h3
        simp only [beq_self_eq_true, isPair, ne_eq, not_true_eq_false, decide_false, Bool.and_false, Bool.false_eq_true, ↓reduceIte]
        exact off _ rfl
      · have hp : isPair q l i j = true := by simp [isPair, h1, h2, h3]
        obtain ⟨hc, _, a, b, rfl, rfl, ha, hb⟩ := isPair_at hp
        have hlen := isComm_len hc
        have hbe : ((a : Int) == (b : Int)) = false := by simp; omega
        rw [hbe, hp]
        refine Ev.shift ?_
        simp only [impl_quarrel.j0, Bool.false_eq_true, ↓reduceIte]
        refine Ev.bind (impl_Committee_votes.ev q l (isComm_mem hc) (by omega)) ?_
        refine Ev.bind (impl_votesOf.ev l.length (by omega) (fun k y => impl_quarrel_1.f y (l.length : Int) (tab l.length (cwin q l)) (a : Int) (b : Int)) (qwin q l a b) (fun m hm => ?_)) ?_
        · have hp9 : 2 ^ l.length ≤ 2 ^ 9 := pow_small hlen.2
          have c0 : (0 : Int) ≤ (m : Int) := by omega
          have c1 : (m : Int) < ((2 ^ l.length : Nat) : Int) := by omega
          unfold impl_quarrel_1.f qwin
          simp only [c0, tab_len, c1, ↓reduceIte, rdB_nat, tab_get _ _ m hm, impl_has.eq m a (by omega) (by omega), impl_has.eq m b (by omega) (by omega), Option.bind_some]
          cases cwin q l m with
          | false => exact Ev.some
          | true =>
            simp only [↓reduceIte, Bool.true_and]
            cases m.testBit a <;> exact Ev.some
        · simp only [Int.toNat_natCast]
          exact Ev.some
theorem spec_unPair.ev (q : Int) (l : List Int) (i j : Int) (hm : l.length ≤ 9223372036854775807) : Ev (fun k => spec_unPair.f k q l i j) (isPair q l i j) := by
  unfold spec_unPair.f isPair
  refine Ev.bind (spec_pwMember.ev q l i hm) ?_
  cases isMem q l i with
  | false => exact Ev.some
  | true =>
    simp only [↓reduceIte, Bool.true_and]
    refine Ev.bind (spec_pwMember.ev q l j hm) ?_
    cases isMem q l j with
    | false => exact Ev.some
    | true =>
      simp only [↓reduceIte, Bool.true_and]
      refine Ev.eq Ev.some ?_
      rw [Bool.eq_iff_iff]; simp
theorem spec_unQuarrel.ev (q : Int) (l : List Int) (i j : Nat) (hc : isComm q l = true) (hi : i < l.length) (hj : j < l.length) : Ev (fun k => spec_unQuarrel.f k q l (i : Int) (j : Int)) (tab l.length (qwin q l i j)) := by
  have hlen := isComm_len hc
  have hp9 : 2 ^ l.length ≤ 2 ^ 9 := pow_small hlen.2
  have i0 : (0 : Int) ≤ (i : Int) := by omega
  have j0 : (0 : Int) ≤ (j : Int) := by omega
  unfold spec_unQuarrel.f
  refine Ev.bind (spec_voWins.ev' q l (isComm_mem hc) (by omega)) ?_
  have e : tab l.length (fun b => decide (wt l b ≥ q)) = tab l.length (cwin q l) := rfl
  rw [e]
  have ht := tab_len l.length (cwin q l)
  have ht' := tab_len l.length (qwin q l i j)
  have hl : (tab l.length (qwin q l i j)).length = (tab l.length (cwin q l)).length := by omega
  have key := Ev.down (G := fun m k => spec_unQuarrel.l0 k (i : Int) (j : Int) (over (tab l.length (qwin q l i j)) (tab l.length (cwin q l)) m) ((2 ^ l.length : Nat) : Int) (m : Int)) (R := fun _ => tab l.length (qwin q l i j)) (2 ^ l.length)
    (by refine Ev.shift ?_
        have := over_all _ _ hl
        rw [ht] at this
        simp only [spec_unQuarrel.l0, Int.lt_irrefl, ↓reduceIte, this]
        exact Ev.some)
    (fun m hm ih => by
      refine Ev.shift ?_
      have c0 : (0 : Int) ≤ (m : Int) := by omega
      have c1 : (m : Int) < ((2 ^ l.length : Nat) : Int) := by omega
      have c2 : (m : Int) < ((over (tab l.length (qwin q l i j)) (tab l.length (cwin q l)) m).length : Int) := by rw [over_len _ _ _ hl]; omega
      have hs := over_set _ _ false m hl (by omega)
      rw [tab_get _ _ m hm] at hs
      have hg := over_get _ _ false m hl (by omega)
      rw [tab_get _ _ m hm] at hg
      simp only [spec_unQuarrel.l0, c0, c1, c2, i0, j0, ↓reduceIte, rdB_nat, hg, shr_nat m i (by omega), shr_nat m j (by omega), tmod_two, Int.toNat_natCast, w1 hm (show 2 ^ l.length ≤ 9223372036854775807 by omega)]
      cases h1 : cwin q l m with
      | false =>
        have hv : qwin q l i j m = false := by simp [qwin, h1]
        rw [hv] at hs
        simp only [Bool.false_eq_true, ↓reduceIte, hs]
        exact ih
      | true =>
        simp only [↓reduceIte]
        have hv : qwin q l i j m = !(m.testBit i && m.testBit j) := by simp [qwin, h1]
        rw [hv, bit_nat, bit_nat] at hs
        rcases Nat.mod_two_eq_zero_or_one (m / 2 ^ i) with h2 | h2
        · rw [h2] at hs ⊢
          simp only [show ((0 : Nat) : Int) = 0 from rfl, ↓reduceIte]
          rw [show decide ((0 : Nat) = 1) = false from rfl, Bool.false_and, Bool.not_false] at hs
          rw [hs]
          exact ih
        · rw [h2] at hs ⊢
          simp only [show ¬ ((1 : Nat) : Int) = 0 by omega, ↓reduceIte]
          simp only [decide_true, Bool.true_and] at hs
          rcases Nat.mod_two_eq_zero_or_one (m / 2 ^ j) with h3 | h3
          · rw [h3] at hs ⊢
            rw [show decide ((0 : Nat) = 1) = false from rfl, Bool.not_false] at hs
            rw [show (((0 : Nat) : Int) == 0) = true from rfl, hs]
            exact ih
          · rw [h3] at hs ⊢
            simp only [decide_true, Bool.not_true] at hs
            rw [show (((1 : Nat) : Int) == 0) = false from rfl, hs]
            exact ih)
  have := key 0 (Nat.zero_le _)
  rw [over_zero] at this
  rw [tab_len]
  exact this
theorem impl_votes_countWins.ev (n : Int) (l : List Bool) (hl : l.length ≤ 9223372036854775807) : Ev (fun k => impl_votes_countWins.f k n l) (l.count true : Int) := by
  have key := back (P := fun i => ∀ s : Nat, s ≤ i → Ev (fun k => impl_votes_countWins.l0 k (s : Int) l (l.length : Int) (i : Int)) ((s + (l.drop i).count true : Nat) : Int)) l.length
    (by intro s hs
        refine Ev.shift ?_
        simp only [impl_votes_countWins.l0, Int.lt_irrefl, ↓reduceIte, List.drop_length, List.count_nil, Nat.add_zero]
        exact Ev.some)
    (by intro i hi ih s hs
        refine Ev.shift ?_
        have c1 : (i : Int) < (l.length : Int) := by omega
        have c0 : (0 : Int) ≤ (i : Int) := by omega
        simp only [impl_votes_countWins.l0, c1, c0, ↓reduceIte, w1 hi hl, rdB_nat]
        rw [drop_getD l false i hi, List.count_cons]
        cases l.getD i false with
        | true =>
          simp only [↓reduceIte, beq_self_eq_true]
          rw [show wrap64 ((s : Int) + 1) = ((s + 1 : Nat) : Int) by rw [w64 (by omega) (by omega)]; omega]
          exact Ev.eq (ih _ (by omega)) (by omega)
        | false =>
          simp only [Bool.false_eq_true, ↓reduceIte, show (false == true) = false from rfl]
          exact Ev.eq (ih _ (by omega)) (by omega))
  unfold impl_votes_countWins.f
  have := key 0 (Nat.zero_le _) 0 (by omega)
  rw [List.drop_zero, Nat.zero_add] at this
  exact this
theorem spec_gmCount.ev (l : List Bool) (hl : l.length ≤ 9223372036854775807) : Ev (fun k => spec_gmCount.f k l) (l.count true : Int) := by
  have key := back (P := fun i => ∀ s : Nat, s ≤ i → Ev (fun k => spec_gmCount.l0 k (s : Int) l (l.length : Int) (i : Int)) ((s + (l.drop i).count true : Nat) : Int)) l.length
    (by intro s hs
        refine Ev.shift ?_
        simp only [spec_gmCount.l0, Int.lt_irrefl, ↓reduceIte, List.drop_length, List.count_nil, Nat.add_zero]
        exact Ev.some)
    (by intro i hi ih s hs
        refine Ev.shift ?_
        have c1 : (i : Int) < (l.length : Int) := by omega
        have c0 : (0 : Int) ≤ (i : Int) := by omega
        simp only [spec_gmCount.l0, c1, c0, ↓reduceIte, w1 hi hl, rdB_nat]
        rw [drop_getD l false i hi, List.count_cons]
        cases l.getD i false with
        | true =>
          simp only [↓reduceIte, beq_self_eq_true]
          rw [show wrap64 ((s : Int) + 1) = ((s + 1 : Nat) : Int) by rw [w64 (by omega) (by omega)]; omega]
          exact Ev.eq (ih _ (by omega)) (by omega)
        | false =>
          simp only [Bool.false_eq_true, ↓reduceIte, show (false == true) = false from rfl]
          exact Ev.eq (ih _ (by omega)) (by omega))
  unfold spec_gmCount.f
  have := key 0 (Nat.zero_le _) 0 (by omega)
  rw [List.drop_zero, Nat.zero_add] at this
  exact this
def quarCount (q : Int) (l : List Int) (i j : Int) : Int × Bool := if isPair q l i j = true then (((tab l.length (qwin q l i.toNat j.toNat)).count true : Int), true) else (0, false)
theorem impl_CountQuarrelWins.ev (q : Int) (l : List Int) (i j : Int) (hm : l.length ≤ 9223372036854775807) : Ev (fun k => impl_CountQuarrelWins.f k q l i j) (quarCount q l i j) := by
  unfold impl_CountQuarrelWins.f
  refine Ev.bind (impl_quarrel.ev q l i j hm) ?_
  unfold quar quarCount
  cases hp : isPair q l i j with
  | false => exact Ev.some
  | true =>
    have hlen := isComm_len (isPair_at hp).1
    have hp9 : 2 ^ l.length ≤ 2 ^ 9 := pow_small hlen.2
    simp only [↓reduceIte]
    exact Ev.bind (impl_votes_countWins.ev _ _ (by rw [tab_len]; omega)) Ev.some
theorem spec_CountQuarrelWins.ev (q : Int) (l : List Int) (i j : Int) (hm : l.length ≤ 9223372036854775807) : Ev (fun k => spec_CountQuarrelWins.f k q l i j) (quarCount q l i j) := by
  unfold spec_CountQuarrelWins.f quarCount
  refine Ev.bind (spec_unPair.ev q l i j hm) ?_
  cases hp : isPair q l i j with
  | false => exact Ev.some
  | true =>
    obtain ⟨hc, _, a, b, rfl, rfl, ha, hb⟩ := isPair_at hp
    have hlen := isComm_len hc
    have hp9 : 2 ^ l.length ≤ 2 ^ 9 := pow_small hlen.2
    simp only [↓reduceIte, Int.toNat_natCast]
    exact Ev.bind (spec_unQuarrel.ev q l a b hc ha hb) (Ev.bind (spec_gmCount.ev _ (by rw [tab_len]; omega)) Ev.some)
def quarSwings (q : Int) (l : List Int) (i j : Int) : List Int × Bool := if isPair q l i j = true then (swl l.length (tab l.length (qwin q l i.toNat j.toNat)), true) else ([], false)
theorem quarSwings_len (q : Int) (l : List Int) (i j : Int) : (quarSwings q l i j).1.length ≤ 9 := by
  unfold quarSwings
  split
  · rename_i h
    have hlen := isComm_len (isPair_at h).1
    rw [swl_len]; omega
  · simp
theorem impl_QuarrelSwings.ev (q : Int) (l : List Int) (i j : Int) (hm : l.length ≤ 9223372036854775807) : Ev (fun k => impl_QuarrelSwings.f k q l i j) (quarSwings q l i j) := by
  unfold impl_QuarrelSwings.f
  refine Ev.bind (impl_quarrel.ev q l i j hm) ?_
  unfold quar quarSwings
  cases hp : isPair q l i j with
  | false => exact Ev.some
  | true =>
    have hlen := isComm_len (isPair_at hp).1
    simp only [↓reduceIte]
    exact Ev.bind (impl_votes_swings.ev l.length _ (tab_len _ _) (by omega)) Ev.some
theorem spec_QuarrelSwings.ev (q : Int) (l : List Int) (i j : Int) (hm : l.length ≤ 9223372036854775807) : Ev (fun k => spec_QuarrelSwings.f k q l i j) (quarSwings q l i j) := by
  unfold spec_QuarrelSwings.f quarSwings
  refine Ev.bind (spec_unPair.ev q l i j hm) ?_
  cases hp : isPair q l i j with
  | false => exact Ev.some
  | true =>
    obtain ⟨hc, _, a, b, rfl, rfl, ha, hb⟩ := isPair_at hp
    have hlen := isComm_len hc
    simp only [↓reduceIte, Int.toNat_natCast]
    exact Ev.bind (spec_unQuarrel.ev q l a b hc ha hb) (Ev.bind (spec_pwCounts.ev l.length _ (tab_len _ _) (by omega)) Ev.some)
theorem impl_members.ev (n : Nat) (hn : n ≤ 1000000) (p : Nat → Int → Option Bool) (P : Nat → Bool) (h : ∀ b : Nat, b < n → Ev (fun k => p k (b : Int)) (P b)) : Ev (fun k => impl_members.f k (n : Int) (p k)) (sel n P) := by
  obtain ⟨K, hK⟩ := Ev.all (p := fun k (b : Nat) => p k (b : Int)) (P := P) (List.range n) (fun b hb => h b (List.mem_range.1 hb))
  refine ⟨K + n + 1, fun k hk => ?_⟩
  have hq := hK k (by omega)
  show impl_members.f k (n : Int) (p k) = _
  generalize p k = q at hq ⊢
  have hq : ∀ b : Nat, b < n → q (b : Int) = some (P b) := fun b hb => hq b (List.mem_range.2 hb)
  exact downq (G := fun i k => impl_members.l0 k q (sel i P) (n : Int) (i : Int)) (R := fun _ => sel n P) n
    (by intro k; simp only [impl_members.l0, Int.lt_irrefl, ↓reduceIte])
    (fun i hi k ih => by
      have c1 : (i : Int) < (n : Int) := by omega
      have c2 : (sel i P).length < 17592186044416 := by have := sel_len i P; omega
      rw [sel_succ] at ih
      simp only [impl_members.l0, c1, ↓reduceIte, hq i hi, Option.bind_some, w1 hi (show n ≤ 9223372036854775807 by omega)]
      cases hP : P i with
      | true => simp only [hP, ↓reduceIte] at ih; simp only [↓reduceIte, c2]; exact ih
      | false => simp only [hP, Bool.false_eq_true, ↓reduceIte, List.append_nil] at ih; simp only [Bool.false_eq_true, ↓reduceIte]; exact ih) 0 (Nat.zero_le _) k (by omega)
def helps (q : Int) (l : List Int) (i j : Nat) (k : Nat) : Bool := decide ((swl l.length (tab l.length (qwin q l i j))).getD k 0 > (swl l.length (tab l.length (cwin q l))).getD k 0)
def quarHelps (q : Int) (l : List Int) (i j : Int) : List Int × Bool := if isPair q l i j = true then (sel l.length (helps q l i.toNat j.toNat), true) else ([], false)
theorem quarHelps_len (q : Int) (l : List Int) (i j : Int) : (quarHelps q l i j).1.length ≤ 9 := by
  unfold quarHelps
  split
  · rename_i h
    have hlen := isComm_len (isPair_at h).1
    have := sel_len l.length (helps q l i.toNat j.toNat)
    simp only; omega
  · simp
theorem impl_QuarrelHelps.ev (q : Int) (l : List Int) (i j : Int) (hm : l.length ≤ 9223372036854775807) : Ev (fun k => impl_QuarrelHelps.f k q l i j) (quarHelps q l i j) := by
  unfold impl_QuarrelHelps.f
  refine Ev.bind (impl_QuarrelSwings.ev q l i j hm) ?_
  unfold quarSwings quarHelps
  cases hp : isPair q l i j with
  | false => exact Ev.some
  | true =>
    have hc := (isPair_at hp).1
    have hlen := isComm_len hc
    simp only [↓reduceIte]
    refine Ev.bind (impl_Committee_votes.ev q l (isComm_mem hc) (by omega)) ?_
    refine Ev.bind (impl_votes_swings.ev l.length _ (tab_len _ _) (by omega)) ?_
    simp only [swl_len]
    refine Ev.bind (impl_members.ev l.length (by omega) (fun k y => impl_QuarrelHelps_1.f y (swl l.length (tab l.length (qwin q l i.toNat j.toNat))) (swl l.length (tab l.length (cwin q l)))) (helps q l i.toNat j.toNat) (fun b hb => ?_)) Ev.some
    have c0 : (0 : Int) ≤ (b : Int) := by omega
    have c1 : (b : Int) < (l.length : Int) := by omega
    simp only [impl_QuarrelHelps_1.f, swl_len, c0, c1, ↓reduceIte, rd_nat]
    exact Ev.some
theorem spec_QuarrelHelps.ev (q : Int) (l : List Int) (i j : Int) (hm : l.length ≤ 9223372036854775807) : Ev (fun k => spec_QuarrelHelps.f k q l i j) (quarHelps q l i j) := by
  unfold spec_QuarrelHelps.f quarHelps
  refine Ev.bind (spec_unPair.ev q l i j hm) ?_
  cases hp : isPair q l i j with
  | false => exact Ev.some
  | true =>
    obtain ⟨hc, _, a, b, rfl, rfl, ha, hb⟩ := isPair_at hp
    have hlen := isComm_len hc
    simp only [↓reduceIte, Int.toNat_natCast]
    refine Ev.bind (spec_voWins.ev' q l (isComm_mem hc) (by omega)) ?_
    refine Ev.bind (spec_pwCounts.ev l.length _ (tab_len _ _) (by omega)) ?_
    refine Ev.bind (spec_unQuarrel.ev q l a b hc ha hb) ?_
    refine Ev.bind (spec_pwCounts.ev l.length _ (tab_len _ _) (by omega)) ?_
    have e : tab l.length (fun b => decide (wt l b ≥ q)) = tab l.length (cwin q l) := rfl
    rw [e]
    have key := Ev.down (G := fun m k => spec_QuarrelHelps.l0 k (swl l.length (tab l.length (cwin q l))) (swl l.length (tab l.length (qwin q l a b))) (sel m (helps q l a b)) (l.length : Int) (m : Int)) (R := fun _ => (sel l.length (helps q l a b), true)) l.length
      (by refine Ev.shift ?_
          simp only [spec_QuarrelHelps.l0, Int.lt_irrefl, ↓reduceIte]
          exact Ev.some)
      (fun m hm ih => by
        refine Ev.shift ?_
        have c0 : (0 : Int) ≤ (m : Int) := by omega
        have c1 : (m : Int) < (l.length : Int) := by omega
        have c2 : (sel m (helps q l a b)).length < 17592186044416 := by have := sel_len m (helps q l a b); omega
        rw [sel_succ] at ih
        simp only [spec_QuarrelHelps.l0, swl_len, c0, c1, c2, ↓reduceIte, rd_nat, w1 hm (show l.length ≤ 9223372036854775807 by omega)]
        by_cases hh : (swl l.length (tab l.length (qwin q l a b))).getD m 0 > (swl l.length (tab l.length (cwin q l))).getD m 0
        · have hv : helps q l a b m = true := by simp only [helps, hh, decide_true]
          simp only [hv, ↓reduceIte] at ih
          simp only [hh, ↓reduceIte]
          exact ih
        · have hv : helps q l a b m = false := by simp only [helps, hh, decide_false]
          simp only [hv, Bool.false_eq_true, ↓reduceIte, List.append_nil] at ih
          simp only [hh, ↓reduceIte]
          exact ih)
    exact key 0 (Nat.zero_le _)
theorem spec_voBits.ev (l : List Int) (hl : l.length ≤ 1048576) (h : ∀ x ∈ l, 0 ≤ x ∧ x < 62) : Ev (fun k => spec_voBits.f k l) (bitsOf l : Int) := by
  have key := Ev.down (G := fun i k => spec_voBits.l0 k (((l.take i).foldl (fun m x => m ||| 2 ^ x.toNat) 0 : Nat) : Int) l (l.length : Int) (i : Int)) (R := fun _ => (bitsOf l : Int)) l.length
    (by refine Ev.shift ?_
        simp only [spec_voBits.l0, Int.lt_irrefl, ↓reduceIte, List.take_length]
        exact Ev.some)
    (fun i hi ih => by
        refine Ev.shift ?_
        have c1 : (i : Int) < (l.length : Int) := by omega
        have c0 : (0 : Int) ≤ (i : Int) := by omega
        have hx := h _ (getD_mem l 0 i hi)
        have hm : (l.take i).foldl (fun m x => m ||| 2 ^ x.toNat) 0 < 2 ^ 62 := bitsOf_lt _ 62 (fun y hy => h y (List.mem_of_mem_take hy)) 0 (by decide)
        rw [foldl_take _ _ l 0 i hi] at ih
        simp only [spec_voBits.l0, c1, c0, ↓reduceIte, w1 hi (show l.length ≤ 9223372036854775807 by omega), rd_nat, hx.1]
        obtain ⟨j, hj⟩ : ∃ j : Nat, l.getD i 0 = (j : Int) := ⟨(l.getD i 0).toNat, by omega⟩
        rw [hj] at ih hx ⊢
        have hp : 2 ^ j < 2 ^ 63 := Nat.pow_lt_pow_right (by omega) (by omega)
        rw [shl_one j (by omega), or_nat _ _ (Nat.lt_of_lt_of_le hm (by decide)) hp]
        exact ih)
  exact key 0 (Nat.zero_le _)
def mergeFrom (l s : List Int) : Nat → List Int
  | i => if h : i < l.length then (if (i : Int) = s.getD 0 0 then [wt l (bitsOf s)] else if hasN s i = true then [] else [l.getD i 0]) ++ mergeFrom l s (i + 1) else []
termination_by i => l.length - i
theorem mergeFrom_step (l s : List Int) (i : Nat) (h : i < l.length) : mergeFrom l s i = (if (i : Int) = s.getD 0 0 then [wt l (bitsOf s)] else if hasN s i = true then [] else [l.getD i 0]) ++ mergeFrom l s (i + 1) := by
  rw [mergeFrom.eq_1, dif_pos h]
theorem mergeFrom_end (l s : List Int) (i : Nat) (h : l.length ≤ i) : mergeFrom l s i = [] := by
  rw [mergeFrom.eq_1, dif_neg (by omega)]
theorem mergeFrom_len (l s : List Int) (i : Nat) (hi : i ≤ l.length) : (mergeFrom l s i).length ≤ l.length - i := by
  refine back (P := fun i => (mergeFrom l s i).length ≤ l.length - i) l.length ?_ ?_ i hi
  · rw [mergeFrom_end _ _ _ (Nat.le_refl _)]; simp
  · intro i hi ih
    rw [mergeFrom_step _ _ _ hi, List.length_append]
    split
    · simp only [List.length_singleton]; omega
    · split
      · simp only [List.length_nil]; omega
      · simp only [List.length_singleton]; omega
def mergeM (q : Int) (l s : List Int) : Int × List Int × Bool := if (isComm q l && isSetN s l.length && decide (s ≠ [])) = true then ifC q (mergeFrom l s 0) else (0, [], false)
theorem spec_l1Has.ev (l : List Int) (v : Int) (hm : l.length ≤ 9223372036854775807) : Ev (fun k => spec_l1Has.f k l v) (hasN l v) := by
  unfold spec_l1Has.f hasN
  have key := Ev.down (G := fun i k => spec_l1Has.l0 k v l (l.length : Int) (i : Int)) (R := fun i => (l.drop i).any (fun x => decide (v = x))) l.length
    (by refine Ev.shift ?_
        simp only [spec_l1Has.l0, Int.lt_irrefl, ↓reduceIte, List.drop_length, List.any_nil]
        exact Ev.some)
    (fun i hi ih => by
        refine Ev.shift ?_
        have c1 : (i : Int) < (l.length : Int) := by omega
        have c0 : (0 : Int) ≤ (i : Int) := by omega
        simp only [spec_l1Has.l0, c1, c0, ↓reduceIte, w1 hi hm, rd_nat]
        rw [drop_getD l 0 i hi, List.any_cons]
        by_cases hv : v = l.getD i 0
        · simp only [← hv, ↓reduceIte, decide_true, Bool.true_or]; exact Ev.some
        · have hv' : ¬ l.getD i 0 = v := fun e => hv e.symm
          simp only [hv, hv', ↓reduceIte, decide_false, Bool.false_or]; exact ih)
  exact key 0 (Nat.zero_le _)
theorem impl_MergeMembers.ev (q : Int) (l s : List Int) (hm : l.length ≤ 9223372036854775807) (hs : s.length ≤ 1048576) : Ev (fun k => impl_MergeMembers.f k q l s) (mergeM q l s) := by
  have off : ∀ v : Int × List Int × Bool, v = (0, [], false) → Ev (fun k => impl_MergeMembers.j0 k s true q l) v := by
    rintro v rfl
    refine Ev.shift ?_
    simp only [impl_MergeMembers.j0, ↓reduceIte]
    exact Ev.some
  unfold impl_MergeMembers.f mergeM
  refine Ev.bind (impl_isSetOf.ev q l s hm (by omega)) ?_
  cases h : isComm q l && isSetN s l.length with
  | false => simp only [Bool.false_eq_true, ↓reduceIte, Bool.false_and]; exact off _ rfl
  | true =>
    by_cases he : s = []
    · subst he; simp; exact off _ rfl
    · have hpos : 0 < s.length := List.length_pos_iff.2 he
      have hb : ((s.length : Int) == 0) = false := by simp; omega
      simp only [Bool.and_eq_true] at h
      have hlen := isComm_len h.1
      have hmem := isSetN_mem h.2
      have c2 : (0 : Int) < (s.length : Int) := by omega
      have hbl : bitsOf s < 2 ^ 9 := bitsOf_lt s 9 (fun x hx => by have := hmem x hx; omega) 0 (by decide)
      simp only [hb, ↓reduceIte, he, ne_eq, not_false_eq_true, decide_true, Bool.and_self]
      have key := back (P := fun i => ∀ o : List Int, o.length ≤ i → Ev (fun k => impl_MergeMembers.l0 k s l (l.length : Int) (i : Int) q l q o) (ifC q (o ++ mergeFrom l s i))) l.length
        (by intro o ho
            refine Ev.shift ?_
            simp only [impl_MergeMembers.l0, Int.lt_irrefl, ↓reduceIte, mergeFrom_end _ _ _ (Nat.le_refl _), List.append_nil]
            exact Ev.bind (impl_ifCommittee.ev q o (by omega)) Ev.some)
        (by intro i hi ih o ho
            refine Ev.shift ?_
            have c1 : (i : Int) < (l.length : Int) := by omega
            have c0 : (0 : Int) ≤ (i : Int) := by omega
            have c3 : o.length < 17592186044416 := by omega
            have e0 : rd s 0 = s.getD 0 0 := rd_nat s 0
            rw [mergeFrom_step _ _ _ hi]
            simp only [impl_MergeMembers.l0, c1, c0, c2, ↓reduceIte, w1 hi hm, e0, rd_nat]
            by_cases h1 : (i : Int) = s.getD 0 0
            · simp only [h1, ↓reduceIte]
              refine Ev.bind (impl_maskOf.ev s hs (fun x hx => by have := hmem x hx; omega)) ?_
              refine Ev.bind (impl_Committee_weight.ev q l (bitsOf s) (isComm_mem h.1) (by omega) (by omega)) ?_
              simp only [c3, ↓reduceIte]
              refine Ev.eq (ih _ (by simp; omega)) (by rw [List.append_assoc])
            · simp only [h1, ↓reduceIte]
              refine Ev.bind (slices_Contains_int_int.ev s i (by omega)) ?_
              cases hasN s i with
              | true => simp only [↓reduceIte, List.nil_append]; exact ih _ (by omega)
              | false =>
                simp only [Bool.false_eq_true, ↓reduceIte, c3]
                refine Ev.eq (ih _ (by simp; omega)) (by rw [List.append_assoc]))
      refine Ev.shift ?_
      simp only [impl_MergeMembers.j0, Bool.false_eq_true, ↓reduceIte]
      exact key 0 (Nat.zero_le _) [] (by simp)
theorem spec_unMerge.ev (q : Int) (l s : List Int) (hs : s.length ≤ 1048576) (hc : isComm q l = true) (hS : isSetN s l.length = true) (he : s ≠ []) : Ev (fun k => spec_unMerge.f k q l s) (q, mergeFrom l s 0) := by
  have hpos : 0 < s.length := List.length_pos_iff.2 he
  have hlen := isComm_len hc
  have hmem := isSetN_mem hS
  have c2 : (0 : Int) < (s.length : Int) := by omega
  have key := back (P := fun i => ∀ o : List Int, o.length ≤ i → Ev (fun k => spec_unMerge.l0 k s l (l.length : Int) (i : Int) q l q o) (q, o ++ mergeFrom l s i)) l.length
    (by intro o ho
        refine Ev.shift ?_
        simp only [spec_unMerge.l0, Int.lt_irrefl, ↓reduceIte, mergeFrom_end _ _ _ (Nat.le_refl _), List.append_nil]
        exact Ev.some)
    (by intro i hi ih o ho
        refine Ev.shift ?_
        have c1 : (i : Int) < (l.length : Int) := by omega
        have c0 : (0 : Int) ≤ (i : Int) := by omega
        have c3 : o.length < 17592186044416 := by omega
        have e0 : rd s 0 = s.getD 0 0 := rd_nat s 0
        rw [mergeFrom_step _ _ _ hi]
        simp only [spec_unMerge.l0, c1, c0, c2, ↓reduceIte, w1 hi (show l.length ≤ 9223372036854775807 by omega), e0, rd_nat]
        by_cases h1 : (i : Int) = s.getD 0 0
        · simp only [h1, ↓reduceIte]
          refine Ev.bind (spec_voBits.ev s hs (fun x hx => by have := hmem x hx; omega)) ?_
          refine Ev.bind (spec_voWeight.ev q l (bitsOf s) (isComm_mem hc) (by omega)) ?_
          simp only [c3, ↓reduceIte]
          refine Ev.eq (ih _ (by simp; omega)) (by rw [List.append_assoc])
        · simp only [h1, ↓reduceIte]
          refine Ev.bind (spec_l1Has.ev s i (by omega)) ?_
          cases hasN s i with
          | true => simp only [↓reduceIte, List.nil_append]; exact ih _ (by omega)
          | false =>
            simp only [Bool.false_eq_true, ↓reduceIte, c3]
            refine Ev.eq (ih _ (by simp; omega)) (by rw [List.append_assoc]))
  unfold spec_unMerge.f
  exact key 0 (Nat.zero_le _) [] (by simp)
theorem set_first {s : List Int} {n : Int} (h : isSetN s n = true) : ∀ x ∈ s, s.getD 0 0 ≤ x := by
  simp only [isSetN, Bool.and_eq_true] at h
  have hi := (allF_iff _ _).1 h.2
  have key : ∀ i, i < s.length → s.getD 0 0 ≤ s.getD i 0 := by
    intro i
    induction i with
    | zero => intro _; omega
    | succ i ih =>
      intro h1
      have h2 := hi (i + 1) h1
      simp only [incr, Bool.or_eq_true, beq_iff_eq, decide_eq_true_eq, Nat.add_sub_cancel] at h2
      have := ih (by omega)
      omega
  intro x hx
  obtain ⟨i, hi2, rfl⟩ := List.mem_iff_getElem.1 hx
  have := key i hi2
  rwa [List.getD_eq_getElem?_getD (i := i), List.getElem?_eq_getElem hi2, Option.getD_some] at this
theorem mergeFrom_first {l s : List Int} (h : isSetN s l.length = true) (he : s ≠ []) : ∀ i : Nat, (i : Int) ≤ s.getD 0 0 → s.getD 0 0 < i + (mergeFrom l s i).length := by
  have hpos : 0 < s.length := List.length_pos_iff.2 he
  have h0 := isSetN_mem h _ (getD_mem s 0 0 hpos)
  have hf := set_first h
  obtain ⟨a, ha⟩ : ∃ a : Nat, s.getD 0 0 = (a : Int) := ⟨(s.getD 0 0).toNat, by omega⟩
  rw [ha] at h0 hf ⊢
  intro i hi
  refine back (P := fun i => (a : Int) < i + (mergeFrom l s i).length) a ?_ ?_ i (by omega)
  · rw [mergeFrom_step l s a (by omega), if_pos ha.symm]
    simp only [List.length_append, List.length_singleton]
    omega
  · intro i hia ih
    have hn : hasN s (i : Int) = false := by
      unfold hasN
      rw [List.any_eq_false]
      intro x hx
      have := hf x hx
      simp only [decide_eq_true_eq]
      omega
    rw [mergeFrom_step l s i (by omega), if_neg (by rw [ha]; omega), hn, if_neg (by decide)]
    simp only [List.length_append, List.length_singleton]
    omega
def canMerge (q : Int) (l s : List Int) : Bool := isComm q l && isSetN s l.length && decide (s ≠ []) && isComm q (mergeFrom l s 0)
theorem mergeM_eq (q : Int) (l s : List Int) : mergeM q l s = if canMerge q l s = true then (q, mergeFrom l s 0, true) else (0, [], false) := by
  unfold mergeM canMerge ifC
  cases isComm q l && isSetN s l.length && decide (s ≠ []) <;> cases isComm q (mergeFrom l s 0) <;> rfl
theorem spec_unSet.ev (q : Int) (l s : List Int) (hm : l.length ≤ 9223372036854775807) (hs : s.length ≤ 1048576) : Ev (fun k => spec_unSet.f k q l s) (canMerge q l s) := by
  unfold spec_unSet.f canMerge
  refine Ev.bind (spec_voAsked.ev q l s hm (by omega)) ?_
  cases h : isComm q l && isSetN s l.length with
  | false => simp only [Bool.false_eq_true, ↓reduceIte, Bool.false_and]; exact Ev.some
  | true =>
    by_cases he : s = []
    · subst he; simp only [List.length_nil, Int.natCast_zero, ↓reduceIte, ne_eq, not_true_eq_false, decide_false, Bool.and_false, Bool.false_and, gt_iff_lt, Int.lt_irrefl]; exact Ev.some
    · have hpos : 0 < s.length := List.length_pos_iff.2 he
      have c2 : (s.length : Int) > 0 := by omega
      simp only [Bool.and_eq_true] at h
      have hlen := isComm_len h.1
      have hml := mergeFrom_len l s 0 (Nat.zero_le _)
      simp only [↓reduceIte, c2, he, ne_eq, not_false_eq_true, decide_true, Bool.true_and]
      exact Ev.bind (spec_unMerge.ev q l s hs h.1 h.2 he) (Ev.bind (spec_voGood.ev _ _ (by simp only; omega)) Ev.some)
end Go.Proofs.YtflkfbjmlacgcaaGreat.P

namespace Go.Proofs.YtflkfbjmlacgcaaGreat.P
def pcR : Nat → Nat → Nat
  | 0, _ => 0
  | n + 1, m => pcR n m + if m.testBit n = true then 1 else 0
def fac : Nat → Nat
  | 0 => 1
  | n + 1 => (n + 1) * fac n
theorem fac_pos (n : Nat) : 0 < fac n := by
  induction n with
  | zero => decide
  | succ n ih => rw [fac]; exact Nat.mul_pos (by omega) ih
theorem fac_le {n m : Nat} (h : n ≤ m) : fac n ≤ fac m := by
  induction m with
  | zero => obtain rfl : n = 0 := by omega
            exact Nat.le_refl _
  | succ m ih =>
    by_cases e : n = m + 1
    · rw [e]; exact Nat.le_refl _
    · exact Nat.le_trans (ih (by omega)) (by rw [fac]; exact Nat.le_mul_of_pos_left _ (by omega))
theorem fac_nine {n : Nat} (h : n ≤ 9) : fac n ≤ 362880 := Nat.le_trans (fac_le h) (by decide)
theorem pcR_le (n m : Nat) : pcR n m ≤ n := by
  induction n with
  | zero => exact Nat.le_refl _
  | succ n ih => rw [pcR]; split <;> omega
theorem pcR_more (n d m : Nat) (h : m < 2 ^ n) : pcR (n + d) m = pcR n m := by
  induction d with
  | zero => rfl
  | succ d ih =>
    rw [show n + (d + 1) = (n + d) + 1 from rfl, pcR, ih, Nat.testBit_lt_two_pow (Nat.lt_of_lt_of_le h (Nat.pow_le_pow_right (by omega) (by omega)))]
    rfl
theorem pcR_lt (n m k : Nat) (hk : k < n) (hb : m.testBit k = false) : pcR n m ≤ n - 1 := by
  induction n with
  | zero => omega
  | succ n ih =>
    rw [pcR]
    have := pcR_le n m
    by_cases e : k = n
    · subst e; rw [hb]; simp only [Bool.false_eq_true, ↓reduceIte]; omega
    · have := ih (by omega)
      split <;> omega
theorem bit_with (m k j : Nat) (hb : m.testBit k = false) : (m + 2 ^ k).testBit j = (m.testBit j || decide (k = j)) := by
  rw [← or_pow hb, Nat.testBit_or, Nat.testBit_two_pow]
theorem pcR_with (n m k : Nat) (hk : k < n) (hb : m.testBit k = false) : pcR n (m + 2 ^ k) = pcR n m + 1 := by
  have off : ∀ n, n ≤ k → pcR n (m + 2 ^ k) = pcR n m := by
    intro n
    induction n with
    | zero => intro _; rfl
    | succ n ih =>
      intro h
      rw [pcR, pcR, ih (by omega), bit_with m k n hb, show decide (k = n) = false from decide_eq_false (by omega), Bool.or_false]
  induction n with
  | zero => omega
  | succ n ih =>
    rw [pcR, pcR, bit_with m k n hb]
    by_cases e : k = n
    · subst e
      rw [off k (Nat.le_refl _), hb, show decide (k = k) = true from decide_eq_true rfl]
      simp
    · rw [ih (by omega), show decide (k = n) = false from decide_eq_false e, Bool.or_false]
      omega
def sumS : Nat → (Nat → Int) → Int
  | 0, F => F 0
  | n + 1, F => sumS n F + sumS n (fun m => F (m + 2 ^ n))
def sumN : Nat → (Nat → Int) → Int
  | 0, _ => 0
  | n + 1, F => sumN n F + F n
theorem sumS_congr (n : Nat) (F G : Nat → Int) (h : ∀ m, m < 2 ^ n → F m = G m) : sumS n F = sumS n G := by
  induction n generalizing F G with
  | zero => exact h 0 (by decide)
  | succ n ih =>
    have hp := Nat.two_pow_pos n
    rw [sumS, sumS, ih F G (fun m hm => h m (by rw [Nat.pow_succ]; omega)), ih _ _ (fun m hm => h (m + 2 ^ n) (by rw [Nat.pow_succ]; omega))]
theorem sumS_add (n : Nat) (F G : Nat → Int) : sumS n (fun m => F m + G m) = sumS n F + sumS n G := by
  induction n generalizing F G with
  | zero => rfl
  | succ n ih => rw [sumS, sumS, sumS, ih, ih (fun m => F (m + 2 ^ n)) (fun m => G (m + 2 ^ n))]; omega
theorem sumS_sub (n : Nat) (F G : Nat → Int) : sumS n (fun m => F m - G m) = sumS n F - sumS n G := by
  induction n generalizing F G with
  | zero => rfl
  | succ n ih => rw [sumS, sumS, sumS, ih, ih (fun m => F (m + 2 ^ n)) (fun m => G (m + 2 ^ n))]; omega
theorem sumS_zero (n : Nat) : sumS n (fun _ => 0) = 0 := by
  induction n with
  | zero => rfl
  | succ n ih => rw [sumS, ih]; rfl
theorem sumN_swap (n N : Nat) (G : Nat → Nat → Int) : sumN n (fun k => sumS N (G k)) = sumS N (fun m => sumN n (fun k => G k m)) := by
  induction n with
  | zero => exact (sumS_zero N).symm
  | succ n ih => rw [sumN, ih, ← sumS_add]; rfl
theorem sumN_congr (n : Nat) (F G : Nat → Int) (h : ∀ k, k < n → F k = G k) : sumN n F = sumN n G := by
  induction n with
  | zero => rfl
  | succ n ih => rw [sumN, sumN, ih (fun k hk => h k (by omega)), h n (by omega)]
theorem low_bit (m n k : Nat) (h : k < n) : (m + 2 ^ n).testBit k = m.testBit k := by rw [Nat.add_comm, Nat.testBit_two_pow_add_gt h]
theorem top_bit (m n : Nat) (h : m < 2 ^ n) : (m + 2 ^ n).testBit n = true := by rw [Nat.add_comm, Nat.testBit_two_pow_add_eq, Nat.testBit_lt_two_pow h]; rfl
theorem sumS_put (n k : Nat) (hk : k < n) (F : Nat → Int) : sumS n (fun m => if m.testBit k = true then 0 else F (m + 2 ^ k)) = sumS n (fun m => if m.testBit k = true then F m else 0) := by
  induction n generalizing F with
  | zero => omega
  | succ n ih =>
    rw [sumS, sumS]
    by_cases e : k = n
    · subst e
      rw [sumS_congr k _ (fun m => F (m + 2 ^ k)) (fun m hm => by simp only [Nat.testBit_lt_two_pow hm, Bool.false_eq_true, ↓reduceIte]),
        sumS_congr k (fun m => if (m + 2 ^ k).testBit k = true then 0 else F (m + 2 ^ k + 2 ^ k)) (fun _ => 0) (fun m hm => by simp only [top_bit m k hm, ↓reduceIte]),
        sumS_congr k (fun m => if m.testBit k = true then F m else 0) (fun _ => 0) (fun m hm => by simp only [Nat.testBit_lt_two_pow hm, Bool.false_eq_true, ↓reduceIte]),
        sumS_congr k (fun m => if (m + 2 ^ k).testBit k = true then F (m + 2 ^ k) else 0) (fun m => F (m + 2 ^ k)) (fun m hm => by simp only [top_bit m k hm, ↓reduceIte]), sumS_zero]
      omega
    · have hkn : k < n := by omega
      have h2 := ih hkn (fun m => F (m + 2 ^ n))
      rw [ih hkn F]
      congr 1
      rw [sumS_congr n (fun m => if (m + 2 ^ n).testBit k = true then 0 else F (m + 2 ^ n + 2 ^ k)) (fun m => if m.testBit k = true then 0 else F (m + 2 ^ k + 2 ^ n)) (fun m _ => by rw [low_bit m n k hkn, Nat.add_right_comm]),
        sumS_congr n (fun m => if (m + 2 ^ n).testBit k = true then F (m + 2 ^ n) else 0) (fun m => if m.testBit k = true then F (m + 2 ^ n) else 0) (fun m _ => by rw [low_bit m n k hkn])]
      exact h2
theorem sumN_bits (n m : Nat) (A B : Int) : sumN n (fun k => if m.testBit k = true then A else -B) = (pcR n m : Int) * A - ((n : Int) - (pcR n m : Int)) * B := by
  induction n with
  | zero => simp [sumN, pcR]
  | succ n ih =>
    rw [sumN, ih, pcR]
    by_cases h : m.testBit n = true
    · simp only [h, ↓reduceIte, Int.natCast_add, Int.natCast_one, Int.sub_mul, Int.add_mul, Int.one_mul]; omega
    · simp only [h, ↓reduceIte, Int.natCast_add, Int.natCast_one, Nat.add_zero, Int.sub_mul, Int.add_mul, Int.one_mul]; simp; omega
theorem pcR_up (n m : Nat) : pcR n (m + 2 ^ n) = pcR n m := by
  have key : ∀ d, d ≤ n → pcR d (m + 2 ^ n) = pcR d m := by
    intro d
    induction d with
    | zero => intro _; rfl
    | succ d ih => intro h; rw [pcR, pcR, ih (by omega), low_bit m n d (by omega)]
  exact key n (Nat.le_refl _)
theorem sumS_full (n : Nat) (f : Nat → Int) : sumS n (fun m => if pcR n m = n then f m else 0) = f (2 ^ n - 1) := by
  induction n generalizing f with
  | zero => rfl
  | succ n ih =>
    have hp := Nat.two_pow_pos n
    rw [sumS, sumS_congr n _ (fun _ => 0) (fun m hm => by
      have := pcR_le n m
      rw [pcR, Nat.testBit_lt_two_pow hm, if_neg (show ¬ pcR n m + (if false = true then 1 else 0) = n + 1 by simp; omega)]), sumS_zero, Int.zero_add,
      sumS_congr n (fun m => if pcR (n + 1) (m + 2 ^ n) = n + 1 then f (m + 2 ^ n) else 0) (fun m => if pcR n m = n then f (m + 2 ^ n) else 0) (fun m hm => by
        rw [pcR, pcR_up, top_bit m n hm]
        simp), ih (fun m => f (m + 2 ^ n))]
    congr 1
    rw [Nat.pow_succ]; omega
theorem sumS_none (n : Nat) (f : Nat → Int) : sumS n (fun m => if pcR n m = 0 then f m else 0) = f 0 := by
  induction n generalizing f with
  | zero => rfl
  | succ n ih =>
    rw [sumS, sumS_congr n _ (fun m => if pcR n m = 0 then f m else 0) (fun m hm => by
      rw [pcR, Nat.testBit_lt_two_pow hm]
      simp), ih f, sumS_congr n (fun m => if pcR (n + 1) (m + 2 ^ n) = 0 then f (m + 2 ^ n) else 0) (fun _ => 0) (fun m hm => by
        rw [pcR, top_bit m n hm]
        simp), sumS_zero, Int.add_zero]
def wgt (n s : Nat) : Nat := fac s * fac (n - 1 - s)
theorem wgt_le {n s : Nat} (hs : s ≤ n - 1) (hn : 1 ≤ n) (h9 : n ≤ 9) : wgt n s ≤ 362880 := by
  have key : ∀ t s, fac s * fac t ≤ fac (s + t) := by
    intro t s
    induction s with
    | zero => simp [fac]
    | succ s ih =>
      rw [show s + 1 + t = (s + t) + 1 by omega, fac, fac, Nat.mul_assoc]
      exact Nat.le_trans (Nat.mul_le_mul_left _ ih) (Nat.mul_le_mul_right _ (by omega))
  exact Nat.le_trans (key _ _) (Nat.le_trans (fac_le (show s + (n - 1 - s) ≤ 9 by omega)) (by decide))
theorem coef (n s : Nat) (hn : 1 ≤ n) (hs : s ≤ n) : (s : Int) * (wgt n (s - 1) : Int) - ((n : Int) - (s : Int)) * (wgt n s : Int) = (if s = n then (fac n : Int) else 0) - (if s = 0 then (fac n : Int) else 0) := by
  unfold wgt
  by_cases h0 : s = 0
  · subst h0
    rw [if_neg (by omega), if_pos rfl]
    obtain ⟨d, rfl⟩ : ∃ d, n = d + 1 := ⟨n - 1, by omega⟩
    simp [fac]
  · obtain ⟨t, rfl⟩ : ∃ t, s = t + 1 := ⟨s - 1, by omega⟩
    rw [if_neg h0]
    have e1 : ((t + 1 : Nat) : Int) * ((fac (t + 1 - 1) * fac (n - 1 - (t + 1 - 1)) : Nat) : Int) = ((fac (t + 1) * fac (n - 1 - t) : Nat) : Int) := by
      rw [Nat.add_sub_cancel, fac, ← Int.natCast_mul, Nat.mul_assoc]
    rw [e1]
    by_cases hn2 : t + 1 = n
    · subst hn2
      rw [if_pos rfl, Nat.add_sub_cancel, Nat.sub_self]
      simp [fac]
    · rw [if_neg hn2]
      obtain ⟨d, rfl⟩ : ∃ d, n = t + 1 + (d + 1) := ⟨n - (t + 1) - 1, by omega⟩
      have e2 : (((t + 1 + (d + 1) : Nat) : Int) - ((t + 1 : Nat) : Int)) * ((fac (t + 1) * fac (t + 1 + (d + 1) - 1 - (t + 1)) : Nat) : Int) = ((fac (t + 1) * fac (d + 1) : Nat) : Int) := by
        rw [show t + 1 + (d + 1) - 1 - (t + 1) = d by omega, show ((t + 1 + (d + 1) : Nat) : Int) - ((t + 1 : Nat) : Int) = ((d + 1 : Nat) : Int) by omega, ← Int.natCast_mul, fac, fac, Nat.mul_left_comm (d + 1)]
      rw [e2, show t + 1 + (d + 1) - 1 - t = d + 1 by omega]
      simp
theorem sum_swings (n : Nat) (hn : 1 ≤ n) (W : Nat → Bool) (hmono : ∀ m k, m < 2 ^ n → k < n → m.testBit k = false → W m = true → W (m + 2 ^ k) = true) (h0 : W 0 = false) (h1 : W (2 ^ n - 1) = true) :
    sumN n (fun k => sumS n (fun m => if (!m.testBit k && !W m && W (m + 2 ^ k)) = true then (wgt n (pcR n m) : Int) else 0)) = (fac n : Int) := by
  let f : Nat → Int := fun m => if W m = true then 1 else 0
  have step : ∀ k, k < n → sumS n (fun m => if (!m.testBit k && !W m && W (m + 2 ^ k)) = true then (wgt n (pcR n m) : Int) else 0) = sumS n (fun m => if m.testBit k = true then (wgt n (pcR n m - 1) : Int) * f m else - ((wgt n (pcR n m) : Int) * f m)) := by
    intro k hk
    have e1 := sumS_put n k hk (fun m => (wgt n (pcR n m - 1) : Int) * f m)
    rw [sumS_congr n _ (fun m => (if m.testBit k = true then 0 else (wgt n (pcR n (m + 2 ^ k) - 1) : Int) * f (m + 2 ^ k)) - (if m.testBit k = true then 0 else (wgt n (pcR n m) : Int) * f m)) (fun m hm => by
      cases hb : m.testBit k with
      | true => simp
      | false =>
        rw [pcR_with n m k hk hb, Nat.add_sub_cancel]
        simp only [f, Bool.not_false, Bool.true_and, Bool.false_eq_true, ↓reduceIte]
        cases hW : W m with
        | true => rw [hmono m k hm hk hb hW]; simp
        | false => cases W (m + 2 ^ k) <;> simp), sumS_sub, e1, ← sumS_sub]
    refine sumS_congr n _ _ (fun m _ => ?_)
    cases m.testBit k <;> simp
  rw [sumN_congr n _ _ step, sumN_swap]
  rw [sumS_congr n _ (fun m => (if pcR n m = n then (fac n : Int) * f m else 0) - (if pcR n m = 0 then (fac n : Int) * f m else 0)) (fun m _ => by
    rw [sumN_bits]
    have hc := coef n (pcR n m) hn (pcR_le n m)
    have : (pcR n m : Int) * ((wgt n (pcR n m - 1) : Int) * f m) - ((n : Int) - (pcR n m : Int)) * ((wgt n (pcR n m) : Int) * f m) = ((pcR n m : Int) * (wgt n (pcR n m - 1) : Int) - ((n : Int) - (pcR n m : Int)) * (wgt n (pcR n m) : Int)) * f m := by
      simp only [Int.sub_mul, Int.mul_assoc]
    rw [this, hc, Int.sub_mul]
    congr 1 <;> split <;> simp), sumS_sub, sumS_full n (fun m => (fac n : Int) * f m), sumS_none n (fun m => (fac n : Int) * f m)]
  simp only [f, h0, h1, Bool.false_eq_true, ↓reduceIte, Int.mul_one, Int.mul_zero, Int.sub_zero]
theorem sumS_list (n : Nat) (F : Nat → Int) : ((List.range (2 ^ n)).map F).sum = sumS n F := by
  induction n generalizing F with
  | zero => simp [sumS, List.range_succ]
  | succ n ih => rw [Nat.pow_succ, Nat.mul_two, List.range_add, List.map_append, List.sum_append, ih, List.map_map, sumS, ← ih (fun m => F (m + 2 ^ n))]; exact congrArg _ (congrArg _ (List.map_congr_left (fun m _ => by show F (2 ^ n + m) = F (m + 2 ^ n); rw [Nat.add_comm])))
theorem sumN_list (n : Nat) (F : Nat → Int) : ((List.range n).map F).sum = sumN n F := by
  induction n with
  | zero => rfl
  | succ n ih => rw [List.range_succ, List.map_append, List.sum_append, ih, sumN]; simp
theorem sum_filter (l : List Nat) (p : Nat → Bool) (F : Nat → Int) : ((l.filter p).map F).sum = (l.map fun m => if p m = true then F m else 0).sum := by
  induction l with
  | nil => rfl
  | cons x l ih =>
    by_cases h : p x = true
    · rw [List.filter_cons_of_pos h, List.map_cons, List.map_cons, List.sum_cons, List.sum_cons, ih, if_pos h]
    · rw [List.filter_cons_of_neg h, List.map_cons, List.sum_cons, ih, if_neg h, Int.zero_add]
end Go.Proofs.YtflkfbjmlacgcaaGreat.P

namespace Go.Proofs.YtflkfbjmlacgcaaGreat.P
open Go.RowKit Go.Proofs.YtflkfbjmlacgcaaGreatW.PrintWords Go.Proofs.YtflkfbjmlacgcaaGreatW.PrintLast Go.Proofs.YtflkfbjmlacgcaaGreatW.PrintMore
theorem count512 : ((List.range 512).all fun m => impl_count.f (m : Int) == some ((pcR 9 m : Nat) : Int)) = true := by decide +kernel
theorem impl_count.eq (m : Nat) (h : m < 512) : impl_count.f (m : Int) = some ((pcR 9 m : Nat) : Int) := by
  have h1 := count512
  rw [List.all_eq_true] at h1
  simpa using h1 m (List.mem_range.2 h)
theorem sel_pc (n m : Nat) : (sel n m.testBit).length = pcR n m := by
  induction n with
  | zero => rfl
  | succ n ih => rw [sel_succ, List.length_append, ih, pcR]; cases m.testBit n <;> rfl
theorem fac_step {n j : Nat} (hj : j + 2 ≤ n) (h9 : n ≤ 9) : wrap64 (((fac (j + 1) : Nat) : Int) * ((j + 2 : Nat) : Int)) = ((fac (j + 2) : Nat) : Int) := by
  have h := fac_nine (show j + 2 ≤ 9 by omega)
  have e : ((fac (j + 1) : Nat) : Int) * ((j + 2 : Nat) : Int) = ((fac (j + 2) : Nat) : Int) := by rw [← Int.natCast_mul, Nat.mul_comm]; rfl
  rw [e, w64 (by omega) (by omega)]
theorem impl_factorial.ev (n : Nat) (hn : n ≤ 9) : Ev (fun k => impl_factorial.f k (n : Int)) ((fac n : Nat) : Int) := by
  unfold impl_factorial.f
  cases n with
  | zero =>
    refine Ev.shift ?_
    have c : ¬ ((2 : Int) ≤ ((0 : Nat) : Int)) := by omega
    simp only [impl_factorial.l0, c, ↓reduceIte]
    exact Ev.some
  | succ m =>
    have key := Ev.down (G := fun j k => impl_factorial.l0 k ((m + 1 : Nat) : Int) ((fac (j + 1) : Nat) : Int) ((j + 2 : Nat) : Int)) (R := fun _ => ((fac (m + 1) : Nat) : Int)) m
      (by refine Ev.shift ?_
          have c : ¬ (((m + 2 : Nat) : Int) ≤ ((m + 1 : Nat) : Int)) := by omega
          simp only [impl_factorial.l0, c, ↓reduceIte]
          exact Ev.some)
      (fun j hj ih => by
        refine Ev.shift ?_
        have c : (((j + 2 : Nat) : Int) ≤ ((m + 1 : Nat) : Int)) := by omega
        have e2 : wrap64 (((j + 2 : Nat) : Int) + 1) = ((j + 1 + 2 : Nat) : Int) := by rw [w64 (by omega) (by omega)]; omega
        simp only [impl_factorial.l0, c, ↓reduceIte, fac_step (n := m + 1) (j := j) (by omega) hn, e2]
        exact ih)
    exact key 0 (Nat.zero_le _)
theorem spec_pwTimes.ev (n : Nat) (hn : n ≤ 9) : Ev (fun k => spec_pwTimes.f k (n : Int)) ((fac n : Nat) : Int) := by
  unfold spec_pwTimes.f
  cases n with
  | zero =>
    refine Ev.shift ?_
    have c : ¬ ((2 : Int) ≤ ((0 : Nat) : Int)) := by omega
    simp only [spec_pwTimes.l0, c, ↓reduceIte]
    exact Ev.some
  | succ m =>
    have key := Ev.down (G := fun j k => spec_pwTimes.l0 k ((m + 1 : Nat) : Int) ((fac (j + 1) : Nat) : Int) ((j + 2 : Nat) : Int)) (R := fun _ => ((fac (m + 1) : Nat) : Int)) m
      (by refine Ev.shift ?_
          have c : ¬ (((m + 2 : Nat) : Int) ≤ ((m + 1 : Nat) : Int)) := by omega
          simp only [spec_pwTimes.l0, c, ↓reduceIte]
          exact Ev.some)
      (fun j hj ih => by
        refine Ev.shift ?_
        have c : (((j + 2 : Nat) : Int) ≤ ((m + 1 : Nat) : Int)) := by omega
        have e2 : wrap64 (((j + 2 : Nat) : Int) + 1) = ((j + 1 + 2 : Nat) : Int) := by rw [w64 (by omega) (by omega)]; omega
        simp only [spec_pwTimes.l0, c, ↓reduceIte, fac_step (n := m + 1) (j := j) (by omega) hn, e2]
        exact ih)
    exact key 0 (Nat.zero_le _)
def pvs (n : Nat) (w : List Bool) (k N : Nat) : Int := (((List.range N).filter (swing w k)).map fun m => (wgt n (pcR 9 m) : Int)).sum
def pivl (n : Nat) (w : List Bool) : List Int := (List.range n).map fun k => pvs n w k (2 ^ n)
theorem pivl_len (n : Nat) (w : List Bool) : (pivl n w).length = n := by simp [pivl]
theorem pivl_get (n : Nat) (w : List Bool) (k : Nat) (h : k < n) : (pivl n w).getD k 0 = pvs n w k (2 ^ n) := by simp [pivl, List.getD_eq_getElem?_getD, List.getElem?_range h]
theorem pvs_succ (n : Nat) (w : List Bool) (k m : Nat) : pvs n w k (m + 1) = pvs n w k m + if swing w k m = true then (wgt n (pcR 9 m) : Int) else 0 := by
  unfold pvs
  rw [List.range_succ, List.filter_append, List.map_append, List.sum_append]
  cases h : swing w k m with
  | true => rw [List.filter_cons_of_pos h]; simp
  | false => rw [List.filter_cons_of_neg (by simp [h])]; simp
theorem pc9 {n m : Nat} (h9 : n ≤ 9) (hm : m < 2 ^ n) : pcR 9 m = pcR n m := by
  have := pcR_more n (9 - n) m hm
  rwa [show n + (9 - n) = 9 by omega] at this
theorem swing_pc {n m k : Nat} {w : List Bool} (h9 : n ≤ 9) (hm : m < 2 ^ n) (hk : k < n) (h : swing w k m = true) : pcR 9 m ≤ n - 1 := by
  simp only [swing, Bool.and_eq_true, Bool.not_eq_true'] at h
  rw [pc9 h9 hm]
  exact pcR_lt n m k hk h.1.1
theorem pvs_bounds (n : Nat) (w : List Bool) (k N : Nat) (h1 : 1 ≤ n) (h9 : n ≤ 9) (hk : k < n) (hN : N ≤ 2 ^ n) : 0 ≤ pvs n w k N ∧ pvs n w k N ≤ 362880 * N := by
  induction N with
  | zero => simp [pvs]
  | succ N ih =>
    have h2 := ih (by omega)
    rw [pvs_succ]
    cases hs : swing w k N with
    | true =>
      have := wgt_le (swing_pc h9 (by omega) hk hs) h1 h9
      simp only [↓reduceIte]; omega
    | false => simp only [Bool.false_eq_true, ↓reduceIte]; omega
theorem wgt_mul {n s : Nat} (hs : s ≤ n - 1) (h1 : 1 ≤ n) (h9 : n ≤ 9) : wrap64 (((fac s : Nat) : Int) * ((fac (n - 1 - s) : Nat) : Int)) = (wgt n s : Int) := by
  have := wgt_le hs h1 h9
  have e : ((fac s : Nat) : Int) * ((fac (n - 1 - s) : Nat) : Int) = (wgt n s : Int) := by rw [← Int.natCast_mul]; rfl
  rw [e, w64 (by omega) (by omega)]
theorem sub_pc {n s : Nat} (hs : s ≤ n - 1) (h1 : 1 ≤ n) (h9 : n ≤ 9) : wrap64 (wrap64 ((n : Int) - 1) - (s : Int)) = ((n - 1 - s : Nat) : Int) := by
  rw [w64 (x := (n : Int) - 1) (by omega) (by omega), w64 (by omega) (by omega)]; omega
theorem impl_votes_pivots.inner (n : Nat) (w : List Bool) (i : Nat) (N I : Int) (row res : List Int) (hw : w.length = 2 ^ n) (h1 : 1 ≤ n) (h9 : n ≤ 9) (hi : i < n) (hr : row.length = n) (h0 : row.getD i 0 = 0)
    (hcont : Ev (fun k => impl_votes_pivots.l0 k (row.set i (pvs n w i (2 ^ n))) N (wrap64 (I + 1)) (n : Int) w) res) :
    Ev (fun k => impl_votes_pivots.l1 k row (i : Int) N I (w.length : Int) 0 (n : Int) w) res := by
  have h512 : 2 ^ n ≤ 512 := pow_small (m := 9) h9
  have key := Ev.down (G := fun m k => impl_votes_pivots.l1 k (row.set i (pvs n w i m)) (i : Int) N I (w.length : Int) (m : Int) (n : Int) w) (R := fun _ => res) (2 ^ n)
    (by refine Ev.shift ?_
        simp only [impl_votes_pivots.l1, hw, Int.lt_irrefl, ↓reduceIte]
        exact hcont)
    (fun m hm ih => by
      refine Ev.shift ?_
      have d1 : (m : Int) < (w.length : Int) := by rw [hw]; exact Int.ofNat_lt.2 hm
      have d0 : (0 : Int) ≤ (i : Int) := by omega
      have d2 : (i : Int) < (row.length : Int) := by omega
      have hwm := w1 hm (show 2 ^ n ≤ 9223372036854775807 by omega)
      have hb := pvs_bounds n w i m h1 h9 hi (by omega)
      rw [pvs_succ] at ih
      simp only [impl_votes_pivots.l1, d1, ↓reduceIte]
      refine Ev.bind (Ev.one (impl_votes_isSwing.eq n w m i hw (by omega) hm hi)) ?_
      cases hs : swing w i m with
      | true =>
        have hpc := swing_pc h9 hm hi hs
        have hwl := wgt_le hpc h1 h9
        rw [hs, if_pos rfl] at ih
        simp only [↓reduceIte, List.length_set, d0, d2, hwm]
        refine Ev.bind (Ev.one (impl_count.eq m (by omega))) ?_
        refine Ev.bind (impl_factorial.ev _ (by omega)) ?_
        refine Ev.bind (Ev.one (impl_count.eq m (by omega))) ?_
        rw [sub_pc hpc h1 h9]
        refine Ev.bind (impl_factorial.ev _ (by omega)) ?_
        rw [wgt_mul hpc h1 h9]
        have eg : rd (row.set i (pvs n w i m)) (i : Int) = pvs n w i m := by rw [rd_nat, List.getD_eq_getElem?_getD, List.getElem?_set_self (by omega)]; rfl
        simp only [eg, Int.toNat_natCast, List.set_set]
        rw [w64 (by omega) (by omega)]
        exact ih
      | false =>
        rw [hs, if_neg (by decide), Int.add_zero] at ih
        simp only [Bool.false_eq_true, ↓reduceIte, hwm]
        exact ih)
  have k0 := key 0 (Nat.zero_le _)
  have e0 : row.set i (pvs n w i 0) = row := by
    have ez : pvs n w i 0 = 0 := rfl
    rw [ez]
    apply List.ext_getElem?
    intro j
    rw [List.getElem?_set]
    split
    · rename_i e; subst e
      rw [List.getD_eq_getElem?_getD, List.getElem?_eq_getElem (by omega), Option.getD_some] at h0
      rw [if_pos (by omega), List.getElem?_eq_getElem (by omega), h0]
    · rfl
  rw [e0] at k0
  exact k0
theorem impl_votes_pivots.ev (n : Nat) (w : List Bool) (hw : w.length = 2 ^ n) (h1 : 1 ≤ n) (h9 : n ≤ 9) : Ev (fun k => impl_votes_pivots.f k (n : Int) w) (pivl n w) := by
  have c0 : (0 : Int) ≤ (n : Int) := by omega
  have c1 : n ≤ 35184372088832 := by omega
  have sl := pivl_len n w
  unfold impl_votes_pivots.f
  simp only [c0, c1, ↓reduceIte, Int.toNat_natCast]
  refine Ev.bind (Ev.one rfl) ?_
  simp only [List.length_replicate]
  have key := Ev.down (G := fun i k => impl_votes_pivots.l0 k (filled (pivl n w) 0 i) (n : Int) (i : Int) (n : Int) w) (R := fun _ => pivl n w) n
    (by refine Ev.shift ?_
        have : filled (pivl n w) 0 n = pivl n w := by have := filled_all (pivl n w) 0; rwa [sl] at this
        simp only [impl_votes_pivots.l0, Int.lt_irrefl, ↓reduceIte, this]
        exact Ev.some)
    (fun i hi ih => by
      have hfl := filled_len (pivl n w) 0 i (by omega)
      have hset := filled_set (pivl n w) 0 0 i (by omega)
      rw [pivl_get n w i hi] at hset
      rw [← hset] at ih
      have hz : (filled (pivl n w) 0 i).getD i 0 = 0 := by
        unfold filled
        rw [List.getD_eq_getElem?_getD, List.getElem?_append_right (by rw [List.length_take]; omega), List.getElem?_replicate, if_pos (by rw [List.length_take]; omega)]; rfl
      refine Ev.shift ?_
      have d1 : (i : Int) < (n : Int) := by omega
      simp only [impl_votes_pivots.l0, d1, ↓reduceIte]
      exact impl_votes_pivots.inner n w i _ _ _ _ hw h1 h9 hi (by omega) hz (by rw [w1 hi (show n ≤ 9223372036854775807 by omega)]; exact ih))
  have := key 0 (Nat.zero_le _)
  rw [filled_zero, sl] at this
  exact this
theorem spec_pwPivots.inner (n : Nat) (w0 : List Bool) (out : List Int) (I : Int) (L : List Nat) (k : Nat) (w : List Bool) (res : List Int) (h1 : 1 ≤ n) (h9 : n ≤ 9) (hk : k < n) (hL : ∀ m ∈ L, m < 2 ^ n ∧ swing w k m = true) (hlen : L.length ≤ 512) (ho : out.length ≤ 9)
    (hcont : Ev (fun K => spec_pwPivots.l0 K w0 (n : Int) (out ++ [(L.map fun m => (wgt n (pcR 9 m) : Int)).sum]) (wrap64 (I + 1))) res) :
    Ev (fun K => spec_pwPivots.l1 K w0 (n : Int) out I 0 (L.map fun m : Nat => (m : Int)) ((L.map fun m : Nat => (m : Int)).length : Int) 0) res := by
  have h512 : 2 ^ n ≤ 512 := pow_small (m := 9) h9
  have key := back (P := fun j => ∀ a : Int, 0 ≤ a → a ≤ 362880 * j → a + ((L.drop j).map fun m => (wgt n (pcR 9 m) : Int)).sum = (L.map fun m => (wgt n (pcR 9 m) : Int)).sum →
      Ev (fun K => spec_pwPivots.l1 K w0 (n : Int) out I a (L.map fun m : Nat => (m : Int)) (L.length : Int) (j : Int)) res) L.length
    (by intro a _ _ he
        refine Ev.shift ?_
        have c : out.length < 17592186044416 := by omega
        rw [List.drop_length, List.map_nil, List.sum_nil, Int.add_zero] at he
        simp only [spec_pwPivots.l1, Int.lt_irrefl, ↓reduceIte, c, he]
        exact hcont)
    (by intro j hj ih a h0 hb he
        refine Ev.shift ?_
        have c1 : (j : Int) < (L.length : Int) := by omega
        have c0 : (0 : Int) ≤ (j : Int) := by omega
        have c2 : (j : Int) < ((L.map fun m : Nat => (m : Int)).length : Int) := by rw [List.length_map]; omega
        have hm := hL _ (getD_mem L 0 j hj)
        have eg : rd (L.map fun m : Nat => (m : Int)) (j : Int) = ((L.getD j 0 : Nat) : Int) := by
          rw [rd_nat, List.getD_eq_getElem?_getD, List.getElem?_map, List.getD_eq_getElem?_getD, List.getElem?_eq_getElem hj]; rfl
        have hpc := swing_pc h9 hm.1 hk hm.2
        have hwl := wgt_le hpc h1 h9
        rw [drop_getD L 0 j hj, List.map_cons, List.sum_cons] at he
        simp only [spec_pwPivots.l1, c0, c1, c2, ↓reduceIte, eg]
        refine Ev.bind (spec_voList.ev _ (by omega)) ?_
        simp only [sel_pc]
        refine Ev.bind (spec_pwTimes.ev _ (by omega)) ?_
        rw [sub_pc hpc h1 h9]
        refine Ev.bind (spec_pwTimes.ev _ (by omega)) ?_
        rw [wgt_mul hpc h1 h9, w64 (by omega) (by omega), w1 hj (by omega)]
        exact ih _ (by omega) (by omega) (by omega))
  have k0 := key 0 (Nat.zero_le _) 0 (by omega) (by omega) (by rw [List.drop_zero]; omega)
  rw [List.length_map]
  exact k0
theorem spec_pwPivots.ev (n : Nat) (w : List Bool) (hw : w.length = 2 ^ n) (h1 : 1 ≤ n) (h9 : n ≤ 9) : Ev (fun k => spec_pwPivots.f k w (n : Int)) (pivl n w) := by
  have h512 : 2 ^ n ≤ 512 := pow_small (m := 9) h9
  have sl := pivl_len n w
  unfold spec_pwPivots.f
  have key := Ev.down (G := fun i k => spec_pwPivots.l0 k w (n : Int) ((pivl n w).take i) (i : Int)) (R := fun _ => pivl n w) n
    (by refine Ev.shift ?_
        have : (pivl n w).take n = pivl n w := by have := List.take_length (l := pivl n w); rwa [sl] at this
        simp only [spec_pwPivots.l0, Int.lt_irrefl, ↓reduceIte, this]
        exact Ev.some)
    (fun i hi ih => by
      refine Ev.shift ?_
      have d1 : (i : Int) < (n : Int) := by omega
      rw [take_getD (pivl n w) 0 i (by omega), pivl_get n w i hi] at ih
      simp only [spec_pwPivots.l0, d1, ↓reduceIte]
      refine Ev.bind (spec_pwSwings.ev n w i hw (by omega) hi) ?_
      refine spec_pwPivots.inner n w ((pivl n w).take i) (i : Int) ((List.range (2 ^ n)).filter (swing w i)) i w _ h1 h9 hi (fun m hm => ?_) ?_ (by rw [List.length_take]; omega) (by rw [w1 hi (show n ≤ 9223372036854775807 by omega)]; exact ih)
      · rw [List.mem_filter, List.mem_range] at hm
        exact hm
      · have := List.length_filter_le (swing w i) (List.range (2 ^ n))
        rw [List.length_range] at this
        omega)
  exact key 0 (Nat.zero_le _)
theorem pivl_sum (n : Nat) (w : List Bool) (h1 : 1 ≤ n) (h9 : n ≤ 9) (hmono : ∀ m k, m < 2 ^ n → k < n → m.testBit k = false → w.getD m false = true → w.getD (m + 2 ^ k) false = true) (h0 : w.getD 0 false = false) (hf : w.getD (2 ^ n - 1) false = true) :
    (pivl n w).sum = (fac n : Int) := by
  unfold pivl
  rw [sumN_list, ← sum_swings n h1 (fun m => w.getD m false) hmono h0 hf]
  refine sumN_congr n _ _ (fun k _ => ?_)
  unfold pvs
  rw [sum_filter, sumS_list]
  refine sumS_congr n _ _ (fun m hm => ?_)
  rw [pc9 h9 hm]
  rfl
theorem wt_nil0 (l : List Int) : wt l 0 = 0 := by
  induction l with
  | nil => rfl
  | cons x l ih => rw [wt, Nat.zero_div, ih]; rfl
theorem wt_with (l : List Int) (m k : Nat) (hk : k < l.length) (hb : m.testBit k = false) : wt l (m + 2 ^ k) = wt l m + l.getD k 0 := by
  induction l generalizing m k with
  | nil => simp at hk
  | cons x l ih =>
    cases k with
    | zero =>
      have h2 : m % 2 = 0 := by
        rw [bit_nat, Nat.pow_zero, Nat.div_one, decide_eq_false_iff_not] at hb
        omega
      have e1 : (m + 2 ^ 0) % 2 = 1 := by rw [Nat.pow_zero]; omega
      have e2 : (m + 2 ^ 0) / 2 = m / 2 := by rw [Nat.pow_zero]; omega
      rw [wt, wt, e1, e2, if_pos rfl, if_neg (by omega)]
      simp only [List.getD_cons_zero]
      omega
    | succ k =>
      have e1 : (m + 2 ^ (k + 1)) % 2 = m % 2 := by rw [Nat.pow_succ]; omega
      have e2 : (m + 2 ^ (k + 1)) / 2 = m / 2 + 2 ^ k := by rw [Nat.pow_succ]; omega
      have hb2 : (m / 2).testBit k = false := by rw [Nat.testBit_succ] at hb; exact hb
      rw [wt, wt, e1, e2, ih (m / 2) k (by simpa using hk) hb2, List.getD_cons_succ]
      omega
theorem wt_full (l : List Int) : wt l (2 ^ l.length - 1) = l.sum := by
  induction l with
  | nil => rfl
  | cons x l ih =>
    have hp := Nat.two_pow_pos l.length
    have e1 : (2 ^ (l.length + 1) - 1) % 2 = 1 := by rw [Nat.pow_succ]; omega
    have e2 : (2 ^ (l.length + 1) - 1) / 2 = 2 ^ l.length - 1 := by rw [Nat.pow_succ]; omega
    rw [List.length_cons, wt, e1, e2, ih, if_pos rfl, List.sum_cons]
def pv (q : Int) (l : List Int) : List Int := pivl l.length (tab l.length (cwin q l))
theorem pv_len (q : Int) (l : List Int) : (pv q l).length = l.length := pivl_len _ _
theorem pv_sum (q : Int) (l : List Int) (h : isComm q l = true) : (pv q l).sum = (fac l.length : Int) := by
  have hlen := isComm_len h
  have hm := isComm_mem h
  have hq := isComm_q h
  have hp := Nat.two_pow_pos l.length
  refine pivl_sum l.length _ hlen.1 hlen.2 (fun m k hm2 hk hb hw => ?_) ?_ ?_
  · rw [tab_get _ _ _ (with_lt hm2 hk hb)]
    rw [tab_get _ _ _ hm2] at hw
    simp only [cwin, decide_eq_true_eq] at hw ⊢
    rw [wt_with l m k hk hb]
    have := hm _ (getD_mem l 0 k hk)
    omega
  · rw [tab_get _ _ _ hp]
    simp only [cwin, decide_eq_false_iff_not]
    rw [wt_nil0]; omega
  · rw [tab_get _ _ _ (by omega)]
    simp only [cwin, decide_eq_true_eq]
    rw [wt_full]; omega
theorem sum_mem (l : List Int) (h : ∀ x ∈ l, 0 ≤ x) : 0 ≤ l.sum ∧ ∀ x ∈ l, x ≤ l.sum := by
  induction l with
  | nil => simp
  | cons y l ih =>
    have h1 := h y (by simp)
    obtain ⟨h2, h3⟩ := ih (fun x hx => h x (by simp [hx]))
    rw [List.sum_cons]
    refine ⟨by omega, fun x hx => ?_⟩
    rcases List.mem_cons.1 hx with rfl | hx
    · omega
    · have := h3 x hx; omega
theorem pv_mem (q : Int) (l : List Int) (h : isComm q l = true) : ∀ x ∈ pv q l, 0 ≤ x ∧ x ≤ 362880 := by
  have hlen := isComm_len h
  have nn : ∀ x ∈ pv q l, 0 ≤ x := by
    intro x hx
    simp only [pv, pivl, List.mem_map, List.mem_range] at hx
    obtain ⟨k, hk, rfl⟩ := hx
    exact (pvs_bounds l.length _ k _ hlen.1 hlen.2 hk (Nat.le_refl _)).1
  intro x hx
  have h2 := (sum_mem _ nn).2 x hx
  have h3 := fac_nine hlen.2
  rw [pv_sum q l h] at h2
  exact ⟨nn x hx, by omega⟩
def osm (p s : List Int) : Int := (s.map fun k => p.getD k.toNat 0).sum
theorem osm_from (p s : List Int) (i : Nat) (hi : i < s.length) : osm p (s.drop i) = p.getD (s.getD i 0).toNat 0 + osm p (s.drop (i + 1)) := by
  rw [drop_getD s 0 i hi]; simp [osm]
theorem impl_byOrders.ev (q : Int) (l : List Int) (h : isComm q l = true) : Ev (fun k => impl_byOrders.f k q l) (pv q l, (fac l.length : Int)) := by
  have hlen := isComm_len h
  unfold impl_byOrders.f
  refine Ev.bind (impl_Committee_votes.ev q l (isComm_mem h) (by omega)) ?_
  refine Ev.bind (impl_votes_pivots.ev l.length _ (tab_len _ _) hlen.1 hlen.2) ?_
  exact Ev.bind (impl_factorial.ev l.length hlen.2) Ev.some
theorem wsum_P (p : List Int) (hp : ∀ x ∈ p, 0 ≤ x ∧ x ≤ 362880) (hl : p.length ≤ 9) : wsum p = p.sum := by
  have key : ∀ (l : List Int) (s : Int), 0 ≤ s → (∀ x ∈ l, 0 ≤ x ∧ x ≤ 362880) → s + 362880 * l.length ≤ 9223372036854775807 → l.foldl (fun s x => wrap64 (s + x)) s = s + l.sum := by
    intro l
    induction l with
    | nil => intro s _ _ _; simp
    | cons x l ih =>
      intro s hs h hb
      have h1 := h x (by simp)
      simp only [List.length_cons] at hb
      rw [List.foldl_cons, w64 (by omega) (by omega), ih (s + x) (by omega) (fun y hy => h y (by simp [hy])) (by omega), List.sum_cons]
      omega
  unfold wsum; rw [key p 0 (by omega) hp (by omega)]; omega
theorem spec_unPivots.ev (q : Int) (l s : List Int) (h : isComm q l = true) (hs : ∀ x ∈ s, 0 ≤ x ∧ x < (l.length : Int)) (hl : s.length ≤ 9) : Ev (fun k => spec_unPivots.f k q l s) (osm (pv q l) s, (fac l.length : Int)) := by
  have hlen := isComm_len h
  have hp := pv_mem q l h
  have hpl := pv_len q l
  have hsum := pv_sum q l h
  unfold spec_unPivots.f
  refine Ev.bind (spec_voWins.ev' q l (isComm_mem h) (by omega)) ?_
  refine Ev.bind (spec_pwPivots.ev l.length _ (tab_len _ _) hlen.1 hlen.2) ?_
  have e : pivl l.length (tab l.length (fun b => decide (wt l b ≥ q))) = pv q l := rfl
  rw [e]
  generalize pv q l = p at hp hpl hsum ⊢
  have key := back (P := fun i => ∀ a : Int, 0 ≤ a → a ≤ 362880 * i → Ev (fun k => spec_unPivots.l0 k p a s (s.length : Int) (i : Int)) (a + osm p (s.drop i), (fac l.length : Int))) s.length
    (by intro a h0 h1
        refine Ev.shift ?_
        simp only [spec_unPivots.l0, Int.lt_irrefl, ↓reduceIte, List.drop_length]
        refine Ev.bind (spec_voSum.ev p (by omega)) ?_
        rw [wsum_P p hp (by omega), hsum]
        exact Ev.eq Ev.some (by simp [osm]))
    (by intro i hi ih a h0 h1
        refine Ev.shift ?_
        have c1 : (i : Int) < (s.length : Int) := by omega
        have c0 : (0 : Int) ≤ (i : Int) := by omega
        have hx := hs _ (getD_mem s 0 i hi)
        obtain ⟨j, hj⟩ : ∃ j : Nat, s.getD i 0 = (j : Int) := ⟨(s.getD i 0).toNat, by omega⟩
        rw [hj] at hx
        have hpj := hp _ (getD_mem p 0 j (by omega))
        have d1 : (j : Int) < (p.length : Int) := by omega
        rw [osm_from p s i hi, hj, Int.toNat_natCast]
        simp only [spec_unPivots.l0, c1, c0, ↓reduceIte, rd_nat, hj, hx.1, d1, w1 hi (show s.length ≤ 9223372036854775807 by omega)]
        rw [w64 (by omega) (by omega)]
        refine Ev.eq (ih _ (by omega) (by omega)) ?_
        rw [Int.add_assoc])
  have := key 0 (Nat.zero_le _) 0 (by omega) (by omega)
  rw [List.drop_zero, Int.zero_add] at this
  exact this
def pr2 (j k : Nat) : List Int := [((min j k : Nat) : Int), ((max j k : Nat) : Int)]
theorem mn_nat (j k : Nat) : mn (j : Int) (k : Int) = ((min j k : Nat) : Int) := by unfold mn; split <;> omega
theorem mx_nat (j k : Nat) : mx (j : Int) (k : Int) = ((max j k : Nat) : Int) := by unfold mx; split <;> omega
theorem spec_l1Least.eq (j k : Nat) : spec_l1Least.f (j : Int) (k : Int) = some ((min j k : Nat) : Int) := by
  unfold spec_l1Least.f
  split
  · congr 1; omega
  · congr 1; omega
theorem spec_l1Most.eq (j k : Nat) : spec_l1Most.f (j : Int) (k : Int) = some ((max j k : Nat) : Int) := by
  unfold spec_l1Most.f
  split
  · congr 1; omega
  · congr 1; omega
def gainB (q : Int) (l : List Int) (k j : Nat) : Int := (pv q (mergeFrom l (pr2 j k) 0)).getD (min j k) 0 * (l.length : Int) - (pv q l).getD j 0 - (pv q l).getD k 0
def partG (q : Int) (l : List Int) (k j : Nat) : Option Int := if j ≠ k ∧ canMerge q l (pr2 j k) = true then some (gainB q l k j) else none
def bestP (q : Int) (l : List Int) (k : Int) : List Int × Bool := if isMem q l k = true then (if (best (partG q l k.toNat) l.length).1 ≠ [] then ((best (partG q l k.toNat) l.length).1, true) else ([], false)) else ([], false)
theorem bestP_len (q : Int) (l : List Int) (k : Int) : (bestP q l k).1.length ≤ 9 := by
  unfold bestP
  split
  · rename_i h
    have := isComm_len (isMem_at h).1
    have := best_len (partG q l k.toNat) l.length
    split
    · simp only; omega
    · simp
  · simp
theorem cm_at {q : Int} {l s : List Int} (h : canMerge q l s = true) : isComm q l = true ∧ isSetN s l.length = true ∧ s ≠ [] ∧ isComm q (mergeFrom l s 0) = true := by
  simp only [canMerge, Bool.and_eq_true, decide_eq_true_eq] at h
  exact ⟨h.1.1.1, h.1.1.2, h.1.2, h.2⟩
theorem pv_get (q : Int) (l : List Int) (h : isComm q l = true) (j : Nat) : 0 ≤ (pv q l).getD j 0 ∧ (pv q l).getD j 0 ≤ 362880 := by
  by_cases hj : j < (pv q l).length
  · exact pv_mem q l h _ (getD_mem _ 0 j hj)
  · rw [List.getD_eq_getElem?_getD, List.getElem?_eq_none (by omega)]; simp
theorem first_pr (l : List Int) (j k : Nat) (hS : isSetN (pr2 j k) l.length = true) : ((min j k : Nat) : Int) < ((mergeFrom l (pr2 j k) 0).length : Int) := by
  have h0 : (pr2 j k).getD 0 0 = ((min j k : Nat) : Int) := rfl
  have := mergeFrom_first hS (by simp [pr2]) 0 (by rw [h0]; omega)
  rw [h0] at this
  omega
theorem impl_BestPartners_1.ev (q : Int) (l : List Int) (k j : Nat) (h : isComm q l = true) (hk : k < l.length) (hj : j < l.length) : Ev (fun K => impl_BestPartners_1.f K (j : Int) q l (k : Int) (pv q l) (fac l.length : Int)) (tellO (partG q l k j)) := by
  have hlen := isComm_len h
  unfold impl_BestPartners_1.f
  rw [mn_nat, mx_nat]
  have i1 := impl_MergeMembers.ev q l (pr2 j k) (by omega) (by simp [pr2])
  rw [mergeM_eq] at i1
  refine Ev.bind i1 ?_
  by_cases hjk : j = k
  · have c : (j : Int) = (k : Int) := by omega
    rw [show partG q l k j = none from if_neg (fun z => z.1 hjk)]
    exact Ev.ite_pos c Ev.some
  · have c : ¬ (j : Int) = (k : Int) := by omega
    refine Ev.ite_neg c ?_
    cases hm : canMerge q l (pr2 j k) with
    | false => rw [show partG q l k j = none from if_neg (fun z => by rw [hm] at z; exact absurd z.2 (by decide))]; exact Ev.some
    | true =>
      obtain ⟨_, hS, _, hc'⟩ := cm_at hm
      rw [show partG q l k j = some (gainB q l k j) from if_pos ⟨hjk, hm⟩]
      simp only [↓reduceIte]
      refine Ev.bind (impl_byOrders.ev q _ hc') ?_
      have f := first_pr l j k hS
      have c1 : (0 : Int) ≤ ((min j k : Nat) : Int) := Int.natCast_nonneg _
      have c2 : ((min j k : Nat) : Int) < ((pv q (mergeFrom l (pr2 j k) 0)).length : Int) := by rw [pv_len]; exact f
      have c3 : (0 : Int) ≤ (j : Int) := Int.natCast_nonneg _
      have c4 : (j : Int) < ((pv q l).length : Int) := by rw [pv_len]; omega
      have c5 : (0 : Int) ≤ (k : Int) := Int.natCast_nonneg _
      have c6 : (k : Int) < ((pv q l).length : Int) := by rw [pv_len]; omega
      have g1 := pv_get q _ hc' (min j k)
      have g2 := pv_get q l h j
      have g3 := pv_get q l h k
      simp only [c1, c2, c3, c4, c5, c6, ↓reduceIte, rd_nat]
      refine Ev.eq Ev.some ?_
      unfold tellO gainB
      generalize (pv q (mergeFrom l (pr2 j k) 0)).getD (min j k) 0 = x at g1 ⊢
      have hx : 0 ≤ x * (l.length : Int) ∧ x * (l.length : Int) ≤ 3265920 := by
        refine ⟨Int.mul_nonneg g1.1 (by omega), ?_⟩
        calc x * (l.length : Int) ≤ 362880 * 9 := Int.mul_le_mul g1.2 (by omega) (by omega) (by decide)
          _ ≤ _ := by decide
      generalize x * (l.length : Int) = y at hx ⊢
      rw [w64 (x := y) (by omega) (by omega), w64 (x := y - (pv q l).getD j 0) (by omega) (by omega), w64 (by omega) (by omega)]
theorem impl_BestPartners.ev (q : Int) (l : List Int) (k : Int) (hm : l.length ≤ 9223372036854775807) : Ev (fun K => impl_BestPartners.f K q l k) (bestP q l k) := by
  unfold impl_BestPartners.f bestP
  refine Ev.bind (impl_isMember.ev q l k hm) ?_
  cases h : isMem q l k with
  | false => exact Ev.some
  | true =>
    obtain ⟨hc, a, rfl, ha⟩ := isMem_at h
    have hlen := isComm_len hc
    simp only [↓reduceIte, Int.toNat_natCast]
    refine Ev.bind (impl_byOrders.ev q l hc) ?_
    refine Ev.bind (impl_bestOf.ev l.length (by omega) (fun K y => impl_BestPartners_1.f K y q l (a : Int) (pv q l) (fac l.length : Int)) (partG q l a) (fun b hb => impl_BestPartners_1.ev q l a b hc ha hb)) ?_
    by_cases he : (best (partG q l a) l.length).1 = []
    · simp only [he, ne_eq, not_true_eq_false, decide_false, Bool.false_eq_true, ↓reduceIte]
      exact Ev.some
    · simp only [he, ne_eq, not_false_eq_true, decide_true, ↓reduceIte]
      exact Ev.some
theorem osm_pr (p : List Int) (j k : Nat) : osm p (pr2 j k) = p.getD j 0 + p.getD k 0 := by
  simp only [osm, pr2, List.map_cons, List.map_nil, List.sum_cons, List.sum_nil, Int.toNat_natCast]
  rcases Nat.le_total j k with h | h
  · rw [Nat.min_eq_left h, Nat.max_eq_right h]; omega
  · rw [Nat.min_eq_right h, Nat.max_eq_left h]; omega
theorem spec_BestPartners.ev (q : Int) (l : List Int) (k : Int) (hm : l.length ≤ 9223372036854775807) : Ev (fun K => spec_BestPartners.f K q l k) (bestP q l k) := by
  have off : Ev (fun K => spec_BestPartners.j0 K k true q l) (([] : List Int), false) := by
    refine Ev.shift ?_
    simp only [spec_BestPartners.j0, ↓reduceIte]
    exact Ev.some
  unfold spec_BestPartners.f bestP
  refine Ev.bind (spec_pwMember.ev q l k hm) ?_
  cases h : isMem q l k with
  | false => simp only [Bool.false_eq_true, ↓reduceIte]; exact off
  | true =>
    obtain ⟨hc, a, rfl, ha⟩ := isMem_at h
    have hlen := isComm_len hc
    simp only [↓reduceIte, Int.toNat_natCast]
    by_cases h2 : (l.length : Int) < 2
    · have hz : (best (partG q l a) l.length).1 = [] := by
        have e1 : l.length = 1 := by omega
        obtain rfl : a = 0 := by omega
        rw [e1, best_succ, show best (partG q l 0) 0 = ([], 0) from rfl]
        unfold bstep
        rw [show partG q l 0 0 = none from if_neg (fun z => z.1 rfl)]
      simp only [h2, decide_true, hz, ne_eq, not_true_eq_false, ↓reduceIte]
      exact off
    · simp only [h2, decide_false]
      refine Ev.shift ?_
      simp only [spec_BestPartners.j0, Bool.false_eq_true, ↓reduceIte]
      have key := Ev.down (G := fun j K => spec_BestPartners.l0 K (a : Int) (best (partG q l a) j).1 (best (partG q l a) j).2 (l.length : Int) (j : Int) q l) (R := fun _ => if (best (partG q l a) l.length).1 ≠ [] then ((best (partG q l a) l.length).1, true) else ([], false)) l.length
        (by refine Ev.shift ?_
            simp only [spec_BestPartners.l0, Int.lt_irrefl, ↓reduceIte]
            by_cases he : (best (partG q l a) l.length).1 = []
            · have ce : ((best (partG q l a) l.length).1.length : Int) = 0 := by rw [he]; rfl
              simp only [ce, ↓reduceIte, he, ne_eq, not_true_eq_false]
              exact Ev.some
            · have ce : ¬ ((best (partG q l a) l.length).1.length : Int) = 0 := by have := List.length_pos_iff.2 he; omega
              simp only [ce, ↓reduceIte, he, ne_eq, not_false_eq_true]
              exact Ev.some)
        (fun j hj ih => by
          rw [best_succ] at ih
          have hbl := best_len (partG q l a) j
          generalize best (partG q l a) j = st at ih hbl ⊢
          obtain ⟨out, bst⟩ := st
          simp only at hbl
          have hw := w1 hj (show l.length ≤ 9223372036854775807 by omega)
          have skip : partG q l a j = none → Ev (fun K => spec_BestPartners.j2 K (a : Int) out bst (j : Int) (pr2 j a) (l.length : Int) (j : Int) true q l) (if (best (partG q l a) l.length).1 ≠ [] then ((best (partG q l a) l.length).1, true) else ([], false)) := by
            intro hn
            unfold bstep at ih
            rw [hn] at ih
            refine Ev.shift ?_
            simp only [spec_BestPartners.j2, ↓reduceIte, hw]
            exact ih
          refine Ev.shift ?_
          have c1 : (j : Int) < (l.length : Int) := by omega
          simp only [spec_BestPartners.l0, c1, ↓reduceIte]
          refine Ev.bind (Ev.one (spec_l1Least.eq j a)) ?_
          refine Ev.bind (Ev.one (spec_l1Most.eq j a)) ?_
          refine Ev.bind (Ev.one rfl) ?_
          by_cases hja : j = a
          · have c : (j : Int) = (a : Int) := by omega
            refine Ev.ite_pos c ?_
            exact skip (if_neg (fun z => z.1 hja))
          · have c : ¬ (j : Int) = (a : Int) := by omega
            refine Ev.ite_neg c ?_
            refine Ev.bind (spec_unSet.ev q l (pr2 j a) (by omega) (by simp [pr2])) ?_
            cases hmg : canMerge q l (pr2 j a) with
            | false => simp only [Bool.not_false]; exact skip (if_neg (fun z => by rw [hmg] at z; exact absurd z.2 (by decide)))
            | true =>
              obtain ⟨_, hS, hne, hc'⟩ := cm_at hmg
              have hp : partG q l a j = some (gainB q l a j) := if_pos ⟨hja, hmg⟩
              have hmem := isSetN_mem hS
              have f := first_pr l j a hS
              refine Ev.shift ?_
              simp only [spec_BestPartners.j2, Bool.not_true, Bool.false_eq_true, ↓reduceIte]
              refine Ev.bind (spec_unPivots.ev q l (pr2 j a) hc hmem (by simp [pr2])) ?_
              refine Ev.bind (spec_unMerge.ev q l (pr2 j a) (by simp [pr2]) hc hS hne) ?_
              have c2 : (1 : Int) ≤ ((pr2 j a).length : Int) := by simp [pr2]
              have et : (pr2 j a).take 1 = [((min j a : Nat) : Int)] := rfl
              simp only [c2, ↓reduceIte, et]
              refine Ev.bind (spec_unPivots.ev q _ [((min j a : Nat) : Int)] hc' (by intro x hx; rw [List.mem_singleton] at hx; subst hx; exact ⟨Int.natCast_nonneg _, f⟩) (by simp)) ?_
              have g1 := pv_get q _ hc' (min j a)
              have g2 := pv_get q l hc j
              have g3 := pv_get q l hc a
              have eo : osm (pv q (mergeFrom l (pr2 j a) 0)) [((min j a : Nat) : Int)] = (pv q (mergeFrom l (pr2 j a) 0)).getD (min j a) 0 := by simp [osm]
              have eg : wrap64 (wrap64 ((pv q (mergeFrom l (pr2 j a) 0)).getD (min j a) 0 * (l.length : Int)) - osm (pv q l) (pr2 j a)) = gainB q l a j := by
                rw [osm_pr]
                unfold gainB
                generalize (pv q (mergeFrom l (pr2 j a) 0)).getD (min j a) 0 = x at g1 ⊢
                have hx : 0 ≤ x * (l.length : Int) ∧ x * (l.length : Int) ≤ 3265920 := by
                  refine ⟨Int.mul_nonneg g1.1 (by omega), ?_⟩
                  calc x * (l.length : Int) ≤ 362880 * 9 := Int.mul_le_mul g1.2 (by omega) (by omega) (by decide)
                    _ ≤ _ := by decide
                generalize x * (l.length : Int) = y at hx ⊢
                rw [w64 (x := y) (by omega) (by omega), w64 (by omega) (by omega)]
                omega
              simp only [eo, eg]
              have hf : (fac l.length : Int) > 0 := by have := fac_pos l.length; omega
              unfold bstep at ih
              rw [hp] at ih
              simp only at ih
              generalize gainB q l a j = x at ih ⊢
              have c3 : out.length < 17592186044416 := by omega
              by_cases he : out = []
              · subst he
                simp only [↓reduceIte] at ih
                simp only [List.length_nil, Int.natCast_zero, ↓reduceIte]
                refine Ev.shift ?_
                simp only [spec_BestPartners.j3, ↓reduceIte, hf, List.length_nil, List.nil_append, hw, show (0 : Nat) < 17592186044416 by decide]
                exact ih
              · have ce : ¬ (out.length : Int) = 0 := by have := List.length_pos_iff.2 he; omega
                simp only [he, ↓reduceIte] at ih
                simp only [ce, ↓reduceIte]
                refine Ev.shift ?_
                by_cases hgt : x > bst
                · have hlt : ¬ x < bst := by omega
                  simp only [hlt, hgt, ↓reduceIte] at ih
                  simp only [spec_BestPartners.j3, hgt, decide_true, ↓reduceIte, hf, List.length_nil, List.nil_append, hw, show (0 : Nat) < 17592186044416 by decide]
                  exact ih
                · by_cases hlt : x < bst
                  · have hne2 : ¬ x = bst := by omega
                    simp only [hlt, ↓reduceIte] at ih
                    simp only [spec_BestPartners.j3, hgt, decide_false, Bool.false_eq_true, ↓reduceIte, hne2, hw]
                    exact ih
                  · have he2 : x = bst := by omega
                    subst he2
                    simp only [hlt, hgt, ↓reduceIte] at ih
                    simp only [spec_BestPartners.j3, hgt, decide_false, Bool.false_eq_true, ↓reduceIte, hf, c3, hw]
                    exact ih)
      exact key 0 (Nat.zero_le _)
def quG (l : List Int) (a i : Nat) : Option Int := some ((pv ((i : Int) + 1) l).getD a 0)
def quP (q : Int) (l : List Int) (a : Int) : List Int × Bool := if isMem q l a = true ∧ l.sum ≤ 200 then ((best (quG l a.toNat) l.sum.toNat).1.map (· + 1), true) else ([], false)
theorem quP_len (q : Int) (l : List Int) (a : Int) : (quP q l a).1.length ≤ 200 := by
  unfold quP
  split
  · rename_i h
    have := best_len (quG l a.toNat) l.sum.toNat
    rw [List.length_map]
    omega
  · simp
theorem isComm_any {q q' : Int} {l : List Int} (h : isComm q l = true) (h1 : 1 ≤ q') (h2 : q' ≤ l.sum) : isComm q' l = true := by
  simp only [isComm, inI, Bool.and_eq_true, decide_eq_true_eq] at h ⊢
  exact ⟨h.1, h1, h2⟩
theorem bstep_mem (g : Nat → Option Int) (st : List Int × Int) (i : Nat) (h : ∀ x ∈ st.1, 0 ≤ x ∧ x ≤ (i : Int)) : ∀ x ∈ (bstep g st i).1, 0 ≤ x ∧ x ≤ (i : Int) := by
  intro x hx
  unfold bstep at hx
  split at hx
  · exact h x hx
  · split at hx
    · simp only [List.mem_singleton] at hx; omega
    · split at hx
      · exact h x hx
      · split at hx
        · simp only [List.mem_singleton] at hx; omega
        · simp only [List.mem_append, List.mem_singleton] at hx
          rcases hx with hx | hx
          · exact h x hx
          · omega
theorem best_mem (g : Nat → Option Int) (n : Nat) : ∀ x ∈ (best g n).1, 0 ≤ x ∧ x ≤ (n : Int) := by
  induction n with
  | zero => simp [best]
  | succ n ih =>
    rw [best_succ]
    intro x hx
    have := bstep_mem g (best g n) n ih x hx
    omega
theorem best_ne (g : Nat → Option Int) (n : Nat) (y : Int) (h : g n = some y) : (best g (n + 1)).1 ≠ [] := by
  rw [best_succ]
  unfold bstep
  rw [h]
  simp only
  split
  · simp
  · rename_i h1
    split
    · exact h1
    · split <;> simp
theorem wS2 (n : Nat) (h : n ≤ 1000) : wrap64 ((n : Int) + 1 + 1) = ((n + 1 : Nat) : Int) + 1 := by rw [w64 (by omega) (by omega)]; omega
theorem inc_get (L : List Int) (f : Int → Int) (j : Nat) (hj : j < L.length) : ((L.take j).map f ++ L.drop j).getD j 0 = L.getD j 0 := by
  have e : ((L.take j).map f).length = j := by rw [List.length_map, List.length_take]; omega
  rw [List.getD_eq_getElem?_getD, List.getElem?_append_right (by omega), e, Nat.sub_self, List.getElem?_drop, Nat.add_zero, ← List.getD_eq_getElem?_getD]
theorem inc_set (L : List Int) (f : Int → Int) (j : Nat) (hj : j < L.length) : ((L.take j).map f ++ L.drop j).set j (f (L.getD j 0)) = (L.take (j + 1)).map f ++ L.drop (j + 1) := by
  have e : ((L.take j).map f).length = j := by rw [List.length_map, List.length_take]; omega
  rw [List.set_append_right _ _ (by omega), e, Nat.sub_self, List.drop_eq_getElem_cons hj, List.set_cons_zero, ← List.take_append_getElem hj, List.map_append, List.append_assoc, List.getD_eq_getElem?_getD, List.getElem?_eq_getElem hj]
  rfl
theorem impl_QuotasOfPower_1.ev (q : Int) (l : List Int) (a i : Nat) (h : isComm ((i : Int) + 1) l = true) (ha : a < l.length) (hi : i ≤ 1000) : Ev (fun k => impl_QuotasOfPower_1.f k (i : Int) q l (a : Int)) (tellO (quG l a i)) := by
  have hlen := isComm_len h
  have c1 : (0 : Int) ≤ (a : Int) := Int.natCast_nonneg _
  have c2 : (a : Int) < ((pv ((i : Int) + 1) l).length : Int) := by rw [pv_len]; omega
  unfold impl_QuotasOfPower_1.f
  rw [w64 (by omega) (by omega)]
  refine Ev.bind (impl_Committee_votes.ev _ l (isComm_mem h) (by omega)) ?_
  refine Ev.bind (impl_votes_pivots.ev l.length _ (tab_len _ _) (by omega) (by omega)) ?_
  refine Ev.ite_pos c1 (Ev.ite_pos c2 ?_)
  rw [rd_nat]
  exact Ev.some
theorem impl_QuotasOfPower.ev (q : Int) (l : List Int) (a : Int) (hm : l.length ≤ 9223372036854775807) : Ev (fun K => impl_QuotasOfPower.f K q l a) (quP q l a) := by
  have off : Ev (fun K => impl_QuotasOfPower.j0 K true q l a) (([] : List Int), false) := by
    refine Ev.shift ?_
    simp only [impl_QuotasOfPower.j0, ↓reduceIte]
    exact Ev.some
  unfold impl_QuotasOfPower.f quP
  refine Ev.bind (impl_isMember.ev q l a hm) ?_
  cases h : isMem q l a with
  | false => rw [if_neg (fun z => Bool.noConfusion z.1)]; exact Ev.ite_neg (by decide) off
  | true =>
    obtain ⟨hc, i, rfl, hi⟩ := isMem_at h
    have hlen := isComm_len hc
    have hq := isComm_q hc
    have hmem := isComm_mem hc
    refine Ev.ite_pos rfl ?_
    have hsum : Ev (fun k => impl_sumOf.f k l) l.sum := by
      refine Ev.eq (impl_sumOf.ev l (by omega)) ?_
      rw [wsum_eq l hmem (by omega)]
    have hscan : Ev (fun k => impl_isScanned.f k q l 200) (decide (l.sum ≤ 200)) := by
      unfold impl_isScanned.f
      refine Ev.bind (impl_IsCommittee.ev q l hm) ?_
      rw [hc]
      exact Ev.ite_pos rfl (Ev.bind hsum Ev.some)
    refine Ev.bind hscan ?_
    by_cases h2 : l.sum ≤ 200
    · rw [if_pos ⟨rfl, h2⟩, decide_eq_true h2]
      refine Ev.shift ?_
      simp only [impl_QuotasOfPower.j0]
      refine Ev.ite_neg (by decide) ?_
      refine Ev.bind hsum ?_
      obtain ⟨S, hS⟩ : ∃ S : Nat, l.sum = S := ⟨l.sum.toNat, by omega⟩
      rw [hS, Int.toNat_natCast, Int.toNat_natCast]
      refine Ev.bind (impl_bestOf.ev S (by omega) (fun K y => impl_QuotasOfPower_1.f K y q l (i : Int)) (quG l i) (fun b hb => impl_QuotasOfPower_1.ev q l i b (isComm_any hc (by omega) (by omega)) hi (by omega))) ?_
      have hbm := best_mem (quG l i) S
      have hbl := best_len (quG l i) S
      generalize (best (quG l i) S).1 = L at hbm hbl ⊢
      have key := Ev.down (G := fun j K => impl_QuotasOfPower.l0 K ((L.take j).map (· + 1) ++ L.drop j) (L.length : Int) (j : Int)) (R := fun _ => (L.map (· + 1), true)) L.length
        (by refine Ev.shift ?_
            simp only [impl_QuotasOfPower.l0, Int.lt_irrefl, ↓reduceIte, List.take_length, List.drop_length, List.append_nil]
            exact Ev.some)
        (fun j hj ih => by
          have c1 : (j : Int) < (L.length : Int) := by omega
          have c0 : (0 : Int) ≤ (j : Int) := by omega
          have hn : ((L.take j).map (· + 1) ++ L.drop j).length = L.length := by rw [List.length_append, List.length_map, List.length_take, List.length_drop]; omega
          have c2 : (j : Int) < ((((L.take j).map (· + 1) ++ L.drop j).length : Nat) : Int) := by rw [hn]; exact c1
          have hb := hbm (L.getD j 0) (by rw [List.getD_eq_getElem?_getD, List.getElem?_eq_getElem hj]; exact List.getElem_mem hj)
          refine Ev.shift ?_
          simp only [impl_QuotasOfPower.l0]
          refine Ev.ite_pos c1 (Ev.ite_pos c0 (Ev.ite_pos c2 ?_))
          rw [rd_nat, inc_get L _ j hj, w64 (x := L.getD j 0 + 1) (by omega) (by omega), Int.toNat_natCast, inc_set L (· + 1) j hj, w64 (x := (j : Int) + 1) (by omega) (by omega)]
          exact ih)
      exact key 0 (Nat.zero_le _)
    · rw [if_neg (fun z => h2 z.2), decide_eq_false h2]
      exact off
theorem spec_QuotasOfPower.ev (q : Int) (l : List Int) (a : Int) (hm : l.length ≤ 9223372036854775807) : Ev (fun K => spec_QuotasOfPower.f K q l a) (quP q l a) := by
  have off : Ev (fun K => spec_QuotasOfPower.j0 K a true q l) (([] : List Int), false) := by
    refine Ev.shift ?_
    simp only [spec_QuotasOfPower.j0, ↓reduceIte]
    exact Ev.some
  unfold spec_QuotasOfPower.f quP
  refine Ev.bind (spec_pwMember.ev q l a hm) ?_
  cases h : isMem q l a with
  | false => rw [if_neg (fun z => Bool.noConfusion z.1)]; exact Ev.ite_neg (by decide) off
  | true =>
    obtain ⟨hc, i, rfl, hi⟩ := isMem_at h
    have hlen := isComm_len hc
    have hq := isComm_q hc
    have hmem := isComm_mem hc
    refine Ev.ite_pos rfl ?_
    have hsum : Ev (fun k => spec_voSum.f k l) l.sum := by
      refine Ev.eq (spec_voSum.ev l (by omega)) ?_
      rw [wsum_eq l hmem (by omega)]
    refine Ev.bind hsum ?_
    by_cases h2 : l.sum ≤ 200
    · rw [if_pos ⟨rfl, h2⟩, decide_eq_false (by omega)]
      refine Ev.shift ?_
      simp only [spec_QuotasOfPower.j0]
      refine Ev.ite_neg (by decide) ?_
      obtain ⟨S, hS⟩ : ∃ S : Nat, l.sum = S := ⟨l.sum.toNat, by omega⟩
      rw [hS, Int.toNat_natCast, Int.toNat_natCast]
      rw [hS] at hsum
      have key := Ev.down (G := fun j K => spec_QuotasOfPower.l0 K (i : Int) ((best (quG l i) j).1.map (· + 1)) (if j = 0 then -1 else (best (quG l i) j).2) ((j : Int) + 1) q l) (R := fun _ => ((best (quG l i) S).1.map (· + 1), true)) S
        (by refine Ev.shift ?_
            simp only [spec_QuotasOfPower.l0]
            refine Ev.bind hsum ?_
            exact Ev.ite_neg (by omega) Ev.some)
        (fun j hj ih => by
          have hcj : isComm ((j : Int) + 1) l = true := isComm_any hc (by omega) (by omega)
          have hbl := best_len (quG l i) j
          have c3 : ((best (quG l i) j).1.map (· + 1)).length < 17592186044416 := by rw [List.length_map]; omega
          have c4 : ([] : List Int).length < 17592186044416 := by rw [List.length_nil]; omega
          have hx : 0 ≤ (pv ((j : Int) + 1) l).getD i 0 := by
            refine (pv_mem _ l hcj _ ?_).1
            rw [List.getD_eq_getElem?_getD, List.getElem?_eq_getElem (by rw [pv_len]; exact hi)]
            exact List.getElem_mem _
          have i2 := spec_unPivots.ev ((j : Int) + 1) l [(i : Int)] hcj (by intro x hx; rw [List.mem_singleton] at hx; omega) (by simp)
          rw [show osm (pv ((j : Int) + 1) l) [(i : Int)] = (pv ((j : Int) + 1) l).getD i 0 by simp [osm]] at i2
          have hj9 : j ≤ 1000 := by omega
          rw [if_neg (by omega), best_succ] at ih
          unfold bstep at ih
          rw [show quG l i j = some ((pv ((j : Int) + 1) l).getD i 0) from rfl] at ih
          simp only at ih
          have hne : j ≠ 0 → (best (quG l i) j).1 ≠ [] := fun h0 => by
            obtain ⟨m, rfl⟩ : ∃ m, j = m + 1 := ⟨j - 1, by omega⟩
            exact best_ne (quG l i) m _ rfl
          generalize (pv ((j : Int) + 1) l).getD i 0 = x at hx i2 ih
          refine Ev.shift ?_
          simp only [spec_QuotasOfPower.l0]
          refine Ev.bind hsum ?_
          refine Ev.ite_pos (by omega) ?_
          refine Ev.bind i2 ?_
          rw [wS2 j hj9]
          by_cases h0 : j = 0
          · subst h0
            rw [if_pos rfl]
            rw [if_pos (show (best (quG l i) 0).1 = [] from rfl)] at ih
            refine Ev.ite_pos (show x > -1 by omega) (Ev.ite_pos c4 ?_)
            exact ih
          · rw [if_neg h0]
            rw [if_neg (hne h0)] at ih
            generalize best (quG l i) j = st at ih c3 hbl ⊢
            obtain ⟨out, bst⟩ := st
            simp only at ih c3 ⊢
            by_cases hgt : x > bst
            · rw [if_neg (by omega), if_pos hgt] at ih
              exact Ev.ite_pos hgt (Ev.ite_pos c4 ih)
            · refine Ev.ite_neg hgt ?_
              by_cases heq : x = bst
              · rw [if_neg (by omega), if_neg (by omega), List.map_append] at ih
                refine Ev.ite_pos heq (Ev.ite_pos c3 ?_)
                rw [← heq]
                exact ih
              · rw [if_pos (by omega)] at ih
                exact Ev.ite_neg heq ih)
      exact key 0 (Nat.zero_le _)
    · rw [if_neg (fun z => h2 z.2), decide_eq_true (by omega)]
      exact off
theorem hasN_mem (l : List Int) (v : Int) : hasN l v = true ↔ v ∈ l := by
  unfold hasN
  rw [List.any_eq_true]
  constructor
  · rintro ⟨x, hx, e⟩
    rw [decide_eq_true_eq] at e
    exact e ▸ hx
  · intro h
    exact ⟨v, h, decide_eq_true rfl⟩
theorem zhas_sel (n : Nat) (Q : Nat → Bool) (k : Nat) : hasN (sel n Q) (k : Int) = (decide (k < n) && Q k) := by
  rw [Bool.eq_iff_iff, hasN_mem, Bool.and_eq_true, decide_eq_true_eq]
  unfold sel
  rw [List.mem_map]
  constructor
  · rintro ⟨x, hx, e⟩
    obtain rfl : x = k := by omega
    rw [List.mem_filter, List.mem_range] at hx
    exact hx
  · intro h
    exact ⟨k, List.mem_filter.2 ⟨List.mem_range.2 h.1, h.2⟩, rfl⟩
theorem zcount_tab (n : Nat) (P : Nat → Bool) : (tab n P).count true = (List.range (2 ^ n)).countP P := by
  unfold tab
  rw [List.count, List.countP_map]
  apply List.countP_congr
  intro x _
  simp
theorem impl_SwingsOf.ev (q : Int) (l : List Int) (h : isComm q l = true) : Ev (fun k => impl_SwingsOf.f k q l) (swl l.length (tab l.length (cwin q l)), true) := by
  have hlen := isComm_len h
  unfold impl_SwingsOf.f
  have a := impl_IsCommittee.ev q l (by omega)
  rw [h] at a
  exact Ev.bind a (Ev.ite_pos rfl (Ev.bind (impl_Committee_votes.ev q l (isComm_mem h) (by omega)) (Ev.bind (impl_votes_swings.ev l.length _ (tab_len _ _) (by omega)) Ev.some)))
theorem impl_PivotCounts.ev (q : Int) (l : List Int) (h : isComm q l = true) : Ev (fun k => impl_PivotCounts.f k q l) (pv q l, true) := by
  have hlen := isComm_len h
  unfold impl_PivotCounts.f
  have a := impl_IsCommittee.ev q l (by omega)
  rw [h] at a
  exact Ev.bind a (Ev.ite_pos rfl (Ev.bind (impl_Committee_votes.ev q l (isComm_mem h) (by omega)) (Ev.bind (impl_votes_pivots.ev l.length _ (tab_len _ _) hlen.1 hlen.2) Ev.some)))
theorem isPair_swap (q : Int) (l : List Int) (i j : Int) : isPair q l i j = isPair q l j i := by
  unfold isPair
  rw [Bool.and_comm (isMem q l i)]
  congr 1
  rw [decide_eq_decide]
  exact ne_comm
theorem qwin_swap (q : Int) (l : List Int) (i j : Nat) : qwin q l i j = qwin q l j i := by
  funext b
  unfold qwin
  rw [Bool.and_comm (b.testBit i)]
theorem qwin_less1 (q : Int) (l : List Int) (i j : Nat) (hi : i < l.length) : (swl l.length (tab l.length (qwin q l i j))).getD i 0 ≤ (swl l.length (tab l.length (cwin q l))).getD i 0 := by
  rw [swl_get _ _ _ hi, swl_get _ _ _ hi]
  refine Int.ofNat_le.2 (List.countP_mono_left fun m hm h => ?_)
  rw [List.mem_range] at hm
  unfold swing at h ⊢
  rw [Bool.and_eq_true, Bool.and_eq_true] at h
  obtain ⟨⟨h1, h2⟩, h3⟩ := h
  rw [Bool.not_eq_true'] at h1
  have hlt := with_lt hm hi h1
  rw [tab_get _ _ _ hm] at h2 ⊢
  rw [tab_get _ _ _ hlt] at h3 ⊢
  unfold qwin at h2 h3
  rw [h1, Bool.false_and, Bool.not_false, Bool.and_true] at h2
  rw [Bool.and_eq_true] at h3
  rw [h1, h2, h3.1]
  rfl
theorem qwin_less (q : Int) (l : List Int) (i j : Nat) (hi : i < l.length) (hj : j < l.length) : (swl l.length (tab l.length (qwin q l i j))).getD i 0 ≤ (swl l.length (tab l.length (cwin q l))).getD i 0 ∧ (swl l.length (tab l.length (qwin q l i j))).getD j 0 ≤ (swl l.length (tab l.length (cwin q l))).getD j 0 := by
  refine ⟨qwin_less1 q l i j hi, ?_⟩
  rw [qwin_swap]
  exact qwin_less1 q l j i hj
theorem bestP_facts {q : Int} {l : List Int} {a : Int} (h : (bestP q l a).2 = true) : (bestP q l a).1 ≠ [] ∧ (bestP q l a).1.Pairwise (· < ·) ∧ hasN (bestP q l a).1 a = false := by
  unfold bestP at h ⊢
  split at h
  · rename_i hm
    rw [if_pos hm]
    obtain ⟨hc, i, rfl, hi⟩ := isMem_at hm
    rw [Int.toNat_natCast] at h ⊢
    split at h
    · rename_i hn
      rw [if_pos hn]
      obtain ⟨_, g2, g3⟩ := best_top (partG q l i) l.length
      refine ⟨hn, g3, ?_⟩
      rw [Bool.eq_false_iff, ne_eq, hasN_mem]
      intro hin
      obtain ⟨m, hm, e, eg⟩ := g2 _ hin
      obtain rfl : i = m := by omega
      unfold partG at eg
      rw [if_neg (by simp)] at eg
      cases eg
    · cases h
  · cases h
theorem quP_facts {q : Int} {l : List Int} {a : Int} (h : (quP q l a).2 = true) : ∃ i : Nat, a = (i : Int) ∧ i < l.length ∧ isComm q l = true ∧ (quP q l a).1 ≠ [] ∧ (quP q l a).1.Pairwise (· < ·) ∧ isComm ((quP q l a).1.getD 0 0) l = true ∧ (pv q l).getD i 0 ≤ (pv ((quP q l a).1.getD 0 0) l).getD i 0 ∧ ((pv q l).getD i 0 = (pv ((quP q l a).1.getD 0 0) l).getD i 0 ↔ q ∈ (quP q l a).1) := by
  unfold quP at h ⊢
  split at h
  · rename_i hm
    rw [if_pos hm]
    obtain ⟨hc, i, rfl, hi⟩ := isMem_at hm.1
    refine ⟨i, rfl, hi, hc, ?_⟩
    simp only [Int.toNat_natCast]
    have hq := isComm_q hc
    obtain ⟨g1, g2, g3⟩ := best_top (quG l i) l.sum.toNat
    obtain ⟨hn, hle, hiff⟩ := g1 (q - 1).toNat _ (by omega) rfl
    have eq1 : (((q - 1).toNat : Nat) : Int) = q - 1 := by omega
    rw [eq1] at hle hiff
    rw [show q - 1 + 1 = q by omega] at hle hiff
    generalize best (quG l i) l.sum.toNat = st at hn hle hiff g2 g3 ⊢
    obtain ⟨L, v⟩ := st
    simp only at hn hle hiff g2 g3 ⊢
    have hpos := List.length_pos_iff.2 hn
    have eh : (L.map (· + 1)).getD 0 0 = L.getD 0 0 + 1 := by
      rw [List.getD_eq_getElem?_getD, List.getElem?_map, List.getD_eq_getElem?_getD, List.getElem?_eq_getElem hpos]; rfl
    obtain ⟨m, hm2, e, eg⟩ := g2 _ (getD_mem L 0 0 hpos)
    have ev : (pv (L.getD 0 0 + 1) l).getD i 0 = v := by
      rw [e]; exact Option.some.inj eg
    refine ⟨by simpa using hn, ?_, ?_, ?_, ?_⟩
    · rw [List.pairwise_map]
      exact g3.imp (fun h => by omega)
    · rw [eh]
      exact isComm_any hc (by omega) (by omega)
    · rw [eh, ev]; exact hle
    · rw [eh, ev, ← hiff, List.mem_map]
      constructor
      · intro h; exact ⟨q - 1, h, by omega⟩
      · rintro ⟨y, hy, e⟩
        obtain rfl : y = q - 1 := by omega
        exact hy
  · cases h
theorem FnQuarrelsToldOfAll_j3 (q : Int) (l : List Int) (a : Int) (hm : l.length ≤ 9223372036854775807) : Ev (fun k => laws_FnQuarrelsToldOfAll.j3 k a (quP q l a).1 (quP q l a).2 q l) true := by
  refine Ev.shift ?_
  simp only [laws_FnQuarrelsToldOfAll.j3]
  cases h : (quP q l a).2 with
  | false => exact Ev.ite_neg (by decide) Ev.some
  | true =>
    obtain ⟨i, rfl, hi, hc, hn, hp, hc0, hle, heq⟩ := quP_facts h
    have hlen := quP_len q l i
    generalize (quP q l i).1 = L at hn hp hc0 hle heq hlen ⊢
    have hpos := List.length_pos_iff.2 hn
    have e0 : rd L 0 = L.getD 0 0 := rd_nat L 0
    refine Ev.ite_pos rfl (Ev.ite_neg (by omega) (Ev.bind (laws_zRises.ev L (by omega) hp) (Ev.ite_pos rfl (Ev.ite_pos (by omega) ?_))))
    rw [e0]
    refine Ev.bind (impl_PivotCounts.ev _ l hc0) (Ev.bind (impl_PivotCounts.ev q l hc) (Ev.ite_pos rfl (Ev.ite_pos rfl ?_)))
    have p1 := pv_len q l
    have p2 := pv_len (L.getD 0 0) l
    simp only
    refine Ev.ite_pos (by omega) (Ev.ite_pos (by omega) (Ev.ite_pos (by omega) ?_))
    rw [rd_nat, rd_nat]
    refine Ev.ite_neg (by omega) (Ev.bind (laws_zHas.ev L q (by omega)) ?_)
    have e : ((pv q l).getD i 0 == (pv (L.getD 0 0) l).getD i 0) = hasN L q := by
      rw [Bool.eq_iff_iff, hasN_mem, ← heq, beq_iff_eq]
    rw [e, bne_self_eq_false]
    exact Ev.ite_neg (by decide) Ev.some
theorem FnQuarrelsToldOfAll_j4 (q : Int) (l : List Int) (a : Int) (hm : l.length ≤ 9223372036854775807) : Ev (fun k => laws_FnQuarrelsToldOfAll.j4 k a (quP q l a).1 (quP q l a).2 q l) true := by
  have := FnQuarrelsToldOfAll_j3 q l a hm
  refine Ev.shift ?_
  obtain ⟨K, h⟩ := this
  refine ⟨K, fun k hk => ?_⟩
  have := h (k + 1) (by omega)
  simp only [laws_FnQuarrelsToldOfAll.j3] at this
  simp only [laws_FnQuarrelsToldOfAll.j4]
  exact this
theorem FnQuarrelsToldOfAll_j2 (q : Int) (l : List Int) (a : Int) (hm : l.length ≤ 9223372036854775807) : Ev (fun k => laws_FnQuarrelsToldOfAll.j2 k a q l) true := by
  have j3 := FnQuarrelsToldOfAll_j3 q l a hm
  have j4 := FnQuarrelsToldOfAll_j4 q l a hm
  refine Ev.shift ?_
  simp only [laws_FnQuarrelsToldOfAll.j2]
  refine Ev.bind (impl_BestPartners.ev q l a hm) (Ev.bind (spec_BestPartners.ev q l a hm) (Ev.bind (impl_BestSplits.ev q l a hm) (Ev.bind (spec_BestSplits.ev q l a hm) (Ev.bind (impl_QuotasOfPower.ev q l a hm) (Ev.bind (spec_QuotasOfPower.ev q l a hm) ?_)))))
  have h1 := bestP_len q l a
  have h2 := bestSp_len q l a
  have h3 := quP_len q l a
  rw [bne_self_eq_false]
  refine Ev.ite_neg (by decide) (Ev.bind (laws_zSame.ev _ (by omega)) (Ev.ite_pos rfl ?_))
  rw [bne_self_eq_false]
  refine Ev.ite_neg (by decide) (Ev.bind (laws_zSame.ev _ (by omega)) (Ev.ite_pos rfl ?_))
  rw [bne_self_eq_false]
  refine Ev.ite_neg (by decide) (Ev.bind (laws_zSame.ev _ (by omega)) (Ev.ite_pos rfl ?_))
  have sp : ∀ g : Nat → Option Bool, (bestSp q l a).2 = true → Ev g true → Ev (fun k => if ((bestSp q l a).1.length : Int) < 1 then (some false) else ((laws_zRises.f k (bestSp q l a).1).bind fun t => (if t = true then (if 0 ≤ (wrap64 (((bestSp q l a).1.length : Int) - 1)) then (if (wrap64 (((bestSp q l a).1.length : Int) - 1)) < ((bestSp q l a).1.length : Int) then (if 0 ≤ a then (if a < (l.length : Int) then (if 0 < ((bestSp q l a).1.length : Int) then (if (rd (bestSp q l a).1 (wrap64 (((bestSp q l a).1.length : Int) - 1))) = (wrap64 ((rd l a) - (rd (bestSp q l a).1 0))) then (g k) else (some false)) else (none)) else (none)) else (none)) else (none)) else (none)) else (some false)))) true := by
    intro g hb hg
    obtain ⟨⟨i, rfl, hi⟩, h20, hn, hp, hr, hs⟩ := bestSp_facts hb
    generalize (bestSp q l i).1 = L at hn hp hr hs h2 ⊢
    have hpos := List.length_pos_iff.2 hn
    have e1 : wrap64 ((L.length : Int) - 1) = ((L.length - 1 : Nat) : Int) := by rw [w64 (by omega) (by omega)]; omega
    have e0 : rd L 0 = L.getD 0 0 := rd_nat L 0
    have b0 := hr _ (getD_mem L 0 0 hpos)
    have pe := pairs_ends _ hp hn hs
    rw [e1, e0, rd_nat L, w64 (x := rd l (i : Int) - L.getD 0 0) (by omega) (by omega)]
    exact Ev.ite_neg (by omega) (Ev.bind (laws_zRises.ev L (by omega) hp) (Ev.ite_pos rfl (Ev.ite_pos (by omega) (Ev.ite_pos (by omega) (Ev.ite_pos (by omega) (Ev.ite_pos (by omega) (Ev.ite_pos (by omega) (Ev.ite_pos pe hg))))))))
  cases hb : (bestP q l a).2 with
  | true =>
    obtain ⟨hn, hp, hk⟩ := bestP_facts hb
    have hpos := List.length_pos_iff.2 hn
    refine Ev.ite_pos rfl (Ev.ite_neg (by omega) (Ev.bind (laws_zRises.ev _ (by omega) hp) (Ev.ite_pos rfl (Ev.bind (laws_zHas.ev _ a (by omega)) ?_))))
    rw [hk]
    refine Ev.ite_neg (by decide) ?_
    cases hs : (bestSp q l a).2 with
    | true => exact Ev.ite_pos rfl (sp _ hs j3)
    | false => exact Ev.ite_neg (by decide) j3
  | false =>
    refine Ev.ite_neg (by decide) ?_
    cases hs : (bestSp q l a).2 with
    | true => exact Ev.ite_pos rfl (sp _ hs j4)
    | false => exact Ev.ite_neg (by decide) j4
theorem FnQuarrelsToldOfAll_l1 (q : Int) (l : List Int) (a b : Nat) (v : Int) (q2 : Int) (l2 : List Int) (hc : isComm q l = true) (ha : a < l.length) (hb : b < l.length) (j2 : Ev (fun k => laws_FnQuarrelsToldOfAll.j2 k v q2 l2) true) :
    Ev (fun k => laws_FnQuarrelsToldOfAll.l1 k (a : Int) (b : Int) v (sel l.length (helps q l a b)) (swl l.length (tab l.length (cwin q l))) (swl l.length (tab l.length (qwin q l a b))) (l.length : Int) 0 q2 l2) true := by
  have h9 := isComm_len hc
  have hs0 := sel_len l.length (helps q l a b)
  have s1 := swl_len l.length (tab l.length (qwin q l a b))
  have s2 := swl_len l.length (tab l.length (cwin q l))
  have key := Ev.down (G := fun m k => laws_FnQuarrelsToldOfAll.l1 k (a : Int) (b : Int) v (sel l.length (helps q l a b)) (swl l.length (tab l.length (cwin q l))) (swl l.length (tab l.length (qwin q l a b))) (l.length : Int) (m : Int) q2 l2) (R := fun _ => true) l.length
    (by refine Ev.shift ?_
        simp only [laws_FnQuarrelsToldOfAll.l1, Int.lt_irrefl, ↓reduceIte]
        exact j2)
    (fun m hm ih => by
      refine Ev.shift ?_
      simp only [laws_FnQuarrelsToldOfAll.l1]
      refine Ev.ite_pos (by omega) (Ev.ite_pos (by omega) (Ev.ite_pos (by omega) (Ev.ite_pos (by omega) (Ev.bind (laws_zHas.ev _ (m : Int) (by omega)) ?_))))
      rw [zhas_sel, decide_eq_true hm, Bool.true_and, rd_nat, rd_nat, w1 hm (show l.length ≤ 9223372036854775807 by omega)]
      have e : helps q l a b m = decide ((swl l.length (tab l.length (qwin q l a b))).getD m 0 > (swl l.length (tab l.length (cwin q l))).getD m 0) := rfl
      rw [e, bne_self_eq_false]
      refine Ev.ite_neg (by decide) ?_
      by_cases c1 : (m : Int) = (a : Int)
      · obtain rfl : m = a := by omega
        exact Ev.ite_pos rfl (Ev.ite_neg (by have := (qwin_less q l m b hm hb).1; omega) ih)
      · refine Ev.ite_neg c1 ?_
        by_cases c2 : (m : Int) = (b : Int)
        · obtain rfl : m = b := by omega
          exact Ev.ite_pos rfl (Ev.ite_neg (by have := (qwin_less q l a m ha hm).2; omega) ih)
        · exact Ev.ite_neg c2 ih)
  exact key 0 (Nat.zero_le _)
theorem FnQuarrelsToldOfAll_l0 (q : Int) (l : List Int) (a b : Nat) (v : Int) (q2 : Int) (l2 : List Int) (hc : isComm q l = true) (ha : a < l.length) (hb : b < l.length) (j2 : Ev (fun k => laws_FnQuarrelsToldOfAll.j2 k v q2 l2) true) :
    Ev (fun k => laws_FnQuarrelsToldOfAll.l0 k (a : Int) (b : Int) v ((tab l.length (qwin q l a b)).count true : Int) (swl l.length (tab l.length (qwin q l a b))) (sel l.length (helps q l a b)) (l.length : Int) (swl l.length (tab l.length (cwin q l))) 0 0 q l q2 l2) true := by
  have h9 := isComm_len hc
  have p9 : 2 ^ l.length ≤ 512 := pow_small (m := 9) h9.2
  have l1 := FnQuarrelsToldOfAll_l1 q l a b v q2 l2 hc ha hb j2
  have s1 := swl_len l.length (tab l.length (qwin q l a b))
  have key := Ev.down (G := fun m k => laws_FnQuarrelsToldOfAll.l0 k (a : Int) (b : Int) v ((tab l.length (qwin q l a b)).count true : Int) (swl l.length (tab l.length (qwin q l a b))) (sel l.length (helps q l a b)) (l.length : Int) (swl l.length (tab l.length (cwin q l))) (((List.range m).countP (qwin q l a b) : Nat) : Int) (m : Int) q l q2 l2) (R := fun _ => true) (2 ^ l.length)
    (by refine Ev.shift ?_
        simp only [laws_FnQuarrelsToldOfAll.l0, shl_one l.length (by omega), Int.lt_irrefl, ↓reduceIte]
        refine Ev.ite_pos (by omega) (Ev.ite_pos (by rw [zcount_tab]) ?_)
        rw [s1]
        exact l1)
    (fun m hm ih => by
      refine Ev.shift ?_
      simp only [laws_FnQuarrelsToldOfAll.l0, shl_one l.length (by omega)]
      have hle := List.countP_le_length (p := qwin q l a b) (l := List.range m)
      rw [List.length_range] at hle
      have hw := w1 hm (show 2 ^ l.length ≤ 9223372036854775807 by omega)
      have hz := laws_zSet.ev m (by omega)
      have hi := impl_IsWinning.bits q l hc m hm
      rw [List.range_succ, List.countP_append, List.countP_singleton] at ih
      rw [shr_nat m a (by omega), shr_nat m b (by omega), tmod_two, tmod_two, hw]
      have hwin : (m.testBit a && m.testBit b) = false → Ev (fun k => (laws_zSet.f k (m : Int)).bind fun t => ((impl_IsWinning.f k q l t).bind fun bt => (if bt.2 = true then (if bt.1 = true then (laws_FnQuarrelsToldOfAll.l0 k (a : Int) (b : Int) v ((tab l.length (qwin q l a b)).count true : Int) (swl l.length (tab l.length (qwin q l a b))) (sel l.length (helps q l a b)) (l.length : Int) (swl l.length (tab l.length (cwin q l))) (wrap64 ((((List.range m).countP (qwin q l a b) : Nat) : Int) + 1)) ((m + 1 : Nat) : Int) q l q2 l2) else (laws_FnQuarrelsToldOfAll.l0 k (a : Int) (b : Int) v ((tab l.length (qwin q l a b)).count true : Int) (swl l.length (tab l.length (qwin q l a b))) (sel l.length (helps q l a b)) (l.length : Int) (swl l.length (tab l.length (cwin q l))) (((List.range m).countP (qwin q l a b) : Nat) : Int) ((m + 1 : Nat) : Int) q l q2 l2)) else (some false)))) true := by
        intro hv
        refine Ev.bind hz (Ev.bind hi (Ev.ite_pos rfl ?_))
        have e : qwin q l a b m = cwin q l m := by unfold qwin; rw [hv, Bool.not_false, Bool.and_true]
        rw [e] at ih
        cases hcw : cwin q l m with
        | true =>
          rw [hcw, if_pos rfl] at ih
          refine Ev.ite_pos rfl ?_
          rw [w64 (by omega) (by omega)]
          exact ih
        | false =>
          rw [hcw, if_neg (by decide), Nat.add_zero] at ih
          exact Ev.ite_neg (by decide) ih
      refine Ev.ite_pos (by omega) (Ev.ite_pos (by omega) (Ev.ite_pos (by omega) ?_))
      cases hba : m.testBit a with
      | false =>
        have : ¬ ((m / 2 ^ a % 2 : Nat) : Int) = 1 := by rw [bit_nat, decide_eq_false_iff_not] at hba; omega
        exact Ev.ite_neg this (hwin (by rw [hba]; rfl))
      | true =>
        have : ((m / 2 ^ a % 2 : Nat) : Int) = 1 := by rw [bit_nat, decide_eq_true_eq] at hba; omega
        refine Ev.ite_pos this (Ev.ite_pos (by omega) ?_)
        cases hbb : m.testBit b with
        | false =>
          have : ¬ ((m / 2 ^ b % 2 : Nat) : Int) = 1 := by rw [bit_nat, decide_eq_false_iff_not] at hbb; omega
          exact Ev.ite_neg this (hwin (by rw [hba, hbb]; rfl))
        | true =>
          have : ((m / 2 ^ b % 2 : Nat) : Int) = 1 := by rw [bit_nat, decide_eq_true_eq] at hbb; omega
          have e : qwin q l a b m = false := by unfold qwin; rw [hba, hbb]; simp
          rw [e, if_neg (by decide), Nat.add_zero] at ih
          exact Ev.ite_pos this ih)
  exact key 0 (Nat.zero_le _)
theorem laws_FnQuarrelsToldOfAll_pure : laws_FnQuarrelsToldOfAll.Pure := by
  intro q l i j q2 l2 v hq hl hi hj hq2 hl2 hv
  apply Ev.rounds (r := true)
  unfold laws_FnQuarrelsToldOfAll.f
  have hm := hl.1
  have j2 := FnQuarrelsToldOfAll_j2 q2 l2 v hl2.1
  refine Ev.bind (impl_CountQuarrelWins.ev q l i j hm) (Ev.bind (spec_CountQuarrelWins.ev q l i j hm) (Ev.bind (impl_QuarrelSwings.ev q l i j hm) (Ev.bind (spec_QuarrelSwings.ev q l i j hm) (Ev.bind (impl_QuarrelHelps.ev q l i j hm) (Ev.bind (spec_QuarrelHelps.ev q l i j hm) ?_)))))
  have h1 := quarSwings_len q l i j
  have h2 := quarHelps_len q l i j
  rw [bne_self_eq_false]
  refine Ev.ite_neg (by decide) (Ev.ite_pos rfl ?_)
  rw [bne_self_eq_false]
  refine Ev.ite_neg (by decide) (Ev.bind (laws_zSame.ev _ (by omega)) (Ev.ite_pos rfl ?_))
  rw [bne_self_eq_false]
  refine Ev.ite_neg (by decide) (Ev.bind (laws_zSame.ev _ (by omega)) (Ev.ite_pos rfl ?_))
  have e1 : (quarSwings q l i j).2 = (quarCount q l i j).2 := by unfold quarSwings quarCount; cases isPair q l i j <;> rfl
  have e2 : (quarHelps q l i j).2 = (quarCount q l i j).2 := by unfold quarHelps quarCount; cases isPair q l i j <;> rfl
  rw [e1, bne_self_eq_false]
  refine Ev.ite_neg (by decide) ?_
  rw [e2, bne_self_eq_false]
  refine Ev.ite_neg (by decide) ?_
  cases hp : isPair q l i j with
  | false =>
    have : (quarCount q l i j).2 = false := by unfold quarCount; rw [hp]; rfl
    rw [this]
    exact Ev.ite_neg (by decide) j2
  | true =>
    obtain ⟨hc, hne, a, b, rfl, rfl, ha, hb⟩ := isPair_at hp
    have e3 : quarCount q l a b = (((tab l.length (qwin q l a b)).count true : Int), true) := by unfold quarCount; rw [hp, if_pos rfl]; rfl
    have e4 : quarSwings q l a b = (swl l.length (tab l.length (qwin q l a b)), true) := by unfold quarSwings; rw [hp, if_pos rfl]; rfl
    have e5 : quarHelps q l a b = (sel l.length (helps q l a b), true) := by unfold quarHelps; rw [hp, if_pos rfl]; rfl
    have e6 : quarCount q l b a = quarCount q l a b := by rw [e3]; unfold quarCount; rw [isPair_swap, hp, if_pos rfl]; simp only [Int.toNat_natCast, qwin_swap q l b a]
    have s1 := swl_len l.length (tab l.length (qwin q l a b))
    have cw := impl_CountQuarrelWins.ev q l b a hm
    rw [e6, e3] at cw
    rw [e3, e4, e5]
    refine Ev.ite_pos rfl (Ev.bind (impl_SwingsOf.ev q l hc) (Ev.bind cw (Ev.ite_pos rfl (Ev.ite_pos rfl (Ev.ite_pos rfl (Ev.ite_pos (by rw [s1]) ?_))))))
    exact FnQuarrelsToldOfAll_l0 q l a b v q2 l2 hc ha hb j2
end Go.Proofs.YtflkfbjmlacgcaaGreat.P
