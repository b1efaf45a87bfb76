/- Part 4 of the texts below the law FnExactCountWeighted. Printed by this session's driver over the kit's printer, but for the hand contracts and the plain laws. -/
import Derived.Tactics
import Derived.Sort.Grow
import Derived.ProofKit
import Derived.Deep.Slices
import Derived.Test.YtokelcedamegbaaCCountWeighted0
import Derived.Test.YtokelcedamegbaaCCountWeighted1
import Derived.Test.YtokelcedamegbaaCCountWeighted2
import Derived.Test.YtokelcedamegbaaCCountWeighted3
set_option linter.unusedVariables false
set_option linter.unusedSimpArgs false
/- How two numbers and two lists compare. No program in sight. -/
namespace Go.Proofs.Ytokelcedamegbaa.P
def cmpI (x y : Int) : Int := if x < y then -1 else if x > y then 1 else 0
def lexc : List Int → List Int → Int
  | [], [] => 0
  | [], _ :: _ => -1
  | _ :: _, [] => 1
  | x :: a, y :: b => if cmpI x y = 0 then lexc a b else cmpI x y
theorem cmpI_swap (x y : Int) : cmpI y x = - cmpI x y := by
  unfold cmpI
  repeat' split
  all_goals omega
theorem cmpI_zero {x y : Int} : cmpI x y = 0 ↔ x = y := by
  unfold cmpI
  repeat' split
  all_goals constructor
  all_goals intro h
  all_goals omega
theorem cmpI_neg {x y : Int} : cmpI x y < 0 ↔ x < y := by
  unfold cmpI
  repeat' split
  all_goals constructor
  all_goals intro h
  all_goals omega
theorem lexc_swap : ∀ a b : List Int, lexc b a = - lexc a b
  | [], [] => rfl
  | [], _ :: _ => rfl
  | _ :: _, [] => rfl
  | x :: a, y :: b => by
    rw [lexc, lexc, cmpI_swap x y, lexc_swap a b]
    by_cases h : cmpI x y = 0
    · rw [if_pos h, if_pos (by rw [h]; rfl)]
    · rw [if_neg h, if_neg (fun z => h (by omega))]
theorem lexc_zero : ∀ {a b : List Int}, lexc a b = 0 → a = b
  | [], [], _ => rfl
  | [], _ :: _, h => absurd h (by simp [lexc])
  | _ :: _, [], h => absurd h (by simp [lexc])
  | x :: a, y :: b, h => by
    rw [lexc] at h
    by_cases h0 : cmpI x y = 0
    · rw [if_pos h0] at h
      rw [cmpI_zero.1 h0, lexc_zero h]
    · rw [if_neg h0] at h
      exact absurd h h0
theorem lexc_refl : ∀ a : List Int, lexc a a = 0
  | [] => rfl
  | x :: a => by rw [lexc, if_pos (cmpI_zero.2 rfl), lexc_refl a]
theorem lexc_trans : ∀ {a b c : List Int}, lexc a b ≤ 0 → lexc b c ≤ 0 → lexc a c ≤ 0
  | [], _, [], _, _ => by decide
  | [], _, _ :: _, _, _ => by simp [lexc]
  | _ :: _, [], _, h, _ => absurd h (by simp [lexc])
  | _ :: _, _ :: _, [], _, h => absurd h (by simp [lexc])
  | x :: a, y :: b, z :: c, h, k => by
    rw [lexc] at h k ⊢
    have c1 := @cmpI_zero x y
    have c2 := @cmpI_zero y z
    have c3 := @cmpI_zero x z
    have n1 := @cmpI_neg x y
    have n2 := @cmpI_neg y z
    have n3 := @cmpI_neg x z
    by_cases h1 : cmpI x y = 0
    · rw [if_pos h1] at h
      by_cases h2 : cmpI y z = 0
      · rw [if_pos h2] at k
        rw [if_pos (c3.2 ((c1.1 h1).trans (c2.1 h2)))]
        exact lexc_trans h k
      · rw [if_neg h2] at k
        rw [if_neg (fun e => h2 (c2.2 ((c1.1 h1).symm.trans (c3.1 e))))]
        have e := c1.1 h1
        rw [e]
        exact k
    · rw [if_neg h1] at h
      by_cases h2 : cmpI y z = 0
      · rw [if_neg (fun e => h1 (c1.2 ((c3.1 e).trans (c2.1 h2).symm)))]
        rw [← c2.1 h2]
        exact h
      · rw [if_neg h2] at k
        have q1 := n1.1 (by omega)
        have q2 := n2.1 (by omega)
        have q3 := n3.2 (by omega)
        rw [if_neg (by omega)]
        omega
def lexL (a b : List Int) : Bool := decide (lexc a b ≤ 0)
theorem lexL_trans (a b c : List Int) (h : lexL a b = true) (k : lexL b c = true) : lexL a c = true := decide_eq_true (lexc_trans (of_decide_eq_true h) (of_decide_eq_true k))
theorem lexL_total (a b : List Int) : (lexL a b || lexL b a) = true := by
  have := lexc_swap a b
  rw [Bool.or_eq_true]
  by_cases h : lexc a b ≤ 0
  · exact .inl (decide_eq_true h)
  · exact .inr (decide_eq_true (by omega))
theorem lexL_anti {a b : List Int} (h : lexL a b = true) (k : lexL b a = true) : a = b := by
  have := lexc_swap a b
  have h := of_decide_eq_true h
  have k := of_decide_eq_true k
  exact lexc_zero (by omega)
def sorted (l : List (List Int)) : List (List Int) := l.mergeSort lexL
theorem sorted_perm (l : List (List Int)) : (sorted l).Perm l := List.mergeSort_perm l lexL
theorem sorted_pair (l : List (List Int)) : (sorted l).Pairwise (fun a b => lexL a b = true) := List.pairwise_mergeSort lexL_trans lexL_total l
theorem sorted_of {l r : List (List Int)} (hp : r.Perm l) (hs : r.Pairwise (fun a b => lexL a b = true)) : r = sorted l :=
  List.Perm.eq_of_pairwise (fun _ _ _ _ h k => lexL_anti h k) hs (sorted_pair l) (hp.trans (sorted_perm l).symm)
end Go.Proofs.Ytokelcedamegbaa.P

/- A call of a function value that has its first arguments already (a method value). No program in sight. -/
namespace Go.Proofs.Ytokelcedamegbaa.P
open Go.RowKit Go.Proofs.YtokelcedamegbaaW.PrintWords Go.Proofs.YtokelcedamegbaaW.PrintLast Go.Proofs.YtokelcedamegbaaW.PrintMore
section
variable {P : Program} {ops : Array Oper} {Q : Exit → Act → World → Prop}
theorem run_fnB {oi : Oper} {a : Act} {w : World} {g : FuncId} {bd lb : Array Value} {t : Tmp} {ao : Array Operand} {ts : Array TypeId} (eg : ∀ (args : Array Value) (w : World), (callFunc g args).run P w = .ok (.enter g args) w) (args : Array Value)
    (hop : oi.op = .call { callee := .value (.tmp t), args := ao, argTypes := ts }) (hfn : a.eval (.tmp t) = .func (.func g) bd lb) (hargs : ao.map a.eval = args) : (execOp a.eval oi).run P w = .ok (.enter g ((bd ++ args) ++ lb)) w := by
  unfold execOp
  simp [hop, resolve, Deferred.ofValue, invoke, hfn, hargs, eg]
theorem goesFB_ {rest : List Oper} {oi : Oper} {a : Act} {w : World} (N : Option Tmp) (hd : oi.dst = N) (hg : oi.guard = none) {g : FuncId} {bd lb : Array Value} {t : Tmp} {ao : Array Operand} {ts : Array TypeId} (eg : ∀ (args : Array Value) (w : World), (callFunc g args).run P w = .ok (.enter g args) w) (args : Array Value)
    (hop : oi.op = .call { callee := .value (.tmp t), args := ao, argTypes := ts }) (hfn : a.eval (.tmp t) = .func (.func g) bd lb) (hargs : ao.map a.eval = args)
    (h : Calls P g ((bd ++ args) ++ lb) w fun e w' => ∃ v, e = .returned v ∧ wpList P ops Q rest (a.put N v) w') : wpList P ops Q (oi :: rest) a w := by
  refine wpList_plain hg fun K hK => ?_
  have hrun := run_fnB (w := w) eg args hop hfn hargs
  unfold Oper.wp
  rw [hrun, Oper.upon_enter]
  refine h.mono fun e w'' hh => ?_
  obtain ⟨v, rfl, hk⟩ := hh
  subst hd
  exact hK _ _ hk
end
end Go.Proofs.Ytokelcedamegbaa.P

/- How two lists of lists compare. No program in sight. -/
namespace Go.Proofs.Ytokelcedamegbaa.P
def lexS : List (List Int) → List (List Int) → Int
  | [], [] => 0
  | [], _ :: _ => -1
  | _ :: _, [] => 1
  | x :: a, y :: b => if lexc x y = 0 then lexS a b else lexc x y
theorem lexc_eq {x y : List Int} : lexc x y = 0 ↔ x = y := ⟨lexc_zero, fun h => h ▸ lexc_refl x⟩
theorem lexc_lt {x y z : List Int} (h : lexc x y < 0) (k : lexc y z < 0) : lexc x z < 0 := by
  have h3 := lexc_trans (a := x) (b := y) (c := z) (by omega) (by omega)
  rcases Int.lt_or_eq_of_le h3 with h4 | h4
  · exact h4
  · have e := lexc_zero h4
    have s := lexc_swap x y
    rw [e] at s h
    omega
theorem lexS_swap : ∀ a b : List (List Int), lexS b a = - lexS a b
  | [], [] => rfl
  | [], _ :: _ => rfl
  | _ :: _, [] => rfl
  | x :: a, y :: b => by
    rw [lexS, lexS, lexc_swap x y, lexS_swap a b]
    by_cases h : lexc x y = 0
    · rw [if_pos h, if_pos (by rw [h]; rfl)]
    · rw [if_neg h, if_neg (fun z => h (by omega))]
theorem lexS_zero : ∀ {a b : List (List Int)}, lexS a b = 0 → a = b
  | [], [], _ => rfl
  | [], _ :: _, h => absurd h (by simp [lexS])
  | _ :: _, [], h => absurd h (by simp [lexS])
  | x :: a, y :: b, h => by
    rw [lexS] at h
    by_cases h0 : lexc x y = 0
    · rw [if_pos h0] at h
      rw [lexc_zero h0, lexS_zero h]
    · rw [if_neg h0] at h
      exact absurd h h0
theorem lexS_refl : ∀ a : List (List Int), lexS a a = 0
  | [] => rfl
  | x :: a => by rw [lexS, if_pos (lexc_refl x), lexS_refl a]
theorem lexS_trans : ∀ {a b c : List (List Int)}, lexS a b ≤ 0 → lexS b c ≤ 0 → lexS a c ≤ 0
  | [], _, [], _, _ => by decide
  | [], _, _ :: _, _, _ => by simp [lexS]
  | _ :: _, [], _, h, _ => absurd h (by simp [lexS])
  | _ :: _, _ :: _, [], _, h => absurd h (by simp [lexS])
  | x :: a, y :: b, z :: c, h, k => by
    rw [lexS] at h k ⊢
    have c1 := @lexc_eq x y
    have c2 := @lexc_eq y z
    have c3 := @lexc_eq x z
    by_cases h1 : lexc x y = 0
    · rw [if_pos h1] at h
      by_cases h2 : lexc y z = 0
      · rw [if_pos h2] at k
        rw [if_pos (c3.2 ((c1.1 h1).trans (c2.1 h2)))]
        exact lexS_trans h k
      · rw [if_neg h2] at k
        rw [if_neg (fun e => h2 (c2.2 ((c1.1 h1).symm.trans (c3.1 e))))]
        have e := c1.1 h1
        rw [e]
        exact k
    · rw [if_neg h1] at h
      by_cases h2 : lexc y z = 0
      · rw [if_neg (fun e => h1 (c1.2 ((c3.1 e).trans (c2.1 h2).symm)))]
        rw [← c2.1 h2]
        exact h
      · rw [if_neg h2] at k
        have q3 := lexc_lt (x := x) (y := y) (z := z) (by omega) (by omega)
        rw [if_neg (by omega)]
        omega
end Go.Proofs.Ytokelcedamegbaa.P

/- Below, and the count of draws has not fallen: what a sort asks of the function that compares. No program in sight. -/
namespace Go.Proofs.Ytokelcedamegbaa.P
open Go.RowKit Go.Proofs.YtokelcedamegbaaW.PrintWords Go.Proofs.YtokelcedamegbaaW.PrintLast Go.Proofs.YtokelcedamegbaaW.PrintMore
structure BelowG (B : Nat) (w w' : World) : Prop where mk :: (lo : Below B w w') (dr : w.drawn ≤ w'.drawn)
theorem BelowG.refl (B : Nat) (w : World) : BelowG B w w := ⟨Below.refl _ _, Nat.le_refl _⟩
theorem BelowG.cell {B : Nat} {w w' : World} (h : BelowG B w w') {a : Addr} (ha : a.block < B) : w'.cell? a = w.cell? a := h.lo.cell ha
theorem BelowG.of {w w' : World} (h : Drawn0 w w') : BelowG w.heap.size w w' := by
  obtain ⟨⟨n, rfl⟩⟩ := h
  exact ⟨pw_below_drewN (Below.refl _ _) n, Nat.le_add_right _ _⟩
theorem belowG_alloc {w W : World} (h : BelowG w.heap.size w W) (o : Obj) : BelowG w.heap.size w (W.alloc o) := ⟨below_alloc h.lo o, h.dr⟩
theorem belowG_drewN {B : Nat} {w W : World} (h : BelowG B w W) (n : Nat) : BelowG B w (W.drewN n) := ⟨pw_below_drewN h.lo n, Nat.le_trans h.dr (Nat.le_add_right _ _)⟩
theorem belowG_drew1 {B : Nat} {w W : World} (h : BelowG B w W) : BelowG B w W.drew := ⟨below_drew1 h.lo, Nat.le_trans h.dr (Nat.le_succ _)⟩
theorem belowG_step {w W w2 : World} (h : BelowG w.heap.size w W) (k : BelowG W.heap.size W w2) : BelowG w.heap.size w w2 := ⟨below_step h.lo k.lo, Nat.le_trans h.dr k.dr⟩
theorem belowG_size {w W : World} (h : BelowG w.heap.size w W) : w.heap.size ≤ W.heap.size := h.lo.size
section
variable {P : Program} {ops : Array Oper} {rest : List Oper} {o : Oper} {a : Act} {Q : Exit → Act → World → Prop}
theorem box_eventG {W : World} (hgd : o.guard = none) {N : Tmp} (_hd : o.dst = some N) {cs : Array Value} {t : TypeId}
    (hrun : (execOp a.eval o).run P W = .ok (.value (.pointer (some ⟨W.heap.size, 0, none⟩))) (W.alloc (.cells cs t (0, 0))))
    (h : ∀ g, g = W.heap.size → ∀ w1, w1.heap[g]? = some (.cells cs t (0, 0)) → BelowG W.heap.size W w1 → wpList P ops Q rest (a.put o.dst (.pointer (some ⟨g, 0, none⟩))) w1) : wpList P ops Q (o :: rest) a W :=
  Kd.event_run hgd hrun (h _ rfl _ (blk_new W _) ⟨below_alloc (Below.refl _ _) _, Nat.le_refl _⟩)
end
theorem BelowG.grown {w w' : World} (h : BelowG w.heap.size w w') : ∃ q os, w' = Go.Sort.grow (w.drewN q) os := by
  obtain ⟨⟨h1, h2, h3, h4, h5⟩, h6⟩ := h
  refine ⟨w'.drawn - w.drawn, w'.heap.extract w.heap.size w'.heap.size, ?_⟩
  obtain ⟨hp, tp, dr, os, out⟩ := w'
  simp only at h1 h2 h3 h4 h5 h6
  subst h1 h2 h3
  have e : hp = w.heap ++ hp.extract w.heap.size hp.size := by
    apply Array.ext_getElem?
    intro i
    rw [Array.getElem?_append]
    split
    · exact h5 i (by assumption)
    · rename_i hi
      rw [Array.getElem?_extract]
      by_cases hlt : i < hp.size
      · rw [if_pos (by omega), show w.heap.size + (i - w.heap.size) = i by omega]
      · rw [if_neg (by omega), Array.getElem?_eq_none (by omega)]
  have ed : (w.drewN (dr - w.drawn)).drawn = dr := by show w.drawn + (dr - w.drawn) = dr; omega
  show (⟨hp, w.tape, dr, w.os, w.output⟩ : World) = ⟨w.heap ++ hp.extract w.heap.size hp.size, w.tape, (w.drewN (dr - w.drawn)).drawn, w.os, w.output⟩
  rw [ed, ← e]
end Go.Proofs.Ytokelcedamegbaa.P

/- From a datum's reading to a value that the printed contracts speak of: kind by kind. No program in sight. -/
namespace Go.Proofs.Ytokelcedamegbaa.P
open Go.RowKit Go.ChangeShapes Go.WideShapes Go.Proofs.YtokelcedamegbaaW.PrintWords Go.Proofs.YtokelcedamegbaaW.PrintLast Go.Proofs.YtokelcedamegbaaW.PrintMore
def okI (x : Int) : Prop := -9223372036854775808 ≤ x ∧ x ≤ 9223372036854775807
def okL {α : Type} (Ok : α → Prop) (l : List α) : Prop := l.length ≤ 9223372036854775807 ∧ ∀ x ∈ l, Ok x
structure Opens {α : Type} (P : Program) (T : TypeId) (d : Kd α) (Ok : α → Prop) : Prop where
  go : ∀ {H : Type} (enc : TypeId × Value → H) (w : World) (fuel : Nat) (cs : List Value) (x : DataW H × List MemPlace),
    DataW.trod enc P w 0 (fun _ => true) true fuel T cs = some x → ∃ a, d.K w a cs ∧ Ok a
theorem Opens.int {P : Program} {T : TypeId} (h : P.underlying T = some (.int .i64)) : Opens P T (Kd.int .i64) okI := by
  refine ⟨fun enc w fuel cs x hx => ?_⟩
  obtain ⟨n, rfl, _, hw⟩ := DataW.trod_int h hx
  refine ⟨n, rfl, ?_⟩
  have hmin : IntKind.i64.min = -9223372036854775808 := rfl
  have hmax : IntKind.i64.max = 9223372036854775807 := rfl
  simp only [Lit.wf, Bool.and_eq_true, decide_eq_true_eq] at hw
  unfold okI
  omega
theorem cells_get {w : World} {a : Addr} {n : Nat} {cs : List Value} (h : w.cells? 0 a n = some cs) : cs.length = n ∧ ∀ j u, cs[j]? = some u → w.cell? (a.add j) = some u := by
  unfold World.cells? at h
  rw [if_pos (Nat.zero_le _)] at h
  have key : ∀ (l : List Nat) (r : List Value), l.mapM (fun i => w.cell? (a.add i)) = some r → r.length = l.length ∧ ∀ (j : Nat) (u : Value) (i : Nat), r[j]? = some u → l[j]? = some i → w.cell? (a.add i) = some u := by
    intro l
    induction l with
    | nil => intro r hr; simp at hr; subst hr; simp
    | cons i l ih =>
      intro r hr
      simp only [List.mapM_cons, Option.bind_eq_bind, Option.bind_eq_some_iff] at hr
      obtain ⟨v, hv, r', hr', he⟩ := hr
      have he' : v :: r' = r := by simpa using he
      subst he'
      obtain ⟨h1, h2⟩ := ih r' hr'
      refine ⟨by simp [h1], fun j u k hj hk => ?_⟩
      cases j with
      | zero => simp at hj hk; subst hj; subst hk; exact hv
      | succ j => simp at hj hk; exact h2 j u k hj hk
  obtain ⟨h1, h2⟩ := key _ _ h
  refine ⟨by simpa using h1, fun j u hj => ?_⟩
  have hlt : j < cs.length := (List.getElem?_eq_some_iff.1 hj).1
  exact h2 j u j hj (by rw [List.getElem?_range (by simpa [h1] using hlt)])
theorem add_add_ (a : Addr) (i j : Nat) : (a.add i).add j = a.add (i + j) := Go.Deep.add_add a i j
theorem Opens.slice {α : Type} {P : Program} {T e : TypeId} {d : Kd α} {Ok : α → Prop} (h : P.underlying T = some (.slice e)) (hc : P.cellsOf e = d.sz) (hd : Opens P e d Ok) : Opens P T (Kd.slice e d) (okL Ok) := by
  refine ⟨fun enc w fuel cs x hx => ?_⟩
  rcases Go.Deep.open_slice h hx with ⟨rfl, _⟩ | ⟨a, len, cap, m, n, D, Pl, rfl, _, hl, hm, hmm, _, hel⟩
  · exact ⟨[], ⟨none, 0, rfl, Nat.le_refl _, Kd.C_nil _ _⟩, by simp, by simp⟩
  · have hm' : m = cap := by simpa using hmm
    subst hm'
    have hex : ∀ i, i < len → ∃ y : α × List Value, y.2.length = d.sz ∧ d.K w y.1 y.2 ∧ Ok y.1 ∧ ∀ j u, y.2[j]? = some u → w.cell? (a.add (i * d.sz + j)) = some u := by
      intro i hi
      obtain ⟨cs', h1, h2⟩ := hel i (by omega)
      rw [hc] at h1
      obtain ⟨hlen, hcell⟩ := cells_get h1
      obtain ⟨y, hy, ho⟩ := hd.go enc w n cs' _ h2
      exact ⟨(y, cs'), hlen, hy, ho, fun j u hj => by rw [← add_add_]; exact hcell j u hj⟩
    by_cases h0 : len = 0
    · subst h0
      exact ⟨[], ⟨some a, _, rfl, Nat.zero_le _, rfl, by simp, fun h => absurd h (Nat.lt_irrefl 0)⟩, by simp, by simp⟩
    · obtain ⟨y0, _⟩ := hex 0 (by omega)
      have : Inhabited (α × List Value) := ⟨y0⟩
      obtain ⟨f, hf⟩ := Go.Deep.choose_lt (α := α × List Value) hex
      have hlen : ((List.range len).map fun i => (f i).1).length = len := by simp
      have hget : ∀ j p, ((List.range len).map fun i => (f i).1)[j]? = some p → j < len ∧ p = (f j).1 := by
        intro j p hj
        obtain ⟨hlt, he⟩ := List.getElem?_eq_some_iff.1 hj
        simp at hlt he
        exact ⟨hlt, he.symm⟩
      refine ⟨(List.range len).map fun i => (f i).1, ⟨some a, m, by rw [hlen], by rw [hlen]; exact hl, by rw [hlen], by rw [hlen]; unfold maxLen at hm; omega, fun _ => ⟨a, rfl, fun j p hj => ?_⟩⟩, ?_, ?_⟩
      · obtain ⟨hlt, rfl⟩ := hget j p hj
        obtain ⟨h1, h2, _, h3⟩ := hf j hlt
        exact ⟨(f j).2, h1, h2, h3⟩
      · rw [hlen]; unfold maxLen at hm; omega
      · intro p hp
        obtain ⟨j, hj⟩ := List.mem_iff_getElem?.1 hp
        obtain ⟨hlt, rfl⟩ := hget j p hj
        exact (hf j hlt).2.2.1
theorem open_int_ {H : Type} {enc : TypeId × Value → H} {P : Program} {w : World} {r : Reach} {b0 : Nat} {T : TypeId} {v : Value} {y : DataW H} {p : List MemPlace}
    (h : P.underlying T = some (.int .i64)) (hv : Value.okWide P w r b0 T v) (hd : DataW.Trod enc P w 0 (fun _ => true) true T v y p) : ∃ n : Int, v = .int .i64 n ∧ okI n := by
  obtain ⟨n, rfl, _, _, hw⟩ := open_int h hv hd
  refine ⟨n, rfl, ?_⟩
  have hmin : IntKind.i64.min = -9223372036854775808 := rfl
  have hmax : IntKind.i64.max = 9223372036854775807 := rfl
  simp only [Lit.wf, Bool.and_eq_true, decide_eq_true_eq] at hw
  unfold okI
  omega
end Go.Proofs.Ytokelcedamegbaa.P

namespace Go.Proofs.Ytokelcedamegbaa.P
open Go.RowKit Go.Proofs.YtokelcedamegbaaW.PrintWords Go.Proofs.YtokelcedamegbaaW.PrintLast Go.Proofs.YtokelcedamegbaaW.PrintMore
end Go.Proofs.Ytokelcedamegbaa.P

/- Plain laws: loops told by rounds, lists, numbers. No program in sight. -/
namespace Go.Proofs.Ytokelcedamegbaa.P
open Go.RowKit Go.Proofs.YtokelcedamegbaaW.PrintWords Go.Proofs.YtokelcedamegbaaW.PrintLast Go.Proofs.YtokelcedamegbaaW.PrintMore
theorem Ev.down {ρ : Type} {G : Nat → Nat → Option ρ} {R : Nat → ρ} (n : Nat) (hend : Ev (G n) (R n)) (hstep : ∀ i, i < n → Ev (G (i + 1)) (R (i + 1)) → Ev (G i) (R i)) : ∀ i, i ≤ n → Ev (G i) (R i) := by
  have key : ∀ d i, i + d = n → Ev (G i) (R i) := by
    intro d
    induction d with
    | zero => intro i hi; obtain rfl : i = n := by omega
              exact hend
    | succ d ih => intro i hi; exact hstep i (by omega) (ih (i + 1) (by omega))
  intro i hi
  exact key (n - i) i (by omega)
theorem back {P : Nat → Prop} (n : Nat) (hend : P n) (hstep : ∀ i, i < n → P (i + 1) → P i) : ∀ i, i ≤ n → P i := by
  have key : ∀ d i, i + d = n → P i := by
    intro d
    induction d with
    | zero => intro i hi; obtain rfl : i = n := by omega
              exact hend
    | succ d ih => intro i hi; exact hstep i (by omega) (ih (i + 1) (by omega))
  intro i hi
  exact key (n - i) i (by omega)
theorem Ev.some {α : Type} {r : α} : Ev (fun _ => Option.some r) r := Ev.now r
theorem Ev.one {α : Type} {g : Option α} {r : α} (h : g = Option.some r) : Ev (fun _ => g) r := ⟨0, fun _ _ => h⟩
theorem Ev.ite_pos {α : Type} {c : Prop} [Decidable c] {g f : Nat → Option α} {r : α} (hc : c) (h : Ev g r) : Ev (fun k => if c then g k else f k) r := by
  obtain ⟨K, h⟩ := h; exact ⟨K, fun k hk => (if_pos hc).trans (h k hk)⟩
theorem Ev.ite_neg {α : Type} {c : Prop} [Decidable c] {g f : Nat → Option α} {r : α} (hc : ¬ c) (h : Ev f r) : Ev (fun k => if c then g k else f k) r := by
  obtain ⟨K, h⟩ := h; exact ⟨K, fun k hk => (if_neg hc).trans (h k hk)⟩
theorem Ev.eq {α : Type} {g : Nat → Option α} {r r' : α} (h : Ev g r) (e : r = r') : Ev g r' := e ▸ h
theorem Ev.shift {α : Type} {g : Nat → Option α} {r : α} (h : Ev (fun k => g (k + 1)) r) : Ev g r := Ev.step (fun _ => rfl) h
theorem w64 {x : Int} (h0 : -9223372036854775808 ≤ x) (h1 : x ≤ 9223372036854775807) : wrap64 x = x := by unfold wrap64; omega
theorem w1 {i n : Nat} (h : i < n) (hn : n ≤ 9223372036854775807) : wrap64 ((i : Int) + 1) = ((i + 1 : Nat) : Int) := by unfold wrap64; omega
theorem rd_nat (l : List Int) (i : Nat) : rd l (i : Int) = l.getD i 0 := by simp [rd]
theorem rdB_nat (l : List Bool) (i : Nat) : rdOf false l (i : Int) = l.getD i false := by simp [rdOf]
/-! ### lists -/
theorem drop_getD {α : Type} (l : List α) (d : α) (i : Nat) (h : i < l.length) : l.drop i = l.getD i d :: l.drop (i + 1) := drop_cons l d i h
theorem take_getD {α : Type} (l : List α) (d : α) (i : Nat) (h : i < l.length) : l.take (i + 1) = l.take i ++ [l.getD i d] := by
  rw [List.take_succ_eq_append_getElem h, List.getD_eq_getElem?_getD, List.getElem?_eq_getElem h]; rfl
theorem getD_mem {α : Type} (l : List α) (d : α) (i : Nat) (h : i < l.length) : l.getD i d ∈ l := by
  rw [List.getD_eq_getElem?_getD, List.getElem?_eq_getElem h]; exact List.getElem_mem h
theorem foldl_take {α β : Type} (f : β → α → β) (b : β) (l : List α) (d : α) (i : Nat) (h : i < l.length) : (l.take (i + 1)).foldl f b = f ((l.take i).foldl f b) (l.getD i d) := by
  rw [take_getD l d i h, List.foldl_append]; rfl
def filled {α : Type} (l : List α) (z : α) (i : Nat) : List α := l.take i ++ List.replicate (l.length - i) z
theorem filled_len {α : Type} (l : List α) (z : α) (i : Nat) (h : i ≤ l.length) : (filled l z i).length = l.length := by unfold filled; simp; omega
theorem filled_zero {α : Type} (l : List α) (z : α) : filled l z 0 = List.replicate l.length z := by simp [filled]
theorem filled_all {α : Type} (l : List α) (z : α) : filled l z l.length = l := by simp [filled]
theorem filled_set {α : Type} (l : List α) (z d : α) (i : Nat) (h : i < l.length) : (filled l z i).set i (l.getD i d) = filled l z (i + 1) := by
  unfold filled
  have e : (l.take i).length = i := by simp; omega
  rw [take_getD l d i h, List.set_append_right i (l.getD i d) (by omega), e, Nat.sub_self, show l.length - i = (l.length - (i + 1)) + 1 by omega, List.replicate_succ]
  simp
/-! ### marks -/
def marks (a : Int) (n : Nat) : List Int := (List.range n).map fun i : Nat => a + (i : Int)
/-! ### committees -/
def inI (a b x : Int) : Bool := decide (a ≤ x) && decide (x ≤ b)
def isComm (q : Int) (l : List Int) : Bool := decide (1 ≤ l.length) && decide (l.length ≤ 9) && l.all (inI 0 1000) && inI 1 l.sum q
def wsum (l : List Int) : Int := l.foldl (fun s x => wrap64 (s + x)) 0
theorem wsum_from (l : List Int) (s : Int) (hs : 0 ≤ s) (h : ∀ x ∈ l, 0 ≤ x ∧ x ≤ 1000) (hb : s + 1000 * l.length ≤ 9223372036854775807) : l.foldl (fun s x => wrap64 (s + x)) s = s + l.sum := by
  induction l generalizing s with
  | nil => simp
  | cons x l ih =>
    have h1 := h x (by simp)
    simp only [List.length_cons] at hb
    rw [List.foldl_cons, w64 (by omega) (by omega), ih (s + x) (by omega) (fun y hy => h y (by simp [hy])) (by omega), List.sum_cons]
    omega
theorem wsum_eq (l : List Int) (h : ∀ x ∈ l, 0 ≤ x ∧ x ≤ 1000) (hb : l.length ≤ 9000000) : wsum l = l.sum := by
  unfold wsum; rw [wsum_from l 0 (by omega) h (by omega)]; omega
/-! ### numbers as bits -/
theorem shr_nat (x i : Nat) (h : i ≤ 64) : shr .i64 (x : Int) (i : Int) = ((x / 2 ^ i : Nat) : Int) := by
  unfold shr
  have e : min ((i : Int).toNat) IntKind.i64.bits = i := by
    have : IntKind.i64.bits = 64 := rfl
    omega
  rw [e]; simp
theorem pow63 {i : Nat} (h : i < 63) : 2 ^ i < 9223372036854775808 := Nat.lt_of_lt_of_le (Nat.pow_lt_pow_right (by omega) h) (by decide)
theorem shl_one (i : Nat) (h : i < 63) : shl .i64 1 (i : Int) = ((2 ^ i : Nat) : Int) := by
  unfold shl
  have e : min ((i : Int).toNat) IntKind.i64.bits = i := by
    have : IntKind.i64.bits = 64 := rfl
    omega
  have h1 := pow63 h
  have c : ((2 ^ i : Nat) : Int) = 2 ^ i := by simp
  rw [e, Int.one_mul, IntKind.wrap_i64, ← c]
  generalize 2 ^ i = z at h1
  omega
theorem i64_of (n : Int) (h0 : 0 ≤ n) (h1 : n < 2 ^ 63) : IntKind.i64.wrap n = n := by rw [IntKind.wrap_i64]; omega
theorem and_nat (a b : Nat) (ha : a < 2 ^ 63) (hb : b < 2 ^ 63) : Go.bits .and .i64 (a : Int) (b : Int) = ((a &&& b : Nat) : Int) := (bits_nat .i64 63 (by decide) i64_of a b ha hb).1
theorem or_nat (a b : Nat) (ha : a < 2 ^ 63) (hb : b < 2 ^ 63) : Go.bits .or .i64 (a : Int) (b : Int) = ((a ||| b : Nat) : Int) := (bits_nat .i64 63 (by decide) i64_of a b ha hb).2
theorem and_one (a : Nat) (ha : a < 2 ^ 63) : Go.bits .and .i64 (a : Int) 1 = ((a % 2 : Nat) : Int) := by
  have := and_nat a 1 ha (by decide)
  rw [Nat.and_one_is_mod] at this
  exact this
theorem tmod_two (a : Nat) : Int.tmod (a : Int) 2 = ((a % 2 : Nat) : Int) := by rw [Int.tmod_eq_emod_of_nonneg (by omega)]; omega
theorem bit_nat (b i : Nat) : b.testBit i = decide (b / 2 ^ i % 2 = 1) := by rw [Nat.testBit_eq_decide_div_mod_eq]
theorem or_pow {b i : Nat} (h : b.testBit i = false) : b ||| 2 ^ i = b + 2 ^ i := by
  apply Nat.eq_of_testBit_eq
  intro j
  rw [Nat.testBit_or, Nat.testBit_two_pow, Nat.add_comm]
  rcases Nat.lt_trichotomy j i with hj | hj | hj
  · rw [Nat.testBit_two_pow_add_gt hj]
    have : ¬ i = j := by omega
    simp [this]
  · subst hj
    rw [Nat.testBit_two_pow_add_eq, h]
    simp
  · have hd : (2 ^ i + b) / 2 ^ (i + 1) = b / 2 ^ (i + 1) := by
      have h0 : b / 2 ^ i % 2 = 0 := by
        rw [bit_nat] at h
        have h1 := Nat.mod_two_eq_zero_or_one (b / 2 ^ i)
        rcases h1 with h1 | h1
        · exact h1
        · simp [h1] at h
      rw [Nat.pow_succ, ← Nat.div_div_eq_div_mul, ← Nat.div_div_eq_div_mul, Nat.add_div_left _ (Nat.two_pow_pos i)]
      omega
    obtain ⟨d, rfl⟩ : ∃ d, j = i + 1 + d := ⟨j - (i + 1), by omega⟩
    have e : ∀ x : Nat, x.testBit (i + 1 + d) = (x / 2 ^ (i + 1)).testBit d := fun x => by
      rw [Nat.testBit_div_two_pow, Nat.add_comm d]
    rw [e, e, hd]
    have : ¬ i = i + 1 + d := by omega
    simp [this]
/-! ### weights of sets told by bits -/
def tab (n : Nat) (P : Nat → Bool) : List Bool := (List.range (2 ^ n)).map P
theorem tab_len (n : Nat) (P : Nat → Bool) : (tab n P).length = 2 ^ n := by simp [tab]
theorem tab_get (n : Nat) (P : Nat → Bool) (b : Nat) (h : b < 2 ^ n) : (tab n P).getD b false = P b := by simp [tab, List.getD_eq_getElem?_getD, List.getElem?_range h]
theorem pow_small {n m : Nat} (h : n ≤ m) : 2 ^ n ≤ 2 ^ m := Nat.pow_le_pow_right (by omega) h
def sel (n : Nat) (P : Nat → Bool) : List Int := ((List.range n).filter P).map fun i : Nat => (i : Int)
theorem sel_succ (n : Nat) (P : Nat → Bool) : sel (n + 1) P = sel n P ++ (if P n = true then [(n : Int)] else []) := by
  unfold sel
  rw [List.range_succ, List.filter_append, List.map_append]
  congr 1
  cases h : P n <;> simp [h]
theorem sel_len (n : Nat) (P : Nat → Bool) : (sel n P).length ≤ n := by
  have := List.length_filter_le P (List.range n)
  simp [sel] at *; omega
theorem Ev.all {α β : Type} {p : Nat → α → Option β} {P : α → β} (l : List α) (h : ∀ x ∈ l, Ev (fun k => p k x) (P x)) : ∃ K, ∀ k, K ≤ k → ∀ x ∈ l, p k x = Option.some (P x) := by
  induction l with
  | nil => exact ⟨0, fun _ _ _ h => by simp at h⟩
  | cons x l ih =>
    obtain ⟨K, hK⟩ := ih (fun y hy => h y (by simp [hy]))
    obtain ⟨K', hK'⟩ := h x (by simp)
    refine ⟨K + K', fun k hk y hy => ?_⟩
    rcases List.mem_cons.1 hy with rfl | hy
    · exact hK' k (by omega)
    · exact hK k (by omega) y hy
theorem Ev.ask {α β γ : Type} {p : Nat → α → Option β} {P : α → β} (l : List α) (h : ∀ x ∈ l, Ev (fun k => p k x) (P x)) {F : Nat → (α → Option β) → Option γ} {r : γ} (hF : ∃ K, ∀ k, K ≤ k → ∀ q : α → Option β, (∀ x ∈ l, q x = Option.some (P x)) → F k q = Option.some r) : Ev (fun k => F k (p k)) r := by
  obtain ⟨K, hK⟩ := Ev.all l h
  obtain ⟨K', hK'⟩ := hF
  exact ⟨K + K', fun k hk => hK' k (by omega) _ (hK k (by omega))⟩
theorem downq {ρ : Type} {G : Nat → Nat → Option ρ} {R : Nat → ρ} (n : Nat) (hend : ∀ k, G n (k + 1) = Option.some (R n)) (hstep : ∀ i, i < n → ∀ k, G (i + 1) k = Option.some (R (i + 1)) → G i (k + 1) = Option.some (R i)) : ∀ i, i ≤ n → ∀ k, n - i < k → G i k = Option.some (R i) := by
  have key : ∀ d i, i + d = n → ∀ k, d < k → G i k = Option.some (R i) := by
    intro d
    induction d with
    | zero => intro i hi k hk
              obtain rfl : i = n := by omega
              obtain ⟨k, rfl⟩ : ∃ j, k = j + 1 := ⟨k - 1, by omega⟩
              exact hend k
    | succ d ih => intro i hi k hk
                   obtain ⟨k, rfl⟩ : ∃ j, k = j + 1 := ⟨k - 1, by omega⟩
                   exact hstep i (by omega) k (ih (i + 1) (by omega) k (by omega))
  intro i hi k hk
  exact key (n - i) i (by omega) k (by omega)
def idxFrom {α : Type} (P : α → Bool) : Nat → List α → Int
  | _, [] => -1
  | i, x :: l => if P x = true then (i : Int) else idxFrom P (i + 1) l
theorem idxFrom_nn {α : Type} (P : α → Bool) (l : List α) (i : Nat) : decide (idxFrom P i l ≥ 0) = l.any P := by
  induction l generalizing i with
  | nil => rfl
  | cons x l ih =>
    unfold idxFrom
    rw [List.any_cons]
    cases h : P x with
    | true => simp only [↓reduceIte, Bool.true_or, decide_eq_true_eq]; omega
    | false => simp only [Bool.false_eq_true, ↓reduceIte, Bool.false_or]; exact ih (i + 1)
def over {α : Type} (t l : List α) (i : Nat) : List α := t.take i ++ l.drop i
def allF (P : Nat → Bool) (n i : Nat) : Bool := (List.range' i (n - i)).all P
theorem allF_end (P : Nat → Bool) (n : Nat) : allF P n n = true := by simp [allF]
theorem allF_step (P : Nat → Bool) (n i : Nat) (h : i < n) : allF P n i = (P i && allF P n (i + 1)) := by
  unfold allF
  obtain ⟨d, rfl⟩ : ∃ d, n = i + d + 1 := ⟨n - i - 1, by omega⟩
  rw [show i + d + 1 - i = d + 1 by omega, show i + d + 1 - (i + 1) = d by omega, List.range'_succ, List.all_cons]
theorem allF_iff (P : Nat → Bool) (n : Nat) : allF P n 0 = true ↔ ∀ j, j < n → P j = true := by
  simp only [allF, List.all_eq_true, List.mem_range'_1, Nat.sub_zero, Nat.zero_add, Nat.zero_le, true_and]
def bitsOf (l : List Int) : Nat := l.foldl (fun m x => m ||| 2 ^ x.toNat) 0
theorem bitsOf_lt (l : List Int) (n : Nat) (h : ∀ x ∈ l, 0 ≤ x ∧ x < n) (m : Nat) (hm : m < 2 ^ n) : l.foldl (fun m x => m ||| 2 ^ x.toNat) m < 2 ^ n := by
  induction l generalizing m with
  | nil => exact hm
  | cons x l ih =>
    have h1 := h x (by simp)
    rw [List.foldl_cons]
    exact ih (fun y hy => h y (by simp [hy])) _ (Nat.or_lt_two_pow hm (Nat.pow_lt_pow_right (by omega) (by omega)))
theorem with_lt {n m i : Nat} (hm : m < 2 ^ n) (hi : i < n) (h : m.testBit i = false) : m + 2 ^ i < 2 ^ n := by
  rw [← or_pow h]; exact Nat.or_lt_two_pow hm (Nat.pow_lt_pow_right (by omega) hi)
def incr (l : List Int) (i : Nat) : Bool := i == 0 || decide (l.getD (i - 1) 0 < l.getD i 0)
def isSetN (l : List Int) (n : Int) : Bool := l.all (inI 0 (n - 1)) && allF (incr l) l.length 0
theorem isSetN_mem {l : List Int} {n : Int} (h : isSetN l n = true) : ∀ x ∈ l, 0 ≤ x ∧ x < n := by
  intro x hx
  simp only [isSetN, Bool.and_eq_true, List.all_eq_true, inI, decide_eq_true_eq] at h
  have := h.1 x hx
  omega
theorem allF_and (P Q : Nat → Bool) (n i : Nat) : allF (fun j => P j && Q j) n i = (allF P n i && allF Q n i) := by
  unfold allF
  induction (List.range' i (n - i)) with
  | nil => rfl
  | cons x l ih => simp only [List.all_cons, ih]; cases P x <;> cases Q x <;> simp
theorem allF_drop {α : Type} (P : α → Bool) (l : List α) (d : α) (i : Nat) (h : i ≤ l.length) : allF (fun j => P (l.getD j d)) l.length i = (l.drop i).all P := by
  refine back (P := fun i => allF (fun j => P (l.getD j d)) l.length i = (l.drop i).all P) l.length ?_ ?_ i h
  · rw [allF_end]; simp
  · intro i hi ih
    rw [allF_step _ _ _ hi, ih, drop_getD l d i hi, List.all_cons]
end Go.Proofs.Ytokelcedamegbaa.P

/- A member of a set, by bits. -/
namespace Go.Proofs.Ytokelcedamegbaa.P
open Go.RowKit Go.Proofs.YtokelcedamegbaaW.PrintWords Go.Proofs.YtokelcedamegbaaW.PrintLast Go.Proofs.YtokelcedamegbaaW.PrintMore
theorem impl_has.eq (b i : Nat) (hi : i ≤ 64) (hb : b < 2 ^ 63) : impl_has.f (b : Int) (i : Int) = some (b.testBit i) := by
  have c : (0 : Int) ≤ (i : Int) := by omega
  have hd : b / 2 ^ i < 2 ^ 63 := Nat.lt_of_le_of_lt (Nat.div_le_self _ _) hb
  unfold impl_has.f
  rw [if_pos c, shr_nat b i hi, and_one _ hd, bit_nat]
  congr 1
  rcases Nat.mod_two_eq_zero_or_one (b / 2 ^ i) with h | h <;> rw [h] <;> rfl
end Go.Proofs.Ytokelcedamegbaa.P

/- The members of a set, by its bits. -/
namespace Go.Proofs.Ytokelcedamegbaa.P
open Go.RowKit Go.Proofs.YtokelcedamegbaaW.PrintWords Go.Proofs.YtokelcedamegbaaW.PrintLast Go.Proofs.YtokelcedamegbaaW.PrintMore
theorem sel_more (n d m : Nat) (h : m < 2 ^ n) : sel (n + d) m.testBit = sel n m.testBit := by
  induction d with
  | zero => rfl
  | succ d ih =>
    rw [show n + (d + 1) = (n + d) + 1 from rfl, sel_succ, ih, Nat.testBit_lt_two_pow (Nat.lt_of_lt_of_le h (Nat.pow_le_pow_right (by omega) (by omega)))]
    simp
theorem spec_voList.ev (m : Nat) (h : m < 512) : Ev (fun k => spec_voList.f k (m : Int)) (sel 9 m.testBit) := by
  unfold spec_voList.f
  have key := Ev.down (G := fun i k => spec_voList.l0 k (m : Int) (sel i m.testBit) (i : Int)) (R := fun _ => sel 9 m.testBit) 9
    (by refine Ev.shift ?_
        have c0 : (0 : Int) ≤ ((9 : Nat) : Int) := by omega
        have e : m / 2 ^ 9 = 0 := Nat.div_eq_of_lt h
        have c : ¬ (((0 : Nat) : Int) > 0) := by omega
        simp only [spec_voList.l0, c0, ↓reduceIte, shr_nat m 9 (by omega), e, c]
        exact Ev.some)
    (fun i hi ih => by
      refine Ev.shift ?_
      have c0 : (0 : Int) ≤ (i : Int) := by omega
      have c2 : (sel i m.testBit).length < 17592186044416 := by have := sel_len i m.testBit; omega
      rw [sel_succ] at ih
      simp only [spec_voList.l0, c0, ↓reduceIte, shr_nat m i (by omega), tmod_two, c2, w1 hi (by omega)]
      by_cases hz : m / 2 ^ i = 0
      · have c : ¬ (((m / 2 ^ i : Nat) : Int) > 0) := by rw [hz]; decide
        simp only [c, ↓reduceIte]
        refine Ev.eq Ev.some ?_
        have hlt : m < 2 ^ i := by
          rcases Nat.div_eq_zero_iff.1 hz with h | h
          · exact absurd h (by have := Nat.two_pow_pos i; omega)
          · exact h
        have := sel_more i (9 - i) m hlt
        rw [show i + (9 - i) = 9 by omega] at this
        exact this.symm
      · have c : (((m / 2 ^ i : Nat) : Int) > 0) := Int.natCast_pos.2 (Nat.pos_of_ne_zero hz)
        simp only [c, ↓reduceIte]
        cases hb : m.testBit i with
        | true =>
          rw [bit_nat, decide_eq_true_eq] at hb
          have c3 : ((m / 2 ^ i % 2 : Nat) : Int) = 1 := by omega
          rw [bit_nat, show decide (m / 2 ^ i % 2 = 1) = true from decide_eq_true hb, if_pos rfl] at ih
          simp only [c3, ↓reduceIte]
          exact ih
        | false =>
          rw [hb, if_neg (by decide), List.append_nil] at ih
          rw [bit_nat, decide_eq_false_iff_not] at hb
          have c3 : ¬ ((m / 2 ^ i % 2 : Nat) : Int) = 1 := by omega
          simp only [c3, ↓reduceIte]
          exact ih)
  exact key 0 (by omega)
end Go.Proofs.Ytokelcedamegbaa.P

/- How two numbers compare. -/
namespace Go.Proofs.Ytokelcedamegbaa.P
open Go.RowKit Go.Proofs.YtokelcedamegbaaW.PrintWords Go.Proofs.YtokelcedamegbaaW.PrintLast Go.Proofs.YtokelcedamegbaaW.PrintMore
theorem cmp_Compare_int.eq (x y : Int) : cmp_Compare_int.f x y = some (cmpI x y) := by
  have e : ∀ z, cmp_isNaN_int.f z = some false := fun z => by simp [cmp_isNaN_int.f]
  unfold cmp_Compare_int.f cmpI
  rw [e, e]
  simp only [Option.bind_some, Bool.false_eq_true, ↓reduceIte]
  split
  · rfl
  · split <;> rfl
end Go.Proofs.Ytokelcedamegbaa.P

/- Lists in order. -/
namespace Go.Proofs.Ytokelcedamegbaa.P
open Go.RowKit Go.Proofs.YtokelcedamegbaaW.PrintWords Go.Proofs.YtokelcedamegbaaW.PrintLast Go.Proofs.YtokelcedamegbaaW.PrintMore
theorem lexc_drop (a b : List Int) (i : Nat) (h : i < a.length) : lexc (a.drop i) (b.drop i) = if i < b.length then (if cmpI (a.getD i 0) (b.getD i 0) = 0 then lexc (a.drop (i + 1)) (b.drop (i + 1)) else cmpI (a.getD i 0) (b.getD i 0)) else 1 := by
  rw [drop_getD a 0 i h]
  by_cases hb : i < b.length
  · rw [if_pos hb, drop_getD b 0 i hb, lexc]
  · rw [if_neg hb, List.drop_eq_nil_of_le (show b.length ≤ i by omega), lexc]
theorem slices_Compare_int_int.ev (a b : List Int) (ha : a.length ≤ 9223372036854775807) : Ev (fun k => slices_Compare_int_int.f k a b) (lexc a b) := by
  unfold slices_Compare_int_int.f
  have key := Ev.down (G := fun i k => slices_Compare_int_int.l0 k a b a (a.length : Int) (i : Int)) (R := fun i => lexc (a.drop i) (b.drop i)) a.length
    (by refine Ev.shift ?_
        simp only [slices_Compare_int_int.l0, Int.lt_irrefl, ↓reduceIte, List.drop_length]
        by_cases h : (a.length : Int) < (b.length : Int)
        · simp only [h, ↓reduceIte]
          refine Ev.eq Ev.some ?_
          rw [drop_getD b 0 a.length (by omega)]
          rfl
        · simp only [h, ↓reduceIte]
          refine Ev.eq Ev.some ?_
          rw [List.drop_eq_nil_of_le (show b.length ≤ a.length by omega)]
          rfl)
    (fun i hi ih => by
        refine Ev.shift ?_
        have c1 : (i : Int) < (a.length : Int) := by omega
        have c0 : (0 : Int) ≤ (i : Int) := by omega
        rw [lexc_drop a b i hi]
        simp only [slices_Compare_int_int.l0, c1, c0, ↓reduceIte]
        by_cases hb : i < b.length
        · have c2 : ¬ (i : Int) ≥ (b.length : Int) := by omega
          have c3 : (i : Int) < (b.length : Int) := by omega
          simp only [c2, c3, hb, ↓reduceIte, rd_nat]
          refine Ev.bind (Ev.one (cmp_Compare_int.eq _ _)) ?_
          by_cases hc : cmpI (a.getD i 0) (b.getD i 0) = 0
          · simp only [hc, ↓reduceIte, w1 hi ha]
            exact ih
          · simp only [hc, ↓reduceIte]
            exact Ev.some
        · have c2 : (i : Int) ≥ (b.length : Int) := by omega
          simp only [c2, hb, ↓reduceIte]
          exact Ev.some)
  exact key 0 (Nat.zero_le _)
theorem spec_voBefore.ev (a b : List Int) (ha : a.length ≤ 9223372036854775807) : Ev (fun k => spec_voBefore.f k a b) (decide (lexc a b < 0)) := by
  unfold spec_voBefore.f
  have fin : ∀ i, i ≤ a.length → (¬ i < a.length ∨ ¬ i < b.length) → i ≤ b.length → Ev (fun k => spec_voBefore.j1 k a b (i : Int) false) (decide (lexc (a.drop i) (b.drop i) < 0)) := by
    intro i h1 h2 h3
    refine Ev.shift ?_
    simp only [spec_voBefore.j1, Bool.false_eq_true, ↓reduceIte]
    refine Ev.eq Ev.some ?_
    rw [decide_eq_decide]
    by_cases hb : i < b.length
    · have ea : i = a.length := by omega
      rw [ea, List.drop_length, drop_getD b 0 a.length (by omega), lexc]
      omega
    · rw [List.drop_eq_nil_of_le (show b.length ≤ i by omega)]
      by_cases hai : i < a.length
      · rw [drop_getD a 0 i hai, lexc]; omega
      · rw [List.drop_eq_nil_of_le (show a.length ≤ i by omega), lexc]; omega
  have key := back (P := fun i => i ≤ b.length → Ev (fun k => spec_voBefore.l0 k a b (i : Int)) (decide (lexc (a.drop i) (b.drop i) < 0))) a.length
    (by intro h3
        refine Ev.shift ?_
        simp only [spec_voBefore.l0, Int.lt_irrefl, ↓reduceIte]
        exact fin a.length (Nat.le_refl _) (.inl (by omega)) h3)
    (by intro i hi ih h3
        refine Ev.shift ?_
        have c1 : (i : Int) < (a.length : Int) := by omega
        have c0 : (0 : Int) ≤ (i : Int) := by omega
        simp only [spec_voBefore.l0, c1, ↓reduceIte]
        by_cases hb : i < b.length
        · have c2 : (i : Int) < (b.length : Int) := by omega
          simp only [c2, decide_true]
          refine Ev.shift ?_
          rw [lexc_drop a b i hi, if_pos hb]
          simp only [spec_voBefore.j1, ↓reduceIte, c0, c1, c2, rd_nat, w1 hi ha]
          by_cases he : a.getD i 0 = b.getD i 0
          · have hc : cmpI (b.getD i 0) (b.getD i 0) = 0 := by simp [cmpI]
            simp only [he, ↓reduceIte, hc]
            exact ih (by omega)
          · have hc : ¬ cmpI (a.getD i 0) (b.getD i 0) = 0 := by unfold cmpI; split; omega; split <;> omega
            simp only [he, ↓reduceIte, hc]
            refine Ev.eq Ev.some ?_
            rw [decide_eq_decide]
            unfold cmpI
            split
            · omega
            · split <;> omega
        · have c2 : ¬ (i : Int) < (b.length : Int) := by omega
          simp only [c2, decide_false]
          exact fin i (by omega) (.inr hb) h3)
  exact key 0 (Nat.zero_le _) (Nat.zero_le _)
end Go.Proofs.Ytokelcedamegbaa.P

/- Lists put in order one by one. No program in sight. -/
namespace Go.Proofs.Ytokelcedamegbaa.P
section
variable {α : Type} (row : α → List Int)
def ltR (y x : α) : Bool := decide (lexc (row y) (row x) < 0)
def insR (x : α) (o : List α) : List α := o.takeWhile (fun y => ltR row y x) ++ x :: o.dropWhile (fun y => ltR row y x)
def istR (l : List α) : List α := l.foldl (fun o x => insR row x o) []
theorem insR_perm (x : α) (o : List α) : (insR row x o).Perm (x :: o) := by
  unfold insR
  refine List.perm_middle.trans ?_
  rw [List.takeWhile_append_dropWhile]
theorem insR_pair (x : α) (o : List α) (h : o.Pairwise (fun a b => lexL (row a) (row b) = true)) : (insR row x o).Pairwise (fun a b => lexL (row a) (row b) = true) := by
  induction o with
  | nil => simp [insR]
  | cons y o ih =>
    rw [List.pairwise_cons] at h
    by_cases c : ltR row y x = true
    · have e : insR row x (y :: o) = y :: insR row x o := by
        unfold insR
        rw [List.takeWhile_cons_of_pos (by exact c), List.dropWhile_cons_of_pos (by exact c)]
        rfl
      rw [e, List.pairwise_cons]
      refine ⟨fun z hz => ?_, ih h.2⟩
      rcases List.mem_cons.1 ((insR_perm row x o).mem_iff.1 hz) with rfl | hz
      · have := of_decide_eq_true c
        exact decide_eq_true (by omega)
      · exact h.1 z hz
    · have e : insR row x (y :: o) = x :: y :: o := by
        unfold insR
        rw [List.takeWhile_cons_of_neg (by exact c), List.dropWhile_cons_of_neg (by exact c)]
        rfl
      rw [e, List.pairwise_cons]
      have c' : ¬ lexc (row y) (row x) < 0 := fun z => c (decide_eq_true z)
      have s := lexc_swap (row y) (row x)
      have hxy : lexL (row x) (row y) = true := decide_eq_true (by omega)
      refine ⟨fun z hz => ?_, List.pairwise_cons.2 h⟩
      rcases List.mem_cons.1 hz with rfl | hz
      · exact hxy
      · exact lexL_trans _ _ _ hxy (h.1 z hz)
theorem istR_from (l o : List α) (h : o.Pairwise (fun a b => lexL (row a) (row b) = true)) : (l.foldl (fun o x => insR row x o) o).Perm (l ++ o) ∧ (l.foldl (fun o x => insR row x o) o).Pairwise (fun a b => lexL (row a) (row b) = true) := by
  induction l generalizing o with
  | nil => exact ⟨List.Perm.refl _, h⟩
  | cons x l ih =>
    rw [List.foldl_cons]
    obtain ⟨h1, h2⟩ := ih (insR row x o) (insR_pair row x o h)
    refine ⟨h1.trans ?_, h2⟩
    refine (List.Perm.append_left l (insR_perm row x o)).trans ?_
    rw [List.cons_append]
    exact List.perm_middle
theorem istR_perm (l : List α) : (istR row l).Perm l := by have := (istR_from row l [] List.Pairwise.nil).1; rwa [List.append_nil] at this
theorem istR_pair (l : List α) : (istR row l).Pairwise (fun a b => lexL (row a) (row b) = true) := (istR_from row l [] List.Pairwise.nil).2
theorem istR_rows (l : List α) : (istR row l).map row = sorted (l.map row) := by
  refine sorted_of ((istR_perm row l).map row) ?_
  rw [List.pairwise_map]
  exact istR_pair row l
theorem tw_spec (p : α → Bool) (d : α) (o : List α) : (∀ j, j < (o.takeWhile p).length → p (o.getD j d) = true) ∧ ((o.takeWhile p).length < o.length → p (o.getD (o.takeWhile p).length d) = false) ∧ o.takeWhile p = o.take (o.takeWhile p).length ∧ o.dropWhile p = o.drop (o.takeWhile p).length ∧ (o.takeWhile p).length ≤ o.length := by
  induction o with
  | nil => exact ⟨fun j h => absurd h (by simp), fun h => absurd h (by simp), rfl, rfl, Nat.le_refl _⟩
  | cons y o ih =>
    obtain ⟨h1, h2, h3, h4, h5⟩ := ih
    by_cases c : p y = true
    · rw [List.takeWhile_cons_of_pos c, List.dropWhile_cons_of_pos c, List.length_cons, List.length_cons]
      refine ⟨fun j hj => ?_, fun hj => ?_, ?_, ?_, by omega⟩
      · cases j with
        | zero => exact c
        | succ j => rw [List.getD_cons_succ]; exact h1 j (by omega)
      · rw [List.getD_cons_succ]; exact h2 (by omega)
      · rw [List.take_succ_cons, ← h3]
      · rw [List.drop_succ_cons, ← h4]
    · rw [List.takeWhile_cons_of_neg c, List.dropWhile_cons_of_neg c, List.length_nil]
      refine ⟨fun j hj => absurd hj (by omega), fun _ => ?_, rfl, rfl, Nat.zero_le _⟩
      rw [List.getD_cons_zero]
      exact Bool.eq_false_iff.2 c
end
end Go.Proofs.Ytokelcedamegbaa.P

/- Plain laws of the printed functions on committees: what each answers. -/
namespace Go.Proofs.Ytokelcedamegbaa.P
open Go.RowKit Go.Proofs.YtokelcedamegbaaW.PrintWords Go.Proofs.YtokelcedamegbaaW.PrintLast Go.Proofs.YtokelcedamegbaaW.PrintMore
theorem impl_within.eq (a b c : Int) : impl_within.f a b c = some (inI b c a) := by
  unfold impl_within.f inI
  by_cases h : a ≥ b
  · have h' : b ≤ a := h
    simp [h']
  · have h' : ¬ b ≤ a := h
    simp [h']
theorem spec_l1In.eq (a b c : Int) : spec_l1In.f a b c = some (inI b c a) := by
  unfold spec_l1In.f inI
  by_cases h : a ≥ b
  · have h' : b ≤ a := h
    simp [h']
  · have h' : ¬ b ≤ a := h
    simp [h']
theorem impl_sumOf.ev (l : List Int) (hm : l.length ≤ 9223372036854775807) : Ev (fun k => impl_sumOf.f k l) (wsum l) := by
  have key := Ev.down (G := fun i k => impl_sumOf.l0 k ((l.take i).foldl (fun s x => wrap64 (s + x)) 0) l (l.length : Int) (i : Int)) (R := fun _ => wsum l) l.length
    (by refine Ev.shift ?_
        simp only [impl_sumOf.l0, Int.lt_irrefl, ↓reduceIte, List.take_length]
        exact Ev.some)
    (fun i hi ih => by
        refine Ev.shift ?_
        have c1 : (i : Int) < (l.length : Int) := by omega
        have c0 : (0 : Int) ≤ (i : Int) := by omega
        simp only [impl_sumOf.l0, c1, c0, ↓reduceIte, w1 hi hm, rd_nat]
        rw [foldl_take _ _ l 0 i hi] at ih
        exact ih)
  exact key 0 (Nat.zero_le _)
theorem spec_voSum.ev (l : List Int) (hm : l.length ≤ 9223372036854775807) : Ev (fun k => spec_voSum.f k l) (wsum l) := by
  have key := Ev.down (G := fun i k => spec_voSum.l0 k ((l.take i).foldl (fun s x => wrap64 (s + x)) 0) l (l.length : Int) (i : Int)) (R := fun _ => wsum l) l.length
    (by refine Ev.shift ?_
        simp only [spec_voSum.l0, Int.lt_irrefl, ↓reduceIte, List.take_length]
        exact Ev.some)
    (fun i hi ih => by
        refine Ev.shift ?_
        have c1 : (i : Int) < (l.length : Int) := by omega
        have c0 : (0 : Int) ≤ (i : Int) := by omega
        simp only [spec_voSum.l0, c1, c0, ↓reduceIte, w1 hi hm, rd_nat]
        rw [foldl_take _ _ l 0 i hi] at ih
        exact ih)
  exact key 0 (Nat.zero_le _)
theorem isComm_eq (q : Int) (l : List Int) : isComm q l = if (1 ≤ l.length ∧ l.length ≤ 9) ∧ l.all (inI 0 1000) = true then inI 1 (wsum l) q else false := by
  unfold isComm
  by_cases h : (1 ≤ l.length ∧ l.length ≤ 9) ∧ l.all (inI 0 1000) = true
  · have hm : ∀ x ∈ l, 0 ≤ x ∧ x ≤ 1000 := by
      have := h.2
      simp [inI] at this
      exact this
    rw [if_pos h, wsum_eq l hm (by omega)]
    simp only [h.1.1, h.1.2, h.2, decide_true, Bool.true_and]
  · rw [if_neg h]
    by_cases h1 : 1 ≤ l.length
    · by_cases h2 : l.length ≤ 9
      · have h3 : l.all (inI 0 1000) = false := by
          cases h4 : l.all (inI 0 1000) with
          | true => exact absurd ⟨⟨h1, h2⟩, h4⟩ h
          | false => rfl
        simp only [h3, Bool.and_false, Bool.false_and]
      · simp only [h2, decide_false, Bool.and_false, Bool.false_and]
    · simp only [h1, decide_false, Bool.false_and]
theorem slices_IndexFunc_int_int.ev (l : List Int) (hm : l.length ≤ 9223372036854775807) (p : Nat → Int → Option Bool) (P : Int → Bool) (h : ∀ x ∈ l, Ev (fun k => p k x) (P x)) : Ev (fun k => slices_IndexFunc_int_int.f k l (p k)) (idxFrom P 0 l) := by
  refine Ev.ask (F := fun k q => slices_IndexFunc_int_int.f k l q) l h ⟨l.length + 1, fun k hk q hq => ?_⟩
  unfold slices_IndexFunc_int_int.f
  have := downq (G := fun i k => slices_IndexFunc_int_int.l0 k l q (l.length : Int) (i : Int)) (R := fun i => idxFrom P i (l.drop i)) l.length
    (by intro k; simp only [slices_IndexFunc_int_int.l0, Int.lt_irrefl, ↓reduceIte, List.drop_length, idxFrom])
    (fun i hi k ih => by
      have c1 : (i : Int) < (l.length : Int) := by omega
      have c0 : (0 : Int) ≤ (i : Int) := by omega
      simp only [slices_IndexFunc_int_int.l0, c1, c0, ↓reduceIte, w1 hi hm, rd_nat, hq _ (getD_mem l 0 i hi), Option.bind_some]
      rw [drop_getD l 0 i hi, idxFrom, ih]
      split <;> rfl) 0 (Nat.zero_le _) k (by omega)
  rwa [List.drop_zero] at this
theorem slices_ContainsFunc_int_int.ev (l : List Int) (hm : l.length ≤ 9223372036854775807) (p : Nat → Int → Option Bool) (P : Int → Bool) (h : ∀ x ∈ l, Ev (fun k => p k x) (P x)) : Ev (fun k => slices_ContainsFunc_int_int.f k l (p k)) (l.any P) := by
  unfold slices_ContainsFunc_int_int.f
  refine Ev.bind (slices_IndexFunc_int_int.ev l hm p P h) ?_
  rw [idxFrom_nn]
  exact Ev.some
theorem impl_areIn.ev (l : List Int) (a b : Int) (hm : l.length ≤ 9223372036854775807) : Ev (fun k => impl_areIn.f k l a b) (l.all (inI a b)) := by
  unfold impl_areIn.f
  refine Ev.bind (slices_ContainsFunc_int_int.ev l hm (fun _ x => impl_areIn_1.f x a b) (fun x => !inI a b x) (fun x _ => ?_)) ?_
  · simp only [impl_areIn_1.f, impl_within.eq, Option.bind_some]; exact Ev.some
  · rw [all_any]; exact Ev.some
theorem impl_IsCommittee.ev (q : Int) (l : List Int) (hm : l.length ≤ 9223372036854775807) : Ev (fun k => impl_IsCommittee.f k q l) (isComm q l) := by
  rw [isComm_eq]
  unfold impl_IsCommittee.f
  by_cases h1 : 1 ≤ l.length
  · have c1 : (l.length : Int) ≥ 1 := by omega
    by_cases h2 : l.length ≤ 9
    · have c2 : (l.length : Int) ≤ 9 := by omega
      simp only [c1, c2, h1, h2, ↓reduceIte, and_self, true_and]
      refine Ev.bind (impl_areIn.ev l 0 1000 hm) ?_
      by_cases h3 : l.all (inI 0 1000) = true
      · simp only [h3, ↓reduceIte]
        refine Ev.bind (impl_sumOf.ev l hm) ?_
        simp only [impl_within.eq, Option.bind_some]
        exact Ev.some
      · simp only [h3]
        exact Ev.some
    · have c2 : ¬ (l.length : Int) ≤ 9 := by omega
      simp only [c1, c2, h2, ↓reduceIte, and_false, false_and]
      exact Ev.some
  · have c1 : ¬ (l.length : Int) ≥ 1 := by omega
    simp only [c1, h1, ↓reduceIte, false_and]
    exact Ev.some
theorem spec_l1All.ev (l : List Int) (a b : Int) (hm : l.length ≤ 9223372036854775807) : Ev (fun k => spec_l1All.f k l a b) (l.all (inI a b)) := by
  have key := Ev.down (G := fun i k => spec_l1All.l0 k a b l (l.length : Int) (i : Int)) (R := fun i => (l.drop i).all (inI a b)) l.length
    (by refine Ev.shift ?_
        simp only [spec_l1All.l0, Int.lt_irrefl, ↓reduceIte, List.drop_length, List.all_nil]
        exact Ev.some)
    (fun i hi ih => by
        refine Ev.shift ?_
        have c1 : (i : Int) < (l.length : Int) := by omega
        have c0 : (0 : Int) ≤ (i : Int) := by omega
        simp only [spec_l1All.l0, c1, c0, ↓reduceIte, w1 hi hm, rd_nat, spec_l1In.eq, Option.bind_some]
        rw [drop_getD l 0 i hi, List.all_cons]
        cases h : inI a b (l.getD i 0) with
        | true => simp only [↓reduceIte, Bool.true_and]; exact ih
        | false => simp only [Bool.false_eq_true, ↓reduceIte, Bool.false_and]; exact Ev.some)
  exact key 0 (Nat.zero_le _)
theorem spec_voGood.ev (q : Int) (l : List Int) (hm : l.length ≤ 9223372036854775807) : Ev (fun k => spec_voGood.f k q l) (isComm q l) := by
  rw [isComm_eq]
  unfold spec_voGood.f
  simp only [spec_l1In.eq, Option.bind_some]
  have e : inI 1 9 (l.length : Int) = decide (1 ≤ l.length ∧ l.length ≤ 9) := by
    unfold inI; rw [Bool.eq_iff_iff]; simp; omega
  rw [e]
  by_cases h : 1 ≤ l.length ∧ l.length ≤ 9
  · simp only [h, decide_true, ↓reduceIte, and_self, true_and]
    refine Ev.bind (spec_l1All.ev l 0 1000 hm) ?_
    refine Ev.shift ?_
    by_cases h3 : l.all (inI 0 1000) = true
    · simp only [spec_voGood.j0, h3, Bool.not_true, Bool.false_eq_true, ↓reduceIte]
      refine Ev.bind (spec_voSum.ev l hm) ?_
      simp only [spec_l1In.eq, Option.bind_some]
      exact Ev.some
    · have h4 : l.all (inI 0 1000) = false := by simpa using h3
      simp only [spec_voGood.j0, h4, Bool.not_false, Bool.false_eq_true, ↓reduceIte]
      exact Ev.some
  · simp only [h, decide_false, Bool.false_eq_true, ↓reduceIte, false_and]
    refine Ev.shift ?_
    simp only [spec_voGood.j0, ↓reduceIte]
    exact Ev.some
/-! ### the law's own words -/
theorem laws_toIntS.ev (l : List Int) (hm : l.length ≤ 1048576) : Ev (fun k => laws_toIntS.f k l) l := by
  unfold laws_toIntS.f
  have c1 : (0 : Int) ≤ (l.length : Int) := by omega
  have c2 : l.length ≤ 35184372088832 := by omega
  simp only [c1, c2, ↓reduceIte, Int.toNat_natCast]
  have key := Ev.down (G := fun i k => laws_toIntS.l0 k l (filled l 0 i) (i : Int)) (R := fun _ => l) l.length
    (by refine Ev.shift ?_
        simp only [laws_toIntS.l0, Int.lt_irrefl, ↓reduceIte, filled_all]
        exact Ev.some)
    (fun i hi ih => by
        refine Ev.shift ?_
        have c1 : (i : Int) < (l.length : Int) := by omega
        have c0 : (0 : Int) ≤ (i : Int) := by omega
        simp only [laws_toIntS.l0, filled_len l 0 i (by omega), c1, c0, ↓reduceIte, w1 hi (by omega), rd_nat, Int.toNat_natCast, filled_set l 0 0 i hi]
        exact ih)
  have := key 0 (Nat.zero_le _)
  rw [filled_zero] at this
  exact this
theorem laws_toCommittee.ev (q : Int) (l : List Int) (hm : l.length ≤ 1048576) : Ev (fun k => laws_toCommittee.f k q l) (q, l) := by
  unfold laws_toCommittee.f
  exact Ev.bind (laws_toIntS.ev l hm) Ev.some
theorem laws_eqIntS.ev (l : List Int) (hm : l.length ≤ 9223372036854775807) : Ev (fun k => laws_eqIntS.f k l l) true := by
  unfold laws_eqIntS.f
  simp only [↓reduceIte]
  have key := Ev.down (G := fun i k => laws_eqIntS.l0 k l l (i : Int)) (R := fun _ => true) l.length
    (by refine Ev.shift ?_
        simp only [laws_eqIntS.l0, Int.lt_irrefl, ↓reduceIte]
        exact Ev.some)
    (fun i hi ih => by
        refine Ev.shift ?_
        have c1 : (i : Int) < (l.length : Int) := by omega
        have c0 : (0 : Int) ≤ (i : Int) := by omega
        simp only [laws_eqIntS.l0, c1, c0, ↓reduceIte, w1 hi hm]
        exact ih)
  exact key 0 (Nat.zero_le _)
theorem laws_eqCommittee.ev (q : Int) (l : List Int) (hm : l.length ≤ 9223372036854775807) : Ev (fun k => laws_eqCommittee.f k q l q l) true := by
  unfold laws_eqCommittee.f
  simp only [↓reduceIte]
  refine Ev.bind (laws_eqIntS.ev l hm) ?_
  simp only [↓reduceIte]
  exact Ev.some
theorem laws_szIntS.eq (l : List Int) (n : Int) (hm : l.length ≤ 9223372036854775807) (h0 : 0 ≤ n) (h1 : n ≤ 1048576) : laws_szIntS.f l n = some (if n < l.length then -1 else n - l.length) := by
  unfold laws_szIntS.f
  rw [w64 (by omega) (by omega)]
  by_cases h : n < l.length
  · rw [if_pos (by omega), if_pos h]
  · rw [if_neg (by omega), if_neg h]
theorem laws_szCommittee.eq (q : Int) (l : List Int) (n : Int) (hm : l.length ≤ 9223372036854775807) (h0 : 0 ≤ n) (h1 : n ≤ 1048576) : laws_szCommittee.f q l n = some (if n < l.length then -1 else n - l.length) := by
  unfold laws_szCommittee.f
  rw [laws_szIntS.eq l n hm h0 h1, Option.bind_some]
  by_cases h : n < l.length
  · rw [if_pos h, if_pos (by omega)]
  · rw [if_neg h, if_neg (by omega)]
end Go.Proofs.Ytokelcedamegbaa.P

/- Sets of which none holds another: of nine members there are at most 126. No program in sight. -/
namespace Go.Proofs.Ytokelcedamegbaa.P
def risers : List (List Nat) := [
  [0, 1, 3, 7, 15, 31, 63, 127, 255, 511], [2, 6, 14, 30, 62, 126, 254, 510], [4, 5, 13, 29, 61, 125, 253, 509], [8, 9, 11, 27, 59, 123, 251, 507], [10, 26, 58, 122, 250, 506], [12, 28, 60, 124, 252, 508], [16, 17, 19, 23, 55, 119, 247, 503], [18, 22, 54, 118, 246, 502], [20, 21, 53, 117, 245, 501],
  [24, 25, 57, 121, 249, 505], [32, 33, 35, 39, 47, 111, 239, 495], [34, 38, 46, 110, 238, 494], [36, 37, 45, 109, 237, 493], [40, 41, 43, 107, 235, 491], [42, 106, 234, 490], [44, 108, 236, 492], [48, 49, 51, 115, 243, 499], [50, 114, 242, 498],
  [52, 116, 244, 500], [56, 120, 248, 504], [64, 65, 67, 71, 79, 95, 223, 479], [66, 70, 78, 94, 222, 478], [68, 69, 77, 93, 221, 477], [72, 73, 75, 91, 219, 475], [74, 90, 218, 474], [76, 92, 220, 476], [80, 81, 83, 87, 215, 471],
  [82, 86, 214, 470], [84, 85, 213, 469], [88, 89, 217, 473], [96, 97, 99, 103, 231, 487], [98, 102, 230, 486], [100, 101, 229, 485], [104, 105, 233, 489], [112, 113, 241, 497], [128, 129, 131, 135, 143, 159, 191, 447],
  [130, 134, 142, 158, 190, 446], [132, 133, 141, 157, 189, 445], [136, 137, 139, 155, 187, 443], [138, 154, 186, 442], [140, 156, 188, 444], [144, 145, 147, 151, 183, 439], [146, 150, 182, 438], [148, 149, 181, 437], [152, 153, 185, 441],
  [160, 161, 163, 167, 175, 431], [162, 166, 174, 430], [164, 165, 173, 429], [168, 169, 171, 427], [170, 426], [172, 428], [176, 177, 179, 435], [178, 434], [180, 436],
  [184, 440], [192, 193, 195, 199, 207, 463], [194, 198, 206, 462], [196, 197, 205, 461], [200, 201, 203, 459], [202, 458], [204, 460], [208, 209, 211, 467], [210, 466],
  [212, 468], [216, 472], [224, 225, 227, 483], [226, 482], [228, 484], [232, 488], [240, 496], [256, 257, 259, 263, 271, 287, 319, 383], [258, 262, 270, 286, 318, 382],
  [260, 261, 269, 285, 317, 381], [264, 265, 267, 283, 315, 379], [266, 282, 314, 378], [268, 284, 316, 380], [272, 273, 275, 279, 311, 375], [274, 278, 310, 374], [276, 277, 309, 373], [280, 281, 313, 377], [288, 289, 291, 295, 303, 367],
  [290, 294, 302, 366], [292, 293, 301, 365], [296, 297, 299, 363], [298, 362], [300, 364], [304, 305, 307, 371], [306, 370], [308, 372], [312, 376],
  [320, 321, 323, 327, 335, 351], [322, 326, 334, 350], [324, 325, 333, 349], [328, 329, 331, 347], [330, 346], [332, 348], [336, 337, 339, 343], [338, 342], [340, 341],
  [344, 345], [352, 353, 355, 359], [354, 358], [356, 357], [360, 361], [368, 369], [384, 385, 387, 391, 399, 415], [386, 390, 398, 414], [388, 389, 397, 413],
  [392, 393, 395, 411], [394, 410], [396, 412], [400, 401, 403, 407], [402, 406], [404, 405], [408, 409], [416, 417, 419, 423], [418, 422],
  [420, 421], [424, 425], [432, 433], [448, 449, 451, 455], [450, 454], [452, 453], [456, 457], [464, 465], [480, 481]]
def rises : List Nat → Bool
  | a :: b :: l => (a &&& b == a) && rises (b :: l)
  | _ => true
theorem risers_rise : (risers.all rises) = true := by decide +kernel
theorem risers_all : ((List.range 512).all fun m => risers.any fun c => c.contains m) = true := by decide +kernel
theorem risers_len : risers.length = 126 := by decide +kernel
theorem and_trans {a b c : Nat} (h1 : a &&& b = a) (h2 : b &&& c = b) : a &&& c = a := by
  calc a &&& c = a &&& b &&& c := by rw [h1]
    _ = a &&& (b &&& c) := Nat.and_assoc ..
    _ = a &&& b := by rw [h2]
    _ = a := h1
theorem rises_head {a : Nat} {l : List Nat} (h : rises (a :: l) = true) : ∀ x ∈ l, a &&& x = a := by
  induction l generalizing a with
  | nil => intro x hx; simp at hx
  | cons b l ih =>
    simp only [rises, Bool.and_eq_true, beq_iff_eq] at h
    intro x hx
    rcases List.mem_cons.1 hx with rfl | hx
    · exact h.1
    · exact and_trans h.1 (ih h.2 x hx)
theorem rises_pair {l : List Nat} (h : rises l = true) : ∀ x ∈ l, ∀ y ∈ l, x &&& y = x ∨ x &&& y = y := by
  induction l with
  | nil => intro x hx; simp at hx
  | cons a l ih =>
    have ht : rises l = true := by
      cases l with
      | nil => rfl
      | cons b l => simp only [rises, Bool.and_eq_true] at h; exact h.2
    have hh := rises_head h
    intro x hx y hy
    rcases List.mem_cons.1 hx with ex | hx <;> rcases List.mem_cons.1 hy with ey | hy
    · left; rw [ex, ey]; exact Nat.and_self a
    · left; rw [ex]; exact hh y hy
    · right; rw [ey, Nat.and_comm]; exact hh x hx
    · exact ih ht x hx y hy
def Apart (a b : Nat) : Prop := ¬ a &&& b = a ∧ ¬ a &&& b = b
theorem count_chain {c : List Nat} (hc : rises c = true) (L : List Nat) (hL : L.Pairwise Apart) : L.countP (fun m => c.contains m) ≤ 1 := by
  induction L with
  | nil => simp
  | cons m L ih =>
    rw [List.pairwise_cons] at hL
    have h1 := ih hL.2
    rw [List.countP_cons]
    split
    · rename_i hm
      have : L.countP (fun m => c.contains m) = 0 := by
        rw [List.countP_eq_zero]
        intro x hx hcx
        have := rises_pair hc m (by simpa using hm) x (by simpa using hcx)
        have hap := hL.1 x hx
        rcases this with h | h
        · exact hap.1 h
        · exact hap.2 h
      omega
    · omega
theorem sum_ones {α : Type} (cs : List α) (f : α → Nat) (h : ∀ c ∈ cs, f c ≤ 1) : (cs.map f).sum ≤ cs.length := by
  induction cs with
  | nil => simp
  | cons c cs ih =>
    have h1 := h c (by simp)
    have h2 := ih (fun x hx => h x (by simp [hx]))
    simp only [List.map_cons, List.sum_cons, List.length_cons]
    omega
theorem sum_add_one {α : Type} (cs : List α) (f g : α → Nat) (h : ∀ c ∈ cs, f c ≤ g c) (h1 : ∃ c ∈ cs, f c < g c) : (cs.map f).sum + 1 ≤ (cs.map g).sum := by
  have le : ∀ cs : List α, (∀ c ∈ cs, f c ≤ g c) → (cs.map f).sum ≤ (cs.map g).sum := by
    intro cs
    induction cs with
    | nil => intro _; simp
    | cons c cs ih =>
      intro h
      have a := h c (by simp)
      have b := ih (fun x hx => h x (by simp [hx]))
      simp only [List.map_cons, List.sum_cons]
      omega
  induction cs with
  | nil => obtain ⟨c, hc, _⟩ := h1; simp at hc
  | cons c cs ih =>
    obtain ⟨d, hd, hlt⟩ := h1
    simp only [List.map_cons, List.sum_cons]
    rcases List.mem_cons.1 hd with rfl | hd
    · have := le cs (fun x hx => h x (by simp [hx]))
      omega
    · have a := h c (by simp)
      have b := ih (fun x hx => h x (by simp [hx])) ⟨d, hd, hlt⟩
      omega
theorem few_apart (L : List Nat) (hL : L.Pairwise Apart) (hb : ∀ m ∈ L, m < 512) : L.length ≤ 126 := by
  have key : ∀ L : List Nat, (∀ m ∈ L, m < 512) → L.length ≤ (risers.map fun c => L.countP fun m => c.contains m).sum := by
    intro L
    induction L with
    | nil => intro _; simp
    | cons m L ih =>
      intro hb
      have h1 := ih (fun x hx => hb x (by simp [hx]))
      have hall := risers_all
      rw [List.all_eq_true] at hall
      have hm := hall m (List.mem_range.2 (hb m (by simp)))
      rw [List.any_eq_true] at hm
      obtain ⟨c, hc, hcm⟩ := hm
      have := sum_add_one risers (fun c => L.countP fun m => c.contains m) (fun c => (m :: L).countP fun m => c.contains m) (fun c _ => by rw [List.countP_cons]; omega) ⟨c, hc, by rw [List.countP_cons, if_pos hcm]; omega⟩
      rw [List.length_cons]
      omega
  have h1 := key L hb
  have hr := risers_rise
  rw [List.all_eq_true] at hr
  have h2 := sum_ones risers (fun c => L.countP fun m => c.contains m) (fun c hc => count_chain (hr c hc) L hL)
  rw [risers_len] at h2
  omega
end Go.Proofs.Ytokelcedamegbaa.P

/- Sets. -/
namespace Go.Proofs.Ytokelcedamegbaa.P
open Go.RowKit Go.Proofs.YtokelcedamegbaaW.PrintWords Go.Proofs.YtokelcedamegbaaW.PrintLast Go.Proofs.YtokelcedamegbaaW.PrintMore
theorem impl_isIncreasing.ev (l : List Int) (hl : l.length ≤ 9223372036854775807) : Ev (fun k => impl_isIncreasing.f k l) (allF (incr l) l.length 0) := by
  have key := Ev.down (G := fun i k => impl_isIncreasing.l0 k l (l.length : Int) (i : Int)) (R := fun i => allF (incr l) l.length i) l.length
    (by refine Ev.shift ?_
        simp only [impl_isIncreasing.l0, Int.lt_irrefl, ↓reduceIte, allF_end]
        exact Ev.some)
    (fun i hi ih => by
        refine Ev.shift ?_
        have c1 : (i : Int) < (l.length : Int) := by omega
        have c0 : (0 : Int) ≤ (i : Int) := by omega
        rw [allF_step _ _ _ hi]
        simp only [impl_isIncreasing.l0, c1, c0, ↓reduceIte, w1 hi hl]
        by_cases h0 : i = 0
        · subst h0
          simp only [show ¬ ((0 : Nat) : Int) > 0 by omega, ↓reduceIte, incr, beq_self_eq_true, Bool.true_or, Bool.true_and]
          exact ih
        · have c2 : (i : Int) > 0 := by omega
          have e : wrap64 ((i : Int) - 1) = ((i - 1 : Nat) : Int) := by rw [w64 (by omega) (by omega)]; omega
          have c3 : (0 : Int) ≤ ((i - 1 : Nat) : Int) := by omega
          have c4 : ((i - 1 : Nat) : Int) < (l.length : Int) := by omega
          have hb : (i == 0) = false := by simp [h0]
          simp only [c2, ↓reduceIte, e, c3, c4, rd_nat, incr, hb, Bool.false_or]
          by_cases h1 : l.getD (i - 1) 0 < l.getD i 0
          · have h2 : ¬ l.getD i 0 ≤ l.getD (i - 1) 0 := by omega
            simp only [h1, h2, ↓reduceIte, decide_true, Bool.true_and]
            exact ih
          · have h2 : l.getD i 0 ≤ l.getD (i - 1) 0 := by omega
            simp only [h1, h2, ↓reduceIte, decide_false, Bool.false_and]
            exact Ev.some)
  exact key 0 (Nat.zero_le _)
theorem impl_isSet.ev (l : List Int) (n : Int) (hl : l.length ≤ 9223372036854775807) (h0 : -9000 ≤ n) (h1 : n ≤ 9223372036854775807) : Ev (fun k => impl_isSet.f k l n) (isSetN l n) := by
  unfold impl_isSet.f isSetN
  rw [w64 (by omega) (by omega)]
  refine Ev.bind (impl_areIn.ev l 0 (n - 1) hl) ?_
  cases l.all (inI 0 (n - 1)) with
  | false => exact Ev.some
  | true =>
    simp only [↓reduceIte, Bool.true_and]
    exact Ev.bind (impl_isIncreasing.ev l hl) Ev.some
end Go.Proofs.Ytokelcedamegbaa.P

/- Sets. -/
namespace Go.Proofs.Ytokelcedamegbaa.P
open Go.RowKit Go.Proofs.YtokelcedamegbaaW.PrintWords Go.Proofs.YtokelcedamegbaaW.PrintLast Go.Proofs.YtokelcedamegbaaW.PrintMore
theorem spec_voSet.ev (l : List Int) (n : Int) (hl : l.length ≤ 9223372036854775807) (h0 : -9000 ≤ n) (h1 : n ≤ 9223372036854775807) : Ev (fun k => spec_voSet.f k n l) (isSetN l n) := by
  unfold spec_voSet.f isSetN
  rw [w64 (by omega) (by omega)]
  refine Ev.bind (a := l.all (inI 0 (n - 1)) && allF (incr l) l.length 0) ?_ Ev.some
  have e : (l.all (inI 0 (n - 1)) && allF (incr l) l.length 0) = allF (fun j => inI 0 (n - 1) (l.getD j 0) && incr l j) l.length 0 := by
    rw [allF_and, allF_drop (inI 0 (n - 1)) l 0 0 (Nat.zero_le _), List.drop_zero]
  rw [e]
  have key := Ev.down (G := fun i k => spec_l1Rising.l0 k l 0 (n - 1) l (l.length : Int) (i : Int)) (R := fun i => allF (fun j => inI 0 (n - 1) (l.getD j 0) && incr l j) l.length i) l.length
    (by refine Ev.shift ?_
        simp only [spec_l1Rising.l0, Int.lt_irrefl, ↓reduceIte, allF_end]
        exact Ev.some)
    (fun i hi ih => by
        refine Ev.shift ?_
        have c1 : (i : Int) < (l.length : Int) := by omega
        have c0 : (0 : Int) ≤ (i : Int) := by omega
        rw [allF_step _ _ _ hi]
        simp only [spec_l1Rising.l0, c1, c0, ↓reduceIte, w1 hi hl, spec_l1In.eq, Option.bind_some, rd_nat]
        cases inI 0 (n - 1) (l.getD i 0) with
        | false => simp only [Bool.false_eq_true, ↓reduceIte, Bool.false_and]; exact Ev.some
        | true =>
          simp only [↓reduceIte, Bool.true_and]
          by_cases h0 : i = 0
          · subst h0
            simp only [show ¬ ((0 : Nat) : Int) > 0 by omega, ↓reduceIte, incr, beq_self_eq_true, Bool.true_or, Bool.true_and]
            exact ih
          · have c2 : (i : Int) > 0 := by omega
            have e : wrap64 ((i : Int) - 1) = ((i - 1 : Nat) : Int) := by rw [w64 (by omega) (by omega)]; omega
            have c3 : (0 : Int) ≤ ((i - 1 : Nat) : Int) := by omega
            have c4 : ((i - 1 : Nat) : Int) < (l.length : Int) := by omega
            have hb : (i == 0) = false := by simp [h0]
            simp only [c2, ↓reduceIte, e, c3, c4, rd_nat, incr, hb, Bool.false_or]
            by_cases h1 : l.getD (i - 1) 0 < l.getD i 0
            · have h2 : ¬ l.getD (i - 1) 0 ≥ l.getD i 0 := by omega
              simp only [h1, h2, ↓reduceIte, decide_true, Bool.true_and]
              exact ih
            · have h2 : l.getD (i - 1) 0 ≥ l.getD i 0 := by omega
              simp only [h1, h2, ↓reduceIte, decide_false, Bool.false_and]
              exact Ev.some)
  exact key 0 (Nat.zero_le _)
end Go.Proofs.Ytokelcedamegbaa.P

/- A set as bits. -/
namespace Go.Proofs.Ytokelcedamegbaa.P
open Go.RowKit Go.Proofs.YtokelcedamegbaaW.PrintWords Go.Proofs.YtokelcedamegbaaW.PrintLast Go.Proofs.YtokelcedamegbaaW.PrintMore
theorem impl_maskOf.ev (l : List Int) (hl : l.length ≤ 1048576) (h : ∀ x ∈ l, 0 ≤ x ∧ x < 62) : Ev (fun k => impl_maskOf.f k l) (bitsOf l : Int) := by
  have key := Ev.down (G := fun i k => impl_maskOf.l0 k (((l.take i).foldl (fun m x => m ||| 2 ^ x.toNat) 0 : Nat) : Int) l (l.length : Int) (i : Int)) (R := fun _ => (bitsOf l : Int)) l.length
    (by refine Ev.shift ?_
        simp only [impl_maskOf.l0, Int.lt_irrefl, ↓reduceIte, List.take_length]
        exact Ev.some)
    (fun i hi ih => by
        refine Ev.shift ?_
        have c1 : (i : Int) < (l.length : Int) := by omega
        have c0 : (0 : Int) ≤ (i : Int) := by omega
        have hx := h _ (getD_mem l 0 i hi)
        have hm : (l.take i).foldl (fun m x => m ||| 2 ^ x.toNat) 0 < 2 ^ 62 := bitsOf_lt _ 62 (fun y hy => h y (List.mem_of_mem_take hy)) 0 (by decide)
        rw [foldl_take _ _ l 0 i hi] at ih
        simp only [impl_maskOf.l0, c1, c0, ↓reduceIte, w1 hi (show l.length ≤ 9223372036854775807 by omega), rd_nat, hx.1]
        obtain ⟨j, hj⟩ : ∃ j : Nat, l.getD i 0 = (j : Int) := ⟨(l.getD i 0).toNat, by omega⟩
        rw [hj] at ih hx ⊢
        have hp : 2 ^ j < 2 ^ 63 := Nat.pow_lt_pow_right (by omega) (by omega)
        rw [shl_one j (by omega), or_nat _ _ (Nat.lt_of_lt_of_le hm (by decide)) hp]
        exact ih)
  exact key 0 (Nat.zero_le _)
end Go.Proofs.Ytokelcedamegbaa.P

/- A set as bits. -/
namespace Go.Proofs.Ytokelcedamegbaa.P
open Go.RowKit Go.Proofs.YtokelcedamegbaaW.PrintWords Go.Proofs.YtokelcedamegbaaW.PrintLast Go.Proofs.YtokelcedamegbaaW.PrintMore
theorem spec_voBits.ev (l : List Int) (hl : l.length ≤ 1048576) (h : ∀ x ∈ l, 0 ≤ x ∧ x < 62) : Ev (fun k => spec_voBits.f k l) (bitsOf l : Int) := by
  have key := Ev.down (G := fun i k => spec_voBits.l0 k (((l.take i).foldl (fun m x => m ||| 2 ^ x.toNat) 0 : Nat) : Int) l (l.length : Int) (i : Int)) (R := fun _ => (bitsOf l : Int)) l.length
    (by refine Ev.shift ?_
        simp only [spec_voBits.l0, Int.lt_irrefl, ↓reduceIte, List.take_length]
        exact Ev.some)
    (fun i hi ih => by
        refine Ev.shift ?_
        have c1 : (i : Int) < (l.length : Int) := by omega
        have c0 : (0 : Int) ≤ (i : Int) := by omega
        have hx := h _ (getD_mem l 0 i hi)
        have hm : (l.take i).foldl (fun m x => m ||| 2 ^ x.toNat) 0 < 2 ^ 62 := bitsOf_lt _ 62 (fun y hy => h y (List.mem_of_mem_take hy)) 0 (by decide)
        rw [foldl_take _ _ l 0 i hi] at ih
        simp only [spec_voBits.l0, c1, c0, ↓reduceIte, w1 hi (show l.length ≤ 9223372036854775807 by omega), rd_nat, hx.1]
        obtain ⟨j, hj⟩ : ∃ j : Nat, l.getD i 0 = (j : Int) := ⟨(l.getD i 0).toNat, by omega⟩
        rw [hj] at ih hx ⊢
        have hp : 2 ^ j < 2 ^ 63 := Nat.pow_lt_pow_right (by omega) (by omega)
        rw [shl_one j (by omega), or_nat _ _ (Nat.lt_of_lt_of_le hm (by decide)) hp]
        exact ih)
  exact key 0 (Nat.zero_le _)
end Go.Proofs.Ytokelcedamegbaa.P

/- Plain laws of the printed functions on lists of lists of numbers. -/
namespace Go.Proofs.Ytokelcedamegbaa.P
open Go.RowKit Go.Proofs.YtokelcedamegbaaW.PrintWords Go.Proofs.YtokelcedamegbaaW.PrintLast Go.Proofs.YtokelcedamegbaaW.PrintMore
theorem rd_LI_nat (l : List (List Int)) (i : Nat) : rd_LI l (i : Int) = l.getD i [] := by simp [rd_LI]
theorem laws_szIntSS.ev (l : List (List Int)) (n : Int) (hm : okL (okL okI) l) (h0 : 0 ≤ n) (h1 : n ≤ 1048576) :
    ∃ r, Ev (fun k => laws_szIntSS.f k l n) r ∧ r ≤ n ∧ (0 ≤ r → (l.length : Int) ≤ n ∧ ∀ x ∈ l, x.length ≤ 1048576) := by
  obtain ⟨hl, hx⟩ := hm
  unfold laws_szIntSS.f
  rw [w64 (by omega) (by omega)]
  by_cases h : n - (l.length : Int) < 0
  · refine ⟨-1, ?_, by omega, by omega⟩
    simp only [h, ↓reduceIte]
    exact Ev.some
  · simp only [h, ↓reduceIte]
    have key := back (P := fun i => ∀ a : Int, 0 ≤ a → a ≤ 1048576 → ∃ r, Ev (fun k => laws_szIntSS.l0 k l a (i : Int)) r ∧ r ≤ a ∧ (0 ≤ r → ∀ x ∈ l.drop i, x.length ≤ 1048576)) l.length
      (by intro a ha hb
          refine ⟨a, ?_, by omega, by simp⟩
          refine Ev.shift ?_
          simp only [laws_szIntSS.l0, Int.lt_irrefl, ↓reduceIte]
          exact Ev.some)
      (by intro i hi ih a ha hb
          have c1 : (i : Int) < (l.length : Int) := by omega
          have c0 : (0 : Int) ≤ (i : Int) := by omega
          have hlen := (hx _ (getD_mem l [] i hi)).1
          have e := laws_szIntS.eq (l.getD i []) a hlen ha hb
          by_cases hs : a < ((l.getD i []).length : Int)
          · refine ⟨-1, ?_, by omega, by omega⟩
            refine Ev.shift ?_
            simp only [laws_szIntSS.l0, c1, c0, ↓reduceIte, rd_LI_nat, e, hs, Option.bind_some, show ((-1 : Int) < 0) from by omega]
            exact Ev.some
          · obtain ⟨r, hr, hle, hp⟩ := ih (a - ((l.getD i []).length : Int)) (by omega) (by omega)
            refine ⟨r, ?_, by omega, fun h0 x hxm => ?_⟩
            · refine Ev.shift ?_
              have c2 : ¬ (a - ((l.getD i []).length : Int) < 0) := by omega
              simp only [laws_szIntSS.l0, c1, c0, ↓reduceIte, rd_LI_nat, e, hs, Option.bind_some, c2, w1 hi hl]
              exact hr
            · rw [drop_getD l [] i hi] at hxm
              rcases List.mem_cons.1 hxm with rfl | hxm
              · omega
              · exact hp h0 x hxm)
    obtain ⟨r, hr, hle, hp⟩ := key 0 (Nat.zero_le _) (n - l.length) (by omega) (by omega)
    exact ⟨r, hr, by omega, fun h0 => ⟨by omega, by simpa using hp h0⟩⟩
theorem laws_toIntSS.ev (l : List (List Int)) (hl : l.length ≤ 1048576) (hx : ∀ x ∈ l, x.length ≤ 1048576) : Ev (fun k => laws_toIntSS.f k l) l := by
  unfold laws_toIntSS.f
  have c1 : (0 : Int) ≤ (l.length : Int) := by omega
  have c2 : l.length ≤ 11728124029610 := by omega
  simp only [c1, c2, ↓reduceIte, Int.toNat_natCast]
  have key := Ev.down (G := fun i k => laws_toIntSS.l0 k l (filled l [] i) (i : Int)) (R := fun _ => l) l.length
    (by refine Ev.shift ?_
        simp only [laws_toIntSS.l0, Int.lt_irrefl, ↓reduceIte, filled_all]
        exact Ev.some)
    (fun i hi ih => by
        refine Ev.shift ?_
        have c1 : (i : Int) < (l.length : Int) := by omega
        have c0 : (0 : Int) ≤ (i : Int) := by omega
        simp only [laws_toIntSS.l0, c1, c0, ↓reduceIte, rd_LI_nat]
        refine Ev.bind (laws_toIntS.ev _ (hx _ (getD_mem l [] i hi))) ?_
        have c3 : (i : Int) < ((filled l ([] : List Int) i).length : Int) := by rw [filled_len _ _ i (by omega)]; omega
        simp only [c3, ↓reduceIte, w1 hi (show l.length ≤ 9223372036854775807 by omega), Int.toNat_natCast, filled_set l [] [] i hi]
        exact ih)
  have := key 0 (Nat.zero_le _)
  rw [filled_zero] at this
  exact this
theorem laws_eqIntSS.ev (l : List (List Int)) (hl : l.length ≤ 9223372036854775807) (hx : ∀ x ∈ l, x.length ≤ 9223372036854775807) : Ev (fun k => laws_eqIntSS.f k l l) true := by
  unfold laws_eqIntSS.f
  simp only [↓reduceIte]
  have key := Ev.down (G := fun i k => laws_eqIntSS.l0 k l l (i : Int)) (R := fun _ => true) l.length
    (by refine Ev.shift ?_
        simp only [laws_eqIntSS.l0, Int.lt_irrefl, ↓reduceIte]
        exact Ev.some)
    (fun i hi ih => by
        refine Ev.shift ?_
        have c1 : (i : Int) < (l.length : Int) := by omega
        have c0 : (0 : Int) ≤ (i : Int) := by omega
        simp only [laws_eqIntSS.l0, c1, c0, ↓reduceIte, rd_LI_nat]
        refine Ev.bind (laws_eqIntS.ev _ (hx _ (getD_mem l [] i hi))) ?_
        simp only [↓reduceIte, w1 hi hl]
        exact ih)
  exact key 0 (Nat.zero_le _)
end Go.Proofs.Ytokelcedamegbaa.P

/- Games. -/
namespace Go.Proofs.Ytokelcedamegbaa.P
open Go.RowKit Go.Proofs.YtokelcedamegbaaW.PrintWords Go.Proofs.YtokelcedamegbaaW.PrintLast Go.Proofs.YtokelcedamegbaaW.PrintMore
def setG (n : Int) (s : List Int) : Bool := decide (s ≠ []) && isSetN s n
def risesAt (ws : List (List Int)) (i : Nat) : Bool := i == 0 || decide (lexc (ws.getD (i - 1) []) (ws.getD i []) < 0)
def mk (ws : List (List Int)) (i : Nat) : Nat := bitsOf (ws.getD i [])
def apartB (a b : Nat) : Bool := !decide (a &&& b = a) && !decide (a &&& b = b)
def freeAt (ws : List (List Int)) (i : Nat) : Bool := allF (fun k => apartB (mk ws i) (mk ws k)) i 0
def isGame (n : Int) (ws : List (List Int)) : Bool := inI 1 9 n && decide (ws ≠ []) && ws.all (setG n) && allF (fun i => risesAt ws i && freeAt ws i) ws.length 0
theorem isGame_at {n : Int} {ws : List (List Int)} (h : isGame n ws = true) : ∃ m : Nat, n = (m : Int) ∧ 1 ≤ m ∧ m ≤ 9 ∧ 0 < ws.length ∧ (∀ s ∈ ws, s ≠ [] ∧ isSetN s n = true) ∧ ∀ i, i < ws.length → risesAt ws i = true ∧ freeAt ws i = true := by
  simp only [isGame, inI, setG, Bool.and_eq_true, decide_eq_true_eq, List.all_eq_true, allF_iff] at h
  obtain ⟨⟨⟨⟨h1, h2⟩, h3⟩, h4⟩, h5⟩ := h
  exact ⟨n.toNat, by omega, by omega, by omega, List.length_pos_iff.2 h3, h4, h5⟩
theorem setG_mask {m : Nat} {s : List Int} (h : isSetN s m = true) : bitsOf s < 2 ^ m := bitsOf_lt s m (fun x hx => isSetN_mem h x hx) 0 (Nat.two_pow_pos m)
theorem set62' {s : List Int} {n : Int} (hn : n ≤ 9) (h : isSetN s n = true) : ∀ x ∈ s, 0 ≤ x ∧ x < 62 := fun x hx => by have := isSetN_mem h x hx; omega
theorem isGame_few {n : Int} {ws : List (List Int)} (h : isGame n ws = true) : ws.length ≤ 126 := by
  obtain ⟨m, rfl, hm1, hm9, hpos, hs, hf⟩ := isGame_at h
  have := few_apart (ws.map bitsOf) (by
    rw [List.pairwise_map, List.pairwise_iff_getElem]
    intro i j hi hj hij
    have h1 := (hf j hj).2
    rw [freeAt, allF_iff] at h1
    have h2 := h1 i hij
    simp only [apartB, Bool.and_eq_true, Bool.not_eq_true', decide_eq_false_iff_not] at h2
    unfold mk at h2
    have ei : ws.getD i [] = ws[i] := by rw [List.getD_eq_getElem?_getD, List.getElem?_eq_getElem hi]; rfl
    have ej : ws.getD j [] = ws[j] := by rw [List.getD_eq_getElem?_getD, List.getElem?_eq_getElem hj]; rfl
    rw [ei, ej] at h2
    exact ⟨fun e => h2.2 (by rw [Nat.and_comm]; exact e), fun e => h2.1 (by rw [Nat.and_comm]; exact e)⟩) (by
    intro x hx
    obtain ⟨s, hsm, rfl⟩ := List.mem_map.1 hx
    have h1 := setG_mask (hs s hsm).2
    have h2 : 2 ^ m ≤ 2 ^ 9 := pow_small hm9
    exact Nat.lt_of_lt_of_le h1 h2)
  rwa [List.length_map] at this
theorem slices_IndexFunc_LLint_int.ev (l : List (List Int)) (hm : l.length ≤ 9223372036854775807) (p : Nat → List Int → Option Bool) (P : List Int → Bool) (h : ∀ x ∈ l, Ev (fun k => p k x) (P x)) : Ev (fun k => slices_IndexFunc_LLint_int.f k l (p k)) (idxFrom P 0 l) := by
  refine Ev.ask (F := fun k q => slices_IndexFunc_LLint_int.f k l q) l h ⟨l.length + 1, fun k hk q hq => ?_⟩
  unfold slices_IndexFunc_LLint_int.f
  have := downq (G := fun i k => slices_IndexFunc_LLint_int.l0 k l q (l.length : Int) (i : Int)) (R := fun i => idxFrom P i (l.drop i)) l.length
    (by intro k; simp only [slices_IndexFunc_LLint_int.l0, Int.lt_irrefl, ↓reduceIte, List.drop_length, idxFrom])
    (fun i hi k ih => by
      have c1 : (i : Int) < (l.length : Int) := by omega
      have c0 : (0 : Int) ≤ (i : Int) := by omega
      simp only [slices_IndexFunc_LLint_int.l0, c1, c0, ↓reduceIte, w1 hi hm, rd_LI_nat, hq _ (getD_mem l [] i hi), Option.bind_some]
      rw [drop_getD l [] i hi, idxFrom, ih]
      split <;> rfl) 0 (Nat.zero_le _) k (by omega)
  rwa [List.drop_zero] at this
theorem slices_ContainsFunc_LLint_int.ev (l : List (List Int)) (hm : l.length ≤ 9223372036854775807) (p : Nat → List Int → Option Bool) (P : List Int → Bool) (h : ∀ x ∈ l, Ev (fun k => p k x) (P x)) : Ev (fun k => slices_ContainsFunc_LLint_int.f k l (p k)) (l.any P) := by
  unfold slices_ContainsFunc_LLint_int.f
  refine Ev.bind (slices_IndexFunc_LLint_int.ev l hm p P h) ?_
  rw [idxFrom_nn]
  exact Ev.some
theorem len_ne {s : List Int} : ((s.length : Int) = 0) = (s = []) := by
  rw [eq_iff_iff]
  constructor
  · intro h; exact List.length_eq_zero_iff.1 (by omega)
  · rintro rfl; rfl
theorem impl_areSets.ev (ws : List (List Int)) (n : Int) (hl : ws.length ≤ 9223372036854775807) (hx : ∀ s ∈ ws, s.length ≤ 9223372036854775807) (h0 : 1 ≤ n) (h1 : n ≤ 9) : Ev (fun k => impl_areSets.f k ws n) (ws.all (setG n)) := by
  unfold impl_areSets.f
  refine Ev.bind (slices_ContainsFunc_LLint_int.ev ws hl (fun k y => impl_areSets_1.f k y n) (fun s => !setG n s) (fun s hs => ?_)) ?_
  · unfold impl_areSets_1.f setG
    simp only [len_ne]
    by_cases he : s = []
    · subst he; exact Ev.eq Ev.some rfl
    · simp only [he, ↓reduceIte, ne_eq, not_false_eq_true, decide_true, Bool.true_and]
      exact Ev.bind (impl_isSet.ev s n (hx s hs) (by omega) (by omega)) Ev.some
  · rw [all_any]; exact Ev.some
theorem holds_iff (ws : List (List Int)) : (allF (fun i => risesAt ws i && allF (fun k => k == i || !decide (mk ws i &&& mk ws k = mk ws k)) ws.length 0) ws.length 0) = allF (fun i => risesAt ws i && freeAt ws i) ws.length 0 := by
  rw [Bool.eq_iff_iff, allF_iff, allF_iff]
  simp only [Bool.and_eq_true, freeAt, allF_iff, apartB, Bool.or_eq_true, beq_iff_eq, Bool.not_eq_true', decide_eq_false_iff_not]
  constructor
  · intro h i hi
    refine ⟨(h i hi).1, fun k hk => ⟨?_, ?_⟩⟩
    · have := (h k (by omega)).2 i hi
      rcases this with e | e
      · omega
      · rwa [Nat.and_comm] at e
    · rcases (h i hi).2 k (by omega) with e | e
      · omega
      · exact e
  · intro h i hi
    refine ⟨(h i hi).1, fun k hk => ?_⟩
    rcases Nat.lt_trichotomy k i with hlt | rfl | hgt
    · exact .inr ((h i hi).2 k hlt).2
    · exact .inl rfl
    · right
      have := ((h k hk).2 i hgt).1
      rwa [Nat.and_comm]
theorem pred_nat {i : Nat} (h : 0 < i) (hi : i ≤ 9223372036854775807) : wrap64 ((i : Int) - 1) = ((i - 1 : Nat) : Int) := by rw [w64 (by omega) (by omega)]; omega
theorem and_eqB (a b : Nat) (ha : a < 2 ^ 9) (hb : b < 2 ^ 9) : Go.bits .and .i64 (a : Int) (b : Int) = ((a &&& b : Nat) : Int) := and_nat a b (Nat.lt_of_lt_of_le ha (by decide)) (Nat.lt_of_lt_of_le hb (by decide))
theorem cast_eqN {a b : Nat} : ((a : Int) = (b : Int)) = (a = b) := by rw [eq_iff_iff]; exact Int.ofNat_inj
theorem impl_IsGame.ev (n : Int) (ws : List (List Int)) (hl : ws.length ≤ 1048576) (hx : ∀ s ∈ ws, s.length ≤ 1048576) : Ev (fun k => impl_IsGame.f k n ws) (isGame n ws) := by
  have off : Ev (fun k => impl_IsGame.j0 k true n ws) false := by
    refine Ev.shift ?_
    simp only [impl_IsGame.j0, ↓reduceIte]
    exact Ev.some
  unfold impl_IsGame.f isGame
  refine Ev.bind (Ev.one (impl_within.eq n 1 9)) ?_
  cases hn : inI 1 9 n with
  | false => simp only [Bool.false_eq_true, ↓reduceIte, Bool.false_and]; exact off
  | true =>
    have hn' : 1 ≤ n ∧ n ≤ 9 := by simpa only [inI, Bool.and_eq_true, decide_eq_true_eq] using hn
    by_cases he : ws = []
    · subst he; simp only [List.length_nil, Int.natCast_zero, ↓reduceIte, ne_eq, not_true_eq_false, decide_false, Bool.and_false, Bool.false_and]; exact off
    · have c0 : ¬ (ws.length : Int) = 0 := by
        have := List.length_pos_iff.2 he
        omega
      simp only [c0, ↓reduceIte, he, ne_eq, not_false_eq_true, decide_true, Bool.true_and]
      refine Ev.bind (impl_areSets.ev ws n (by omega) (fun s hs => by have := hx s hs; omega) hn'.1 hn'.2) ?_
      cases hs : ws.all (setG n) with
      | false => simp only [Bool.not_false, Bool.false_and]; exact off
      | true =>
        simp only [Bool.not_true, Bool.true_and]
        refine Ev.shift ?_
        simp only [impl_IsGame.j0, Bool.false_eq_true, ↓reduceIte]
        have hset : ∀ i, i < ws.length → isSetN (ws.getD i []) n = true := fun i hi => by
          rw [List.all_eq_true] at hs
          have := hs _ (getD_mem ws [] i hi)
          simp only [setG, Bool.and_eq_true] at this
          exact this.2
        obtain ⟨m, rfl⟩ : ∃ m : Nat, n = (m : Int) := ⟨n.toNat, by omega⟩
        have hb9 : ∀ i, i < ws.length → mk ws i < 2 ^ 9 := fun i hi => Nat.lt_of_lt_of_le (setG_mask (hset i hi)) (pow_small (by omega))
        have hM : ws.length ≤ 9223372036854775807 := by omega
        have hmo : ∀ i, i < ws.length → Ev (fun k => impl_maskOf.f k (ws.getD i [])) ((mk ws i : Nat) : Int) := fun i hi =>
          impl_maskOf.ev _ (hx _ (getD_mem ws [] i hi)) (set62' hn'.2 (hset i hi))
        rw [← holds_iff]
        have key := Ev.down (G := fun i k => impl_IsGame.l0 k ws (ws.length : Int) (i : Int) (m : Int) ws) (R := fun i => allF (fun i => risesAt ws i && allF (fun k => k == i || !decide (mk ws i &&& mk ws k = mk ws k)) ws.length 0) ws.length i) ws.length
          (by refine Ev.shift ?_
              simp only [impl_IsGame.l0, Int.lt_irrefl, ↓reduceIte, allF_end]
              exact Ev.some)
          (fun i hi ih => by
            have inner := Ev.down (G := fun j k => impl_IsGame.l1 k (i : Int) (ws.getD i []) ws (ws.length : Int) (i : Int) ws (ws.length : Int) (j : Int) (m : Int) ws) (R := fun j => allF (fun k => k == i || !decide (mk ws i &&& mk ws k = mk ws k)) ws.length j && allF (fun i => risesAt ws i && allF (fun k => k == i || !decide (mk ws i &&& mk ws k = mk ws k)) ws.length 0) ws.length (i + 1)) ws.length
              (by refine Ev.shift ?_
                  simp only [impl_IsGame.l1, Int.lt_irrefl, ↓reduceIte, allF_end, Bool.true_and, w1 hi hM]
                  exact ih)
              (fun j hj ihj => by
                refine Ev.shift ?_
                have c1 : (j : Int) < (ws.length : Int) := by omega
                have c0 : (0 : Int) ≤ (j : Int) := by omega
                rw [allF_step _ _ _ hj]
                simp only [impl_IsGame.l1, c1, c0, ↓reduceIte, rd_LI_nat, w1 hj hM, cast_eqN]
                by_cases hji : j = i
                · have hb : (j == i) = true := by simp [hji]
                  simp only [hb, Bool.true_or, Bool.true_and]
                  exact Ev.ite_pos hji ihj
                · have hb : (j == i) = false := by simp [hji]
                  simp only [hji, ↓reduceIte, hb, Bool.false_or]
                  refine Ev.bind (hmo i hi) (Ev.bind (hmo j hj) (Ev.bind (hmo j hj) ?_))
                  simp only [and_eqB _ _ (hb9 i hi) (hb9 j hj), cast_eqN]
                  by_cases ha : mk ws i &&& mk ws j = mk ws j
                  · simp only [ha, ↓reduceIte, decide_true, Bool.not_true, Bool.false_and]
                    exact Ev.some
                  · simp only [ha, ↓reduceIte, decide_false, Bool.not_false, Bool.true_and]
                    exact ihj)
            have j2 : ∀ b : Bool, Ev (fun k => impl_IsGame.j2 k (i : Int) (ws.getD i []) ws (ws.length : Int) (i : Int) (!b) (m : Int) ws) ((b && allF (fun k => k == i || !decide (mk ws i &&& mk ws k = mk ws k)) ws.length 0) && allF (fun i => risesAt ws i && allF (fun k => k == i || !decide (mk ws i &&& mk ws k = mk ws k)) ws.length 0) ws.length (i + 1)) := by
              intro b
              refine Ev.shift ?_
              cases b with
              | false => simp only [impl_IsGame.j2, Bool.not_false, ↓reduceIte, Bool.false_and]; exact Ev.some
              | true => simp only [impl_IsGame.j2, Bool.not_true, Bool.false_eq_true, ↓reduceIte, Bool.true_and]; exact inner 0 (Nat.zero_le _)
            refine Ev.shift ?_
            have c1 : (i : Int) < (ws.length : Int) := by omega
            have c0 : (0 : Int) ≤ (i : Int) := by omega
            rw [allF_step _ _ _ hi]
            by_cases h0 : i = 0
            · have c2 : ¬ (i : Int) > 0 := by omega
              have hr : risesAt ws i = true := by simp [risesAt, h0]
              simp only [impl_IsGame.l0, c1, c0, c2, ↓reduceIte, rd_LI_nat, hr]
              exact j2 true
            · have c2 : (i : Int) > 0 := by omega
              have c3 : (0 : Int) ≤ ((i - 1 : Nat) : Int) := by omega
              have c4 : ((i - 1 : Nat) : Int) < (ws.length : Int) := by omega
              have hb : (i == 0) = false := by simp [h0]
              have hr : risesAt ws i = !decide (lexc (ws.getD (i - 1) []) (ws.getD i []) ≥ 0) := by
                rw [risesAt, hb, Bool.false_or, ← decide_not, decide_eq_decide]; omega
              simp only [impl_IsGame.l0, c1, c0, c2, ↓reduceIte, pred_nat (show 0 < i by omega) (show i ≤ 9223372036854775807 by omega), c3, c4, rd_LI_nat]
              refine Ev.bind (slices_Compare_int_int.ev _ _ (by have := hx _ (getD_mem ws [] (i - 1) (by omega)); omega)) ?_
              have := j2 (risesAt ws i)
              rw [hr, Bool.not_not] at this
              rw [hr]
              exact this)
        exact key 0 (Nat.zero_le _)
theorem spec_gmSets.ev (n : Int) (ws : List (List Int)) (hl : ws.length ≤ 1048576) (hx : ∀ s ∈ ws, s.length ≤ 1048576) (most : Int) : Ev (fun k => spec_gmSets.f k n ws most) (inI 1 9 n && inI 1 most (ws.length : Int) && ws.all (setG n)) := by
  have off : Ev (fun k => spec_gmSets.j0 k n ws true) false := by
    refine Ev.shift ?_
    simp only [spec_gmSets.j0, ↓reduceIte]
    exact Ev.some
  have hM : ws.length ≤ 9223372036854775807 := by omega
  unfold spec_gmSets.f
  refine Ev.bind (Ev.one (spec_l1In.eq n 1 9)) ?_
  cases hn : inI 1 9 n with
  | false => simp only [Bool.false_eq_true, ↓reduceIte, Bool.false_and]; exact off
  | true =>
    have hn' : 1 ≤ n ∧ n ≤ 9 := by simpa only [inI, Bool.and_eq_true, decide_eq_true_eq] using hn
    simp only [↓reduceIte, Bool.true_and]
    refine Ev.bind (Ev.one (spec_l1In.eq _ 1 most)) ?_
    cases inI 1 most (ws.length : Int) with
    | false => simp only [Bool.not_false, Bool.false_and]; exact off
    | true =>
      simp only [Bool.not_true, Bool.true_and]
      refine Ev.shift ?_
      simp only [spec_gmSets.j0, Bool.false_eq_true, ↓reduceIte]
      have key := Ev.down (G := fun i k => spec_gmSets.l0 k n ws (ws.length : Int) (i : Int)) (R := fun i => (ws.drop i).all (setG n)) ws.length
        (by refine Ev.shift ?_
            simp only [spec_gmSets.l0, Int.lt_irrefl, ↓reduceIte, List.drop_length, List.all_nil]
            exact Ev.some)
        (fun i hi ih => by
          refine Ev.shift ?_
          have c1 : (i : Int) < (ws.length : Int) := by omega
          have c0 : (0 : Int) ≤ (i : Int) := by omega
          have hxi := hx _ (getD_mem ws [] i hi)
          rw [drop_getD ws [] i hi, List.all_cons]
          simp only [spec_gmSets.l0, c1, c0, ↓reduceIte, rd_LI_nat, len_ne, w1 hi hM]
          generalize ws.getD i [] = s at hxi ⊢
          by_cases he : s = []
          · subst he; simp only [↓reduceIte]; exact Ev.eq Ev.some rfl
          · simp only [he, ↓reduceIte, setG, ne_eq, not_false_eq_true, decide_true, Bool.true_and]
            refine Ev.bind (spec_voSet.ev s n (by omega) (by omega) (by omega)) ?_
            cases isSetN s n with
            | false => exact Ev.some
            | true => simp only [↓reduceIte, Bool.true_and]; exact ih)
      exact key 0 (Nat.zero_le _)
theorem take_getD_lt {α : Type} (l : List α) (d : α) (i j : Nat) (h : j < i) : (l.take i).getD j d = l.getD j d := by
  rw [List.getD_eq_getElem?_getD, List.getD_eq_getElem?_getD, List.getElem?_take, if_pos h]
theorem spec_gmGood.ev (n : Int) (ws : List (List Int)) (hl : ws.length ≤ 1048576) (hx : ∀ s ∈ ws, s.length ≤ 1048576) : Ev (fun k => spec_gmGood.f k n ws) (isGame n ws) := by
  have hM : ws.length ≤ 9223372036854775807 := by omega
  have e : isGame n ws = ((inI 1 9 n && inI 1 126 (ws.length : Int) && ws.all (setG n)) && allF (fun i => risesAt ws i && freeAt ws i) ws.length 0) := by
    rw [Bool.eq_iff_iff]
    constructor
    · intro h
      have hf := isGame_few h
      have h' := h
      simp only [isGame, Bool.and_eq_true, decide_eq_true_eq] at h'
      have hp := List.length_pos_iff.2 h'.1.1.2
      have : inI 1 126 (ws.length : Int) = true := by simp only [inI, Bool.and_eq_true, decide_eq_true_eq]; omega
      simp only [Bool.and_eq_true, this, and_true]
      exact ⟨⟨h'.1.1.1, h'.1.2⟩, h'.2⟩
    · intro h
      simp only [Bool.and_eq_true] at h
      have hp : ws ≠ [] := by
        have h2 := h.1.1.2
        simp only [inI, Bool.and_eq_true, decide_eq_true_eq] at h2
        intro e; subst e; simp at h2
      simp only [isGame, Bool.and_eq_true, decide_eq_true_eq]
      exact ⟨⟨⟨h.1.1.1, hp⟩, h.1.2⟩, h.2⟩
  rw [e]
  unfold spec_gmGood.f
  refine Ev.bind (spec_gmSets.ev n ws hl hx 126) ?_
  cases hg : inI 1 9 n && inI 1 126 (ws.length : Int) && ws.all (setG n) with
  | false => exact Ev.some
  | true =>
    simp only [Bool.and_eq_true] at hg
    have hn' : 1 ≤ n ∧ n ≤ 9 := by simpa only [inI, Bool.and_eq_true, decide_eq_true_eq] using hg.1.1
    have hset : ∀ i, i < ws.length → isSetN (ws.getD i []) n = true := fun i hi => by
      have hs := hg.2
      rw [List.all_eq_true] at hs
      have := hs _ (getD_mem ws [] i hi)
      simp only [setG, Bool.and_eq_true] at this
      exact this.2
    obtain ⟨m, rfl⟩ : ∃ m : Nat, n = (m : Int) := ⟨n.toNat, by omega⟩
    have hb9 : ∀ i, i < ws.length → mk ws i < 2 ^ 9 := fun i hi => Nat.lt_of_lt_of_le (setG_mask (hset i hi)) (pow_small (by omega))
    have hmo : ∀ i, i < ws.length → Ev (fun k => spec_voBits.f k (ws.getD i [])) ((mk ws i : Nat) : Int) := fun i hi =>
      spec_voBits.ev _ (hx _ (getD_mem ws [] i hi)) (set62' hn'.2 (hset i hi))
    simp only [↓reduceIte, Bool.true_and]
    have key := Ev.down (G := fun i k => spec_gmGood.l0 k ws (ws.length : Int) (i : Int) (m : Int) ws) (R := fun i => allF (fun i => risesAt ws i && freeAt ws i) ws.length i) ws.length
      (by refine Ev.shift ?_
          simp only [spec_gmGood.l0, Int.lt_irrefl, ↓reduceIte, allF_end]
          exact Ev.some)
      (fun i hi ih => by
        have etl : (ws.take i).length = i := by rw [List.length_take]; omega
        have inner := Ev.down (G := fun j k => spec_gmGood.l1 k ((mk ws i : Nat) : Int) ws (ws.length : Int) (i : Int) (ws.take i) ((ws.take i).length : Int) (j : Int) (m : Int) ws) (R := fun j => allF (fun k => apartB (mk ws i) (mk ws k)) i j && allF (fun i => risesAt ws i && freeAt ws i) ws.length (i + 1)) i
          (by refine Ev.shift ?_
              simp only [spec_gmGood.l1, etl, Int.lt_irrefl, ↓reduceIte, allF_end, Bool.true_and, w1 hi hM]
              exact ih)
          (fun j hj ihj => by
            refine Ev.shift ?_
            have c1 : (j : Int) < ((ws.take i).length : Int) := by omega
            have c0 : (0 : Int) ≤ (j : Int) := by omega
            have hj' : j < ws.length := by omega
            rw [allF_step _ _ _ hj]
            simp only [spec_gmGood.l1, c1, c0, ↓reduceIte, rd_LI_nat, take_getD_lt ws [] i j hj, w1 hj (show i ≤ 9223372036854775807 by omega)]
            refine Ev.bind (hmo j hj') ?_
            simp only [and_eqB _ _ (hb9 i hi) (hb9 j hj'), cast_eqN]
            by_cases h1 : mk ws i &&& mk ws j = mk ws i
            · simp only [h1, ↓reduceIte, apartB, decide_true, Bool.not_true, Bool.false_and]
              exact Ev.some
            · by_cases h2 : mk ws i &&& mk ws j = mk ws j
              · refine Ev.ite_neg h1 (Ev.ite_pos h2 ?_)
                simp only [apartB, h2, decide_true, Bool.not_true, Bool.and_false, Bool.false_and]
                exact Ev.some
              · simp only [h1, h2, ↓reduceIte, apartB, decide_false, Bool.not_false, Bool.true_and]
                exact ihj)
        have j1 : ∀ b : Bool, Ev (fun k => spec_gmGood.j1 k (i : Int) (ws.getD i []) ws (ws.length : Int) (i : Int) (!b) (m : Int) ws) ((b && freeAt ws i) && allF (fun i => risesAt ws i && freeAt ws i) ws.length (i + 1)) := by
          intro b
          refine Ev.shift ?_
          cases b with
          | false => simp only [spec_gmGood.j1, Bool.not_false, ↓reduceIte, Bool.false_and]; exact Ev.some
          | true =>
            have c0 : (0 : Int) ≤ (i : Int) := by omega
            have c1 : (i : Int) ≤ (ws.length : Int) := by omega
            simp only [spec_gmGood.j1, Bool.not_true, Bool.false_eq_true, ↓reduceIte, Bool.true_and, c0, c1, Int.toNat_natCast]
            refine Ev.bind (hmo i hi) ?_
            refine Ev.bind (Ev.one rfl) ?_
            exact inner 0 (Nat.zero_le _)
        refine Ev.shift ?_
        have c1 : (i : Int) < (ws.length : Int) := by omega
        have c0 : (0 : Int) ≤ (i : Int) := by omega
        rw [allF_step _ _ _ hi]
        by_cases h0 : i = 0
        · have c2 : ¬ (i : Int) > 0 := by omega
          have hr : risesAt ws i = true := by simp [risesAt, h0]
          simp only [spec_gmGood.l0, c1, c0, c2, ↓reduceIte, rd_LI_nat, hr]
          exact j1 true
        · have c2 : (i : Int) > 0 := by omega
          have c3 : (0 : Int) ≤ ((i - 1 : Nat) : Int) := by omega
          have c4 : ((i - 1 : Nat) : Int) < (ws.length : Int) := by omega
          have hb : (i == 0) = false := by simp [h0]
          have hr : risesAt ws i = decide (lexc (ws.getD (i - 1) []) (ws.getD i []) < 0) := by rw [risesAt, hb, Bool.false_or]
          simp only [spec_gmGood.l0, c1, c0, c2, ↓reduceIte, pred_nat (show 0 < i by omega) (show i ≤ 9223372036854775807 by omega), c3, c4, rd_LI_nat]
          refine Ev.bind (spec_voBefore.ev _ _ (by have := hx _ (getD_mem ws [] (i - 1) (by omega)); omega)) ?_
          have := j1 (risesAt ws i)
          rw [hr] at this
          rw [hr]
          exact this)
    exact key 0 (Nat.zero_le _)
end Go.Proofs.Ytokelcedamegbaa.P

/- What is told of each set, by a function. -/
namespace Go.Proofs.Ytokelcedamegbaa.P
open Go.RowKit Go.Proofs.YtokelcedamegbaaW.PrintWords Go.Proofs.YtokelcedamegbaaW.PrintLast Go.Proofs.YtokelcedamegbaaW.PrintMore
theorem impl_votesOf.ev (n : Nat) (hn : n ≤ 40) (p : Nat → Int → Option Bool) (P : Nat → Bool) (h : ∀ b : Nat, b < 2 ^ n → Ev (fun k => p k (b : Int)) (P b)) : Ev (fun k => impl_votesOf.f k (n : Int) (p k)) ((n : Int), tab n P) := by
  obtain ⟨K, hK⟩ := Ev.all (p := fun k (b : Nat) => p k (b : Int)) (P := P) (List.range (2 ^ n)) (fun b hb => h b (List.mem_range.1 hb))
  have hpos := Nat.two_pow_pos n
  refine ⟨K + 2 ^ n + 1, fun k hk => ?_⟩
  have hq := hK k (by omega)
  show impl_votesOf.f k (n : Int) (p k) = _
  generalize p k = q at hq ⊢
  have hq : ∀ b : Nat, b < 2 ^ n → q (b : Int) = some (P b) := fun b hb => hq b (List.mem_range.2 hb)
  have h40 : 2 ^ n ≤ 1099511627776 := pow_small hn
  have hle : (2 ^ n : Nat) ≤ 281474976710656 := by omega
  have c0 : (0 : Int) ≤ (n : Int) := by omega
  have c1 : (0 : Int) ≤ ((2 ^ n : Nat) : Int) := by omega
  have hl := tab_len n P
  unfold impl_votesOf.f
  simp only [c0, ↓reduceIte, shl_one n (by omega), c1, Int.toNat_natCast, hle, Option.bind_some, List.length_replicate]
  have := downq (G := fun i k => impl_votesOf.l0 k q ((2 ^ n : Nat) : Int) (i : Int) (n : Int) (filled (tab n P) false i)) (R := fun _ => ((n : Int), tab n P)) (2 ^ n)
    (by intro k
        have : filled (tab n P) false (2 ^ n) = tab n P := by rw [← hl]; exact filled_all _ _
        simp only [impl_votesOf.l0, Int.lt_irrefl, ↓reduceIte, this])
    (fun i hi k ih => by
        have c1 : (i : Int) < ((2 ^ n : Nat) : Int) := by omega
        have c0 : (0 : Int) ≤ (i : Int) := by omega
        have c2 : (i : Int) < ((filled (tab n P) false i).length : Int) := by rw [filled_len _ _ _ (by omega)]; omega
        have hs := filled_set (tab n P) false false i (by omega)
        rw [tab_get n P i hi] at hs
        simp only [impl_votesOf.l0, c1, c0, c2, ↓reduceIte, hq i hi, Option.bind_some, w1 hi (show 2 ^ n ≤ 9223372036854775807 by omega), Int.toNat_natCast, hs]
        exact ih) 0 (Nat.zero_le _) k (by omega)
  rw [filled_zero, hl] at this
  exact this
end Go.Proofs.Ytokelcedamegbaa.P

/- All members, by bits. -/
namespace Go.Proofs.Ytokelcedamegbaa.P
open Go.RowKit Go.Proofs.YtokelcedamegbaaW.PrintWords Go.Proofs.YtokelcedamegbaaW.PrintLast Go.Proofs.YtokelcedamegbaaW.PrintMore
theorem spec_voAll.eq (n : Nat) (hn : n < 63) : spec_voAll.f (n : Int) = some ((2 ^ n - 1 : Nat) : Int) := by
  have c0 : (0 : Int) ≤ (n : Int) := by omega
  have h1 := pow63 hn
  have h2 : 0 < 2 ^ n := Nat.two_pow_pos n
  unfold spec_voAll.f
  rw [if_pos c0, shl_one n hn, w64 (by omega) (by omega)]
  congr 1
  omega
end Go.Proofs.Ytokelcedamegbaa.P

/- What sets win in a game. -/
namespace Go.Proofs.Ytokelcedamegbaa.P
open Go.RowKit Go.Proofs.YtokelcedamegbaaW.PrintWords Go.Proofs.YtokelcedamegbaaW.PrintLast Go.Proofs.YtokelcedamegbaaW.PrintMore
def hasSub (b : Nat) (s : List Int) : Bool := decide (b &&& bitsOf s = bitsOf s)
def gwin (ws : List (List Int)) (b : Nat) : Bool := ws.any (hasSub b)
theorem beq_nat (a b : Nat) : (((a : Nat) : Int) == ((b : Nat) : Int)) = decide (a = b) := by
  rw [Bool.eq_iff_iff]; simp only [beq_iff_eq, decide_eq_true_eq]; exact Int.ofNat_inj
theorem impl_votesBy.ev (n : Nat) (ws : List (List Int)) (hn : n ≤ 9) (hl : ws.length ≤ 1048576) (hx : ∀ s ∈ ws, s.length ≤ 1048576) (hs : ∀ s ∈ ws, isSetN s n = true) :
    Ev (fun k => impl_votesBy.f k (n : Int) ws) ((n : Int), tab n (gwin ws)) := by
  have hM : ws.length ≤ 9223372036854775807 := by omega
  have hb9 : ∀ s ∈ ws, bitsOf s < 2 ^ 9 := fun s h => Nat.lt_of_lt_of_le (setG_mask (hs s h)) (pow_small hn)
  have key := Ev.down (G := fun i k => impl_votesBy.l0 k (n : Int) ws (ws.length : Int) (i : Int) ((ws.take i).map fun s => ((bitsOf s : Nat) : Int))) (R := fun _ => ((n : Int), tab n (gwin ws))) ws.length
    (by refine Ev.shift ?_
        simp only [impl_votesBy.l0, Int.lt_irrefl, ↓reduceIte, List.take_length]
        refine Ev.bind (impl_votesOf.ev n (by omega) (fun k y => impl_votesBy_1.f k y (ws.map fun s => ((bitsOf s : Nat) : Int))) (gwin ws) (fun b hb => ?_)) Ev.some
        have hb9' : b < 2 ^ 9 := Nat.lt_of_lt_of_le hb (pow_small hn)
        unfold impl_votesBy_1.f
        refine Ev.bind (slices_ContainsFunc_int_int.ev (ws.map fun s => ((bitsOf s : Nat) : Int)) (by rw [List.length_map]; omega) (fun _ x => impl_votesBy_1_1.f x (b : Int)) (fun x => decide (b &&& x.toNat = x.toNat)) (fun x hx => ?_)) ?_
        · obtain ⟨s, hsm, rfl⟩ := List.mem_map.1 hx
          simp only [impl_votesBy_1_1.f, and_eqB b (bitsOf s) hb9' (hb9 s hsm), beq_nat, Int.toNat_natCast]
          exact Ev.some
        · refine Ev.eq Ev.some ?_
          rw [List.any_map]
          rfl)
    (fun i hi ih => by
        refine Ev.shift ?_
        have c1 : (i : Int) < (ws.length : Int) := by omega
        have c0 : (0 : Int) ≤ (i : Int) := by omega
        have c2 : ((ws.take i).map fun s => ((bitsOf s : Nat) : Int)).length < 17592186044416 := by rw [List.length_map, List.length_take]; omega
        have hm := getD_mem ws [] i hi
        rw [take_getD ws [] i hi, List.map_append] at ih
        simp only [impl_votesBy.l0, c1, c0, ↓reduceIte, rd_LI_nat, w1 hi hM]
        refine Ev.bind (impl_maskOf.ev _ (hx _ hm) (set62' (by omega) (hs _ hm))) ?_
        simp only [c2, ↓reduceIte]
        exact ih)
  exact key 0 (Nat.zero_le _)
theorem impl_Game_votes.ev (n : Nat) (ws : List (List Int)) (hn : n ≤ 9) (hl : ws.length ≤ 1048576) (hx : ∀ s ∈ ws, s.length ≤ 1048576) (hs : ∀ s ∈ ws, isSetN s n = true) :
    Ev (fun k => impl_Game_votes.f k (n : Int) ws) ((n : Int), tab n (gwin ws)) := by
  unfold impl_Game_votes.f
  exact Ev.bind (impl_votesBy.ev n ws hn hl hx hs) Ev.some
theorem set_same {α : Type} (l : List α) (d v : α) (i : Nat) (hi : i < l.length) (h : l.getD i d = v) : l.set i v = l := by
  apply List.ext_getElem?
  intro j
  rw [List.getElem?_set]
  split
  · rename_i e; subst e
    rw [← h, List.getD_eq_getElem?_getD, List.getElem?_eq_getElem hi]
    first | rfl | simp
  · rfl
theorem filled_at {α : Type} (l : List α) (z d : α) (i : Nat) (h : i < l.length) : (filled l z i).getD i d = z := by
  unfold filled
  rw [List.getD_eq_getElem?_getD, List.getElem?_append_right (by rw [List.length_take]; omega), List.getElem?_replicate, if_pos (by rw [List.length_take]; omega)]; rfl
theorem set_at {α : Type} (l : List α) (d v : α) (i : Nat) (h : i < l.length) : (l.set i v).getD i d = v := by
  rw [List.getD_eq_getElem?_getD, List.getElem?_set_self h]; rfl
theorem spec_gmWins.inner (ws : List (List Int)) (hl : ws.length ≤ 1048576) (hx : ∀ s ∈ ws, s.length ≤ 1048576) (hs : ∀ s ∈ ws, ∀ x ∈ s, 0 ≤ x ∧ x < 62) (hb9 : ∀ s ∈ ws, bitsOf s < 2 ^ 9)
    (m : Nat) (row : List Bool) (N : Int) (res : List Bool) (hm : m < row.length) (hm9 : m < 2 ^ 9) (h0 : row.getD m false = false) (hcont : Ev (fun k => spec_gmWins.l0 k ws (row.set m (gwin ws m)) N (wrap64 ((m : Int) + 1))) res) :
    Ev (fun k => spec_gmWins.l1 k ws row (m : Int) N (m : Int) ws (ws.length : Int) 0) res := by
  have hM : ws.length ≤ 9223372036854775807 := by omega
  have key := back (P := fun j => Ev (fun k => spec_gmWins.l1 k ws (row.set m ((ws.take j).any (hasSub m))) (m : Int) N (m : Int) ws (ws.length : Int) (j : Int)) res) ws.length
    (by refine Ev.shift ?_
        simp only [spec_gmWins.l1, Int.lt_irrefl, ↓reduceIte, List.take_length]
        exact hcont)
    (by intro j hj ih
        refine Ev.shift ?_
        have c1 : (j : Int) < (ws.length : Int) := by omega
        have c0 : (0 : Int) ≤ (j : Int) := by omega
        have d0 : (0 : Int) ≤ (m : Int) := by omega
        have d1 : (m : Int) < ((row.set m ((ws.take j).any (hasSub m))).length : Int) := by rw [List.length_set]; omega
        have hmem := getD_mem ws [] j hj
        have eg := set_at row false ((ws.take j).any (hasSub m)) m hm
        have es : ∀ v, (row.set m ((ws.take j).any (hasSub m))).set m v = row.set m v := fun v => List.set_set ..
        have en : (ws.take (j + 1)).any (hasSub m) = ((ws.take j).any (hasSub m) || hasSub m (ws.getD j [])) := by rw [take_getD ws [] j hj, List.any_append, List.any_cons, List.any_nil, Bool.or_false]
        rw [en] at ih
        simp only [spec_gmWins.l1, c1, c0, ↓reduceIte, rd_LI_nat, w1 hj hM]
        refine Ev.bind (spec_voBits.ev _ (hx _ hmem) (hs _ hmem)) ?_
        simp only [d0, d1, ↓reduceIte, rdB_nat, eg, es, Int.toNat_natCast, and_eqB m _ hm9 (hb9 _ hmem), beq_nat]
        cases hacc : (ws.take j).any (hasSub m) with
        | true =>
          rw [hacc, Bool.true_or] at ih
          simp only [↓reduceIte]
          exact ih
        | false =>
          rw [hacc, Bool.false_or] at ih
          simp only [Bool.false_eq_true, ↓reduceIte]
          exact ih)
  have k0 := key 0 (Nat.zero_le _)
  rw [List.take_zero, List.any_nil, set_same row false false m hm h0] at k0
  exact k0
theorem spec_gmWins.ev (n : Nat) (ws : List (List Int)) (hn : n ≤ 9) (hl : ws.length ≤ 1048576) (hx : ∀ s ∈ ws, s.length ≤ 1048576) (hs : ∀ s ∈ ws, isSetN s n = true) :
    Ev (fun k => spec_gmWins.f k (n : Int) ws) (tab n (gwin ws)) := by
  have hb9 : ∀ s ∈ ws, bitsOf s < 2 ^ 9 := fun s h => Nat.lt_of_lt_of_le (setG_mask (hs s h)) (pow_small hn)
  have hvo := spec_voAll.eq n (by omega)
  have hp9 : 2 ^ n ≤ 512 := pow_small (m := 9) hn
  have hpos := Nat.two_pow_pos n
  have tl := tab_len n (gwin ws)
  have tg := tab_get n (gwin ws)
  unfold spec_gmWins.f
  refine Ev.bind (Ev.one hvo) ?_
  generalize tab n (gwin ws) = t at tl tg ⊢
  generalize 2 ^ n = p at hp9 hpos tl tg
  have e1 : wrap64 (((p - 1 : Nat) : Int) + 1) = (p : Int) := by rw [w64 (by omega) (by omega)]; omega
  have c0 : (0 : Int) ≤ (p : Int) := Int.natCast_nonneg p
  have c1 : p ≤ 281474976710656 := by omega
  simp only [e1, c0, ↓reduceIte, Int.toNat_natCast, c1]
  refine Ev.bind (Ev.one rfl) ?_
  simp only [List.length_replicate]
  have key := Ev.down (G := fun m k => spec_gmWins.l0 k ws (filled t false m) (p : Int) (m : Int)) (R := fun _ => t) p
    (by refine Ev.shift ?_
        have : filled t false p = t := by rw [← tl]; exact filled_all _ _
        simp only [spec_gmWins.l0, Int.lt_irrefl, ↓reduceIte, this]
        exact Ev.some)
    (fun m hm ih => by
      have hfl := filled_len t false m (by omega)
      have hsf := filled_set t false false m (by omega)
      rw [tg m hm] at hsf
      rw [← hsf] at ih
      refine Ev.shift ?_
      have d1 : (m : Int) < (p : Int) := Int.ofNat_lt.2 hm
      simp only [spec_gmWins.l0, d1, ↓reduceIte]
      exact spec_gmWins.inner ws hl hx (fun s h => set62' (by omega) (hs s h)) hb9 m (filled t false m) (p : Int) t (by omega) (by omega) (filled_at t false false m (by omega)) (by rw [w1 hm (show p ≤ 9223372036854775807 by omega)]; exact ih))
  have := key 0 (Nat.zero_le _)
  rw [filled_zero, tl] at this
  exact this
theorem spec_gmAll.ev (n : Nat) (ws : List (List Int)) (hn : n ≤ 9) (hl : ws.length ≤ 1048576) (hx : ∀ s ∈ ws, s.length ≤ 1048576) (hs : ∀ s ∈ ws, isSetN s n = true) :
    Ev (fun k => spec_gmAll.f k (n : Int) ws) (tab n (gwin ws)) := by
  unfold spec_gmAll.f
  exact Ev.bind (spec_gmWins.ev n ws hn hl hx hs) Ev.some
end Go.Proofs.Ytokelcedamegbaa.P

/- What member is worth another one. -/
namespace Go.Proofs.Ytokelcedamegbaa.P
open Go.RowKit Go.Proofs.YtokelcedamegbaaW.PrintWords Go.Proofs.YtokelcedamegbaaW.PrintLast Go.Proofs.YtokelcedamegbaaW.PrintMore
def worthAt (w : List Bool) (i j m : Nat) : Bool := m.testBit i || (m.testBit j || (!w.getD (m + 2 ^ j) false || w.getD (m + 2 ^ i) false))
def worth (w : List Bool) (i j : Nat) : Bool := allF (worthAt w i j) w.length 0
theorem impl_votes_isWorth.ev (n : Nat) (w : List Bool) (i j : Nat) (hw : w.length = 2 ^ n) (hn : n ≤ 40) (hi : i < n) (hj : j < n) : Ev (fun k => impl_votes_isWorth.f k (n : Int) w (i : Int) (j : Int)) (worth w i j) := by
  have h40 : 2 ^ n ≤ 1099511627776 := pow_small hn
  have c0 : (0 : Int) ≤ (i : Int) := by omega
  have c1 : (0 : Int) ≤ (j : Int) := by omega
  have hpi : 2 ^ i < 2 ^ 63 := Nat.pow_lt_pow_right (by omega) (by omega)
  have hpj : 2 ^ j < 2 ^ 63 := Nat.pow_lt_pow_right (by omega) (by omega)
  have hM : w.length ≤ 9223372036854775807 := by omega
  unfold impl_votes_isWorth.f worth
  have key := Ev.down (G := fun m k => impl_votes_isWorth.l0 k (i : Int) (j : Int) (w.length : Int) (m : Int) (n : Int) w) (R := fun m => allF (worthAt w i j) w.length m) w.length
    (by refine Ev.shift ?_
        simp only [impl_votes_isWorth.l0, Int.lt_irrefl, ↓reduceIte, allF_end]
        exact Ev.some)
    (fun m hm ih => by
      have hm2 : m < 2 ^ n := by omega
      refine Ev.shift ?_
      have d1 : (m : Int) < (w.length : Int) := by omega
      rw [allF_step _ _ _ hm]
      simp only [impl_votes_isWorth.l0, d1, ↓reduceIte, w1 hm hM]
      refine Ev.bind (Ev.one (impl_has.eq m i (by omega) (by omega))) ?_
      unfold worthAt
      cases hbi : m.testBit i with
      | true => simp only [↓reduceIte, Bool.true_or, Bool.true_and]; exact ih
      | false =>
        simp only [Bool.false_eq_true, ↓reduceIte, Bool.false_or]
        refine Ev.bind (Ev.one (impl_has.eq m j (by omega) (by omega))) ?_
        cases hbj : m.testBit j with
        | true => simp only [↓reduceIte, Bool.true_or, Bool.true_and]; exact ih
        | false =>
          have ei : Go.bits .or .i64 (m : Int) (shl .i64 1 (i : Int)) = ((m + 2 ^ i : Nat) : Int) := by rw [shl_one i (by omega), or_nat m (2 ^ i) (by omega) hpi, or_pow hbi]
          have ej : Go.bits .or .i64 (m : Int) (shl .i64 1 (j : Int)) = ((m + 2 ^ j : Nat) : Int) := by rw [shl_one j (by omega), or_nat m (2 ^ j) (by omega) hpj, or_pow hbj]
          have li := with_lt hm2 hi hbi
          have lj := with_lt hm2 hj hbj
          have f1 : (0 : Int) ≤ ((m + 2 ^ i : Nat) : Int) := Int.natCast_nonneg _
          have f2 : ((m + 2 ^ i : Nat) : Int) < (w.length : Int) := by rw [hw]; exact Int.ofNat_lt.2 li
          have g1 : (0 : Int) ≤ ((m + 2 ^ j : Nat) : Int) := Int.natCast_nonneg _
          have g2 : ((m + 2 ^ j : Nat) : Int) < (w.length : Int) := by rw [hw]; exact Int.ofNat_lt.2 lj
          simp only [Bool.false_eq_true, ↓reduceIte, Bool.false_or, c0, c1, ei, ej, f1, f2, g1, g2, rdB_nat]
          cases w.getD (m + 2 ^ j) false with
          | false => simp only [Bool.false_eq_true, ↓reduceIte, Bool.not_false, Bool.true_or, Bool.true_and]; exact ih
          | true =>
            cases w.getD (m + 2 ^ i) false with
            | true => simp only [↓reduceIte, Bool.or_true, Bool.true_and]; exact ih
            | false => simp only [↓reduceIte, Bool.false_eq_true, Bool.not_true, Bool.or_self, Bool.false_and]; exact Ev.some)
  exact key 0 (Nat.zero_le _)
theorem w_addN (a b : Nat) (h : a + b ≤ 9223372036854775807) : wrap64 ((a : Int) + (b : Int)) = ((a + b : Nat) : Int) := by rw [w64 (by omega) (by omega)]; omega
theorem tmod_bit (m i : Nat) (hi : i ≤ 64) : (Int.tmod (shr .i64 (m : Int) (i : Int)) 2 = 0) = (m.testBit i = false) := by
  rw [shr_nat m i hi, tmod_two, bit_nat, eq_iff_iff, decide_eq_false_iff_not]
  omega
theorem spec_deWorth.ev (n : Nat) (w : List Bool) (i j : Nat) (hw : w.length = 2 ^ n) (hn : n ≤ 40) (hi : i < n) (hj : j < n) : Ev (fun k => spec_deWorth.f k w (i : Int) (j : Int)) (worth w i j) := by
  have h40 : 2 ^ n ≤ 1099511627776 := pow_small hn
  have c0 : (0 : Int) ≤ (i : Int) := by omega
  have c1 : (0 : Int) ≤ (j : Int) := by omega
  have hM : w.length ≤ 9223372036854775807 := by omega
  unfold spec_deWorth.f worth
  have key := Ev.down (G := fun m k => spec_deWorth.l0 k w (i : Int) (j : Int) (w.length : Int) (m : Int)) (R := fun m => allF (worthAt w i j) w.length m) w.length
    (by refine Ev.shift ?_
        simp only [spec_deWorth.l0, Int.lt_irrefl, ↓reduceIte, allF_end]
        exact Ev.some)
    (fun m hm ih => by
      have hm2 : m < 2 ^ n := by omega
      refine Ev.shift ?_
      have d1 : (m : Int) < (w.length : Int) := by omega
      rw [allF_step _ _ _ hm]
      simp only [spec_deWorth.l0, d1, c0, c1, ↓reduceIte, w1 hm hM, tmod_bit m i (by omega), tmod_bit m j (by omega)]
      unfold worthAt
      cases hbi : m.testBit i with
      | true => simp only [Bool.true_eq_false, ↓reduceIte, Bool.true_or, Bool.true_and]; exact ih
      | false =>
        simp only [↓reduceIte, Bool.false_or]
        cases hbj : m.testBit j with
        | true => simp only [Bool.true_eq_false, ↓reduceIte, Bool.true_or, Bool.true_and]; exact ih
        | false =>
          have li := with_lt hm2 hi hbi
          have lj := with_lt hm2 hj hbj
          have ei : wrap64 ((m : Int) + shl .i64 1 (i : Int)) = ((m + 2 ^ i : Nat) : Int) := by rw [shl_one i (by omega), w_addN _ _ (by omega)]
          have ej : wrap64 ((m : Int) + shl .i64 1 (j : Int)) = ((m + 2 ^ j : Nat) : Int) := by rw [shl_one j (by omega), w_addN _ _ (by omega)]
          have f1 : (0 : Int) ≤ ((m + 2 ^ i : Nat) : Int) := Int.natCast_nonneg _
          have f2 : ((m + 2 ^ i : Nat) : Int) < (w.length : Int) := by rw [hw]; exact Int.ofNat_lt.2 li
          have g1 : (0 : Int) ≤ ((m + 2 ^ j : Nat) : Int) := Int.natCast_nonneg _
          have g2 : ((m + 2 ^ j : Nat) : Int) < (w.length : Int) := by rw [hw]; exact Int.ofNat_lt.2 lj
          simp only [↓reduceIte, Bool.false_or, ei, ej, f1, f2, g1, g2, rdB_nat]
          cases w.getD (m + 2 ^ j) false with
          | false => simp only [Bool.false_eq_true, ↓reduceIte, Bool.not_false, Bool.true_or, Bool.true_and]; exact ih
          | true =>
            cases w.getD (m + 2 ^ i) false with
            | true => simp only [↓reduceIte, Bool.or_true, Bool.true_and]; exact ih
            | false => simp only [↓reduceIte, Bool.false_eq_true, Bool.not_true, Bool.or_self, Bool.false_and]; exact Ev.some)
  exact key 0 (Nat.zero_le _)
end Go.Proofs.Ytokelcedamegbaa.P

/- Whether no two members are unlike. -/
namespace Go.Proofs.Ytokelcedamegbaa.P
open Go.RowKit Go.Proofs.YtokelcedamegbaaW.PrintWords Go.Proofs.YtokelcedamegbaaW.PrintLast Go.Proofs.YtokelcedamegbaaW.PrintMore
def like (w : List Bool) (i j : Nat) : Bool := worth w i j || worth w j i
def complete (w : List Bool) (n : Nat) : Bool := allF (fun i => allF (like w i) i 0) n 0
theorem impl_votes_isComplete.ev (n : Nat) (w : List Bool) (hw : w.length = 2 ^ n) (hn : n ≤ 40) : Ev (fun k => impl_votes_isComplete.f k (n : Int) w) (complete w n) := by
  have hM : n ≤ 9223372036854775807 := by omega
  unfold impl_votes_isComplete.f complete
  have key := Ev.down (G := fun i k => impl_votes_isComplete.l0 k (n : Int) (i : Int) (n : Int) w) (R := fun i => allF (fun i => allF (like w i) i 0) n i) n
    (by refine Ev.shift ?_
        simp only [impl_votes_isComplete.l0, Int.lt_irrefl, ↓reduceIte, allF_end]
        exact Ev.some)
    (fun i hi ih => by
      have inner := Ev.down (G := fun j k => impl_votes_isComplete.l1 k (i : Int) (n : Int) (i : Int) (i : Int) (j : Int) (n : Int) w) (R := fun j => allF (like w i) i j && allF (fun i => allF (like w i) i 0) n (i + 1)) i
        (by refine Ev.shift ?_
            simp only [impl_votes_isComplete.l1, Int.lt_irrefl, ↓reduceIte, allF_end, Bool.true_and, w1 hi hM]
            exact ih)
        (fun j hj ihj => by
          refine Ev.shift ?_
          have c1 : (j : Int) < (i : Int) := by omega
          rw [allF_step _ _ _ hj]
          simp only [impl_votes_isComplete.l1, c1, ↓reduceIte, w1 hj (show i ≤ 9223372036854775807 by omega)]
          refine Ev.bind (impl_votes_isWorth.ev n w i j hw hn hi (by omega)) ?_
          unfold like
          cases worth w i j with
          | true => simp only [↓reduceIte, Bool.true_or, Bool.true_and]; exact ihj
          | false =>
            simp only [Bool.false_eq_true, ↓reduceIte, Bool.false_or]
            refine Ev.bind (impl_votes_isWorth.ev n w j i hw hn (by omega) hi) ?_
            cases worth w j i with
            | true => simp only [↓reduceIte, Bool.true_and]; exact ihj
            | false => simp only [Bool.false_eq_true, ↓reduceIte, Bool.false_and]; exact Ev.some)
      refine Ev.shift ?_
      have c1 : (i : Int) < (n : Int) := by omega
      rw [allF_step _ _ _ hi]
      simp only [impl_votes_isComplete.l0, c1, ↓reduceIte]
      exact inner 0 (Nat.zero_le _))
  exact key 0 (Nat.zero_le _)
theorem spec_deUnlike.ev (n : Nat) (w : List Bool) (i j : Nat) (hw : w.length = 2 ^ n) (hn : n ≤ 40) (hi : i < n) (hj : j < n) : Ev (fun k => spec_deUnlike.f k w (i : Int) (j : Int)) (!like w i j) := by
  unfold spec_deUnlike.f like
  refine Ev.bind (spec_deWorth.ev n w i j hw hn hi hj) ?_
  cases worth w i j with
  | true => exact Ev.some
  | false =>
    simp only [Bool.false_eq_true, ↓reduceIte, Bool.false_or]
    exact Ev.bind (spec_deWorth.ev n w j i hw hn hj hi) Ev.some
theorem spec_deComplete.ev (n : Nat) (w : List Bool) (hw : w.length = 2 ^ n) (hn : n ≤ 40) : Ev (fun k => spec_deComplete.f k w (n : Int)) (complete w n) := by
  have hM : n ≤ 9223372036854775807 := by omega
  unfold spec_deComplete.f complete
  have key := Ev.down (G := fun i k => spec_deComplete.l0 k w (n : Int) (i : Int)) (R := fun i => allF (fun i => allF (like w i) i 0) n i) n
    (by refine Ev.shift ?_
        simp only [spec_deComplete.l0, Int.lt_irrefl, ↓reduceIte, allF_end]
        exact Ev.some)
    (fun i hi ih => by
      have inner := Ev.down (G := fun j k => spec_deComplete.l1 k w (n : Int) (i : Int) (j : Int)) (R := fun j => allF (like w i) i j && allF (fun i => allF (like w i) i 0) n (i + 1)) i
        (by refine Ev.shift ?_
            simp only [spec_deComplete.l1, Int.lt_irrefl, ↓reduceIte, allF_end, Bool.true_and, w1 hi hM]
            exact ih)
        (fun j hj ihj => by
          refine Ev.shift ?_
          have c1 : (j : Int) < (i : Int) := by omega
          rw [allF_step _ _ _ hj]
          simp only [spec_deComplete.l1, c1, ↓reduceIte, w1 hj (show i ≤ 9223372036854775807 by omega)]
          refine Ev.bind (spec_deUnlike.ev n w i j hw hn hi (by omega)) ?_
          cases like w i j with
          | true => simp only [Bool.not_true, Bool.false_eq_true, ↓reduceIte, Bool.true_and]; exact ihj
          | false => simp only [Bool.not_false, ↓reduceIte, Bool.false_and]; exact Ev.some)
      refine Ev.shift ?_
      have c1 : (i : Int) < (n : Int) := by omega
      rw [allF_step _ _ _ hi]
      simp only [spec_deComplete.l0, c1, ↓reduceIte]
      exact inner 0 (Nat.zero_le _))
  exact key 0 (Nat.zero_le _)
end Go.Proofs.Ytokelcedamegbaa.P

/- Trades of two sets, by their bits: games that are not complete have one; of few members, no others. -/
namespace Go.Proofs.Ytokelcedamegbaa.P
open Go.RowKit Go.Proofs.YtokelcedamegbaaW.PrintWords Go.Proofs.YtokelcedamegbaaW.PrintLast Go.Proofs.YtokelcedamegbaaW.PrintMore
def Wm (x y u : Nat) : Nat := (x &&& y) ||| ((x ||| y) - ((x ||| y) &&& u))
def okU (x y u : Nat) : Bool := decide (u &&& (x &&& y) = x &&& y) && decide (u - (u &&& (x ||| y)) = 0)
theorem Wm_all : ((List.range 64).all fun x => (List.range 64).all fun y => (List.range 64).all fun u => !okU x y u || (decide (Wm x y u < 64) && (okU x y (Wm x y u) && decide (Wm x y (Wm x y u) = u)))) = true := by decide +kernel
theorem Wm_facts {x y u : Nat} (hx : x < 64) (hy : y < 64) (hu : u < 64) (h : okU x y u = true) : Wm x y u < 64 ∧ okU x y (Wm x y u) = true ∧ Wm x y (Wm x y u) = u := by
  have h1 := Wm_all
  rw [List.all_eq_true] at h1
  have h2 := h1 x (List.mem_range.2 hx)
  rw [List.all_eq_true] at h2
  have h3 := h2 y (List.mem_range.2 hy)
  rw [List.all_eq_true] at h3
  have h4 := h3 u (List.mem_range.2 hu)
  rw [h, Bool.not_true, Bool.false_or, Bool.and_eq_true, Bool.and_eq_true, decide_eq_true_eq, decide_eq_true_eq] at h4
  exact h4
theorem Wm_swap (x y u : Nat) : Wm x y u = Wm y x u := by unfold Wm; rw [Nat.and_comm x y, Nat.or_comm x y]
theorem okU_swap (x y u : Nat) : okU x y u = okU y x u := by unfold okU; rw [Nat.and_comm x y, Nat.or_comm x y]
def Trade (w : List Bool) (n : Nat) : Prop := ∃ x y u, x < 2 ^ n ∧ y < 2 ^ n ∧ u < 2 ^ n ∧ okU x y u = true ∧ w.getD x false = true ∧ w.getD y false = true ∧ w.getD u false = false ∧ w.getD (Wm x y u) false = false
theorem swap_all : ((List.range 32).all fun a => (List.range 32).all fun b => (List.range 5).all fun i => (List.range 5).all fun j => decide (i = j) || (a.testBit i || (a.testBit j || (b.testBit i || (b.testBit j || (okU (a + 2 ^ j) (b + 2 ^ i) (a + 2 ^ i) && decide (Wm (a + 2 ^ j) (b + 2 ^ i) (a + 2 ^ i) = b + 2 ^ j))))))) = true := by decide +kernel
theorem swap_fact {a b i j : Nat} (ha : a < 32) (hb : b < 32) (hi : i < 5) (hj : j < 5) (hne : i ≠ j) (h1 : a.testBit i = false) (h2 : a.testBit j = false) (h3 : b.testBit i = false) (h4 : b.testBit j = false) : okU (a + 2 ^ j) (b + 2 ^ i) (a + 2 ^ i) = true ∧ Wm (a + 2 ^ j) (b + 2 ^ i) (a + 2 ^ i) = b + 2 ^ j := by
  have q := swap_all
  rw [List.all_eq_true] at q
  have q := q a (List.mem_range.2 ha)
  rw [List.all_eq_true] at q
  have q := q b (List.mem_range.2 hb)
  rw [List.all_eq_true] at q
  have q := q i (List.mem_range.2 hi)
  rw [List.all_eq_true] at q
  have q := q j (List.mem_range.2 hj)
  rw [h1, h2, h3, h4, decide_eq_false hne, Bool.false_or, Bool.false_or, Bool.false_or, Bool.false_or, Bool.false_or, Bool.and_eq_true, decide_eq_true_eq] at q
  exact q
def swapped (x y u v : Nat) : Bool := (List.range 5).any fun i => (List.range 5).any fun j => (x.testBit i && !x.testBit j) && ((y.testBit j && !y.testBit i) && ((decide (u = x - 2 ^ i + 2 ^ j) && decide (v = y - 2 ^ j + 2 ^ i)) || (decide (v = x - 2 ^ i + 2 ^ j) && decide (u = y - 2 ^ j + 2 ^ i))))
def inside (x u : Nat) : Bool := decide (u &&& x = x)
theorem trade_all : ((List.range 32).all fun x => (List.range 32).all fun y => (List.range 32).all fun u => !okU x y u || (inside x u || (inside x (Wm x y u) || (inside y u || (inside y (Wm x y u) || swapped x y u (Wm x y u)))))) = true := by decide +kernel
theorem trade_fact {x y u : Nat} (hx : x < 32) (hy : y < 32) (hu : u < 32) (h : okU x y u = true) : inside x u = true ∨ inside x (Wm x y u) = true ∨ inside y u = true ∨ inside y (Wm x y u) = true ∨ swapped x y u (Wm x y u) = true := by
  have q := trade_all
  rw [List.all_eq_true] at q
  have q := q x (List.mem_range.2 hx)
  rw [List.all_eq_true] at q
  have q := q y (List.mem_range.2 hy)
  rw [List.all_eq_true] at q
  have q := q u (List.mem_range.2 hu)
  rw [h, Bool.not_true, Bool.false_or, Bool.or_eq_true, Bool.or_eq_true, Bool.or_eq_true, Bool.or_eq_true] at q
  exact q
theorem like_comm (w : List Bool) (i j : Nat) : like w i j = like w j i := by unfold like; exact Bool.or_comm _ _
theorem complete_iff (w : List Bool) (n : Nat) : complete w n = true ↔ ∀ i, i < n → ∀ j, j < i → like w i j = true := by
  unfold complete
  rw [allF_iff]
  exact ⟨fun h i hi j hj => (allF_iff _ _).1 (h i hi) j hj, fun h i hi => (allF_iff _ _).2 (h i hi)⟩
theorem worth_false {w : List Bool} {i j : Nat} (h : worth w i j = false) : ∃ m, m < w.length ∧ m.testBit i = false ∧ m.testBit j = false ∧ w.getD (m + 2 ^ j) false = true ∧ w.getD (m + 2 ^ i) false = false := by
  by_cases hn : ∃ m, m < w.length ∧ worthAt w i j m = false
  · obtain ⟨m, hm, hw⟩ := hn
    unfold worthAt at hw
    simp only [Bool.or_eq_false_iff, Bool.not_eq_false'] at hw
    exact ⟨m, hm, hw.1, hw.2.1, hw.2.2.1, hw.2.2.2⟩
  · have : worth w i j = true := (allF_iff _ _).2 (fun m hm => by
      cases hv : worthAt w i j m with
      | true => rfl
      | false => exact absurd ⟨m, hm, hv⟩ hn)
    rw [this] at h
    exact absurd h (by decide)
theorem worth_not {w : List Bool} {i j m : Nat} (hm : m < w.length) (h1 : m.testBit i = false) (h2 : m.testBit j = false) (h3 : w.getD (m + 2 ^ j) false = true) (h4 : w.getD (m + 2 ^ i) false = false) : worth w i j = false := by
  cases hv : worth w i j with
  | false => rfl
  | true =>
    have := (allF_iff _ _).1 hv m hm
    unfold worthAt at this
    rw [h1, h2, h3, h4] at this
    exact absurd this (by decide)
theorem getD_lt {w : List Bool} {m : Nat} (h : w.getD m false = true) : m < w.length := by
  rcases Nat.lt_or_ge m w.length with h1 | h1
  · exact h1
  · rw [List.getD_eq_getElem?_getD, List.getElem?_eq_none h1] at h
    exact absurd h (by decide)
theorem bit_lt {m n i : Nat} (h : m < 2 ^ n) (hb : m.testBit i = true) : i < n := by
  rcases Nat.lt_or_ge i n with h1 | h1
  · exact h1
  · have := Nat.ge_two_pow_of_testBit hb
    have := pow_small h1
    omega
theorem bits_all : ((List.range 32).all fun x => (List.range 5).all fun i => (List.range 5).all fun j => !(x.testBit i && !x.testBit j) || (decide (x - 2 ^ i + 2 ^ i = x) && (!(x - 2 ^ i).testBit i && !(x - 2 ^ i).testBit j))) = true := by decide +kernel
theorem bits_fact {x i j : Nat} (hx : x < 32) (hi : i < 5) (hj : j < 5) (h1 : x.testBit i = true) (h2 : x.testBit j = false) : x - 2 ^ i + 2 ^ i = x ∧ (x - 2 ^ i).testBit i = false ∧ (x - 2 ^ i).testBit j = false := by
  have q := bits_all
  rw [List.all_eq_true] at q
  have q := q x (List.mem_range.2 hx)
  rw [List.all_eq_true] at q
  have q := q i (List.mem_range.2 hi)
  rw [List.all_eq_true] at q
  have q := q j (List.mem_range.2 hj)
  rw [h1, h2] at q
  simpa using q
theorem trade_iff (w : List Bool) (n : Nat) (hw : w.length = 2 ^ n) (hn : n ≤ 5) (mono : ∀ a b, a < 2 ^ n → b < 2 ^ n → inside a b = true → w.getD a false = true → w.getD b false = true) : Trade w n ↔ complete w n = false := by
  have h32 : 2 ^ n ≤ 32 := pow_small (m := 5) hn
  constructor
  · rintro ⟨x, y, u, hx, hy, hu, hok, vx, vy, vu, vw⟩
    cases hc : complete w n with
    | false => rfl
    | true =>
      exfalso
      have hc := (complete_iff w n).1 hc
      have hW : Wm x y u < 2 ^ n := by
        unfold Wm
        exact Nat.or_lt_two_pow (Nat.lt_of_le_of_lt Nat.and_le_left hx) (Nat.lt_of_le_of_lt (Nat.sub_le _ _) (Nat.or_lt_two_pow hx hy))
      have no : ∀ a b, a < 2 ^ n → b < 2 ^ n → w.getD a false = true → w.getD b false = false → inside a b ≠ true := fun a b ha hb va vb hi => by
        have := mono a b ha hb hi va
        rw [vb] at this
        exact absurd this (by decide)
      rcases trade_fact (by omega) (by omega) (by omega) hok with h | h | h | h | h
      · exact no x u hx hu vx vu h
      · exact no x _ hx hW vx vw h
      · exact no y u hy hu vy vu h
      · exact no y _ hy hW vy vw h
      · unfold swapped at h
        rw [List.any_eq_true] at h
        obtain ⟨i, hi, h⟩ := h
        rw [List.any_eq_true] at h
        obtain ⟨j, hj, h⟩ := h
        rw [List.mem_range] at hi hj
        simp only [Bool.and_eq_true, Bool.or_eq_true, Bool.not_eq_true', decide_eq_true_eq] at h
        obtain ⟨⟨x1, x2⟩, ⟨y1, y2⟩, h⟩ := h
        obtain ⟨ex, ex1, ex2⟩ := bits_fact (x := x) (by omega) hi hj x1 x2
        obtain ⟨ey, ey1, ey2⟩ := bits_fact (x := y) (by omega) hj hi y1 y2
        have hij : i ≠ j := fun z => by rw [z, x2] at x1; exact absurd x1 (by decide)
        have lx : x - 2 ^ i < w.length := by rw [hw]; exact Nat.lt_of_le_of_lt (Nat.sub_le _ _) hx
        have ly : y - 2 ^ j < w.length := by rw [hw]; exact Nat.lt_of_le_of_lt (Nat.sub_le _ _) hy
        have main : like w i j = false := by
          unfold like
          rw [Bool.or_eq_false_iff]
          rcases h with ⟨h1, h2⟩ | ⟨h1, h2⟩
          · exact ⟨worth_not ly ey2 ey1 (by rw [ey]; exact vy) (by rw [← h2]; exact vw), worth_not lx ex2 ex1 (by rw [ex]; exact vx) (by rw [← h1]; exact vu)⟩
          · exact ⟨worth_not ly ey2 ey1 (by rw [ey]; exact vy) (by rw [← h2]; exact vu), worth_not lx ex2 ex1 (by rw [ex]; exact vx) (by rw [← h1]; exact vw)⟩
        have hin : i < n := bit_lt hx x1
        have hjn : j < n := bit_lt hy y1
        rcases Nat.lt_or_gt_of_ne hij with hlt | hlt
        · have := hc j hjn i hlt
          rw [like_comm, main] at this
          exact absurd this (by decide)
        · have := hc i hin j hlt
          rw [main] at this
          exact absurd this (by decide)
  · intro hc
    by_cases hh : ∃ i, i < n ∧ ∃ j, j < i ∧ like w i j = false
    · obtain ⟨i, hi, j, hj, hl⟩ := hh
      unfold like at hl
      rw [Bool.or_eq_false_iff] at hl
      obtain ⟨a, ha, a1, a2, a3, a4⟩ := worth_false hl.1
      obtain ⟨b, hb, b1, b2, b3, b4⟩ := worth_false hl.2
      rw [hw] at ha hb
      obtain ⟨f1, f2⟩ := swap_fact (a := a) (b := b) (i := i) (j := j) (by omega) (by omega) (by omega) (by omega) (by omega) a1 a2 b2 b1
      have l1 := getD_lt a3
      have l2 := getD_lt b3
      have l3 : a + 2 ^ i < 2 ^ n := by
        rw [← or_pow a1]
        exact Nat.or_lt_two_pow ha (Nat.pow_lt_pow_right (by omega) hi)
      rw [hw] at l1 l2
      exact ⟨a + 2 ^ j, b + 2 ^ i, a + 2 ^ i, l1, l2, l3, f1, a3, b3, a4, by rw [f2]; exact b4⟩
    · have : complete w n = true := (complete_iff w n).2 (fun i hi j hj => by
        cases hv : like w i j with
        | true => rfl
        | false => exact absurd ⟨i, hi, j, hj, hv⟩ hh)
      rw [this] at hc
      exact absurd hc (by decide)
end Go.Proofs.Ytokelcedamegbaa.P

/- With more members a set still wins. -/
namespace Go.Proofs.Ytokelcedamegbaa.P
open Go.RowKit Go.Proofs.YtokelcedamegbaaW.PrintWords Go.Proofs.YtokelcedamegbaaW.PrintLast Go.Proofs.YtokelcedamegbaaW.PrintMore
theorem gwin_mono (ws : List (List Int)) (m : Nat) : ∀ a b, a < 2 ^ m → b < 2 ^ m → inside a b = true → (tab m (gwin ws)).getD a false = true → (tab m (gwin ws)).getD b false = true := by
  intro a b ha hb hi
  rw [tab_get _ _ _ ha, tab_get _ _ _ hb]
  unfold gwin
  rw [List.any_eq_true, List.any_eq_true]
  rintro ⟨s, hs, h⟩
  refine ⟨s, hs, ?_⟩
  unfold hasSub at h ⊢
  unfold inside at hi
  rw [decide_eq_true_eq] at h hi ⊢
  rw [← h, ← Nat.and_assoc, hi]
end Go.Proofs.Ytokelcedamegbaa.P

/- Whether a number is in a list. -/
namespace Go.Proofs.Ytokelcedamegbaa.P
open Go.RowKit Go.Proofs.YtokelcedamegbaaW.PrintWords Go.Proofs.YtokelcedamegbaaW.PrintLast Go.Proofs.YtokelcedamegbaaW.PrintMore
def hasN (s : List Int) (v : Int) : Bool := s.any fun x => decide (v = x)
theorem slices_Contains_int_int.ev (l : List Int) (v : Int) (hm : l.length ≤ 9223372036854775807) : Ev (fun k => slices_Contains_int_int.f k l v) (hasN l v) := by
  unfold slices_Contains_int_int.f slices_Index_int_int.f hasN
  have key := Ev.down (G := fun i k => slices_Index_int_int.l0 k l v (l.length : Int) (i : Int)) (R := fun i => idxFrom (fun x => decide (v = x)) i (l.drop i)) l.length
    (by refine Ev.shift ?_
        simp only [slices_Index_int_int.l0, Int.lt_irrefl, ↓reduceIte, List.drop_length, idxFrom]
        exact Ev.some)
    (fun i hi ih => by
        refine Ev.shift ?_
        have c1 : (i : Int) < (l.length : Int) := by omega
        have c0 : (0 : Int) ≤ (i : Int) := by omega
        simp only [slices_Index_int_int.l0, c1, c0, ↓reduceIte, w1 hi hm, rd_nat]
        rw [drop_getD l 0 i hi, idxFrom]
        by_cases hv : v = l.getD i 0
        · simp only [← hv, ↓reduceIte, decide_true]; exact Ev.some
        · simp only [hv, ↓reduceIte, decide_false, Bool.false_eq_true]; exact ih)
  have k0 := key 0 (Nat.zero_le _)
  rw [List.drop_zero] at k0
  refine Ev.bind k0 ?_
  rw [idxFrom_nn]
  exact Ev.some
end Go.Proofs.Ytokelcedamegbaa.P
