/- Part 1 of the texts below the law FnCouncilsWinOfAll. Printed by this session's driver over the kit's printer, but for the hand contracts and the plain laws. -/
import Derived.Below
import Derived.Tactics
import Derived.WalkKit
import Derived.KernelRfl
import Derived.Deep.LoopGhost
import Derived.Shelf.Abstract
import Derived.Lib.SliceRun
import Derived.Test.YtidkafljeldokaaGreatProg
import Derived.Deep.Draws
import Derived.Deep.AppendLies
import Derived.Maps.AppendAt
import Derived.OwnWalk
import Derived.Laws.BytesArg
import Derived.Laws.MakeOwn
import Derived.Laws.OwnMore
import Derived.Deep.OwnRows
import Derived.Lib.ConvBytes
import Derived.Laws.Slices
import Derived.RowKit3
import Derived.Deep.QuietTactic
import Derived.BigQuiet
import Derived.WideLaws
import Derived.Deep.DeepCutAuto
import Derived.Deep.CutBlock
import Derived.Deep.RegionHeld3
import Derived.Laws.Rows
import Derived.Lib.AppendStr
import Derived.ArgAppend
import Derived.Laws.IdiomCopy
import Derived.OrdersHeld
import Derived.Laws.BitsLemmas
import Derived.RowKit
import Derived.Test.YtidkafljeldokaaGreatCFnCouncilsWinOfAll0
set_option linter.unusedVariables false
set_option linter.unusedSimpArgs false
/- Words of this session's own for hand contracts: what is asked of a function value, and small laws. No program in sight. -/
namespace Go.Proofs.YtidkafljeldokaaGreat.P
open Go.RowKit Go.Proofs.YtidkafljeldokaaGreatW.PrintWords Go.Proofs.YtidkafljeldokaaGreatW.PrintLast Go.Proofs.YtidkafljeldokaaGreatW.PrintMore

theorem all_any {α : Type} (p : α → Bool) (l : List α) : l.all p = !(l.any fun x => !p x) := by
  induction l with
  | nil => rfl
  | cons x l ih => rw [List.all_cons, List.any_cons, ih]; cases p x <;> simp

theorem box_new (w : World) (v : Value) (t : TypeId) : (w.alloc (.cells #[v] t (0, 0))).heap[w.heap.size]? = some (.cells #[v] t (0, 0)) := blk_new w _
theorem box_old {w : World} {g : Nat} {o : Obj} (h : w.heap[g]? = some o) (o' : Obj) : (w.alloc o').heap[g]? = some o := by
  exact (Below.heap_alloc w o' g (blk_lt h)).trans h
theorem box_later {w W : World} {g : Nat} {o : Obj} (h : w.heap[g]? = some o) (hb : Below w.heap.size w W) : W.heap[g]? = some o := (hb.block g (blk_lt h)).trans h
theorem box_cell {w : World} {g : Nat} {t : TypeId} {v : Value} (h : w.heap[g]? = some (.cells #[v] t (0, 0))) : w.cell? ⟨g, 0, none⟩ = some v := (blk_cell h 0).trans rfl

section
variable {P : Program} {ops : Array Oper} {Q : Exit → Act → World → Prop}
theorem gate_fn {o : Oper} {rest : List Oper} {a : Act} {W : World} {t : Tmp} {ao : Array Operand} {ts : Array TypeId} (_ho : o.op = .call { callee := .value (.tmp t), args := ao, argTypes := ts }) (h : wpList P ops Q (o :: rest) a W) : wpList P ops Q (o :: rest) a W := h
theorem run_fn {oi : Oper} {a : Act} {w : World} {g : FuncId} {lb : Array Value} {t : Tmp} {ao : Array Operand} {ts : Array TypeId} (eg : ∀ (args : Array Value) (w : World), (callFunc g args).run P w = .ok (.enter g args) w) (args : Array Value)
    (hop : oi.op = .call { callee := .value (.tmp t), args := ao, argTypes := ts }) (hfn : a.eval (.tmp t) = .func (.func g) #[] lb) (hargs : ao.map a.eval = args) : (execOp a.eval oi).run P w = .ok (.enter g (args ++ lb)) w := by
  unfold execOp
  simp [hop, resolve, Deferred.ofValue, invoke, hfn, hargs, eg]
theorem goesFL_ {rest : List Oper} {oi : Oper} {a : Act} {w : World} (N : Option Tmp) (hd : oi.dst = N) (hg : oi.guard = none) {g : FuncId} {lb : Array Value} {t : Tmp} {ao : Array Operand} {ts : Array TypeId} (eg : ∀ (args : Array Value) (w : World), (callFunc g args).run P w = .ok (.enter g args) w) (args : Array Value)
    (hop : oi.op = .call { callee := .value (.tmp t), args := ao, argTypes := ts }) (hfn : a.eval (.tmp t) = .func (.func g) #[] lb) (hargs : ao.map a.eval = args)
    (h : Calls P g (args ++ lb) w fun e w' => ∃ v, e = .returned v ∧ wpList P ops Q rest (a.put N v) w') : wpList P ops Q (oi :: rest) a w := by
  refine wpList_plain hg fun K hK => ?_
  have hrun := run_fn (w := w) eg args hop hfn hargs
  unfold Oper.wp
  rw [hrun, Oper.upon_enter]
  refine h.mono fun e w'' hh => ?_
  obtain ⟨v, rfl, hk⟩ := hh
  subst hd
  exact hK _ _ hk
theorem goesFr_ {oi : Oper} {N : Option Tmp} {a : Act} {w : World} {K : Act → World → Prop} {g : FuncId} {lb : Array Value} {t : Tmp} {ao : Array Operand} {ts : Array TypeId} (eg : ∀ (args : Array Value) (w : World), (callFunc g args).run P w = .ok (.enter g args) w) (args : Array Value)
    (hw : Region.wanted oi (yielded ops a.tmps) = true) (hN : oi.dst = N) (hop : oi.op = .call { callee := .value (.tmp t), args := ao, argTypes := ts }) (hfn : a.eval (.tmp t) = .func (.func g) #[] lb) (hargs : ao.map a.eval = args)
    (h : Calls P g (args ++ lb) w fun e w' => ∃ v, e = .returned v ∧ K (a.put N v) w') : if Region.wanted oi (yielded ops a.tmps) = true then Oper.wp P oi a w K Q else K (a.put N undef) w :=
  call_ g (args ++ lb) hw hN (run_fn eg args hop hfn hargs) h
end
theorem S_split {α : Type} {d : Kd α} {e : Nat} {W w1 : World} {v : Value} {xs : List α} (h : Kd.S d e w1 W.heap.size (fun _ => True) v xs) : ∃ n, n = W.heap.size ∧ Kd.S d e w1 W.heap.size (fun k_ => n ≤ k_) v xs := ⟨_, rfl, Kd.S_mono (Kd.S_bound h) (fun _ hk => hk.2.1)⟩
theorem S_elderN {α : Type} {d : Kd α} {e base n : Nat} {ok : Nat → Prop} {W w1 : World} {u : Value} {xs : List α} (h : Kd.S d e W base ok u xs) (hb : Below W.heap.size W w1) (hn : n = W.heap.size) : Kd.S d e w1 base (fun k_ => ok k_ ∧ k_ < n) u xs := by subst hn; exact Kd.S_old h hb
theorem drop_cons {α : Type} (l : List α) (d : α) (i : Nat) (h : i < l.length) : l.drop i = l.getD i d :: l.drop (i + 1) := by
  rw [List.drop_eq_getElem_cons h, List.getD_eq_getElem?_getD, List.getElem?_eq_getElem h]; rfl

theorem iN {p : Prop} [Decidable p] {α : Type} {x : Option α} {r : α} (H : (if p then x else none) = some r) : p ∧ x = some r := by
  by_cases h : p
  · rw [if_pos h] at H; exact ⟨h, H⟩
  · rw [if_neg h] at H; cases H
theorem iM {p : Prop} [Decidable p] {α : Type} {x : Option α} {r : α} (H : (if p then none else x) = some r) : ¬ p ∧ x = some r := by
  by_cases h : p
  · rw [if_pos h] at H; cases H
  · rw [if_neg h] at H; exact ⟨h, H⟩
theorem dN {p : Prop} [Decidable p] {x y : Option Bool} {r : Bool} (H : (if p then x else y) = some r) (hr : r = true) (hy : ¬ y = some true := by simp) : p ∧ x = some r := by
  subst hr
  by_cases h : p
  · rw [if_pos h] at H; exact ⟨h, H⟩
  · rw [if_neg h] at H; exact absurd H hy
theorem dM {p : Prop} [Decidable p] {x y : Option Bool} {r : Bool} (H : (if p then y else x) = some r) (hr : r = true) (hy : ¬ y = some true := by simp) : ¬ p ∧ x = some r := by
  subst hr
  by_cases h : p
  · rw [if_pos h] at H; exact absurd H hy
  · rw [if_neg h] at H; exact ⟨h, H⟩

/-- Short names of the printed walks' own searches: each is proved by its own default. -/
theorem bw {p : Prop} (h : p := by repeat (first | (with_reducible first | exact Aside0.out (by assumption) | apply below_alloc | apply pw_below_drewN | apply below_drew1 | refine below_set ?_ (Aside0.out (by assumption))) | exact Aside0.out (by assumption))) : p := h
theorem bk {p : Prop} (h : p := by (with_reducible repeat (first | refine blk_drewN ?_ _ | refine blk_drew ?_ | refine blk_alloc ?_ _)); exact Aside0.out (by assumption)) : p := h
theorem mq {p : Prop} (h : p := by (try simp only [List.map_toArray, List.map_cons, List.map_nil]); first | done | rfl | (simp only [List.length_drop, List.length_take]; rfl)) : p := h
theorem ab {p : Prop} (h : p := by first | (with_reducible assumption) | assumption) : p := h
theorem sA {α : Type _} (l : List α) (i : Nat) (a : α) : l.toArray.setIfInBounds i a = (l.set i a).toArray := List.setIfInBounds_toArray ..
theorem sZ {α : Type _} {x : α} {xs : List α} {a : α} : (x :: xs).set 0 a = a :: xs := rfl
theorem sS {α : Type _} {x : α} {xs : List α} {i : Nat} {a : α} : (x :: xs).set (i + 1) a = x :: xs.set i a := rfl
theorem qra {p q : Prop} (h : p) (hh : p → q := by intro h; (with_reducible repeat (first | apply Kd.R_alloc | apply Kd.R_drewN | apply Kd.R_drew)); exact h) : q := hh h
theorem qsa {p q : Prop} (h : p) (hh : p → q := by intro h; (with_reducible repeat (first | apply Kd.S_alloc | apply Kd.S_drewN | apply Kd.S_drew)); exact h) : q := hh h
theorem qcs {p r q : Prop} (h : p) (b : r) (hh : p → r → q := by intro h b; repeat (first | exact (Kd.C_below h b) | (with_reducible refine Kd.C_alloc ?_ _) | (with_reducible refine Kd.C_drewN ?_ _) | (with_reducible refine Kd.C_drew ?_))) : q := hh h b
theorem qrs {p : Prop} (h : p := by first | rfl | (simp; done) | (simp [*]; done)) : p := h
/-- What has come up in a region, by a number's bits. -/
def mbits : Nat → Nat → List Bool
  | 0, _ => []
  | n + 1, k => (k % 2 == 1) :: mbits n (k / 2)
def mA (n k : Nat) : Array Bool := (mbits n k).toArray
theorem aM {p : Prop} (h : p) : Aside0 p := ⟨h⟩
theorem kR {p : Prop} (h : p := by kernel_rfl) : p := h
section
variable {P : Program} {md : Region.Mode} {ops : Array Oper} {Q : Exit → Act → World → Prop} {S : World → Prop} {ds : List Nat} {T : Bool × List (List Nat × List Nat)} {n k fuel : Nat} {oi : Oper} {v : Value} {a a' : Act} {w : World}
/-- A step of a drawing region that yields in every world. -/
theorem pT (i N : Nat) (hT : rtab md ops = T) (h : wpAnyLast P md ops Q S ds fuel (mA n (k + 2 ^ i)) a' w) (hi : ops[i]? = some oi := by rfl) (hN : oi.dst = some N := by rfl) (hc : anyT T (mA n k).toList (mA n (k + 2 ^ i)).toList i = true := by kernel_rfl)
    (hQ : ∀ c a w, Q (.panic c) (a.put oi.dst v) w → Q (.panic c) a w := by intro _ _ _ h; exact h) (hy : Yields P ops oi v a := by refine Or.inl ⟨by rfl, ?_⟩; intro w'; go_simp; with_reducible rfl)
    (ha : a.put (some N) v = a' := by simp only [Act.put, sA, sZ, sS, i64_w, i32_w]; rfl) : wpAnyLast P md ops Q S ds (fuel + 1) (mA n k) a w := pure_ (mA n (k + 2 ^ i)) hi hN (any_of hT hc) hQ hy ha h
theorem pU (i N : Nat) (hT : rtab md ops = T) (h : wpAnyLast P md ops Q S ds fuel (mA n (k + 2 ^ i)) a' w) (hi : ops[i]? = some oi := by rfl) (hN : oi.dst = some N := by rfl) (hc : anyT T (mA n k).toList (mA n (k + 2 ^ i)).toList i = true := by kernel_rfl)
    (hQ : ∀ c a w, Q (.panic c) (a.put oi.dst undef) w → Q (.panic c) a w := by intro _ _ _ h; exact h) (hy : Yields P ops oi undef a := by exact Or.inr ⟨by rfl, rfl⟩)
    (ha : a.put (some N) undef = a' := by simp only [Act.put, sA, sZ, sS, i64_w, i32_w]; rfl) : wpAnyLast P md ops Q S ds (fuel + 1) (mA n k) a w := pure_ (mA n (k + 2 ^ i)) hi hN (any_of hT hc) hQ hy ha h
end
theorem cz {w : World} {g : Nat} {cs : Array Value} {t : TypeId} {v : Value} (h : w.heap[g]? = some (.cells cs t (0, 0))) (i : Nat) (hv : cs[i]? = some v := by rfl) : w.cell? ⟨g, i, none⟩ = some v := (blk_cell h i).trans hv
theorem bB {w0 w w1 : World} {g : Nat} {o : Obj} (h : w0.heap[g]? = some o) (hb : Below w.heap.size w w1) (e : w0.heap[g]? = some o → w.heap[g]? = some o := by intro h; (with_reducible repeat (first | refine blk_drewN ?_ _ | refine blk_drew ?_ | refine blk_alloc ?_ _)); exact h) : w1.heap[g]? = some o := blk_below (e h) hb
theorem gS {w W : World} {g : Nat} (hg : g = W.heap.size) (h : Below w.heap.size w W := by repeat (first | (with_reducible first | exact Aside0.out (by assumption) | apply below_alloc | apply pw_below_drewN | apply below_drew1 | refine below_set ?_ (Aside0.out (by assumption))) | exact Aside0.out (by assumption))) : w.heap.size ≤ g := by rw [hg]; exact below_size h
theorem qc {p q : Prop} (h : p) (hh : p → q := by intro h; repeat (first | exact h | (with_reducible refine Kd.C_alloc ?_ _) | (with_reducible refine Kd.C_drewN ?_ _) | (with_reducible refine Kd.C_drew ?_))) : q := hh h
theorem eE {p : Prop} (h : p := by first | rfl | (simp [errW_none, errW_some] <;> rfl) | (simp [*, errW_none, errW_some] <;> rfl)) : p := h
section
variable {P : Program} {ops : Array Oper} {rest : List Oper} {o : Oper} {a : Act} {Q : Exit → Act → World → Prop}
theorem bE {W : World} (N : Nat) (cs : Array Value) (t : TypeId) (h : ∀ g, g = W.heap.size → ∀ w1, w1.heap[g]? = some (.cells cs t (0, 0)) → Below W.heap.size W w1 → wpList P ops Q rest (a.put o.dst (.pointer (some ⟨g, 0, none⟩))) w1) (hgd : o.guard = none := by rfl) (hd : o.dst = some N := by rfl)
    (hrun : (execOp a.eval o).run P W = .ok (.value (.pointer (some ⟨W.heap.size, 0, none⟩))) (W.alloc (.cells cs t (0, 0))) := by first | (go_simp; done) | (go_simp; rfl)) : wpList P ops Q (o :: rest) a W := box_event hgd hd hrun h
end
theorem yR {p q r : Prop} (hy : p) (H : q) (h : p → q → r := by intro hy_ H; first | (rw [hy_]; with_reducible exact H) | (have H2_ := (Option.bind_some _ _).symm.trans H; rw [hy_]; with_reducible exact H2_) | (have H2_ := (Option.bind_some _ _).symm.trans H; with_reducible exact H2_) | with_reducible exact H | (rw [hy_]; exact H) | exact H) : r := h hy H
theorem nL {w W : World} {g gb : Nat} {o : Obj} (h : w.heap[g]? = some o) (hg : gb = W.heap.size) (e : w.heap[g]? = some o → W.heap[g]? = some o := by intro h; (with_reducible repeat (first | refine blk_drewN ?_ _ | refine blk_drew ?_ | refine blk_alloc ?_ _)); exact h) : g ≠ gb := by rw [hg]; exact Nat.ne_of_lt (blk_lt (e h))
theorem nR {w W : World} {g gb : Nat} {o : Obj} (h : w.heap[g]? = some o) (hg : gb = W.heap.size) (e : w.heap[g]? = some o → W.heap[g]? = some o := by intro h; (with_reducible repeat (first | refine blk_drewN ?_ _ | refine blk_drew ?_ | refine blk_alloc ?_ _)); exact h) : gb ≠ g := by rw [hg]; exact Nat.ne_of_gt (blk_lt (e h))
theorem dR {p : Prop} (h : p := by repeat (first | exact Drawn0.refl _ | apply Drawn0.step)) : p := h
theorem dW {p : Prop} (h : p := by first | exact ⟨rfl, _, World.drewN_drewN _ _ _⟩ | exact ⟨rfl, _, Eq.trans (World.drewN_drewN _ _ _) (congrArg (World.drewN _) (Nat.add_assoc _ _ _))⟩) : p := h
theorem oB {α β : Type} {x : Option α} {f : α → Option β} {r : β} (H : x.bind f = some r) : ∃ a, Aside0 (x = some a) ∧ f a = some r := by
  obtain ⟨a, h, H⟩ := Option.bind_eq_some_iff.mp H
  exact ⟨a, ⟨h⟩, H⟩
theorem bk1 {p q : Prop} (h : p) (e : p → q := by intro h; (with_reducible repeat (first | refine blk_drewN ?_ _ | refine blk_drew ?_ | refine blk_alloc ?_ _)); exact h) : q := e h
section
variable {P : Program} {md : Region.Mode} {ops : Array Oper} {Q : Exit → Act → World → Prop} {S : World → Prop} {ds B : List Nat} {T : Bool × List (List Nat × List Nat)} {n k fuel : Nat} {oi : Oper} {v : Value} {a a' : Act} {w : World} {N : Option Tmp} {f : FuncId} {fn : Func} {ao : Array Operand} {ts : Array TypeId}
theorem pK (i N : Nat) (hT : rtab md ops = T) (hB : waitsOk T.2 B = true) (hS : S w) (h : wpAnyLast P md ops Q S ds fuel (mA n (k + 2 ^ i)) a' w) (hi : ops[i]? = some oi := by rfl) (hN : oi.dst = some N := by rfl) (hc : takeW T B ds (mA n k).toList (mA n (k + 2 ^ i)).toList i = true := by kernel_rfl)
    (hQ : ∀ c a w, Q (.panic c) (a.put oi.dst v) w → Q (.panic c) a w := by intro _ _ _ h; exact h) (hy : YieldsIf P ops S oi v a := by refine Or.inl ⟨by rfl, ?_⟩; intro w' s0; go_simp; with_reducible rfl)
    (ha : a.put (some N) v = a' := by simp only [Act.put, sA, sZ, sS, i64_w, i32_w]; rfl) : wpAnyLast P md ops Q S ds (fuel + 1) (mA n k) a w := take_ (mA n (k + 2 ^ i)) hi hN (take_ofW hT hB hc) hQ hy hS ha h
theorem oN (i : Nat) (N : Option Tmp) (hT : rtab md ops = T) (h : ∀ K : Act → World → Prop, Shut (∀ a' w', S w' → (S w' → wpAnyLast P md ops Q S ds fuel (mA n (k + 2 ^ i)) a' w') → K a' w') → if Region.wanted oi (yielded ops a.tmps) = true then Oper.wp P oi a w K Q else K (a.put N undef) w) (hi : ops[i]? = some oi := by rfl) (hN : oi.dst = N := by rfl)
    (hc : (readyT T.2 (mA n k).toList == [i] && (mA n k).toList.set i true == (mA n (k + 2 ^ i)).toList) = true := by kernel_rfl) (hd : i ∉ ds := by decide) : wpAnyLast P md ops Q S ds (fuel + 1) (mA n k) a w := one_ (mA n (k + 2 ^ i)) hi hN (one_of hT hc) hd h
theorem gC {K : Act → World → Prop} (hf : P.funcs[f]? = some fn) (args : Array Value) (h : Calls P f args w fun e w' => ∃ v, e = .returned v ∧ K (a.put N v) w') (hop : oi.op = .call { callee := .value (.func f), args := ao, argTypes := ts } := by rfl) (hname : (fn.name == "runtime.NumGoroutine") = false := by kernel_rfl) (hb : fn.body.isSome = true := by rfl) (hw : Region.wanted oi (yielded ops a.tmps) = true := by rfl) (hN : oi.dst = N := by rfl)
    (hargs : ao.map a.eval = args := by (try simp only [List.map_toArray, List.map_cons, List.map_nil]); first | done | rfl | (simp only [List.length_drop, List.length_take]; rfl)) : if Region.wanted oi (yielded ops a.tmps) = true then Oper.wp P oi a w K Q else K (a.put N undef) w := goes_ hf hname hb args hw hN hop hargs h
theorem gL (N : Nat) {rest : List Oper} (hf : P.funcs[f]? = some fn) (args : Array Value) (h : Calls P f args w fun e w' => ∃ v, e = .returned v ∧ wpList P ops Q rest (a.put (some N) v) w') (hd : oi.dst = some N := by rfl) (hg : oi.guard = none := by rfl) (hop : oi.op = .call { callee := .value (.func f), args := ao, argTypes := ts } := by rfl) (hname : (fn.name == "runtime.NumGoroutine") = false := by kernel_rfl) (hb : fn.body.isSome = true := by rfl)
    (hargs : ao.map a.eval = args := by (try simp only [List.map_toArray, List.map_cons, List.map_nil]); first | done | rfl | (simp only [List.length_drop, List.length_take]; rfl)) : wpList P ops Q (oi :: rest) a w := goesL_ (some N) hd hg hf hname hb args hop hargs h
end
section
variable {w W : World} {n k g i j l : Nat} {t : TypeId} {cs ds cs' : Array Value} {a b c : Value}
theorem sF1 (hW : w.setCell ⟨k, i, none⟩ a = W) (h : w.heap[g]? = some (.cells cs t (0, 0))) (hn : g ≠ k) : W.heap[g]? = some (.cells cs t (0, 0)) := hW ▸ blk_far h hn _
theorem sF2 (hW : (w.setCell ⟨k, i, none⟩ a).setCell ⟨k, j, none⟩ b = W) (h : w.heap[g]? = some (.cells cs t (0, 0))) (hn : g ≠ k) : W.heap[g]? = some (.cells cs t (0, 0)) := hW ▸ blk_far (blk_far h hn _) hn _
theorem sP1 (hW : w.setCell ⟨k, i, none⟩ a = W) (h : w.heap[k]? = some (.cells cs t (0, 0))) (e : cs.setIfInBounds i a = cs' := by simp only [sA, sZ, sS]; rfl) : W.heap[k]? = some (.cells cs' t (0, 0)) := hW ▸ blk_put h i a e
theorem sP2 (hW : (w.setCell ⟨k, i, none⟩ a).setCell ⟨k, j, none⟩ b = W) (h : w.heap[k]? = some (.cells cs t (0, 0))) (e : (cs.setIfInBounds i a).setIfInBounds j b = cs' := by simp only [sA, sZ, sS]; rfl) : W.heap[k]? = some (.cells cs' t (0, 0)) := hW ▸ blk_put (blk_put h i a rfl) j b e
theorem sB1 (hW : w.setCell ⟨k, i, none⟩ a = W) {v : World} (h : Below v.heap.size v w) (hg : v.heap.size ≤ k := by exact Aside0.out (by assumption)) : Below v.heap.size v W := hW ▸ below_set h hg
theorem sB2 (hW : (w.setCell ⟨k, i, none⟩ a).setCell ⟨k, j, none⟩ b = W) {v : World} (h : Below v.heap.size v w) (hg : v.heap.size ≤ k := by exact Aside0.out (by assumption)) : Below v.heap.size v W := hW ▸ below_set (below_set h hg) hg
end
section
variable {P : Program} {md : Region.Mode} {ops : Array Oper} {Q : Exit → Act → World → Prop} {S : World → Prop} {ds : List Nat} {fuel : Nat} {l : Array Bool} {a a' : Act} {w : World} {v : Value}
theorem nM (N : Nat) (h : wpAnyLast P md ops Q S ds fuel l a' w) (ha : a.put (some N) v = a' := by simp only [Act.put, sA, sZ, sS, i64_w, i32_w]; rfl) : wpAnyLast P md ops Q S ds fuel l (a.put (some N) v) w := norm_ ha h
end
end Go.Proofs.YtidkafljeldokaaGreat.P

namespace Go.Proofs.YtidkafljeldokaaGreat.P
open Go.RowKit Go.Proofs.YtidkafljeldokaaGreatW.PrintWords Go.Proofs.YtidkafljeldokaaGreatW.PrintLast Go.Proofs.YtidkafljeldokaaGreatW.PrintMore
attribute [local go_sem] max2_int min2_int max_two min_two max_three min_three max_four min_four   -- for this text's walks alone
set_option linter.unusedVariables false
set_option linter.unusedSimpArgs false



def errW : Option Int → Value
  | none => .nilIface
  | some c => .iface 0 (.int .i64 c)
theorem errW_none : errW none = .nilIface := rfl
theorem errW_some (c : Int) : errW (some c) = .iface 0 (.int .i64 c) := rfl

theorem info3 : (Tryz.prog.info? 3).map (fun i => (i.zero, i.size, i.bytes)) = some (some (.int .i64 0), 1, 8) := by kernel_rfl
theorem info4 : (Tryz.prog.info? 4).map (fun i => (i.zero, i.size, i.bytes)) = some (some (.bool false), 1, 1) := by kernel_rfl
theorem info22 : (Tryz.prog.info? 22).map (fun i => (i.zero, i.size, i.bytes)) = some (some (.slice none 0 0), 1, 24) := by kernel_rfl
theorem info24 : (Tryz.prog.info? 24).map (fun i => (i.zero, i.size, i.bytes)) = some (some (.agg #[(.int .i64 0), (.slice none 0 0)]), 2, 32) := by kernel_rfl
theorem info44 : (Tryz.prog.info? 44).map (fun i => (i.zero, i.size, i.bytes)) = some (some (.agg #[(.int .i64 0), (.int .i64 0)]), 2, 16) := by kernel_rfl
-- the values' own types
def rd_LI (xs : List (List Int)) (i : Int) : (List Int) := xs.getD i.toNat ([] : List Int)
theorem at_LI {w : World} {A : Option Addr} {n : Nat} {xs : List (List Int)} (h : Kd.C (Kd.slice 3 (Kd.int .i64)) w A n xs) (i : Int) (h0 : 0 ≤ i) (h1 : i < n) : ∃ ad A0 c0, A = some ad ∧ w.cell? (ad.add i.toNat) = some (.slice A0 (rd_LI xs i).length c0) ∧ (rd_LI xs i).length ≤ c0 ∧ (Kd.int .i64).C w A0 (rd_LI xs i).length (rd_LI xs i) := by
  obtain ⟨ad, c, e, _, hK, hc0⟩ := Kd.C_get h ([] : List Int) i h0 h1
  have hc : ∀ j u, c[j]? = some u → w.cell? (ad.add (i.toNat * 1 + j)) = some u := hc0
  obtain ⟨A0, c0, rfl, l0, g0⟩ := hK
  exact ⟨ad, A0, c0, e, by have hq := hc 0 _ rfl; rwa [Nat.mul_one, Nat.add_zero] at hq, l0, g0⟩

/-! #### struct type 24 -/
structure S_impl_Committee where
  f0 : Int
  f1 : (List Int)
def z_impl_Committee : S_impl_Committee := ⟨(0 : Int), ([] : List Int)⟩
def k_impl_Committee : Kd S_impl_Committee := Kd.iso (Kd.pair (Kd.int .i64) (Kd.slice 3 (Kd.int .i64))) (fun x : S_impl_Committee => (x.f0, x.f1))
theorem k_impl_Committee_open {w : World} {x : S_impl_Committee} {cs : List Value} (h : k_impl_Committee.K w x cs) : ∃ A1 c1, cs = [.int .i64 x.f0, .slice A1 x.f1.length c1] ∧ x.f1.length ≤ c1 ∧ (Kd.int .i64).C w A1 x.f1.length x.f1 := by
  obtain ⟨_, _, rfl, rfl, ⟨A1, c1, rfl, l1, g1⟩⟩ := h
  exact ⟨A1, c1, rfl, l1, g1⟩
theorem k_impl_Committee_openM {w : World} {base : Nat} {ok : Nat → Prop} {x : S_impl_Committee} {cs : List Value} (h : k_impl_Committee.M w base ok x cs) : ∃ v1, cs = [.int .i64 x.f0, v1] ∧ (Kd.int .i64).R 3 w base ok v1 x.f1 := by
  obtain ⟨_, _, rfl, rfl, ⟨v1, rfl, g1⟩⟩ := h
  exact ⟨v1, rfl, g1⟩
theorem k_impl_Committee_mk (w : World) (x : S_impl_Committee) {A1 : Option Addr} {c1 : Nat} (l1 : x.f1.length ≤ c1) (g1 : (Kd.int .i64).C w A1 x.f1.length x.f1) : k_impl_Committee.K w x [.int .i64 x.f0, .slice A1 x.f1.length c1] := ⟨[.int .i64 x.f0], [.slice A1 x.f1.length c1], rfl, rfl, ⟨A1, c1, rfl, l1, g1⟩⟩
theorem k_impl_Committee_mkM (w : World) (base : Nat) (ok : Nat → Prop) (x : S_impl_Committee) {v1 : Value} (g1 : (Kd.int .i64).R 3 w base ok v1 x.f1) : k_impl_Committee.M w base ok x [.int .i64 x.f0, v1] := ⟨[.int .i64 x.f0], [v1], rfl, rfl, ⟨v1, rfl, g1⟩⟩
def rd_impl_Committee (xs : List S_impl_Committee) (i : Int) : S_impl_Committee := xs.getD i.toNat z_impl_Committee
theorem at_impl_Committee {w : World} {A : Option Addr} {n : Nat} {xs : List S_impl_Committee} (h : Kd.C k_impl_Committee w A n xs) (i : Int) (h0 : 0 ≤ i) (h1 : i < n) : ∃ ad A1 c1, A = some ad ∧ w.cell? (ad.add (i.toNat * 2)) = some (.int .i64 (rd_impl_Committee xs i).f0) ∧ w.cell? ⟨(ad.add (i.toNat * 2)).block, (ad.add (i.toNat * 2)).off + 1, none⟩ = some (.slice A1 (rd_impl_Committee xs i).f1.length c1) ∧ (rd_impl_Committee xs i).f1.length ≤ c1 ∧ (Kd.int .i64).C w A1 (rd_impl_Committee xs i).f1.length (rd_impl_Committee xs i).f1 := by
  obtain ⟨ad, c, e, _, hK, hc0⟩ := Kd.C_get h z_impl_Committee i h0 h1
  have hc : ∀ j u, c[j]? = some u → w.cell? (ad.add (i.toNat * 2 + j)) = some u := hc0
  obtain ⟨A1, c1, rfl, l1, g1⟩ := k_impl_Committee_open hK
  exact ⟨ad, A1, c1, e, hc 0 _ rfl, by rw [← add_field _ _ 1 (by omega)]; exact hc 1 _ rfl, l1, g1⟩

def rd_LLI (xs : List (List (List Int))) (i : Int) : (List (List Int)) := xs.getD i.toNat ([] : List (List Int))
theorem at_LLI {w : World} {A : Option Addr} {n : Nat} {xs : List (List (List Int))} (h : Kd.C (Kd.slice 22 (Kd.slice 3 (Kd.int .i64))) w A n xs) (i : Int) (h0 : 0 ≤ i) (h1 : i < n) : ∃ ad A0 c0, A = some ad ∧ w.cell? (ad.add i.toNat) = some (.slice A0 (rd_LLI xs i).length c0) ∧ (rd_LLI xs i).length ≤ c0 ∧ (Kd.slice 3 (Kd.int .i64)).C w A0 (rd_LLI xs i).length (rd_LLI xs i) := by
  obtain ⟨ad, c, e, _, hK, hc0⟩ := Kd.C_get h ([] : List (List Int)) i h0 h1
  have hc : ∀ j u, c[j]? = some u → w.cell? (ad.add (i.toNat * 1 + j)) = some u := hc0
  obtain ⟨A0, c0, rfl, l0, g0⟩ := hK
  exact ⟨ad, A0, c0, e, by have hq := hc 0 _ rfl; rwa [Nat.mul_one, Nat.add_zero] at hq, l0, g0⟩

def rd_LB (xs : List (List Bool)) (i : Int) : (List Bool) := xs.getD i.toNat ([] : List Bool)
theorem at_LB {w : World} {A : Option Addr} {n : Nat} {xs : List (List Bool)} (h : Kd.C (Kd.slice 4 Kd.bool) w A n xs) (i : Int) (h0 : 0 ≤ i) (h1 : i < n) : ∃ ad A0 c0, A = some ad ∧ w.cell? (ad.add i.toNat) = some (.slice A0 (rd_LB xs i).length c0) ∧ (rd_LB xs i).length ≤ c0 ∧ Kd.bool.C w A0 (rd_LB xs i).length (rd_LB xs i) := by
  obtain ⟨ad, c, e, _, hK, hc0⟩ := Kd.C_get h ([] : List Bool) i h0 h1
  have hc : ∀ j u, c[j]? = some u → w.cell? (ad.add (i.toNat * 1 + j)) = some u := hc0
  obtain ⟨A0, c0, rfl, l0, g0⟩ := hK
  exact ⟨ad, A0, c0, e, by have hq := hc 0 _ rfl; rwa [Nat.mul_one, Nat.add_zero] at hq, l0, g0⟩

/-! #### struct type 44 -/
structure S_impl_Share where
  f0 : Int
  f1 : Int
def z_impl_Share : S_impl_Share := ⟨(0 : Int), (0 : Int)⟩
def k_impl_Share : Kd S_impl_Share := Kd.iso (Kd.pair (Kd.int .i64) (Kd.int .i64)) (fun x : S_impl_Share => (x.f0, x.f1))
theorem k_impl_Share_open {w : World} {x : S_impl_Share} {cs : List Value} (h : k_impl_Share.K w x cs) : cs = [.int .i64 x.f0, .int .i64 x.f1] := by
  obtain ⟨_, _, rfl, rfl, rfl⟩ := h
  exact rfl
theorem k_impl_Share_openM {w : World} {base : Nat} {ok : Nat → Prop} {x : S_impl_Share} {cs : List Value} (h : k_impl_Share.M w base ok x cs) : cs = [.int .i64 x.f0, .int .i64 x.f1] := by
  obtain ⟨_, _, rfl, rfl, rfl⟩ := h
  exact rfl
theorem k_impl_Share_mk (w : World) (x : S_impl_Share)  : k_impl_Share.K w x [.int .i64 x.f0, .int .i64 x.f1] := ⟨[.int .i64 x.f0], [.int .i64 x.f1], rfl, rfl, rfl⟩
theorem k_impl_Share_mkM (w : World) (base : Nat) (ok : Nat → Prop) (x : S_impl_Share)  : k_impl_Share.M w base ok x [.int .i64 x.f0, .int .i64 x.f1] := ⟨[.int .i64 x.f0], [.int .i64 x.f1], rfl, rfl, rfl⟩
def rd_impl_Share (xs : List S_impl_Share) (i : Int) : S_impl_Share := xs.getD i.toNat z_impl_Share
theorem at_impl_Share {w : World} {A : Option Addr} {n : Nat} {xs : List S_impl_Share} (h : Kd.C k_impl_Share w A n xs) (i : Int) (h0 : 0 ≤ i) (h1 : i < n) : ∃ ad , A = some ad ∧ w.cell? (ad.add (i.toNat * 2)) = some (.int .i64 (rd_impl_Share xs i).f0) ∧ w.cell? ⟨(ad.add (i.toNat * 2)).block, (ad.add (i.toNat * 2)).off + 1, none⟩ = some (.int .i64 (rd_impl_Share xs i).f1) := by
  obtain ⟨ad, c, e, _, hK, hc0⟩ := Kd.C_get h z_impl_Share i h0 h1
  have hc : ∀ j u, c[j]? = some u → w.cell? (ad.add (i.toNat * 2 + j)) = some u := hc0
  obtain rfl := k_impl_Share_open hK
  exact ⟨ad, e, hc 0 _ rfl, by rw [← add_field _ _ 1 (by omega)]; exact hc 1 _ rfl⟩

def rd_Limpl_Committee (xs : List (List S_impl_Committee)) (i : Int) : (List S_impl_Committee) := xs.getD i.toNat ([] : List S_impl_Committee)
theorem at_Limpl_Committee {w : World} {A : Option Addr} {n : Nat} {xs : List (List S_impl_Committee)} (h : Kd.C (Kd.slice 24 k_impl_Committee) w A n xs) (i : Int) (h0 : 0 ≤ i) (h1 : i < n) : ∃ ad A0 c0, A = some ad ∧ w.cell? (ad.add i.toNat) = some (.slice A0 (rd_Limpl_Committee xs i).length c0) ∧ (rd_Limpl_Committee xs i).length ≤ c0 ∧ k_impl_Committee.C w A0 (rd_Limpl_Committee xs i).length (rd_Limpl_Committee xs i) := by
  obtain ⟨ad, c, e, _, hK, hc0⟩ := Kd.C_get h ([] : List S_impl_Committee) i h0 h1
  have hc : ∀ j u, c[j]? = some u → w.cell? (ad.add (i.toNat * 1 + j)) = some u := hc0
  obtain ⟨A0, c0, rfl, l0, g0⟩ := hK
  exact ⟨ad, A0, c0, e, by have hq := hc 0 _ rfl; rwa [Nat.mul_one, Nat.add_zero] at hq, l0, g0⟩


/-! ### impl_within: function 44 -/
def impl_within.f (a0:Int) (a1:Int) (a2:Int):Option (Bool):=if a0 ≥ a1 then (some (decide (a0 ≤ a2))) else (some false)
set_option maxHeartbeats 8000000 in
set_option maxRecDepth 100000 in
theorem impl_within.calls (a0:Int) (a1:Int) (a2:Int) (r:Bool) (w:World) (h:impl_within.f a0 a1 a2 = some r) :
  Calls Tryz.prog 44 #[.int .i64 a0,.int .i64 a1,.int .i64 a2] w fun e w'=>e = .returned (.bool r) ∧ Drawn0 w w':=by
 have H:(if a0 ≥ a1 then (some (decide (a0 ≤ a2))) else (some false)) = some r:=h;clear h;by_cases c4:a0 ≥ a1
 ·rw [if_pos c4] at H;have c4b0:decide (a1 ≤ a0) = true:=decide_eq_true c4;clear c4;obtain rfl:=Option.some.inj H;go_enter Tryz.func44,Tryz.ntmps44;go_wp2
  go_ret
  exact ⟨qrs,dR⟩
 ·rw [if_neg c4] at H;have c4b0:decide (a1 ≤ a0) = false:=decide_eq_false c4;clear c4;obtain rfl:=Option.some.inj H;go_enter Tryz.func44,Tryz.ntmps44;go_wp2
  go_ret
  exact ⟨qrs,dR⟩


/-! ### slices_IndexFunc_int_int: function 98 -/
def slices_IndexFunc_int_int.l0:Nat → List Int → (Int → Option (Bool)) → Int → Int → Option (Int)
 | 0,_,_,_,_=>none
 | k + 1,x0,x1,x7,x8=>if x8 < x7 then (if 0 ≤ x8 then (if x8 < (x0.length:Int) then ((x1 (rd x0 x8)).bind fun t2=>(if t2 = true then (some x8) else (slices_IndexFunc_int_int.l0 k x0 x1 x7 (wrap64 (x8 + 1))))) else (none)) else (none)) else (some (-1))
def slices_IndexFunc_int_int.f (k:Nat) (l0:List Int) (a1:(Int → Option (Bool))):Option (Int):=slices_IndexFunc_int_int.l0 k l0 a1 (l0.length:Int) 0
set_option maxHeartbeats 8000000 in
set_option maxRecDepth 100000 in
theorem slices_IndexFunc_int_int.calls (k:Nat) (A0:Option Addr) (c0:Nat) (l0:List Int) (a1:(Int → Option (Bool))) (g1_:Nat) (lb1_:Array Value) (eg1_:∀ (args:Array Value) (w:World),(callFunc g1_ args).run Tryz.prog w = .ok (.enter g1_ args) w) (r:Int) (w:World) (hr0:Kd.C (Kd.int .i64) w A0 l0.length l0) (hc0:l0.length ≤ c0) (hp1:∀ (W:World) (b0_:Int) (r0_:Bool),a1 b0_ = some r0_ → Below w.heap.size w W → Calls Tryz.prog g1_ (#[.int .i64 b0_] ++ lb1_) W fun e w'=>e = .returned (.bool r0_) ∧ Below W.heap.size W w') (h:slices_IndexFunc_int_int.f k l0 a1 = some r) :
  Calls Tryz.prog 98 #[.slice A0 l0.length c0,.func (.func g1_) #[] lb1_] w fun e w'=>e = .returned (.int .i64 r) ∧ Below w.heap.size w w':=by
 have HR0:=aM hr0;have HC0:=aM hc0;clear hr0 hc0;have HP1:=aM hp1;clear hp1;have HB:=aM (Below.refl w.heap.size w);have H:(slices_IndexFunc_int_int.l0 k l0 a1 (l0.length:Int) 0) = some r:=h;clear h;have H':=aM H;clear H;go_enter Tryz.func98,Tryz.ntmps98;go_wp2
 go_loopg [8] k (fun kq v8 w'=>∃ (x8_1:Int),v8 = .int .i64 x8_1 ∧ Aside0 (slices_IndexFunc_int_int.l0 kq l0 a1 (l0.length:Int) x8_1 = some r) ∧ Aside0 (kq ≤ k) ∧ Aside0 (Below w.heap.size w w'))
 case atStart=>exact ⟨(0),qrs,H',⟨Nat.le_refl _⟩,⟨by exact bw⟩⟩
 case round =>
  clear H';obtain ⟨x8_1,rfl,HA,HK1,HB⟩:=hrel
  cases gk with
  | zero=>exact absurd HA.out (by simp [slices_IndexFunc_int_int.l0])
  | succ k1 =>
   have H:=HA.out;clear HA;simp only [slices_IndexFunc_int_int.l0] at H;by_cases c3:x8_1 < (l0.length:Int)
   ·rw [if_pos c3] at H;have c3b0:=decide_eq_true c3;clear c3;replace H:=iN H;obtain ⟨c4,H⟩:=H;have c4b0:decide (0 ≤ x8_1) = true:=decide_eq_true c4;clear c4;replace H:=iN H;obtain ⟨c5,H⟩:=H;have c5b0:decide (x8_1 < (l0.length:Int)) = true:=decide_eq_true c5;clear c5;replace H:=oB H;obtain ⟨t11,A6,H⟩:=H;(try dsimp only at H)
    by_cases c7:t11 = true
    ·subst c7;rw [if_pos rfl] at H;obtain rfl:=Option.some.inj H;have p10:0 ≤ (x8_1:Int):=of_decide_eq_true ab;have q10:x8_1 < (l0.length:Int):=of_decide_eq_true ab;obtain ⟨ad10,e10,hx10_0⟩:=Kd.at_int HR0.out x8_1 p10 q10;cases e10
     replace hx10_0:=(HB.out.cell (World.block_lt_of_cell? w _ hx10_0)).trans hx10_0;replace p10:=eq_true p10;replace q10:=eq_true q10;go_wp2_with (first|((with_reducible refine gate_fn (t:=11) rfl ?_);refine goesFL_ (some 16) rfl rfl eg1_ #[.int .i64 (rd l0 x8_1)] rfl rfl mq ?_;(with_reducible refine (HP1.out _ (rd l0 x8_1) true A6.out ?side1).mono ?_);(case side1=>exact bw);rintro e w8 ⟨rfl,hb⟩;refine ⟨_,rfl,?_⟩;replace HB:=aM (below_step bw hb);(try clear hb)))
     go_ret
     exact ⟨eE,by exact bw⟩
    ·replace c7:=Bool.eq_false_iff.mpr c7;subst c7;rw [if_neg (show ¬ (false = true) by decide)] at H;have H':=aM H;clear H;have p10:0 ≤ (x8_1:Int):=of_decide_eq_true ab;have q10:x8_1 < (l0.length:Int):=of_decide_eq_true ab;obtain ⟨ad10,e10,hx10_0⟩:=Kd.at_int HR0.out x8_1 p10 q10;cases e10
     replace hx10_0:=(HB.out.cell (World.block_lt_of_cell? w _ hx10_0)).trans hx10_0;replace p10:=eq_true p10;replace q10:=eq_true q10;go_wp2_with (first|((with_reducible refine gate_fn (t:=11) rfl ?_);refine goesFL_ (some 16) rfl rfl eg1_ #[.int .i64 (rd l0 x8_1)] rfl rfl mq ?_;(with_reducible refine (HP1.out _ (rd l0 x8_1) false A6.out ?side1).mono ?_);(case side1=>exact bw);rintro e w9 ⟨rfl,hb⟩;refine ⟨_,rfl,?_⟩;replace HB:=aM (below_step bw hb);(try clear hb)))
     go_roundg k1
     case measure=>have:=HK1.out;omega
     case rel=>exact ⟨(wrap64 (x8_1 + 1)),qrs,H',⟨by have:=HK1.out;omega⟩,⟨by exact bw⟩⟩
   ·rw [if_neg c3] at H;have c3b0:=decide_eq_false c3;clear c3;obtain rfl:=Option.some.inj H;go_wp2
    go_ret
    exact ⟨eE,by exact bw⟩


/-! ### slices_ContainsFunc_int_int: function 85 -/
def slices_ContainsFunc_int_int.f (k:Nat) (l0:List Int) (a1:(Int → Option (Bool))):Option (Bool):=(slices_IndexFunc_int_int.f k l0 a1).bind fun t2=>(some (decide (t2 ≥ 0)))
set_option maxHeartbeats 8000000 in
set_option maxRecDepth 100000 in
theorem slices_ContainsFunc_int_int.calls (k:Nat) (A0:Option Addr) (c0:Nat) (l0:List Int) (a1:(Int → Option (Bool))) (g1_:Nat) (lb1_:Array Value) (eg1_:∀ (args:Array Value) (w:World),(callFunc g1_ args).run Tryz.prog w = .ok (.enter g1_ args) w) (r:Bool) (w:World) (hr0:Kd.C (Kd.int .i64) w A0 l0.length l0) (hc0:l0.length ≤ c0) (hp1:∀ (W:World) (b0_:Int) (r0_:Bool),a1 b0_ = some r0_ → Below w.heap.size w W → Calls Tryz.prog g1_ (#[.int .i64 b0_] ++ lb1_) W fun e w'=>e = .returned (.bool r0_) ∧ Below W.heap.size W w') (h:slices_ContainsFunc_int_int.f k l0 a1 = some r) :
  Calls Tryz.prog 85 #[.slice A0 l0.length c0,.func (.func g1_) #[] lb1_] w fun e w'=>e = .returned (.bool r) ∧ Below w.heap.size w w':=by
 have HR0:=aM hr0;have HC0:=aM hc0;clear hr0 hc0;have HP1:=aM hp1;clear hp1;have HB:=aM (Below.refl w.heap.size w);have H:((slices_IndexFunc_int_int.f k l0 a1).bind fun t5=>(some (decide (t5 ≥ 0)))) = some r:=h;clear h;replace H:=oB H;obtain ⟨t5,A3,H⟩:=H;(try dsimp only at H)
 obtain rfl:=Option.some.inj H;go_enter Tryz.func85,Tryz.ntmps85;go_wp2_with (first|((with_reducible refine gate_callee (f:=98) rfl ?_);refine gL 7 Tryz.func98 #[.slice A0 l0.length c0,.func (.func g1_) #[] lb1_] ?_;(with_reducible refine (slices_IndexFunc_int_int.calls k _ _ l0 a1 g1_ lb1_ eg1_ t5 _ ?side1 ?side2 ?side3 A3.out).mono ?_);(case side1=>exact qc HR0.out);(case side2=>exact HC0.out);(case side3=>exact (fun W_ a0_ r0_ hx_ hb_ =>HP1.out W_ a0_ r0_ hx_ (below_step bw hb_) ));rintro e w4 ⟨rfl,hb⟩;refine ⟨_,rfl,?_⟩;replace HB:=aM (below_step bw hb);(try clear hb)))
 go_ret
 exact ⟨eE,by exact bw⟩


/-! ### impl_areIn_1: function 86 -/
def impl_areIn_1.f (a0:Int) (a1:Int) (a2:Int):Option (Bool):=(impl_within.f a0 a1 a2).bind fun t3=>(some (!t3))
set_option maxHeartbeats 8000000 in
set_option maxRecDepth 100000 in
theorem impl_areIn_1.calls (a0:Int) (gc1:Nat) (a1:Int) (gc2:Nat) (a2:Int) (r:Bool) (w:World) (hb1:w.heap[gc1]? = some (.cells #[.int .i64 a1] 3 (0,0))) (hb2:w.heap[gc2]? = some (.cells #[.int .i64 a2] 3 (0,0))) (hn1_2:gc1 ≠ gc2) (h:impl_areIn_1.f a0 a1 a2 = some r) :
  Calls Tryz.prog 86 #[.int .i64 a0,.pointer (some ⟨gc1,0,none⟩),.pointer (some ⟨gc2,0,none⟩)] w fun e w'=>e = .returned (.bool r) ∧ Drawn0 w w':=by
 have BK1:=aM hb1;clear hb1;have BK2:=aM hb2;clear hb2;have NB1_2:=aM hn1_2;have NB2_1:=aM (Ne.symm hn1_2);clear hn1_2;have H:((impl_within.f a0 a1 a2).bind fun t3=>(some (!t3))) = some r:=h;clear h;replace H:=oB H;obtain ⟨t3,A4,H⟩:=H;(try dsimp only at H)
 obtain rfl:=Option.some.inj H;have hnb5:=NB1_2.out;have hnc5:=NB2_1.out;have hcz6_0:=cz BK1.out 0;have hfz6_0:=blk_frozen BK1.out 0;have hcz7_0:=cz BK2.out 0;have hfz7_0:=blk_frozen BK2.out 0;go_enter Tryz.func86,Tryz.ntmps86;go_wp2_with (first|((with_reducible refine gate_callee (f:=44) rfl ?_);refine gL 8 Tryz.func44 #[.int .i64 a0,.int .i64 a1,.int .i64 a2] ?_;(with_reducible refine (impl_within.calls a0 a1 a2 t3 _ A4.out).mono ?_);rintro e w' ⟨rfl,⟨nd,rfl⟩⟩;refine ⟨_,rfl,?_⟩))
 go_ret
 exact ⟨qrs,dR⟩
theorem impl_areIn_1.enters:∀ (args:Array Value) (w:World),(callFunc 86 args).run Tryz.prog w = .ok (.enter 86 args) w:=enters_of Tryz.func86 kR rfl


/-! ### impl_areIn: function 58 -/
def impl_areIn.f (k:Nat) (l0:List Int) (a1:Int) (a2:Int):Option (Bool):=(slices_ContainsFunc_int_int.f k l0 (fun y0_=>impl_areIn_1.f y0_ a1 a2)).bind fun t3=>(some (!t3))
set_option maxHeartbeats 8000000 in
set_option maxRecDepth 100000 in
theorem impl_areIn.calls (k:Nat) (A0:Option Addr) (c0:Nat) (l0:List Int) (a1:Int) (a2:Int) (r:Bool) (w:World) (hr0:Kd.C (Kd.int .i64) w A0 l0.length l0) (hc0:l0.length ≤ c0) (h:impl_areIn.f k l0 a1 a2 = some r) :
  Calls Tryz.prog 58 #[.slice A0 l0.length c0,.int .i64 a1,.int .i64 a2] w fun e w'=>e = .returned (.bool r) ∧ Below w.heap.size w w':=by
 have hmf:∀ (fn:Fn) (first cap:Array Value) (w:World),(Instr.makeFunc fn first cap).run Tryz.prog w = .ok (.func fn first cap) w:=fun _ _ _ _=>rfl
 have HR0:=aM hr0;have HC0:=aM hc0;clear hr0 hc0;have HB:=aM (Below.refl w.heap.size w);have H:((slices_ContainsFunc_int_int.f k l0 (fun y0_=>impl_areIn_1.f y0_ a1 a2)).bind fun t10=>(some (!t10))) = some r:=h;clear h;replace H:=oB H;obtain ⟨t10,A4,H⟩:=H;(try dsimp only at H)
 obtain rfl:=Option.some.inj H;go_enter Tryz.func58,Tryz.ntmps58;go_wp2_with (first|((with_reducible refine gate_dst (N:=4) rfl ?_);refine bE 4 #[.int .i64 a1] 3 ?_;intro gb8 hg w5 hbox hb;have BK8:=aM (hbox);have GW8:=aM (gS hg);have GE8:=aM (gS hg);replace HB:=aM (below_step bw hb);clear hb hbox hg)|((with_reducible refine gate_dst (N:=5) rfl ?_);refine bE 5 #[.int .i64 a2] 3 ?_;intro gb9 hg w6 hbox hb;have BK9:=aM (hbox);have GW9:=aM (gS hg);have GE9:=aM (gS hg);replace HB:=aM (below_step bw hb);have NB8_9:=aM (nL BK8.out hg);have NB9_8:=aM (nR BK8.out hg);replace BK8:=aM (bB BK8.out hb);clear hb hbox hg)|((with_reducible refine gate_callee (f:=85) rfl ?_);refine gL 9 Tryz.func85 #[.slice A0 l0.length c0,.func (.func 86) #[] #[.pointer (some ⟨gb8,0,none⟩),.pointer (some ⟨gb9,0,none⟩)]] ?_;(with_reducible refine (slices_ContainsFunc_int_int.calls k _ _ l0 (fun y0_=>impl_areIn_1.f y0_ a1 a2) 86 #[.pointer (some ⟨gb8,0,none⟩),.pointer (some ⟨gb9,0,none⟩)] impl_areIn_1.enters t10 _ ?side1 ?side2 ?side3 A4.out).mono ?_);(case side1=>exact qcs HR0.out HB.out);(case side2=>exact HC0.out);(case side3=>exact (fun W_ a0_ r0_ hx_ hb_ =>(impl_areIn_1.calls a0_ gb8 a1 gb9 a2 r0_ W_  (box_later (bk1 BK8.out) hb_) (box_later (bk1 BK9.out) hb_) NB8_9.out hx_).mono (fun _ _ h_=>⟨h_.1,h_.2.below⟩)));rintro e w7 ⟨rfl,hb⟩;refine ⟨_,rfl,?_⟩;replace BK8:=aM (bB BK8.out hb);replace BK9:=aM (bB BK9.out hb);replace HB:=aM (below_step bw hb);(try clear hb)))
 go_ret
 exact ⟨eE,by exact bw⟩


/-! ### impl_sumOf: function 59 -/
def impl_sumOf.l0:Nat → Int → List Int → Int → Int → Option (Int)
 | 0,_,_,_,_=>none
 | k + 1,x3,x6,x7,x8=>if x8 < x7 then (if 0 ≤ x8 then (if x8 < (x6.length:Int) then (impl_sumOf.l0 k (wrap64 (x3 + (rd x6 x8))) x6 x7 (wrap64 (x8 + 1))) else (none)) else (none)) else (some x3)
def impl_sumOf.f (k:Nat) (l0:List Int):Option (Int):=impl_sumOf.l0 k 0 l0 (l0.length:Int) 0
set_option maxHeartbeats 8000000 in
set_option maxRecDepth 100000 in
theorem impl_sumOf.calls (k:Nat) (A0:Option Addr) (c0:Nat) (l0:List Int) (r:Int) (w:World) (hr0:Kd.C (Kd.int .i64) w A0 l0.length l0) (hc0:l0.length ≤ c0) (h:impl_sumOf.f k l0 = some r) :
  Calls Tryz.prog 59 #[.slice A0 l0.length c0] w fun e w'=>e = .returned (.int .i64 r) ∧ Drawn0 w w':=by
 have HR0:=aM hr0;have HC0:=aM hc0;clear hr0 hc0;have H:(impl_sumOf.l0 k 0 l0 (l0.length:Int) 0) = some r:=h;clear h;have H':=aM H;clear H;go_enter Tryz.func59,Tryz.ntmps59;go_wp2
 go_loopg [3,8] k (fun kq v3 v8 w'=>∃ (x3_1:Int) (x8_1:Int),v3 = .int .i64 x3_1 ∧ v8 = .int .i64 x8_1 ∧ Aside0 (impl_sumOf.l0 kq x3_1 l0 (l0.length:Int) x8_1 = some r) ∧ Aside0 (kq ≤ k) ∧ Drawn0 w w')
 case atStart=>exact ⟨(0),(0),qrs,qrs,H',⟨Nat.le_refl _⟩,by repeat (first|exact Drawn0.refl _|apply Drawn0.step)⟩
 case round =>
  clear H';obtain ⟨x3_1,x8_1,rfl,rfl,HA,HK1,⟨m1,rfl⟩⟩:=hrel
  cases gk with
  | zero=>exact absurd HA.out (by simp [impl_sumOf.l0])
  | succ k1 =>
   have H:=HA.out;clear HA;simp only [impl_sumOf.l0] at H;by_cases c2:x8_1 < (l0.length:Int)
   ·rw [if_pos c2] at H;have c2b0:=decide_eq_true c2;clear c2;replace H:=iN H;obtain ⟨c3,H⟩:=H;have c3b0:decide (0 ≤ x8_1) = true:=decide_eq_true c3;clear c3;replace H:=iN H;obtain ⟨c4,H⟩:=H;have c4b0:decide (x8_1 < (l0.length:Int)) = true:=decide_eq_true c4;clear c4;have H':=aM H;clear H;have p5:0 ≤ (x8_1:Int):=of_decide_eq_true ab;have q5:x8_1 < (l0.length:Int):=of_decide_eq_true ab;obtain ⟨ad5,e5,hx5_0⟩:=Kd.at_int HR0.out x8_1 p5 q5;cases e5
    replace p5:=eq_true p5;replace q5:=eq_true q5;go_wp2
    go_roundg k1
    case measure=>have:=HK1.out;omega
    case rel=>exact ⟨(wrap64 (x3_1 + (rd l0 x8_1))),(wrap64 (x8_1 + 1)),qrs,qrs,H',⟨by have:=HK1.out;omega⟩,by repeat (first|exact Drawn0.refl _|apply Drawn0.step)⟩
   ·rw [if_neg c2] at H;have c2b0:=decide_eq_false c2;clear c2;obtain rfl:=Option.some.inj H;go_wp2
    go_ret
    exact ⟨qrs,dR⟩


/-! ### impl_IsCommittee: function 27 -/
def impl_IsCommittee.f (k:Nat) (a0_0:Int) (l0_1:List Int):Option (Bool):=if (l0_1.length:Int) ≥ 1 then (if (l0_1.length:Int) ≤ 9 then ((impl_areIn.f k l0_1 0 1000).bind fun t2=>(if t2 = true then ((impl_sumOf.f k l0_1).bind fun t3=>((impl_within.f a0_0 1 t3).bind fun t4=>(some t4))) else (some false))) else (some false)) else (some false)
def impl_IsCommittee.T1:Bool × List (List Nat × List Nat):=(true,[([],[]),([0],[0]),([1],[1]),([2],[2]),([3],[3]),([4],[4]),([5,4],[4,5]),([6,4],[4,6]),([7,4],[4,7]),([4,8],[4,8]),([9,4],[9]),([10],[10]),([11,10],[10,11]),([12,10,10],[10,12]),([10,13],[10,13]),([14,13],[14]),([15],[15]),([16,15],[15,16]),([15],[15]),([18,15],[15,18]),([19,15,15],[15,19]),([17,20,20,15],[15,17,20]),([15,21],[15,21]),([22,21,0,1,2,3,4,5,6,7,8,9,10,11,12,13,14,15,16,17,18,19,20,21,22],[22])])
def impl_IsCommittee.B1:List Nat:=[0,1,3,7,15,31,63,127,255,511,1023,2047,4095,8191,16383,32767,65535,131071,65535,327679,851967,2097151,4194303,8388607]
theorem impl_IsCommittee.tab1:rtab .any (opsOf Tryz.f27 1) = impl_IsCommittee.T1:=by kernel_rfl
theorem impl_IsCommittee.bits1:waitsOk impl_IsCommittee.T1.2 impl_IsCommittee.B1 = true:=by kernel_rfl
set_option maxHeartbeats 8000000 in
set_option maxRecDepth 100000 in
theorem impl_IsCommittee.calls (k:Nat) (a0_0:Int) (A0_1:Option Addr) (c0_1:Nat) (l0_1:List Int) (r:Bool) (w:World) (hr0_1:Kd.C (Kd.int .i64) w A0_1 l0_1.length l0_1) (hc0_1:l0_1.length ≤ c0_1) (h:impl_IsCommittee.f k a0_0 l0_1 = some r) :
  Calls Tryz.prog 27 #[.agg #[.int .i64 a0_0,.slice A0_1 l0_1.length c0_1]] w fun e w'=>e = .returned (.bool r) ∧ Below w.heap.size w w':=by
 have hu24:=Tryz.underlying24;have HR0_1:=aM hr0_1;have HC0_1:=aM hc0_1;clear hr0_1 hc0_1;have HB:=aM (Below.refl w.heap.size w);have H:(if (l0_1.length:Int) ≥ 1 then (if (l0_1.length:Int) ≤ 9 then ((impl_areIn.f k l0_1 0 1000).bind fun t19=>(if t19 = true then ((impl_sumOf.f k l0_1).bind fun t20=>((impl_within.f a0_0 1 t20).bind fun t21=>(some t21))) else (some false))) else (some false)) else (some false)) = some r:=h;clear h;by_cases c2:(l0_1.length:Int) ≥ 1
 ·rw [if_pos c2] at H;have c2b0:decide (1 ≤ (l0_1.length:Int)) = true:=decide_eq_true c2;have c2b1:decide (1 ≤ l0_1.length) = true:=decide_eq_true (by omega);clear c2;by_cases c3:(l0_1.length:Int) ≤ 9
  ·rw [if_pos c3] at H;have c3b0:=decide_eq_true c3;have c3b1:decide (l0_1.length ≤ 9) = true:=decide_eq_true (by omega);clear c3;replace H:=oB H;obtain ⟨t19,A4,H⟩:=H;(try dsimp only at H)
   by_cases c5:t19 = true
   ·subst c5;rw [if_pos rfl] at H;replace H:=oB H;obtain ⟨t20,A6,H⟩:=H;(try dsimp only at H)
    replace H:=oB H;obtain ⟨t21,A7,H⟩:=H;(try dsimp only at H)
    obtain rfl:=Option.some.inj H;go_enter Tryz.func27,Tryz.ntmps27
    try go_wp2_with (first|((with_reducible refine gate_dst (N:=1) rfl ?_);(try (refine gate_guard (by rfl) ?_;dsimp only));refine bE 1 #[.int .i64 a0_0,.slice A0_1 l0_1.length c0_1] 24 ?_;intro gb18 hg w8 hbox hb;have BK18:=aM (hbox);have GW18:=aM (gS hg);have GE18:=aM (gS hg);replace HB:=aM (below_step bw hb);clear hb hbox hg))
    replace BK18:=aM (blk_drew BK18.out);replace HB:=aM (below_drew1 HB.out);refine start_ (n:=24) (S:=fun w'=>w'.cell? ⟨gb18,0,none⟩ = some (.int .i64 a0_0) ∧ w'.cell? ⟨gb18,1,none⟩ = some (.slice A0_1 l0_1.length c0_1)) (ds:=[]) (mA 24 0) kR rfl rfl ⟨(blk_cell BK18.out 0).trans rfl,(blk_cell BK18.out 1).trans rfl⟩ (fun hHeld=>?_);refine with_tabW impl_IsCommittee.tab1 impl_IsCommittee.bits1 (fun HT_ HW_=>?_)
    generalize w8.drew = w9 at BK18 HB hHeld ⊢
    refine pT 0 3 HT_.out ?_;refine pK 1 4 HT_.out HW_.out hHeld ?_;refine pT 2 5 HT_.out ?_;refine pT 3 6 HT_.out ?_;refine pT 4 7 HT_.out ?_;refine pT 5 8 HT_.out ?_;refine pK 6 9 HT_.out HW_.out hHeld ?_;refine pT 7 10 HT_.out ?_;refine pT 8 11 HT_.out ?_;refine pT 9 12 HT_.out ?_;refine pT 10 13 HT_.out ?_;refine pT 11 14 HT_.out ?_;refine pK 12 15 HT_.out HW_.out hHeld ?_;refine oN 13 (some 16) HT_.out fun K hK=>?_
    refine gC Tryz.func58 #[.slice A0_1 l0_1.length c0_1,.int .i64 0,.int .i64 1000] ?_
    with_reducible refine (impl_areIn.calls k _ _ l0_1 0 1000 true _ ?side1 ?side2 A4.out).mono ?_
    (case side1=>exact qcs HR0_1.out HB.out)
    (case side2=>exact HC0_1.out)
    rintro e w10 ⟨rfl,hb⟩
    refine ⟨_,rfl,?_⟩;replace BK18:=aM (bB BK18.out hb);replace HB:=aM (below_step bw hb);(try clear hb)
    refine hK.out _ _ ⟨(blk_cell BK18.out 0).trans rfl,(blk_cell BK18.out 1).trans rfl⟩ (fun hHeld=>?_);clear hK K;refine nM 16 ?_;refine pT 14 17 HT_.out ?_;refine pT 15 18 HT_.out ?_;refine pT 16 19 HT_.out ?_;refine pT 18 21 HT_.out ?_;refine pK 17 20 HT_.out HW_.out hHeld ?_;refine pK 19 22 HT_.out HW_.out hHeld ?_;refine oN 20 (some 23) HT_.out fun K hK=>?_
    refine gC Tryz.func59 #[.slice A0_1 l0_1.length c0_1] ?_
    with_reducible refine (impl_sumOf.calls k _ _ l0_1 t20 _ ?side1 ?side2 A6.out).mono ?_
    (case side1=>exact qcs HR0_1.out HB.out)
    (case side2=>exact HC0_1.out)
    rintro e w' ⟨rfl,⟨nd,rfl⟩⟩
    refine ⟨_,rfl,?_⟩;refine hK.out _ _ ⟨(blk_cell BK18.out 0).trans rfl,(blk_cell BK18.out 1).trans rfl⟩ (fun hHeld=>?_);clear hK K;refine nM 23 ?_;refine oN 21 (some 24) HT_.out fun K hK=>?_
    refine gC Tryz.func44 #[.int .i64 a0_0,.int .i64 1,.int .i64 t20] ?_
    with_reducible refine (impl_within.calls a0_0 1 t20 t21 _ A7.out).mono ?_
    rintro e w' ⟨rfl,⟨nd,rfl⟩⟩
    refine ⟨_,rfl,?_⟩;refine hK.out _ _ ⟨(blk_cell BK18.out 0).trans rfl,(blk_cell BK18.out 1).trans rfl⟩ (fun hHeld=>?_);clear hK K;refine nM 24 ?_;refine pT 22 25 HT_.out ?_;refine pT 23 2 HT_.out ?_;refine done_ (done_of HT_.out kR) ?_
    try go_wp2
    go_ret
    exact ⟨eE,by exact bw⟩
   ·replace c5:=Bool.eq_false_iff.mpr c5;subst c5;rw [if_neg (show ¬ (false = true) by decide)] at H;obtain rfl:=Option.some.inj H;go_enter Tryz.func27,Tryz.ntmps27
    try go_wp2_with (first|((with_reducible refine gate_dst (N:=1) rfl ?_);(try (refine gate_guard (by rfl) ?_;dsimp only));refine bE 1 #[.int .i64 a0_0,.slice A0_1 l0_1.length c0_1] 24 ?_;intro gb18 hg w11 hbox hb;have BK18:=aM (hbox);have GW18:=aM (gS hg);have GE18:=aM (gS hg);replace HB:=aM (below_step bw hb);clear hb hbox hg))
    replace BK18:=aM (blk_drew BK18.out);replace HB:=aM (below_drew1 HB.out);refine start_ (n:=24) (S:=fun w'=>w'.cell? ⟨gb18,0,none⟩ = some (.int .i64 a0_0) ∧ w'.cell? ⟨gb18,1,none⟩ = some (.slice A0_1 l0_1.length c0_1)) (ds:=[]) (mA 24 0) kR rfl rfl ⟨(blk_cell BK18.out 0).trans rfl,(blk_cell BK18.out 1).trans rfl⟩ (fun hHeld=>?_);refine with_tabW impl_IsCommittee.tab1 impl_IsCommittee.bits1 (fun HT_ HW_=>?_)
    generalize w11.drew = w12 at BK18 HB hHeld ⊢
    refine pT 0 3 HT_.out ?_;refine pK 1 4 HT_.out HW_.out hHeld ?_;refine pT 2 5 HT_.out ?_;refine pT 3 6 HT_.out ?_;refine pT 4 7 HT_.out ?_;refine pT 5 8 HT_.out ?_;refine pK 6 9 HT_.out HW_.out hHeld ?_;refine pT 7 10 HT_.out ?_;refine pT 8 11 HT_.out ?_;refine pT 9 12 HT_.out ?_;refine pT 10 13 HT_.out ?_;refine pT 11 14 HT_.out ?_;refine pK 12 15 HT_.out HW_.out hHeld ?_;refine oN 13 (some 16) HT_.out fun K hK=>?_
    refine gC Tryz.func58 #[.slice A0_1 l0_1.length c0_1,.int .i64 0,.int .i64 1000] ?_
    with_reducible refine (impl_areIn.calls k _ _ l0_1 0 1000 false _ ?side1 ?side2 A4.out).mono ?_
    (case side1=>exact qcs HR0_1.out HB.out)
    (case side2=>exact HC0_1.out)
    rintro e w13 ⟨rfl,hb⟩
    refine ⟨_,rfl,?_⟩;replace BK18:=aM (bB BK18.out hb);replace HB:=aM (below_step bw hb);(try clear hb)
    refine hK.out _ _ ⟨(blk_cell BK18.out 0).trans rfl,(blk_cell BK18.out 1).trans rfl⟩ (fun hHeld=>?_);clear hK K;refine nM 16 ?_;refine pT 14 17 HT_.out ?_;refine pT 15 18 HT_.out ?_;refine pU 16 19 HT_.out ?_;refine pU 17 20 HT_.out ?_;refine pU 18 21 HT_.out ?_;refine pU 19 22 HT_.out ?_;refine pU 20 23 HT_.out ?_;refine pU 21 24 HT_.out ?_;refine pT 22 25 HT_.out ?_;refine pT 23 2 HT_.out ?_;refine done_ (done_of HT_.out kR) ?_
    try go_wp2
    go_ret
    exact ⟨eE,by exact bw⟩
  ·rw [if_neg c3] at H;have c3b0:=decide_eq_false c3;have c3b1:decide (l0_1.length ≤ 9) = false:=decide_eq_false (by omega);clear c3;obtain rfl:=Option.some.inj H;go_enter Tryz.func27,Tryz.ntmps27
   try go_wp2_with (first|((with_reducible refine gate_dst (N:=1) rfl ?_);(try (refine gate_guard (by rfl) ?_;dsimp only));refine bE 1 #[.int .i64 a0_0,.slice A0_1 l0_1.length c0_1] 24 ?_;intro gb18 hg w14 hbox hb;have BK18:=aM (hbox);have GW18:=aM (gS hg);have GE18:=aM (gS hg);replace HB:=aM (below_step bw hb);clear hb hbox hg))
   replace BK18:=aM (blk_drew BK18.out);replace HB:=aM (below_drew1 HB.out);refine start_ (n:=24) (S:=fun w'=>w'.cell? ⟨gb18,0,none⟩ = some (.int .i64 a0_0) ∧ w'.cell? ⟨gb18,1,none⟩ = some (.slice A0_1 l0_1.length c0_1)) (ds:=[]) (mA 24 0) kR rfl rfl ⟨(blk_cell BK18.out 0).trans rfl,(blk_cell BK18.out 1).trans rfl⟩ (fun hHeld=>?_);refine with_tabW impl_IsCommittee.tab1 impl_IsCommittee.bits1 (fun HT_ HW_=>?_)
   generalize w14.drew = w15 at BK18 HB hHeld ⊢
   refine pT 0 3 HT_.out ?_;refine pK 1 4 HT_.out HW_.out hHeld ?_;refine pT 2 5 HT_.out ?_;refine pT 3 6 HT_.out ?_;refine pT 4 7 HT_.out ?_;refine pT 5 8 HT_.out ?_;refine pK 6 9 HT_.out HW_.out hHeld ?_;refine pT 7 10 HT_.out ?_;refine pT 8 11 HT_.out ?_;refine pT 9 12 HT_.out ?_;refine pT 10 13 HT_.out ?_;refine pU 11 14 HT_.out ?_;refine pU 12 15 HT_.out ?_;refine pU 13 16 HT_.out ?_;refine pT 14 17 HT_.out ?_;refine pT 15 18 HT_.out ?_;refine pU 16 19 HT_.out ?_;refine pU 17 20 HT_.out ?_;refine pU 18 21 HT_.out ?_;refine pU 19 22 HT_.out ?_;refine pU 20 23 HT_.out ?_;refine pU 21 24 HT_.out ?_;refine pT 22 25 HT_.out ?_;refine pT 23 2 HT_.out ?_;refine done_ (done_of HT_.out kR) ?_
   try go_wp2
   go_ret
   exact ⟨eE,by exact bw⟩
 ·rw [if_neg c2] at H;have c2b0:decide (1 ≤ (l0_1.length:Int)) = false:=decide_eq_false c2;have c2b1:decide (1 ≤ l0_1.length) = false:=decide_eq_false (by omega);clear c2;obtain rfl:=Option.some.inj H;go_enter Tryz.func27,Tryz.ntmps27
  try go_wp2_with (first|((with_reducible refine gate_dst (N:=1) rfl ?_);(try (refine gate_guard (by rfl) ?_;dsimp only));refine bE 1 #[.int .i64 a0_0,.slice A0_1 l0_1.length c0_1] 24 ?_;intro gb18 hg w16 hbox hb;have BK18:=aM (hbox);have GW18:=aM (gS hg);have GE18:=aM (gS hg);replace HB:=aM (below_step bw hb);clear hb hbox hg))
  replace BK18:=aM (blk_drew BK18.out);replace HB:=aM (below_drew1 HB.out);refine start_ (n:=24) (S:=fun w'=>w'.cell? ⟨gb18,0,none⟩ = some (.int .i64 a0_0) ∧ w'.cell? ⟨gb18,1,none⟩ = some (.slice A0_1 l0_1.length c0_1)) (ds:=[]) (mA 24 0) kR rfl rfl ⟨(blk_cell BK18.out 0).trans rfl,(blk_cell BK18.out 1).trans rfl⟩ (fun hHeld=>?_);refine with_tabW impl_IsCommittee.tab1 impl_IsCommittee.bits1 (fun HT_ HW_=>?_)
  generalize w16.drew = w17 at BK18 HB hHeld ⊢
  refine pT 0 3 HT_.out ?_;refine pK 1 4 HT_.out HW_.out hHeld ?_;refine pT 2 5 HT_.out ?_;refine pT 3 6 HT_.out ?_;refine pT 4 7 HT_.out ?_;refine pU 5 8 HT_.out ?_;refine pU 6 9 HT_.out ?_;refine pU 7 10 HT_.out ?_;refine pU 8 11 HT_.out ?_;refine pT 9 12 HT_.out ?_;refine pT 10 13 HT_.out ?_;refine pU 11 14 HT_.out ?_;refine pU 12 15 HT_.out ?_;refine pU 13 16 HT_.out ?_;refine pT 14 17 HT_.out ?_;refine pT 15 18 HT_.out ?_;refine pU 16 19 HT_.out ?_;refine pU 17 20 HT_.out ?_;refine pU 18 21 HT_.out ?_;refine pU 19 22 HT_.out ?_;refine pU 20 23 HT_.out ?_;refine pU 21 24 HT_.out ?_;refine pT 22 25 HT_.out ?_;refine pT 23 2 HT_.out ?_;refine done_ (done_of HT_.out kR) ?_
  try go_wp2
  go_ret
  exact ⟨eE,by exact bw⟩


/-! ### impl_AreCouncil: function 12 -/
mutual
def impl_AreCouncil.j0:Nat → List (S_impl_Committee) → Bool → Option (Bool)
 | 0,_,_=>none
 | k + 1,x1,x18=>if x18 = true then (some false) else (impl_AreCouncil.l0 k 0 x1 (x1.length:Int) 0)
def impl_AreCouncil.l0:Nat → Int → List (S_impl_Committee) → Int → Int → Option (Bool)
 | 0,_,_,_,_=>none
 | k + 1,x5,x19,x20,x21=>if x21 < x20 then (if 0 ≤ x21 then (if x21 < (x19.length:Int) then ((impl_IsCommittee.f k ((rd_impl_Committee x19 x21).f0) ((rd_impl_Committee x19 x21).f1)).bind fun t2=>(if t2 = true then (impl_AreCouncil.l0 k (wrap64 (x5 + (((rd_impl_Committee x19 x21).f1).length:Int))) x19 x20 (wrap64 (x21 + 1))) else (some false))) else (none)) else (none)) else (some (decide (x5 ≤ 9)))
end
def impl_AreCouncil.f (k:Nat) (a0_0:Int) (l0_1:List Int) (l1:List (S_impl_Committee)):Option (Bool):=(impl_IsCommittee.f k a0_0 l0_1).bind fun t2=>(if t2 = true then (impl_AreCouncil.j0 k l1 ((l1.length:Int) != (l0_1.length:Int))) else (impl_AreCouncil.j0 k l1 true))
set_option maxHeartbeats 8000000 in
set_option maxRecDepth 100000 in
theorem impl_AreCouncil.calls (k:Nat) (a0_0:Int) (A0_1:Option Addr) (c0_1:Nat) (l0_1:List Int) (A1:Option Addr) (c1:Nat) (l1:List (S_impl_Committee)) (r:Bool) (w:World) (hr0_1:Kd.C (Kd.int .i64) w A0_1 l0_1.length l0_1) (hc0_1:l0_1.length ≤ c0_1) (hr1:Kd.C k_impl_Committee w A1 l1.length l1) (hc1:l1.length ≤ c1) (h:impl_AreCouncil.f k a0_0 l0_1 l1 = some r) :
  Calls Tryz.prog 12 #[.agg #[.int .i64 a0_0,.slice A0_1 l0_1.length c0_1],.slice A1 l1.length c1] w fun e w'=>e = .returned (.bool r) ∧ Below w.heap.size w w':=by
 have hu24:=Tryz.underlying24;have HR0_1:=aM hr0_1;have HC0_1:=aM hc0_1;clear hr0_1 hc0_1;have HR1:=aM hr1;have HC1:=aM hc1;clear hr1 hc1;have HB:=aM (Below.refl w.heap.size w);have H:((impl_IsCommittee.f k a0_0 l0_1).bind fun t29=>(if t29 = true then (impl_AreCouncil.j0 k l1 ((l1.length:Int) != (l0_1.length:Int))) else (impl_AreCouncil.j0 k l1 true))) = some r:=h;clear h;have HC3:=aM H;clear H;go_enter Tryz.func12,Tryz.ntmps12;go_upto_region 1 with (first|((with_reducible refine gate_dst (N:=2) rfl ?_);(try (refine gate_guard (by rfl) ?_;dsimp only));refine bE 2 #[.int .i64 a0_0,.slice A0_1 l0_1.length c0_1] 24 ?_;intro gb28 hg w4 hbox hb;have BK28:=aM (hbox);have GW28:=aM (gS hg);have GE28:=aM (gS hg);replace HB:=aM (below_step bw hb);clear hb hbox hg))
 (try simp only [Act.put,sA,sZ,sS])
 go_cut [18] (fun v18 wc=>∃ (kq:Nat) (x18_2:Bool),v18 = .bool x18_2 ∧ Aside0 (impl_AreCouncil.j0 kq l1 x18_2 = some r) ∧ Aside0 (kq ≤ k) ∧ Aside0 (wc.heap[gb28]? = some (.cells #[.int .i64 a0_0,(.slice A0_1 l0_1.length c0_1)] 24 (0,0))) ∧ Aside0 (Below w.heap.size w wc))
 case first =>
  have H:=HC3.out;clear HC3;replace H:=oB H;obtain ⟨t29,A5,H⟩:=H;(try dsimp only at H)
  by_cases c6:t29 = true
  ·subst c6;rw [if_pos rfl] at H;have H':=aM H;clear H;have hcz7_0:=cz BK28.out 0;have hcz7_1:=cz BK28.out 1;have hfz7_0:=blk_frozen BK28.out 0;have hfz7_1:=blk_frozen BK28.out 1;go_wp2_with (first|((with_reducible refine gate_callee (f:=27) rfl ?_);refine gL 9 Tryz.func27 #[.agg #[.int .i64 a0_0,.slice A0_1 l0_1.length c0_1]] ?_;(with_reducible refine (impl_IsCommittee.calls k a0_0 _ _ l0_1 true _ ?side1 ?side2 A5.out).mono ?_);(case side1=>exact qcs HR0_1.out HB.out);(case side2=>exact HC0_1.out);rintro e w8 ⟨rfl,hb⟩;refine ⟨_,rfl,?_⟩;replace BK28:=aM (bB BK28.out hb);replace HB:=aM (below_step bw hb);(try clear hb);have hcz9_0:=cz BK28.out 0;have hcz9_1:=cz BK28.out 1;have hfz9_0:=blk_frozen BK28.out 0;have hfz9_1:=blk_frozen BK28.out 1))
   go_meet
   case rel=>exact ⟨_,(((l1.length:Int) != (l0_1.length:Int))),qrs,H',⟨by first|omega|exact Nat.le_refl _⟩,⟨bk1 BK28.out⟩,⟨by exact bw⟩⟩
  ·replace c6:=Bool.eq_false_iff.mpr c6;subst c6;rw [if_neg (show ¬ (false = true) by decide)] at H;have H':=aM H;clear H;have hcz10_0:=cz BK28.out 0;have hcz10_1:=cz BK28.out 1;have hfz10_0:=blk_frozen BK28.out 0;have hfz10_1:=blk_frozen BK28.out 1;go_wp2_with (first|((with_reducible refine gate_callee (f:=27) rfl ?_);refine gL 9 Tryz.func27 #[.agg #[.int .i64 a0_0,.slice A0_1 l0_1.length c0_1]] ?_;(with_reducible refine (impl_IsCommittee.calls k a0_0 _ _ l0_1 false _ ?side1 ?side2 A5.out).mono ?_);(case side1=>exact qcs HR0_1.out HB.out);(case side2=>exact HC0_1.out);rintro e w11 ⟨rfl,hb⟩;refine ⟨_,rfl,?_⟩;replace BK28:=aM (bB BK28.out hb);replace HB:=aM (below_step bw hb);(try clear hb)))
   go_meet
   case rel=>exact ⟨_,(true),qrs,H',⟨by first|omega|exact Nat.le_refl _⟩,⟨bk1 BK28.out⟩,⟨by exact bw⟩⟩
 case rest =>
  clear HC3;(try clear c1);(try clear c6);(try clear hcz10_0);(try clear hcz10_1);(try clear hcz7_0);(try clear hcz7_1);(try clear hcz9_0);(try clear hcz9_1);(try clear hfz10_0);(try clear hfz10_1);(try clear hfz7_0);(try clear hfz7_1);(try clear hfz9_0);(try clear hfz9_1)
  obtain ⟨kq,x18_2,rfl,HA,HJ2,BK28,HB⟩:=hcut
  cases kq with
  | zero=>exact absurd HA.out (by simp [impl_AreCouncil.j0])
  | succ kj2 =>
   have H:=HA.out;clear HA;simp only [impl_AreCouncil.j0] at H;by_cases c12:x18_2 = true
   ·subst c12;rw [if_pos rfl] at H;obtain rfl:=Option.some.inj H;go_wp2
    go_ret
    exact ⟨eE,by exact bw⟩
   ·replace c12:=Bool.eq_false_iff.mpr c12;subst c12;rw [if_neg (show ¬ (false = true) by decide)] at H;have H':=aM H;clear H;go_wp2
    go_loopg [5,21] kj2 (fun kq v5 v21 w'=>∃ (x5_2:Int) (x21_2:Int),v5 = .int .i64 x5_2 ∧ v21 = .int .i64 x21_2 ∧ Aside0 (impl_AreCouncil.l0 kq x5_2 l1 (l1.length:Int) x21_2 = some r) ∧ Aside0 (kq ≤ kj2) ∧ Aside0 (w'.heap[gb28]? = some (.cells #[.int .i64 a0_0,(.slice A0_1 l0_1.length c0_1)] 24 (0,0))) ∧ Aside0 (Below w.heap.size w w'))
    case atStart=>exact ⟨(0),(0),qrs,qrs,H',⟨Nat.le_refl _⟩,⟨bk1 BK28.out⟩,⟨by exact bw⟩⟩
    case round =>
     clear H';(try clear c12)
     obtain ⟨x5_2,x21_2,rfl,rfl,HA,HK2,BK28,HB⟩:=hrel
     cases gk with
     | zero=>exact absurd HA.out (by simp [impl_AreCouncil.l0])
     | succ k2 =>
      have H:=HA.out;clear HA;simp only [impl_AreCouncil.l0] at H;by_cases c13:x21_2 < (l1.length:Int)
      ·rw [if_pos c13] at H;have c13b0:=decide_eq_true c13;clear c13;replace H:=iN H;obtain ⟨c14,H⟩:=H;have c14b0:decide (0 ≤ x21_2) = true:=decide_eq_true c14;clear c14;replace H:=iN H;obtain ⟨c15,H⟩:=H;have c15b0:decide (x21_2 < (l1.length:Int)) = true:=decide_eq_true c15;clear c15;replace H:=oB H;obtain ⟨t32,A16,H⟩:=H;(try dsimp only at H)
       by_cases c17:t32 = true
       ·subst c17;rw [if_pos rfl] at H;have H':=aM H;clear H;have p30:0 ≤ (x21_2:Int):=of_decide_eq_true ab;have q30:x21_2 < (l1.length:Int):=of_decide_eq_true ab;obtain ⟨ad30,A30_1,c115_1,e30,hx30_0,hx30_1,hl30_1,hi30_1⟩:=at_impl_Committee HR1.out x21_2 p30 q30;cases e30
        replace hx30_0:=(HB.out.cell (World.block_lt_of_cell? w _ hx30_0)).trans hx30_0;replace hx30_1:=(HB.out.cell (World.block_lt_of_cell? w _ hx30_1)).trans hx30_1;have HR30_1:=aM hi30_1;have HC30_1:=aM hl30_1;clear hi30_1 hl30_1;replace p30:=eq_true p30;replace q30:=eq_true q30;go_wp2_with (first|((with_reducible refine gate_dst (N:=7) rfl ?_);(try (refine gate_guard (by rfl) ?_;dsimp only));refine bE 7 #[.int .i64 0,.slice none 0 0] 24 ?_;intro gb31 hg w18 hbox hb;have BK31:=aM (hbox);have GW31:=aM (gS hg);have GE31:=aM (gS hg);replace HB:=aM (below_step bw hb);have NB28_31:=aM (nL BK28.out hg);have NB31_28:=aM (nR BK28.out hg);replace BK28:=aM (bB BK28.out hb);clear hb hbox hg;have hnb19:=NB31_28.out;have hnc19:=NB28_31.out;have hcz20_0:=cz BK31.out 0;have hcz20_1:=cz BK31.out 1;have hfz20_0:=blk_frozen BK31.out 0;have hfz20_1:=blk_frozen BK31.out 1)|((with_reducible refine gate_callee (f:=27) rfl ?_);refine gL 26 Tryz.func27 #[.agg #[.int .i64 ((rd_impl_Committee l1 x21_2).f0),.slice A30_1 ((rd_impl_Committee l1 x21_2).f1).length c115_1]] ?_;(with_reducible refine (impl_IsCommittee.calls k2 ((rd_impl_Committee l1 x21_2).f0) _ _ ((rd_impl_Committee l1 x21_2).f1) true _ ?side1 ?side2 A16.out).mono ?_);(case side1=>exact Kd.C_below HR30_1.out bw);(case side2=>exact HC30_1.out);rintro e w21 ⟨rfl,hb⟩;refine ⟨_,rfl,?_⟩;replace BK28:=aM (blk_below (g:=gb28) (o:=.cells #[.int .i64 a0_0,.slice A0_1 l0_1.length c0_1] 24 (0,0)) (by (with_reducible repeat (first|refine blk_drewN ?_ _|refine blk_drew ?_|refine blk_alloc ?_ _));refine blk_far ?_ NB28_31.out _;(with_reducible repeat (first|refine blk_drewN ?_ _|refine blk_drew ?_|refine blk_alloc ?_ _));refine blk_far ?_ NB28_31.out _;(with_reducible repeat (first|refine blk_drewN ?_ _|refine blk_drew ?_|refine blk_alloc ?_ _));exact BK28.out) hb);replace BK31:=aM (blk_below (g:=gb31) (o:=.cells #[.int .i64 ((rd_impl_Committee l1 x21_2).f0),.slice A30_1 ((rd_impl_Committee l1 x21_2).f1).length c115_1] 24 (0,0)) (by (with_reducible repeat (first|refine blk_drewN ?_ _|refine blk_drew ?_|refine blk_alloc ?_ _));refine blk_put (cs:=#[.int .i64 ((rd_impl_Committee l1 x21_2).f0),.slice none 0 0]) ?_ 1 _ rfl;(with_reducible repeat (first|refine blk_drewN ?_ _|refine blk_drew ?_|refine blk_alloc ?_ _));refine blk_put (cs:=#[.int .i64 0,.slice none 0 0]) ?_ 0 _ rfl;(with_reducible repeat (first|refine blk_drewN ?_ _|refine blk_drew ?_|refine blk_alloc ?_ _));exact BK31.out) hb);replace HB:=aM (below_step bw hb);(try clear hb);have hcz22_0:=cz BK31.out 0;have hcz22_1:=cz BK31.out 1;have hfz22_0:=blk_frozen BK31.out 0;have hfz22_1:=blk_frozen BK31.out 1))
        go_roundg k2
        case measure=>have:=HJ2.out;have:=HK2.out;omega
        case rel=>exact ⟨(wrap64 (x5_2 + (((rd_impl_Committee l1 x21_2).f1).length:Int))),(wrap64 (x21_2 + 1)),qrs,qrs,H',⟨by have:=HJ2.out;have:=HK2.out;omega⟩,⟨bk1 BK28.out⟩,⟨by exact bw⟩⟩
       ·replace c17:=Bool.eq_false_iff.mpr c17;subst c17;rw [if_neg (show ¬ (false = true) by decide)] at H;obtain rfl:=Option.some.inj H;have p30:0 ≤ (x21_2:Int):=of_decide_eq_true ab;have q30:x21_2 < (l1.length:Int):=of_decide_eq_true ab;obtain ⟨ad30,A30_1,c115_1,e30,hx30_0,hx30_1,hl30_1,hi30_1⟩:=at_impl_Committee HR1.out x21_2 p30 q30;cases e30
        replace hx30_0:=(HB.out.cell (World.block_lt_of_cell? w _ hx30_0)).trans hx30_0;replace hx30_1:=(HB.out.cell (World.block_lt_of_cell? w _ hx30_1)).trans hx30_1;have HR30_1:=aM hi30_1;have HC30_1:=aM hl30_1;clear hi30_1 hl30_1;replace p30:=eq_true p30;replace q30:=eq_true q30;go_wp2_with (first|((with_reducible refine gate_dst (N:=7) rfl ?_);(try (refine gate_guard (by rfl) ?_;dsimp only));refine bE 7 #[.int .i64 0,.slice none 0 0] 24 ?_;intro gb31 hg w23 hbox hb;have BK31:=aM (hbox);have GW31:=aM (gS hg);have GE31:=aM (gS hg);replace HB:=aM (below_step bw hb);have NB28_31:=aM (nL BK28.out hg);have NB31_28:=aM (nR BK28.out hg);replace BK28:=aM (bB BK28.out hb);clear hb hbox hg;have hnb24:=NB31_28.out;have hnc24:=NB28_31.out;have hcz25_0:=cz BK31.out 0;have hcz25_1:=cz BK31.out 1;have hfz25_0:=blk_frozen BK31.out 0;have hfz25_1:=blk_frozen BK31.out 1)|((with_reducible refine gate_callee (f:=27) rfl ?_);refine gL 26 Tryz.func27 #[.agg #[.int .i64 ((rd_impl_Committee l1 x21_2).f0),.slice A30_1 ((rd_impl_Committee l1 x21_2).f1).length c115_1]] ?_;(with_reducible refine (impl_IsCommittee.calls k2 ((rd_impl_Committee l1 x21_2).f0) _ _ ((rd_impl_Committee l1 x21_2).f1) false _ ?side1 ?side2 A16.out).mono ?_);(case side1=>exact Kd.C_below HR30_1.out bw);(case side2=>exact HC30_1.out);rintro e w26 ⟨rfl,hb⟩;refine ⟨_,rfl,?_⟩;replace BK28:=aM (blk_below (g:=gb28) (o:=.cells #[.int .i64 a0_0,.slice A0_1 l0_1.length c0_1] 24 (0,0)) (by (with_reducible repeat (first|refine blk_drewN ?_ _|refine blk_drew ?_|refine blk_alloc ?_ _));refine blk_far ?_ NB28_31.out _;(with_reducible repeat (first|refine blk_drewN ?_ _|refine blk_drew ?_|refine blk_alloc ?_ _));refine blk_far ?_ NB28_31.out _;(with_reducible repeat (first|refine blk_drewN ?_ _|refine blk_drew ?_|refine blk_alloc ?_ _));exact BK28.out) hb);replace BK31:=aM (blk_below (g:=gb31) (o:=.cells #[.int .i64 ((rd_impl_Committee l1 x21_2).f0),.slice A30_1 ((rd_impl_Committee l1 x21_2).f1).length c115_1] 24 (0,0)) (by (with_reducible repeat (first|refine blk_drewN ?_ _|refine blk_drew ?_|refine blk_alloc ?_ _));refine blk_put (cs:=#[.int .i64 ((rd_impl_Committee l1 x21_2).f0),.slice none 0 0]) ?_ 1 _ rfl;(with_reducible repeat (first|refine blk_drewN ?_ _|refine blk_drew ?_|refine blk_alloc ?_ _));refine blk_put (cs:=#[.int .i64 0,.slice none 0 0]) ?_ 0 _ rfl;(with_reducible repeat (first|refine blk_drewN ?_ _|refine blk_drew ?_|refine blk_alloc ?_ _));exact BK31.out) hb);replace HB:=aM (below_step bw hb);(try clear hb)))
        go_ret
        exact ⟨eE,by exact bw⟩
      ·rw [if_neg c13] at H;have c13b0:=decide_eq_false c13;clear c13;obtain rfl:=Option.some.inj H;go_wp2
       go_ret
       exact ⟨eE,by exact bw⟩


/-! ### impl_votesOf: function 60 -/
def impl_votesOf.l0:Nat → (Int → Option (Bool)) → Int → Int → Int → List Bool → Option (Int × List Bool)
 | 0,_,_,_,_,_=>none
 | k + 1,x1,x14,x15,x3,x4=>if x15 < x14 then ((x1 x15).bind fun t2=>(if 0 ≤ x15 then (if x15 < (x4.length:Int) then (impl_votesOf.l0 k x1 x14 (wrap64 (x15 + 1)) x3 (x4.set (x15:Int).toNat t2)) else (none)) else (none))) else (some (x3,x4))
def impl_votesOf.f (k:Nat) (a0:Int) (a1:(Int → Option (Bool))):Option (Int × List Bool):=if 0 ≤ a0 then (if 0 ≤ (shl .i64 1 a0) then (if (shl .i64 1 a0:Int).toNat ≤ 281474976710656 then ((some (List.replicate (shl .i64 1 a0:Int).toNat false:List Bool)).bind fun y2=>(impl_votesOf.l0 k a1 (y2.length:Int) 0 a0 y2)) else (none)) else (none)) else (none)
def impl_votesOf.T5:Bool × List (List Nat × List Nat):=(true,[([],[]),([0],[0]),([],[]),([],[]),([],[]),([3,4],[3,4]),([1,2,0,1,2,3,4,5],[1,2]),([6,5,5,0,1,2,3,4,5],[5,6])])
def impl_votesOf.B5:List Nat:=[0,1,0,0,0,24,63,127]
theorem impl_votesOf.tab5:rtab .any (opsOf Tryz.f60 5) = impl_votesOf.T5:=by kernel_rfl
theorem impl_votesOf.bits5:waitsOk impl_votesOf.T5.2 impl_votesOf.B5 = true:=by kernel_rfl
set_option maxHeartbeats 8000000 in
set_option maxRecDepth 100000 in
theorem impl_votesOf.calls (k:Nat) (a0:Int) (a1:(Int → Option (Bool))) (g1_:Nat) (lb1_:Array Value) (eg1_:∀ (args:Array Value) (w:World),(callFunc g1_ args).run Tryz.prog w = .ok (.enter g1_ args) w) (r1:Int) (r2:List Bool) (w:World) (hp1:∀ (W:World) (b0_:Int) (r0_:Bool),a1 b0_ = some r0_ → Below w.heap.size w W → Calls Tryz.prog g1_ (#[.int .i64 b0_] ++ lb1_) W fun e w'=>e = .returned (.bool r0_) ∧ Below W.heap.size W w') (h:impl_votesOf.f k a0 a1 = some (r1,r2)) :
  Calls Tryz.prog 60 #[.int .i64 a0,.func (.func g1_) #[] lb1_] w fun e w'=>∃ v1_:Value,e = .returned (.agg #[.int .i64 r1,v1_]) ∧ Kd.R Kd.bool 4 w' w.heap.size (fun _=>True) v1_ r2 ∧ Below w.heap.size w w':=by
 have hu59:=Tryz.underlying59;have HP1:=aM hp1;clear hp1;have HB:=aM (Below.refl w.heap.size w);have H:(if 0 ≤ a0 then (if 0 ≤ (shl .i64 1 a0) then (if (shl .i64 1 a0:Int).toNat ≤ 281474976710656 then ((some (List.replicate (shl .i64 1 a0:Int).toNat false:List Bool)).bind fun y27=>(impl_votesOf.l0 k a1 (y27.length:Int) 0 a0 y27)) else (none)) else (none)) else (none)) = some (r1,r2):=h;clear h;replace H:=iN H;obtain ⟨c3,H⟩:=H;have c3b0:=eq_true c3;have c3b1:decide (0 ≤ a0) = true:=decide_eq_true c3;clear c3;obtain ⟨ji4,hji4⟩:∃ j_:Int,(shl .i64 1 a0) = j_:=⟨_,rfl⟩;(first|rw [hji4] at H|simp only [hji4] at H)
 have hji4_:(IntKind.i64.wrap (1 * 2 ^ min a0.toNat 64)) = ji4:=hji4;have hji4z:a0 ≤ 64 → (IntKind.i64.wrap (1 * 2 ^ a0.toNat)) = ji4:=shl_small hji4;have hji4u:(IntKind.i64.wrap (2 ^ min a0.toNat 64)) = ji4:=by have h_:=hji4_;rw [Int.one_mul] at h_;exact h_
 have hji4v:a0 ≤ 64 → (IntKind.i64.wrap (2 ^ a0.toNat)) = ji4:=fun hle_=>by have h_:=hji4z hle_;rw [Int.one_mul] at h_;exact h_
 have hji4y:(wrap64 (1 * 2 ^ min a0.toNat 64)) = ji4:=(i64_w _).symm.trans hji4_;have hji4x:a0 ≤ 64 → (wrap64 (1 * 2 ^ a0.toNat)) = ji4:=fun h_=>(i64_w _).symm.trans (hji4z h_)
 replace H:=iN H;obtain ⟨c5,H⟩:=H;have c5b0:=eq_true c5;have c5b1:decide (0 ≤ (ji4)) = true:=decide_eq_true c5;clear c5;replace H:=iN H;obtain ⟨c6,H⟩:=H;have c6b0:=eq_true c6;have c6b1:decide ((ji4:Int).toNat ≤ 281474976710656) = true:=decide_eq_true c6;clear c6;obtain ⟨y27,hy27⟩:∃ y_:List Bool,y_ = (List.replicate (ji4:Int).toNat false):=⟨_,rfl⟩;replace H:(impl_votesOf.l0 k a1 (y27.length:Int) 0 a0 y27) = some (r1,r2):=yR hy27 H;have Ny27:=aM hy27;clear hy27;have H':=aM H;clear H;go_enter Tryz.func60,Tryz.ntmps60;go_wp2_with (first|((with_reducible refine gate_dst (N:=4) rfl ?_);refine bE 4 #[.int .i64 0,.slice none 0 0] 59 ?_;intro gb26 hg w7 hbox hb;have BK26:=aM (hbox);have GW26:=aM (gS hg);have GE26:=aM (gS hg);replace HB:=aM (below_step bw hb);clear hb hbox hg)|((with_reducible refine gate_dst (N:=10) rfl ?_);refine Kd.R_make Kd.bool _ 4 rfl (N:=10) rfl 57 _ _ rfl ji4 rfl rfl Tryz.underlying57 (.bool false) 1 info4 rfl (by decide) (by omega) false (ok:=fun _=>True) (okp:=fun _=>True) rfl (fun _ hk=>hk) trivial (of_decide_eq_true ab) (Nat.le_trans (Nat.mul_le_mul_right _ (of_decide_eq_true ab:ji4.toNat ≤ 281474976710656)) (by omega)) (Below.refl _ _) (Nat.le_refl _) ?_;intro v28 w8 ho9 hb hg_ hnew_;clear hg_ hnew_;(first|rw [← Ny27.out] at ho9|(simp only [Int.reduceToNat] at ho9;rw [← Ny27.out] at ho9));have HO29:=aM (Kd.R_lower ho9 (below_size bw));replace BK26:=aM (bB BK26.out hb);replace HB:=aM (below_step bw hb);clear hb ho9;obtain ⟨Ao10,co10,eo10⟩:=Kd.R_slice HO29.out;subst eo10)|((with_reducible refine gate_dst (N:=5) rfl ?_);refine bE 5 #[.int .i64 0,.slice none 0 0] 59 ?_;intro gb30 hg w11 hbox hb;replace HO29:=aM (Kd.R_below (qra HO29.out) hb);have BK30:=aM (hbox);have GW30:=aM (gS hg);have GE30:=aM (gS hg);replace HB:=aM (below_step bw hb);have NB26_30:=aM (nL BK26.out hg);have NB30_26:=aM (nR BK26.out hg);replace BK26:=aM (bB BK26.out hb);clear hb hbox hg;have hnb12:=NB30_26.out;have hnc12:=NB26_30.out;have hcz13_0:=cz BK30.out 0;have hcz13_1:=cz BK30.out 1;have hfz13_0:=blk_frozen BK30.out 0;have hfz13_1:=blk_frozen BK30.out 1))
 go_loopg [15] k (fun kq v15 w'=>∃ (x15_1:Int) (x33_1:List Bool) (u33:Value),v15 = .int .i64 x15_1 ∧ Aside0 (impl_votesOf.l0 kq a1 (y27.length:Int) x15_1 a0 x33_1 = some (r1,r2)) ∧ Aside0 (kq ≤ k) ∧ Aside0 (Kd.R Kd.bool 4 w' w.heap.size (fun _=>True) u33 x33_1) ∧ Aside0 (w'.heap[gb26]? = some (.cells #[.int .i64 0,(.slice none 0 0)] 59 (0,0))) ∧ Aside0 (w'.heap[gb30]? = some (.cells #[.int .i64 a0,u33] 59 (0,0))) ∧ Aside0 (Below w.heap.size w w'))
 case atStart=>exact ⟨(0),(y27),(.slice Ao10 y27.length co10),qrs,H',⟨Nat.le_refl _⟩,⟨by (with_reducible repeat (first|apply Kd.R_alloc|apply Kd.R_drewN|apply Kd.R_drew));exact Kd.R_mono (Kd.R_far (p:=⟨gb30,1,none⟩) (Kd.R_far (p:=⟨gb30,0,none⟩) (Kd.R_types HO29.out BK30.out (by decide)) (fun _ hk=>hk.2) (.int .i64 a0)) (fun _ hk=>hk.2) (.slice Ao10 y27.length co10)) (fun _ hk=>trivial)⟩,⟨by (with_reducible repeat (first|refine blk_drewN ?_ _|refine blk_drew ?_|refine blk_alloc ?_ _));refine blk_far ?_ NB26_30.out _;(with_reducible repeat (first|refine blk_drewN ?_ _|refine blk_drew ?_|refine blk_alloc ?_ _));refine blk_far ?_ NB26_30.out _;(with_reducible repeat (first|refine blk_drewN ?_ _|refine blk_drew ?_|refine blk_alloc ?_ _));exact BK26.out⟩,⟨by (with_reducible repeat (first|refine blk_drewN ?_ _|refine blk_drew ?_|refine blk_alloc ?_ _));refine blk_put (cs:=#[.int .i64 a0,.slice none 0 0]) ?_ 1 _ rfl;(with_reducible repeat (first|refine blk_drewN ?_ _|refine blk_drew ?_|refine blk_alloc ?_ _));refine blk_put (cs:=#[.int .i64 0,.slice none 0 0]) ?_ 0 _ rfl;(with_reducible repeat (first|refine blk_drewN ?_ _|refine blk_drew ?_|refine blk_alloc ?_ _));exact BK30.out⟩,⟨by exact bw⟩⟩
 case round =>
  clear H';(try clear c3);(try clear c3b0);(try clear c3b1);(try clear c5);(try clear c5b0);(try clear c5b1);(try clear c6);(try clear c6b0);(try clear c6b1);(try clear hcz13_0);(try clear hcz13_1);(try clear hfz13_0);(try clear hfz13_1)
  obtain ⟨x15_1,x33_1,u33,rfl,HA,HK1,HO_33,BK26,BK30,HB⟩:=hrel
  cases gk with
  | zero=>exact absurd HA.out (by simp [impl_votesOf.l0])
  | succ k1 =>
   have H:=HA.out;clear HA;simp only [impl_votesOf.l0] at H;by_cases c14:x15_1 < (y27.length:Int)
   ·rw [if_pos c14] at H;have c14b0:=decide_eq_true c14;clear c14;replace H:=oB H;obtain ⟨t31,A15,H⟩:=H;(try dsimp only at H)
    replace H:=iN H;obtain ⟨c16,H⟩:=H;have c16b0:decide (0 ≤ x15_1) = true:=decide_eq_true c16;clear c16;replace H:=iN H;obtain ⟨c17,H⟩:=H;have c17b0:decide (x15_1 < (x33_1.length:Int)) = true:=decide_eq_true c17;clear c17;obtain ⟨y32,hy32⟩:∃ y_:List Bool,y_ = (x33_1.set (x15_1:Int).toNat t31):=⟨_,rfl⟩;replace H:(impl_votesOf.l0 k1 a1 (y27.length:Int) (wrap64 (x15_1 + 1)) a0 y32) = some (r1,r2):=yR hy32 H;have Ny32:=aM hy32;clear hy32;have H':=aM H;clear H
    try go_wp2
    replace HO_33:=aM (Kd.R_drew HO_33.out);replace BK26:=aM (blk_drew BK26.out);replace BK30:=aM (blk_drew BK30.out);replace HB:=aM (below_drew1 HB.out);refine start_ (n:=8) (S:=fun w'=>w'.cell? ⟨gb30,0,none⟩ = some (.int .i64 a0) ∧ w'.cell? ⟨gb30,1,none⟩ = some (u33)) (ds:=[7]) (mA 8 0) kR rfl rfl ⟨(blk_cell BK30.out 0).trans rfl,(blk_cell BK30.out 1).trans rfl⟩ (fun hHeld=>?_);refine with_tabW impl_votesOf.tab5 impl_votesOf.bits5 (fun HT_ HW_=>?_)
    generalize wr.drew = w19 at HO_33 BK26 BK30 HB hHeld ⊢
    refine pT 0 18 HT_.out ?_;refine pT 2 20 HT_.out ?_;refine pT 3 21 HT_.out ?_;refine pT 4 22 HT_.out ?_;refine pK 1 19 HT_.out HW_.out hHeld ?_;refine oN 5 (some 23) HT_.out fun K hK=>?_
    refine goesFr_ eg1_ #[.int .i64 x15_1] (by rfl) rfl rfl (by rfl) mq ?_
    with_reducible refine (HP1.out _ x15_1 t31 A15.out ?side1).mono ?_
    (case side1=>exact bw)
    rintro e w20 ⟨rfl,hb⟩
    refine ⟨_,rfl,?_⟩;replace HO_33:=aM (Kd.R_below (qra HO_33.out) hb);replace BK26:=aM (bB BK26.out hb);replace BK30:=aM (bB BK30.out hb);replace HB:=aM (below_step bw hb);(try clear hb)
    (try clear hk)
    have p18:0 ≤ (x15_1:Int):=of_decide_eq_true ab;have q18:(x15_1:Int) < ((x33_1.length:Int):Int):=of_decide_eq_true ab;obtain ⟨go18,co18,eo18,gb18,gl18,cl18,HG18⟩:=Kd.R_form HO_33.out (by omega);(first|cases eo18|(injection eo18 with ea_ en_ ec_;(first|subst ea_|(injection ea_ with ea_;subst ea_));subst ec_;clear en_))
    have GB18:=aM gb18;have GG18:=aM HG18;clear gb18 gl18 HG18;obtain ⟨hx18_0,hf18_0⟩:=Kd.R_celln false HO_33.out (x15_1:Int) p18 q18;replace p18:=eq_true p18;replace q18:=eq_true q18;have HP21:=Kd.R_putn HO_33.out (x15_1:Int) t31;rw [← Ny32.out] at HP21;have HQ21:=aM HP21;clear HP21;refine hK.out _ _ ⟨(blk_cell BK30.out 0).trans rfl,(blk_cell BK30.out 1).trans rfl⟩ (fun hHeld=>?_);clear hK K;refine nM 23 ?_;refine pT 6 24 HT_.out ?_;refine last_ (i:=7) (N:=none) (mA 8 255) rfl rfl (one_of HT_.out kR) (by decide) (fun K hK=>?_);refine skip_ (w1:=?_) (by rfl) rfl ?_ ?_;rotate_left
    ·go_simp
     rfl
    refine hK.out _ _ ?_;clear hK K;refine done_ (done_of HT_.out kR) ?_
    try go_wp2
    go_roundg k1
    case measure=>have:=HK1.out;omega
    case rel=>exact ⟨(wrap64 (x15_1 + 1)),(y32),(.slice (some ⟨go18,0,none⟩) x33_1.length co18),qrs,H',⟨by have:=HK1.out;omega⟩,⟨qra HQ21.out⟩,⟨by (with_reducible repeat (first|refine blk_drewN ?_ _|refine blk_drew ?_|refine blk_alloc ?_ _));refine blk_far ?_ (by have h_:=Kd.R_ne HO_33.out BK26.out (by decide);intro e_;exact h_ (by rw [e_];rfl)) _;(with_reducible repeat (first|refine blk_drewN ?_ _|refine blk_drew ?_|refine blk_alloc ?_ _));exact BK26.out⟩,⟨by (with_reducible repeat (first|refine blk_drewN ?_ _|refine blk_drew ?_|refine blk_alloc ?_ _));refine blk_far ?_ (by have h_:=Kd.R_ne HO_33.out BK30.out (by decide);intro e_;exact h_ (by rw [e_];rfl)) _;(with_reducible repeat (first|refine blk_drewN ?_ _|refine blk_drew ?_|refine blk_alloc ?_ _));exact BK30.out⟩,⟨by repeat (first|(with_reducible first|exact HB.out|apply below_alloc|apply pw_below_drewN|apply below_drew1|refine below_set ?_ GB18.out|refine below_set ?_ GE26.out|refine below_set ?_ GE30.out)|exact HB.out)⟩⟩
   ·rw [if_neg c14] at H;have c14b0:=decide_eq_false c14;clear c14;simp only [Option.some.injEq,Prod.mk.injEq] at H;obtain ⟨rfl,rfl⟩:=H;have hnb22:=NB30_26.out;have hnc22:=NB26_30.out;have hcz23_0:=cz BK30.out 0;have hcz23_1:=cz BK30.out 1;have hfz23_0:=blk_frozen BK30.out 0;have hfz23_1:=blk_frozen BK30.out 1;have hcz24_0:=cz BK26.out 0;have hcz24_1:=cz BK26.out 1;have hfz24_0:=blk_frozen BK26.out 0;have hfz24_1:=blk_frozen BK26.out 1;obtain ⟨Ao25,co25,eo25⟩:=Kd.R_slice HO_33.out;subst eo25;go_wp2
    refine bodyPost_ret (results_cell_row rfl _ _ gb26 59 #[.int .i64 a0,.slice Ao25 x33_1.length co25] (0,0) _ rfl (by (with_reducible repeat (first|refine blk_drewN ?_ _|refine blk_drew ?_|refine blk_alloc ?_ _));refine blk_put (cs:=#[.int .i64 a0,.slice none 0 0]) ?_ 1 _ rfl;(with_reducible repeat (first|refine blk_drewN ?_ _|refine blk_drew ?_|refine blk_alloc ?_ _));refine blk_put (cs:=#[.int .i64 0,.slice none 0 0]) ?_ 0 _ rfl;(with_reducible repeat (first|refine blk_drewN ?_ _|refine blk_drew ?_|refine blk_alloc ?_ _));exact BK26.out) Tryz.underlying59 rfl kR) rfl ?_;exact ⟨_,by first|rfl|(simp [errW_none,errW_some] <;> rfl)|(simp only [← hji4];first|rfl|(simp [errW_none,errW_some] <;> rfl))|(simp [*,errW_none,errW_some] <;> rfl),by (with_reducible repeat (first|apply Kd.R_alloc|apply Kd.R_drewN|apply Kd.R_drew));exact Kd.R_mono (Kd.R_far (p:=⟨gb26,1,none⟩) (Kd.R_far (p:=⟨gb26,0,none⟩) (Kd.R_types HO_33.out BK26.out (by decide)) (fun _ hk=>hk.2) (.int .i64 a0)) (fun _ hk=>hk.2) (.slice Ao25 x33_1.length co25)) (fun _ hk=>trivial),by exact bw⟩


/-! ### impl_has: function 83 -/
def impl_has.f (a0:Int) (a1:Int):Option (Bool):=if 0 ≤ a1 then (some ((Go.bits .and .i64 (shr .i64 a0 a1) 1) == 1)) else (none)
set_option maxHeartbeats 8000000 in
set_option maxRecDepth 100000 in
theorem impl_has.calls (a0:Int) (a1:Int) (r:Bool) (w:World) (h:impl_has.f a0 a1 = some r) :
  Calls Tryz.prog 83 #[.int .i64 a0,.int .i64 a1] w fun e w'=>e = .returned (.bool r) ∧ Drawn0 w w':=by
 have H:(if 0 ≤ a1 then (some ((Go.bits .and .i64 (shr .i64 a0 a1) 1) == 1)) else (none)) = some r:=h;clear h;replace H:=iN H;obtain ⟨c3,H⟩:=H;have c3b0:=eq_true c3;have c3b1:decide (0 ≤ a1) = true:=decide_eq_true c3;clear c3;obtain ⟨ji4,hji4⟩:∃ j_:Int,(shr .i64 a0 a1) = j_:=⟨_,rfl⟩;(first|rw [hji4] at H|simp only [hji4] at H)
 have hji4_:(a0 / 2 ^ min a1.toNat 64) = ji4:=hji4;have hji4z:a1 ≤ 64 → (a0 / 2 ^ a1.toNat) = ji4:=shr_small hji4;obtain rfl:=Option.some.inj H;go_enter Tryz.func83,Tryz.ntmps83;go_wp2
 go_ret
 exact ⟨by first|rfl|(simp;done)|(simp only [← hji4] <;> (first|rfl|simp))|(simp [*];done),by repeat (first|exact Drawn0.refl _|apply Drawn0.step)⟩


/-! ### impl_Committee_weight: function 52 -/
def impl_Committee_weight.l0:Nat → Int → Int → List Int → Int → Int → Option (Int)
 | 0,_,_,_,_,_=>none
 | k + 1,x1,x5,x9,x10,x11=>if x11 < x10 then (if 0 ≤ x11 then (if x11 < (x9.length:Int) then ((impl_has.f x1 x11).bind fun t2=>(if t2 = true then (impl_Committee_weight.l0 k x1 (wrap64 (x5 + (rd x9 x11))) x9 x10 (wrap64 (x11 + 1))) else (impl_Committee_weight.l0 k x1 x5 x9 x10 (wrap64 (x11 + 1))))) else (none)) else (none)) else (some x5)
def impl_Committee_weight.f (k:Nat) (a0_0:Int) (l0_1:List Int) (a1:Int):Option (Int):=impl_Committee_weight.l0 k a1 0 l0_1 (l0_1.length:Int) 0
set_option maxHeartbeats 8000000 in
set_option maxRecDepth 100000 in
theorem impl_Committee_weight.calls (k:Nat) (a0_0:Int) (A0_1:Option Addr) (c0_1:Nat) (l0_1:List Int) (a1:Int) (r:Int) (w:World) (hr0_1:Kd.C (Kd.int .i64) w A0_1 l0_1.length l0_1) (hc0_1:l0_1.length ≤ c0_1) (h:impl_Committee_weight.f k a0_0 l0_1 a1 = some r) :
  Calls Tryz.prog 52 #[.agg #[.int .i64 a0_0,.slice A0_1 l0_1.length c0_1],.int .i64 a1] w fun e w'=>e = .returned (.int .i64 r) ∧ Below w.heap.size w w':=by
 have hu24:=Tryz.underlying24;have HR0_1:=aM hr0_1;have HC0_1:=aM hc0_1;clear hr0_1 hc0_1;have HB:=aM (Below.refl w.heap.size w);have H:(impl_Committee_weight.l0 k a1 0 l0_1 (l0_1.length:Int) 0) = some r:=h;clear h;have H':=aM H;clear H;go_enter Tryz.func52,Tryz.ntmps52;go_wp2_with (first|((with_reducible refine gate_dst (N:=2) rfl ?_);refine bE 2 #[.int .i64 a0_0,.slice A0_1 l0_1.length c0_1] 24 ?_;intro gb10 hg w3 hbox hb;have BK10:=aM (hbox);have GW10:=aM (gS hg);have GE10:=aM (gS hg);replace HB:=aM (below_step bw hb);clear hb hbox hg;have hcz4_0:=cz BK10.out 0;have hcz4_1:=cz BK10.out 1;have hfz4_0:=blk_frozen BK10.out 0;have hfz4_1:=blk_frozen BK10.out 1))
 go_loopg [5,11] k (fun kq v5 v11 w'=>∃ (x5_1:Int) (x11_1:Int),v5 = .int .i64 x5_1 ∧ v11 = .int .i64 x11_1 ∧ Aside0 (impl_Committee_weight.l0 kq a1 x5_1 l0_1 (l0_1.length:Int) x11_1 = some r) ∧ Aside0 (kq ≤ k) ∧ Aside0 (w'.heap[gb10]? = some (.cells #[.int .i64 a0_0,(.slice A0_1 l0_1.length c0_1)] 24 (0,0))) ∧ Aside0 (Below w.heap.size w w'))
 case atStart=>exact ⟨(0),(0),qrs,qrs,H',⟨Nat.le_refl _⟩,⟨bk1 BK10.out⟩,⟨by exact bw⟩⟩
 case round =>
  clear H';(try clear hcz4_0);(try clear hcz4_1);(try clear hfz4_0);(try clear hfz4_1)
  obtain ⟨x5_1,x11_1,rfl,rfl,HA,HK1,BK10,HB⟩:=hrel
  cases gk with
  | zero=>exact absurd HA.out (by simp [impl_Committee_weight.l0])
  | succ k1 =>
   have H:=HA.out;clear HA;simp only [impl_Committee_weight.l0] at H;by_cases c5:x11_1 < (l0_1.length:Int)
   ·rw [if_pos c5] at H;have c5b0:=decide_eq_true c5;clear c5;replace H:=iN H;obtain ⟨c6,H⟩:=H;have c6b0:decide (0 ≤ x11_1) = true:=decide_eq_true c6;clear c6;replace H:=iN H;obtain ⟨c7,H⟩:=H;have c7b0:decide (x11_1 < (l0_1.length:Int)) = true:=decide_eq_true c7;clear c7;replace H:=oB H;obtain ⟨t13,A8,H⟩:=H;(try dsimp only at H)
    by_cases c9:t13 = true
    ·subst c9;rw [if_pos rfl] at H;have H':=aM H;clear H;have p12:0 ≤ (x11_1:Int):=of_decide_eq_true ab;have q12:x11_1 < (l0_1.length:Int):=of_decide_eq_true ab;obtain ⟨ad12,e12,hx12_0⟩:=Kd.at_int HR0_1.out x11_1 p12 q12;cases e12
     replace hx12_0:=(HB.out.cell (World.block_lt_of_cell? w _ hx12_0)).trans hx12_0;replace p12:=eq_true p12;replace q12:=eq_true q12;go_wp2_with (first|((with_reducible refine gate_callee (f:=83) rfl ?_);refine gL 18 Tryz.func83 #[.int .i64 a1,.int .i64 x11_1] ?_;(with_reducible refine (impl_has.calls a1 x11_1 true _ A8.out).mono ?_);rintro e w' ⟨rfl,⟨nd,rfl⟩⟩;refine ⟨_,rfl,?_⟩))
     go_roundg k1
     case measure=>have:=HK1.out;omega
     case rel=>exact ⟨(wrap64 (x5_1 + (rd l0_1 x11_1))),(wrap64 (x11_1 + 1)),qrs,qrs,H',⟨by have:=HK1.out;omega⟩,⟨bk1 BK10.out⟩,⟨by exact bw⟩⟩
    ·replace c9:=Bool.eq_false_iff.mpr c9;subst c9;rw [if_neg (show ¬ (false = true) by decide)] at H;have H':=aM H;clear H;have p12:0 ≤ (x11_1:Int):=of_decide_eq_true ab;have q12:x11_1 < (l0_1.length:Int):=of_decide_eq_true ab;obtain ⟨ad12,e12,hx12_0⟩:=Kd.at_int HR0_1.out x11_1 p12 q12;cases e12
     replace hx12_0:=(HB.out.cell (World.block_lt_of_cell? w _ hx12_0)).trans hx12_0;replace p12:=eq_true p12;replace q12:=eq_true q12;go_wp2_with (first|((with_reducible refine gate_callee (f:=83) rfl ?_);refine gL 18 Tryz.func83 #[.int .i64 a1,.int .i64 x11_1] ?_;(with_reducible refine (impl_has.calls a1 x11_1 false _ A8.out).mono ?_);rintro e w' ⟨rfl,⟨nd,rfl⟩⟩;refine ⟨_,rfl,?_⟩))
     go_roundg k1
     case measure=>have:=HK1.out;omega
     case rel=>exact ⟨(x5_1),(wrap64 (x11_1 + 1)),qrs,qrs,H',⟨by have:=HK1.out;omega⟩,⟨bk1 BK10.out⟩,⟨by exact bw⟩⟩
   ·rw [if_neg c5] at H;have c5b0:=decide_eq_false c5;clear c5;obtain rfl:=Option.some.inj H;go_wp2
    go_ret
    exact ⟨eE,by exact bw⟩


/-! ### impl_councilVotes_1: function 61 -/
def impl_councilVotes_1.l0:Nat → Int → Int → Int → List (S_impl_Committee) → Int → Int → Int → List Int → Option (Bool)
 | 0,_,_,_,_,_,_,_,_=>none
 | k + 1,x0,x5,x6,x9,x10,x11,x3,x4=>if x11 < x10 then (if 0 ≤ x11 then (if x11 < (x9.length:Int) then (if 0 ≤ x6 then ((impl_Committee_weight.f k ((rd_impl_Committee x9 x11).f0) ((rd_impl_Committee x9 x11).f1) (shr .i64 x0 x6)).bind fun t2=>(if t2 ≥ ((rd_impl_Committee x9 x11).f0) then (if x11 < (x4.length:Int) then (impl_councilVotes_1.l0 k x0 (wrap64 (x5 + (rd x4 x11))) (wrap64 (x6 + (((rd_impl_Committee x9 x11).f1).length:Int))) x9 x10 (wrap64 (x11 + 1)) x3 x4) else (none)) else (impl_councilVotes_1.l0 k x0 x5 (wrap64 (x6 + (((rd_impl_Committee x9 x11).f1).length:Int))) x9 x10 (wrap64 (x11 + 1)) x3 x4))) else (none)) else (none)) else (none)) else (some (decide (x5 ≥ x3)))
def impl_councilVotes_1.f (k:Nat) (a0:Int) (l1:List (S_impl_Committee)) (a2_0:Int) (l2_1:List Int):Option (Bool):=impl_councilVotes_1.l0 k a0 0 0 l1 (l1.length:Int) 0 a2_0 l2_1
def impl_councilVotes_1.T5:Bool × List (List Nat × List Nat):=(true,[([],[]),([],[]),([],[]),([1,2],[1,2]),([0,3],[0,3]),([],[]),([5],[5]),([4,6],[4,6])])
def impl_councilVotes_1.B5:List Nat:=[0,0,0,6,15,0,32,127]
theorem impl_councilVotes_1.tab5:rtab .any (opsOf Tryz.f61 5) = impl_councilVotes_1.T5:=by kernel_rfl
theorem impl_councilVotes_1.bits5:waitsOk impl_councilVotes_1.T5.2 impl_councilVotes_1.B5 = true:=by kernel_rfl
set_option maxHeartbeats 8000000 in
set_option maxRecDepth 100000 in
theorem impl_councilVotes_1.calls (k:Nat) (a0:Int) (gc1:Nat) (A1:Option Addr) (c1:Nat) (l1:List (S_impl_Committee)) (gc2:Nat) (a2_0:Int) (A2_1:Option Addr) (c2_1:Nat) (l2_1:List Int) (r:Bool) (w:World) (hr1:Kd.C k_impl_Committee w A1 l1.length l1) (hc1:l1.length ≤ c1) (hr2_1:Kd.C (Kd.int .i64) w A2_1 l2_1.length l2_1) (hc2_1:l2_1.length ≤ c2_1) (hb1:w.heap[gc1]? = some (.cells #[.slice A1 l1.length c1] 25 (0,0))) (hb2:w.heap[gc2]? = some (.cells #[.int .i64 a2_0,.slice A2_1 l2_1.length c2_1] 24 (0,0))) (hn1_2:gc1 ≠ gc2) (h:impl_councilVotes_1.f k a0 l1 a2_0 l2_1 = some r) :
  Calls Tryz.prog 61 #[.int .i64 a0,.pointer (some ⟨gc1,0,none⟩),.pointer (some ⟨gc2,0,none⟩)] w fun e w'=>e = .returned (.bool r) ∧ Below w.heap.size w w':=by
 have hu24:=Tryz.underlying24;have HR1:=aM hr1;have HC1:=aM hc1;clear hr1 hc1;have HR2_1:=aM hr2_1;have HC2_1:=aM hc2_1;clear hr2_1 hc2_1;have BK1:=aM hb1;clear hb1;have BK2:=aM hb2;clear hb2;have NB1_2:=aM hn1_2;have NB2_1:=aM (Ne.symm hn1_2);clear hn1_2;have HB:=aM (Below.refl w.heap.size w);have H:(impl_councilVotes_1.l0 k a0 0 0 l1 (l1.length:Int) 0 a2_0 l2_1) = some r:=h;clear h;have H':=aM H;clear H;have hnb4:=NB1_2.out;have hnc4:=NB2_1.out;have hcz5_0:=cz BK1.out 0;have hfz5_0:=blk_frozen BK1.out 0;go_enter Tryz.func61,Tryz.ntmps61;go_wp2
 go_loopg [5,6,11] k (fun kq v5 v6 v11 w'=>∃ (x5_1:Int) (x6_1:Int) (x11_1:Int),v5 = .int .i64 x5_1 ∧ v6 = .int .i64 x6_1 ∧ v11 = .int .i64 x11_1 ∧ Aside0 (impl_councilVotes_1.l0 kq a0 x5_1 x6_1 l1 (l1.length:Int) x11_1 a2_0 l2_1 = some r) ∧ Aside0 (kq ≤ k) ∧ Aside0 (w'.heap[gc1]? = some (.cells #[(.slice A1 l1.length c1)] 25 (0,0))) ∧ Aside0 (w'.heap[gc2]? = some (.cells #[.int .i64 a2_0,(.slice A2_1 l2_1.length c2_1)] 24 (0,0))) ∧ Aside0 (Below w.heap.size w w'))
 case atStart=>exact ⟨(0),(0),(0),qrs,qrs,qrs,H',⟨Nat.le_refl _⟩,⟨bk1 BK1.out⟩,⟨bk1 BK2.out⟩,⟨by exact bw⟩⟩
 case round =>
  clear H';(try clear c1);(try clear hcz5_0);(try clear hfz5_0)
  obtain ⟨x5_1,x6_1,x11_1,rfl,rfl,rfl,HA,HK1,BK1,BK2,HB⟩:=hrel
  cases gk with
  | zero=>exact absurd HA.out (by simp [impl_councilVotes_1.l0])
  | succ k1 =>
   have H:=HA.out;clear HA;simp only [impl_councilVotes_1.l0] at H;by_cases c6:x11_1 < (l1.length:Int)
   ·rw [if_pos c6] at H;have c6b0:=decide_eq_true c6;clear c6;replace H:=iN H;obtain ⟨c7,H⟩:=H;have c7b0:decide (0 ≤ x11_1) = true:=decide_eq_true c7;clear c7;replace H:=iN H;obtain ⟨c8,H⟩:=H;have c8b0:decide (x11_1 < (l1.length:Int)) = true:=decide_eq_true c8;clear c8;replace H:=iN H;obtain ⟨c9,H⟩:=H;have c9b0:=eq_true c9;have c9b1:decide (0 ≤ x6_1) = true:=decide_eq_true c9;clear c9;obtain ⟨ji10,hji10⟩:∃ j_:Int,(shr .i64 a0 x6_1) = j_:=⟨_,rfl⟩;(first|rw [hji10] at H|simp only [hji10] at H)
    have hji10_:(a0 / 2 ^ min x6_1.toNat 64) = ji10:=hji10;have hji10z:x6_1 ≤ 64 → (a0 / 2 ^ x6_1.toNat) = ji10:=shr_small hji10;replace H:=oB H;obtain ⟨t35,A11,H⟩:=H;(try dsimp only at H)
    by_cases c12:t35 ≥ ((rd_impl_Committee l1 x11_1).f0)
    ·rw [if_pos c12] at H;have c12b0:decide (((rd_impl_Committee l1 x11_1).f0) ≤ t35) = true:=decide_eq_true c12;clear c12;replace H:=iN H;obtain ⟨c13,H⟩:=H;have c13b0:decide (x11_1 < (l2_1.length:Int)) = true:=decide_eq_true c13;clear c13;have H':=aM H;clear H;have p3:0 ≤ (x11_1:Int):=of_decide_eq_true ab;have q3:x11_1 < (l1.length:Int):=of_decide_eq_true ab;obtain ⟨ad3,A3_1,c128_1,e3,hx3_0,hx3_1,hl3_1,hi3_1⟩:=at_impl_Committee HR1.out x11_1 p3 q3;cases e3
     replace hx3_0:=(HB.out.cell (World.block_lt_of_cell? w _ hx3_0)).trans hx3_0;replace hx3_1:=(HB.out.cell (World.block_lt_of_cell? w _ hx3_1)).trans hx3_1;have HR3_1:=aM hi3_1;have HC3_1:=aM hl3_1;clear hi3_1 hl3_1;replace p3:=eq_true p3;replace q3:=eq_true q3
     try go_wp2_with (first|((with_reducible refine gate_dst (N:=8) rfl ?_);refine bE 8 #[.int .i64 0,.slice none 0 0] 24 ?_;intro gb34 hg w14 hbox hb;have BK34:=aM (hbox);have GW34:=aM (gS hg);have GE34:=aM (gS hg);replace HB:=aM (below_step bw hb);have NB1_129:=aM (nL BK1.out hg);have NB34_1:=aM (nR BK1.out hg);replace BK1:=aM (bB BK1.out hb);have NB2_129:=aM (nL BK2.out hg);have NB34_2:=aM (nR BK2.out hg);replace BK2:=aM (bB BK2.out hb);clear hb hbox hg;have hnb15:=NB34_1.out;have hnc15:=NB1_129.out;have hnb16:=NB34_2.out;have hnc16:=NB2_129.out;have hcz17_0:=cz BK34.out 0;have hcz17_1:=cz BK34.out 1;have hfz17_0:=blk_frozen BK34.out 0;have hfz17_1:=blk_frozen BK34.out 1))
     generalize hW_:((w14.setCell ⟨gb34,0,none⟩ (.int .i64 ((rd_impl_Committee l1 x11_1).f0))).setCell ⟨gb34,1,none⟩ (.slice A3_1 ((rd_impl_Committee l1 x11_1).f1).length c128_1)) = w18
     replace BK1:=aM (sF2 hW_ BK1.out NB1_129.out);replace BK2:=aM (sF2 hW_ BK2.out NB2_129.out);replace BK34:=aM (sP2 hW_ BK34.out);replace HB:=aM (sB2 hW_ HB.out);clear hW_;replace BK1:=aM (blk_drew BK1.out);replace BK2:=aM (blk_drew BK2.out);replace BK34:=aM (blk_drew BK34.out);replace HB:=aM (below_drew1 HB.out);refine start_ (n:=8) (S:=fun w'=>w'.cell? ⟨gb34,0,none⟩ = some (.int .i64 ((rd_impl_Committee l1 x11_1).f0)) ∧ w'.cell? ⟨gb34,1,none⟩ = some (.slice A3_1 ((rd_impl_Committee l1 x11_1).f1).length c128_1)) (ds:=[]) (mA 8 0) kR rfl rfl ⟨(blk_cell BK34.out 0).trans rfl,(blk_cell BK34.out 1).trans rfl⟩ (fun hHeld=>?_);refine with_tabW impl_councilVotes_1.tab5 impl_councilVotes_1.bits5 (fun HT_ HW_=>?_)
     generalize w18.drew = w19 at BK1 BK2 BK34 HB hHeld ⊢
     refine pT 1 17 HT_.out ?_;refine pT 2 18 HT_.out ?_;refine pT 3 19 HT_.out ?_;refine pT 5 21 HT_.out ?_;refine pK 0 16 HT_.out HW_.out hHeld ?_;refine pK 6 22 HT_.out HW_.out hHeld ?_;refine oN 4 (some 20) HT_.out fun K hK=>?_
     refine goes_ Tryz.func52 kR rfl #[.agg #[.int .i64 ((rd_impl_Committee l1 x11_1).f0),.slice A3_1 ((rd_impl_Committee l1 x11_1).f1).length c128_1],.int .i64 ji10] (by rfl) rfl rfl (by (try simp only [List.map_toArray,List.map_cons,List.map_nil]);first|done|(simp only [hji10];rfl)|rfl|(simp only [List.length_drop,List.length_take];rfl)) ?_
     with_reducible refine (impl_Committee_weight.calls k1 ((rd_impl_Committee l1 x11_1).f0) _ _ ((rd_impl_Committee l1 x11_1).f1) ji10 t35 _ ?side1 ?side2 A11.out).mono ?_
     (case side1=>exact qcs HR3_1.out HB.out)
     (case side2=>exact HC3_1.out)
     rintro e w20 ⟨rfl,hb⟩
     refine ⟨_,rfl,?_⟩;replace BK1:=aM (bB BK1.out hb);replace BK2:=aM (bB BK2.out hb);replace BK34:=aM (bB BK34.out hb);replace HB:=aM (below_step bw hb);(try clear hb)
     (try clear hb2)
     refine hK.out _ _ ⟨(blk_cell BK34.out 0).trans rfl,(blk_cell BK34.out 1).trans rfl⟩ (fun hHeld=>?_);clear hK K;refine nM 20 ?_;refine pT 7 23 HT_.out ?_;refine done_ (done_of HT_.out kR) ?_;have hnb21:=NB2_1.out;have hnc21:=NB1_2.out;have hcz22_0:=cz BK2.out 0;have hcz22_1:=cz BK2.out 1;have hfz22_0:=blk_frozen BK2.out 0;have hfz22_1:=blk_frozen BK2.out 1;have p36:0 ≤ (x11_1:Int):=of_decide_eq_true ab;have q36:x11_1 < (l2_1.length:Int):=of_decide_eq_true ab;obtain ⟨ad36,e36,hx36_0⟩:=Kd.at_int HR2_1.out x11_1 p36 q36;cases e36
     replace hx36_0:=(HB.out.cell (World.block_lt_of_cell? w _ hx36_0)).trans hx36_0;replace p36:=eq_true p36;replace q36:=eq_true q36;have hcz23_0:=cz BK34.out 0;have hcz23_1:=cz BK34.out 1;have hfz23_0:=blk_frozen BK34.out 0;have hfz23_1:=blk_frozen BK34.out 1
     try go_wp2
     go_roundg k1
     case measure=>have:=HK1.out;omega
     case rel=>exact ⟨(wrap64 (x5_1 + (rd l2_1 x11_1))),(wrap64 (x6_1 + (((rd_impl_Committee l1 x11_1).f1).length:Int))),(wrap64 (x11_1 + 1)),qrs,qrs,qrs,H',⟨by have:=HK1.out;omega⟩,⟨bk1 BK1.out⟩,⟨bk1 BK2.out⟩,⟨by exact bw⟩⟩
    ·rw [if_neg c12] at H;have c12b0:decide (((rd_impl_Committee l1 x11_1).f0) ≤ t35) = false:=decide_eq_false c12;clear c12;have H':=aM H;clear H;have p3:0 ≤ (x11_1:Int):=of_decide_eq_true ab;have q3:x11_1 < (l1.length:Int):=of_decide_eq_true ab;obtain ⟨ad3,A3_1,c128_1,e3,hx3_0,hx3_1,hl3_1,hi3_1⟩:=at_impl_Committee HR1.out x11_1 p3 q3;cases e3
     replace hx3_0:=(HB.out.cell (World.block_lt_of_cell? w _ hx3_0)).trans hx3_0;replace hx3_1:=(HB.out.cell (World.block_lt_of_cell? w _ hx3_1)).trans hx3_1;have HR3_1:=aM hi3_1;have HC3_1:=aM hl3_1;clear hi3_1 hl3_1;replace p3:=eq_true p3;replace q3:=eq_true q3
     try go_wp2_with (first|((with_reducible refine gate_dst (N:=8) rfl ?_);refine bE 8 #[.int .i64 0,.slice none 0 0] 24 ?_;intro gb34 hg w24 hbox hb;have BK34:=aM (hbox);have GW34:=aM (gS hg);have GE34:=aM (gS hg);replace HB:=aM (below_step bw hb);have NB1_129:=aM (nL BK1.out hg);have NB34_1:=aM (nR BK1.out hg);replace BK1:=aM (bB BK1.out hb);have NB2_129:=aM (nL BK2.out hg);have NB34_2:=aM (nR BK2.out hg);replace BK2:=aM (bB BK2.out hb);clear hb hbox hg;have hnb25:=NB34_1.out;have hnc25:=NB1_129.out;have hnb26:=NB34_2.out;have hnc26:=NB2_129.out;have hcz27_0:=cz BK34.out 0;have hcz27_1:=cz BK34.out 1;have hfz27_0:=blk_frozen BK34.out 0;have hfz27_1:=blk_frozen BK34.out 1))
     generalize hW_:((w24.setCell ⟨gb34,0,none⟩ (.int .i64 ((rd_impl_Committee l1 x11_1).f0))).setCell ⟨gb34,1,none⟩ (.slice A3_1 ((rd_impl_Committee l1 x11_1).f1).length c128_1)) = w28
     replace BK1:=aM (sF2 hW_ BK1.out NB1_129.out);replace BK2:=aM (sF2 hW_ BK2.out NB2_129.out);replace BK34:=aM (sP2 hW_ BK34.out);replace HB:=aM (sB2 hW_ HB.out);clear hW_;replace BK1:=aM (blk_drew BK1.out);replace BK2:=aM (blk_drew BK2.out);replace BK34:=aM (blk_drew BK34.out);replace HB:=aM (below_drew1 HB.out);refine start_ (n:=8) (S:=fun w'=>w'.cell? ⟨gb34,0,none⟩ = some (.int .i64 ((rd_impl_Committee l1 x11_1).f0)) ∧ w'.cell? ⟨gb34,1,none⟩ = some (.slice A3_1 ((rd_impl_Committee l1 x11_1).f1).length c128_1)) (ds:=[]) (mA 8 0) kR rfl rfl ⟨(blk_cell BK34.out 0).trans rfl,(blk_cell BK34.out 1).trans rfl⟩ (fun hHeld=>?_);refine with_tabW impl_councilVotes_1.tab5 impl_councilVotes_1.bits5 (fun HT_ HW_=>?_)
     generalize w28.drew = w29 at BK1 BK2 BK34 HB hHeld ⊢
     refine pT 1 17 HT_.out ?_;refine pT 2 18 HT_.out ?_;refine pT 3 19 HT_.out ?_;refine pT 5 21 HT_.out ?_;refine pK 0 16 HT_.out HW_.out hHeld ?_;refine pK 6 22 HT_.out HW_.out hHeld ?_;refine oN 4 (some 20) HT_.out fun K hK=>?_
     refine goes_ Tryz.func52 kR rfl #[.agg #[.int .i64 ((rd_impl_Committee l1 x11_1).f0),.slice A3_1 ((rd_impl_Committee l1 x11_1).f1).length c128_1],.int .i64 ji10] (by rfl) rfl rfl (by (try simp only [List.map_toArray,List.map_cons,List.map_nil]);first|done|(simp only [hji10];rfl)|rfl|(simp only [List.length_drop,List.length_take];rfl)) ?_
     with_reducible refine (impl_Committee_weight.calls k1 ((rd_impl_Committee l1 x11_1).f0) _ _ ((rd_impl_Committee l1 x11_1).f1) ji10 t35 _ ?side1 ?side2 A11.out).mono ?_
     (case side1=>exact qcs HR3_1.out HB.out)
     (case side2=>exact HC3_1.out)
     rintro e w30 ⟨rfl,hb⟩
     refine ⟨_,rfl,?_⟩;replace BK1:=aM (bB BK1.out hb);replace BK2:=aM (bB BK2.out hb);replace BK34:=aM (bB BK34.out hb);replace HB:=aM (below_step bw hb);(try clear hb)
     refine hK.out _ _ ⟨(blk_cell BK34.out 0).trans rfl,(blk_cell BK34.out 1).trans rfl⟩ (fun hHeld=>?_);clear hK K;refine nM 20 ?_;refine pT 7 23 HT_.out ?_;refine done_ (done_of HT_.out kR) ?_;have hcz31_0:=cz BK34.out 0;have hcz31_1:=cz BK34.out 1;have hfz31_0:=blk_frozen BK34.out 0;have hfz31_1:=blk_frozen BK34.out 1
     try go_wp2
     go_roundg k1
     case measure=>have:=HK1.out;omega
     case rel=>exact ⟨(x5_1),(wrap64 (x6_1 + (((rd_impl_Committee l1 x11_1).f1).length:Int))),(wrap64 (x11_1 + 1)),qrs,qrs,qrs,H',⟨by have:=HK1.out;omega⟩,⟨bk1 BK1.out⟩,⟨bk1 BK2.out⟩,⟨by exact bw⟩⟩
   ·rw [if_neg c6] at H;have c6b0:=decide_eq_false c6;clear c6;obtain rfl:=Option.some.inj H;have hnb32:=NB2_1.out;have hnc32:=NB1_2.out;have hcz33_0:=cz BK2.out 0;have hcz33_1:=cz BK2.out 1;have hfz33_0:=blk_frozen BK2.out 0;have hfz33_1:=blk_frozen BK2.out 1;go_wp2
    go_ret
    exact ⟨eE,by exact bw⟩
theorem impl_councilVotes_1.enters:∀ (args:Array Value) (w:World),(callFunc 61 args).run Tryz.prog w = .ok (.enter 61 args) w:=enters_of Tryz.func61 kR rfl


/-! ### impl_councilVotes: function 29 -/
def impl_councilVotes.l0:Nat → Int → List (S_impl_Committee) → Int → Int → Int → List Int → List (S_impl_Committee) → Option (Int × List Bool)
 | 0,_,_,_,_,_,_,_=>none
 | k + 1,x5,x8,x9,x10,x3,x4,x6=>if x10 < x9 then (if 0 ≤ x10 then (if x10 < (x8.length:Int) then (impl_councilVotes.l0 k (wrap64 (x5 + (((rd_impl_Committee x8 x10).f1).length:Int))) x8 x9 (wrap64 (x10 + 1)) x3 x4 x6) else (none)) else (none)) else ((impl_votesOf.f k x5 (fun y0_=>impl_councilVotes_1.f k y0_ x6 x3 x4)).bind fun bt2=>(some (bt2.1,bt2.2)))
def impl_councilVotes.f (k:Nat) (a0_0:Int) (l0_1:List Int) (l1:List (S_impl_Committee)):Option (Int × List Bool):=impl_councilVotes.l0 k 0 l1 (l1.length:Int) 0 a0_0 l0_1 l1
set_option maxHeartbeats 8000000 in
set_option maxRecDepth 100000 in
theorem impl_councilVotes.calls (k:Nat) (a0_0:Int) (A0_1:Option Addr) (c0_1:Nat) (l0_1:List Int) (A1:Option Addr) (c1:Nat) (l1:List (S_impl_Committee)) (r1:Int) (r2:List Bool) (w:World) (hr0_1:Kd.C (Kd.int .i64) w A0_1 l0_1.length l0_1) (hc0_1:l0_1.length ≤ c0_1) (hr1:Kd.C k_impl_Committee w A1 l1.length l1) (hc1:l1.length ≤ c1) (h:impl_councilVotes.f k a0_0 l0_1 l1 = some (r1,r2)) :
  Calls Tryz.prog 29 #[.agg #[.int .i64 a0_0,.slice A0_1 l0_1.length c0_1],.slice A1 l1.length c1] w fun e w'=>∃ v1_:Value,e = .returned (.agg #[.int .i64 r1,v1_]) ∧ Kd.R Kd.bool 4 w' w.heap.size (fun _=>True) v1_ r2 ∧ Below w.heap.size w w':=by
 have hmf:∀ (fn:Fn) (first cap:Array Value) (w:World),(Instr.makeFunc fn first cap).run Tryz.prog w = .ok (.func fn first cap) w:=fun _ _ _ _=>rfl
 have hu24:=Tryz.underlying24;have hu59:=Tryz.underlying59;have HR0_1:=aM hr0_1;have HC0_1:=aM hc0_1;clear hr0_1 hc0_1;have HR1:=aM hr1;have HC1:=aM hc1;clear hr1 hc1;have HB:=aM (Below.refl w.heap.size w);have H:(impl_councilVotes.l0 k 0 l1 (l1.length:Int) 0 a0_0 l0_1 l1) = some (r1,r2):=h;clear h;have H':=aM H;clear H;go_enter Tryz.func29,Tryz.ntmps29;go_wp2_with (first|((with_reducible refine gate_dst (N:=2) rfl ?_);refine bE 2 #[.int .i64 a0_0,.slice A0_1 l0_1.length c0_1] 24 ?_;intro gb23 hg w3 hbox hb;have BK23:=aM (hbox);have GW23:=aM (gS hg);have GE23:=aM (gS hg);replace HB:=aM (below_step bw hb);clear hb hbox hg)|((with_reducible refine gate_dst (N:=3) rfl ?_);refine bE 3 #[.slice A1 l1.length c1] 25 ?_;intro gb25 hg w4 hbox hb;have BK25:=aM (hbox);have GW25:=aM (gS hg);have GE25:=aM (gS hg);replace HB:=aM (below_step bw hb);have NB23_25:=aM (nL BK23.out hg);have NB25_23:=aM (nR BK23.out hg);replace BK23:=aM (bB BK23.out hb);clear hb hbox hg)|((with_reducible refine gate_dst (N:=4) rfl ?_);refine bE 4 #[.int .i64 0,.slice none 0 0] 59 ?_;intro gb26 hg w5 hbox hb;have BK26:=aM (hbox);have GW26:=aM (gS hg);have GE26:=aM (gS hg);replace HB:=aM (below_step bw hb);have NB23_26:=aM (nL BK23.out hg);have NB26_23:=aM (nR BK23.out hg);replace BK23:=aM (bB BK23.out hb);have NB25_26:=aM (nL BK25.out hg);have NB26_25:=aM (nR BK25.out hg);replace BK25:=aM (bB BK25.out hb);clear hb hbox hg;have hnb6:=NB25_23.out;have hnc6:=NB23_25.out;have hnb7:=NB25_26.out;have hnc7:=NB26_25.out;have hcz8_0:=cz BK25.out 0;have hfz8_0:=blk_frozen BK25.out 0))
 go_loopg [5,10] k (fun kq v5 v10 w'=>∃ (x5_1:Int) (x10_1:Int),v5 = .int .i64 x5_1 ∧ v10 = .int .i64 x10_1 ∧ Aside0 (impl_councilVotes.l0 kq x5_1 l1 (l1.length:Int) x10_1 a0_0 l0_1 l1 = some (r1,r2)) ∧ Aside0 (kq ≤ k) ∧ Aside0 (w'.heap[gb23]? = some (.cells #[.int .i64 a0_0,(.slice A0_1 l0_1.length c0_1)] 24 (0,0))) ∧ Aside0 (w'.heap[gb25]? = some (.cells #[(.slice A1 l1.length c1)] 25 (0,0))) ∧ Aside0 (w'.heap[gb26]? = some (.cells #[.int .i64 0,(.slice none 0 0)] 59 (0,0))) ∧ Aside0 (Below w.heap.size w w'))
 case atStart=>exact ⟨(0),(0),qrs,qrs,H',⟨Nat.le_refl _⟩,⟨bk1 BK23.out⟩,⟨bk1 BK25.out⟩,⟨bk1 BK26.out⟩,⟨by exact bw⟩⟩
 case round =>
  clear H';(try clear c1);(try clear hcz8_0);(try clear hfz8_0)
  obtain ⟨x5_1,x10_1,rfl,rfl,HA,HK1,BK23,BK25,BK26,HB⟩:=hrel
  cases gk with
  | zero=>exact absurd HA.out (by simp [impl_councilVotes.l0])
  | succ k1 =>
   have H:=HA.out;clear HA;simp only [impl_councilVotes.l0] at H;by_cases c9:x10_1 < (l1.length:Int)
   ·rw [if_pos c9] at H;have c9b0:=decide_eq_true c9;clear c9;replace H:=iN H;obtain ⟨c10,H⟩:=H;have c10b0:decide (0 ≤ x10_1) = true:=decide_eq_true c10;clear c10;replace H:=iN H;obtain ⟨c11,H⟩:=H;have c11b0:decide (x10_1 < (l1.length:Int)) = true:=decide_eq_true c11;clear c11;have H':=aM H;clear H;have p27:0 ≤ (x10_1:Int):=of_decide_eq_true ab;have q27:x10_1 < (l1.length:Int):=of_decide_eq_true ab;obtain ⟨ad27,A27_1,c135_1,e27,hx27_0,hx27_1,hl27_1,hi27_1⟩:=at_impl_Committee HR1.out x10_1 p27 q27;cases e27
    replace hx27_0:=(HB.out.cell (World.block_lt_of_cell? w _ hx27_0)).trans hx27_0;replace hx27_1:=(HB.out.cell (World.block_lt_of_cell? w _ hx27_1)).trans hx27_1;have HR27_1:=aM hi27_1;have HC27_1:=aM hl27_1;clear hi27_1 hl27_1;replace p27:=eq_true p27;replace q27:=eq_true q27;go_wp2_with (first|((with_reducible refine gate_dst (N:=7) rfl ?_);refine bE 7 #[.int .i64 0,.slice none 0 0] 24 ?_;intro gb28 hg w12 hbox hb;have BK28:=aM (hbox);have GW28:=aM (gS hg);have GE28:=aM (gS hg);replace HB:=aM (below_step bw hb);have NB23_28:=aM (nL BK23.out hg);have NB28_23:=aM (nR BK23.out hg);replace BK23:=aM (bB BK23.out hb);have NB25_28:=aM (nL BK25.out hg);have NB28_25:=aM (nR BK25.out hg);replace BK25:=aM (bB BK25.out hb);have NB26_28:=aM (nL BK26.out hg);have NB28_26:=aM (nR BK26.out hg);replace BK26:=aM (bB BK26.out hb);clear hb hbox hg;have hnb13:=NB28_23.out;have hnc13:=NB23_28.out;have hnb14:=NB28_25.out;have hnc14:=NB25_28.out;have hnb15:=NB28_26.out;have hnc15:=NB26_28.out;have hcz16_0:=cz BK28.out 0;have hcz16_1:=cz BK28.out 1;have hfz16_0:=blk_frozen BK28.out 0;have hfz16_1:=blk_frozen BK28.out 1))
    go_roundg k1
    case measure=>have:=HK1.out;omega
    case rel=>exact ⟨(wrap64 (x5_1 + (((rd_impl_Committee l1 x10_1).f1).length:Int))),(wrap64 (x10_1 + 1)),qrs,qrs,H',⟨by have:=HK1.out;omega⟩,⟨by (with_reducible repeat (first|refine blk_drewN ?_ _|refine blk_drew ?_|refine blk_alloc ?_ _));refine blk_far ?_ NB23_28.out _;(with_reducible repeat (first|refine blk_drewN ?_ _|refine blk_drew ?_|refine blk_alloc ?_ _));refine blk_far ?_ NB23_28.out _;(with_reducible repeat (first|refine blk_drewN ?_ _|refine blk_drew ?_|refine blk_alloc ?_ _));exact BK23.out⟩,⟨by (with_reducible repeat (first|refine blk_drewN ?_ _|refine blk_drew ?_|refine blk_alloc ?_ _));refine blk_far ?_ NB25_28.out _;(with_reducible repeat (first|refine blk_drewN ?_ _|refine blk_drew ?_|refine blk_alloc ?_ _));refine blk_far ?_ NB25_28.out _;(with_reducible repeat (first|refine blk_drewN ?_ _|refine blk_drew ?_|refine blk_alloc ?_ _));exact BK25.out⟩,⟨by (with_reducible repeat (first|refine blk_drewN ?_ _|refine blk_drew ?_|refine blk_alloc ?_ _));refine blk_far ?_ NB26_28.out _;(with_reducible repeat (first|refine blk_drewN ?_ _|refine blk_drew ?_|refine blk_alloc ?_ _));refine blk_far ?_ NB26_28.out _;(with_reducible repeat (first|refine blk_drewN ?_ _|refine blk_drew ?_|refine blk_alloc ?_ _));exact BK26.out⟩,⟨by exact bw⟩⟩
   ·rw [if_neg c9] at H;have c9b0:=decide_eq_false c9;clear c9;replace H:=oB H;obtain ⟨⟨t30,t31⟩,A17,H⟩:=H;(try dsimp only at H)
    simp only [Option.some.injEq,Prod.mk.injEq] at H;obtain ⟨rfl,rfl⟩:=H;go_wp2_with (first|((with_reducible refine gate_callee (f:=60) rfl ?_);refine gL 22 Tryz.func60 #[.int .i64 x5_1,.func (.func 61) #[] #[.pointer (some ⟨gb25,0,none⟩),.pointer (some ⟨gb23,0,none⟩)]] ?_;(with_reducible refine (impl_votesOf.calls k1 x5_1 (fun y0_=>impl_councilVotes_1.f k1 y0_ l1 a0_0 l0_1) 61 #[.pointer (some ⟨gb25,0,none⟩),.pointer (some ⟨gb23,0,none⟩)] impl_councilVotes_1.enters t30 t31 _ ?side1 A17.out).mono ?_);(case side1=>exact (fun W_ a0_ r0_ hx_ hb_ =>(impl_councilVotes_1.calls k1 a0_ gb25 _ _ l1 gb23 a0_0 _ _ l0_1 r0_ W_  (Kd.C_below (by repeat (first|exact (Kd.C_below HR1.out HB.out)|(with_reducible refine Kd.C_alloc ?_ _)|(with_reducible refine Kd.C_drewN ?_ _)|(with_reducible refine Kd.C_drew ?_))) hb_) (by exact HC1.out) (Kd.C_below (by repeat (first|exact (Kd.C_below HR0_1.out HB.out)|(with_reducible refine Kd.C_alloc ?_ _)|(with_reducible refine Kd.C_drewN ?_ _)|(with_reducible refine Kd.C_drew ?_))) hb_) (by exact HC0_1.out) (box_later (bk1 BK25.out) hb_) (box_later (bk1 BK23.out) hb_) NB25_23.out hx_).mono (fun _ _ h_=>h_)));rintro e w18 ⟨v32,rfl,ho0,hb⟩;refine ⟨_,rfl,?_⟩;have HO33:=aM (Kd.R_lower ho0 (below_size bw));replace BK23:=aM (bB BK23.out hb);replace BK25:=aM (bB BK25.out hb);replace BK26:=aM (bB BK26.out hb);replace HB:=aM (below_step bw hb);(try clear hb);(try clear ho0);have hnb19:=NB26_23.out;have hnc19:=NB23_26.out;have hnb20:=NB26_25.out;have hnc20:=NB25_26.out;have hcz21_0:=cz BK26.out 0;have hcz21_1:=cz BK26.out 1;have hfz21_0:=blk_frozen BK26.out 0;have hfz21_1:=blk_frozen BK26.out 1;obtain ⟨Ao22,co22,eo22⟩:=Kd.R_slice HO33.out;subst eo22))
    refine bodyPost_ret (results_cell_row rfl _ _ gb26 59 #[.int .i64 t30,.slice Ao22 t31.length co22] (0,0) _ rfl (by (with_reducible repeat (first|refine blk_drewN ?_ _|refine blk_drew ?_|refine blk_alloc ?_ _));refine blk_put (cs:=#[.int .i64 t30,.slice none 0 0]) ?_ 1 _ rfl;(with_reducible repeat (first|refine blk_drewN ?_ _|refine blk_drew ?_|refine blk_alloc ?_ _));refine blk_put (cs:=#[.int .i64 0,.slice none 0 0]) ?_ 0 _ rfl;(with_reducible repeat (first|refine blk_drewN ?_ _|refine blk_drew ?_|refine blk_alloc ?_ _));exact BK26.out) Tryz.underlying59 rfl kR) rfl ?_;exact ⟨_,eE,by (with_reducible repeat (first|apply Kd.R_alloc|apply Kd.R_drewN|apply Kd.R_drew));exact Kd.R_mono (Kd.R_far (p:=⟨gb26,1,none⟩) (Kd.R_far (p:=⟨gb26,0,none⟩) (Kd.R_types HO33.out BK26.out (by decide)) (fun _ hk=>hk.2) (.int .i64 t30)) (fun _ hk=>hk.2) (.slice Ao22 t31.length co22)) (fun _ hk=>trivial),by exact bw⟩


/-! ### cmp_isNaN_int: function 96 -/
def cmp_isNaN_int.f (a0:Int):Option (Bool):=some (a0 != a0)
set_option maxHeartbeats 8000000 in
set_option maxRecDepth 100000 in
theorem cmp_isNaN_int.calls (a0:Int) (r:Bool) (w:World) (h:cmp_isNaN_int.f a0 = some r) :
  Calls Tryz.prog 96 #[.int .i64 a0] w fun e w'=>e = .returned (.bool r) ∧ Drawn0 w w':=by
 have H:(some (a0 != a0)) = some r:=h;clear h;obtain rfl:=Option.some.inj H;go_enter Tryz.func96,Tryz.ntmps96;go_wp2
 go_ret
 exact ⟨qrs,dR⟩


/-! ### cmp_Compare_int: function 77 -/
def cmp_Compare_int.f (a0:Int) (a1:Int):Option (Int):=(cmp_isNaN_int.f a0).bind fun t2=>((cmp_isNaN_int.f a1).bind fun t3=>(if t2 = true then (if t3 = true then (some 0) else (some (-1))) else (if t3 = true then (some 1) else (if a0 < a1 then (some (-1)) else (if a0 > a1 then (some 1) else (some 0))))))
set_option maxHeartbeats 8000000 in
set_option maxRecDepth 100000 in
theorem cmp_Compare_int.calls (a0:Int) (a1:Int) (r:Int) (w:World) (h:cmp_Compare_int.f a0 a1 = some r) :
  Calls Tryz.prog 77 #[.int .i64 a0,.int .i64 a1] w fun e w'=>e = .returned (.int .i64 r) ∧ Drawn0 w w':=by
 have H:((cmp_isNaN_int.f a0).bind fun t10=>((cmp_isNaN_int.f a1).bind fun t11=>(if t10 = true then (if t11 = true then (some 0) else (some (-1))) else (if t11 = true then (some 1) else (if a0 < a1 then (some (-1)) else (if a0 > a1 then (some 1) else (some 0))))))) = some r:=h;clear h;replace H:=oB H;obtain ⟨t10,A3,H⟩:=H;(try dsimp only at H)
 replace H:=oB H;obtain ⟨t11,A4,H⟩:=H;(try dsimp only at H)
 by_cases c5:t10 = true
 ·subst c5;rw [if_pos rfl] at H;by_cases c6:t11 = true
  ·subst c6;rw [if_pos rfl] at H;obtain rfl:=Option.some.inj H;go_enter Tryz.func77,Tryz.ntmps77;go_wp2_with (first|((with_reducible refine gate_callee (f:=96) rfl ?_);refine gL 8 Tryz.func96 #[.int .i64 a0] ?_;(with_reducible refine (cmp_isNaN_int.calls a0 true _ A3.out).mono ?_);rintro e w' ⟨rfl,⟨nd,rfl⟩⟩;refine ⟨_,rfl,?_⟩)|((with_reducible refine gate_callee (f:=96) rfl ?_);refine gL 10 Tryz.func96 #[.int .i64 a1] ?_;(with_reducible refine (cmp_isNaN_int.calls a1 true _ A4.out).mono ?_);rintro e w' ⟨rfl,⟨nd,rfl⟩⟩;refine ⟨_,rfl,?_⟩))
   go_ret
   exact ⟨qrs,dR⟩
  ·replace c6:=Bool.eq_false_iff.mpr c6;subst c6;rw [if_neg (show ¬ (false = true) by decide)] at H;obtain rfl:=Option.some.inj H;go_enter Tryz.func77,Tryz.ntmps77;go_wp2_with (first|((with_reducible refine gate_callee (f:=96) rfl ?_);refine gL 8 Tryz.func96 #[.int .i64 a0] ?_;(with_reducible refine (cmp_isNaN_int.calls a0 true _ A3.out).mono ?_);rintro e w' ⟨rfl,⟨nd,rfl⟩⟩;refine ⟨_,rfl,?_⟩)|((with_reducible refine gate_callee (f:=96) rfl ?_);refine gL 10 Tryz.func96 #[.int .i64 a1] ?_;(with_reducible refine (cmp_isNaN_int.calls a1 false _ A4.out).mono ?_);rintro e w' ⟨rfl,⟨nd,rfl⟩⟩;refine ⟨_,rfl,?_⟩))
   go_ret
   exact ⟨qrs,dR⟩
 ·replace c5:=Bool.eq_false_iff.mpr c5;subst c5;rw [if_neg (show ¬ (false = true) by decide)] at H;by_cases c7:t11 = true
  ·subst c7;rw [if_pos rfl] at H;obtain rfl:=Option.some.inj H;go_enter Tryz.func77,Tryz.ntmps77;go_wp2_with (first|((with_reducible refine gate_callee (f:=96) rfl ?_);refine gL 8 Tryz.func96 #[.int .i64 a0] ?_;(with_reducible refine (cmp_isNaN_int.calls a0 false _ A3.out).mono ?_);rintro e w' ⟨rfl,⟨nd,rfl⟩⟩;refine ⟨_,rfl,?_⟩)|((with_reducible refine gate_callee (f:=96) rfl ?_);refine gL 10 Tryz.func96 #[.int .i64 a1] ?_;(with_reducible refine (cmp_isNaN_int.calls a1 true _ A4.out).mono ?_);rintro e w' ⟨rfl,⟨nd,rfl⟩⟩;refine ⟨_,rfl,?_⟩))
   go_ret
   exact ⟨qrs,dR⟩
  ·replace c7:=Bool.eq_false_iff.mpr c7;subst c7;rw [if_neg (show ¬ (false = true) by decide)] at H;by_cases c8:a0 < a1
   ·rw [if_pos c8] at H;have c8b0:=decide_eq_true c8;clear c8;obtain rfl:=Option.some.inj H;go_enter Tryz.func77,Tryz.ntmps77;go_wp2_with (first|((with_reducible refine gate_callee (f:=96) rfl ?_);refine gL 8 Tryz.func96 #[.int .i64 a0] ?_;(with_reducible refine (cmp_isNaN_int.calls a0 false _ A3.out).mono ?_);rintro e w' ⟨rfl,⟨nd,rfl⟩⟩;refine ⟨_,rfl,?_⟩)|((with_reducible refine gate_callee (f:=96) rfl ?_);refine gL 10 Tryz.func96 #[.int .i64 a1] ?_;(with_reducible refine (cmp_isNaN_int.calls a1 false _ A4.out).mono ?_);rintro e w' ⟨rfl,⟨nd,rfl⟩⟩;refine ⟨_,rfl,?_⟩))
    go_ret
    exact ⟨qrs,dR⟩
   ·rw [if_neg c8] at H;have c8b0:=decide_eq_false c8;clear c8;by_cases c9:a0 > a1
    ·rw [if_pos c9] at H;have c9b0:decide (a1 < a0) = true:=decide_eq_true c9;clear c9;obtain rfl:=Option.some.inj H;go_enter Tryz.func77,Tryz.ntmps77;go_wp2_with (first|((with_reducible refine gate_callee (f:=96) rfl ?_);refine gL 8 Tryz.func96 #[.int .i64 a0] ?_;(with_reducible refine (cmp_isNaN_int.calls a0 false _ A3.out).mono ?_);rintro e w' ⟨rfl,⟨nd,rfl⟩⟩;refine ⟨_,rfl,?_⟩)|((with_reducible refine gate_callee (f:=96) rfl ?_);refine gL 10 Tryz.func96 #[.int .i64 a1] ?_;(with_reducible refine (cmp_isNaN_int.calls a1 false _ A4.out).mono ?_);rintro e w' ⟨rfl,⟨nd,rfl⟩⟩;refine ⟨_,rfl,?_⟩))
     go_ret
     exact ⟨qrs,dR⟩
    ·rw [if_neg c9] at H;have c9b0:decide (a1 < a0) = false:=decide_eq_false c9;clear c9;obtain rfl:=Option.some.inj H;go_enter Tryz.func77,Tryz.ntmps77;go_wp2_with (first|((with_reducible refine gate_callee (f:=96) rfl ?_);refine gL 8 Tryz.func96 #[.int .i64 a0] ?_;(with_reducible refine (cmp_isNaN_int.calls a0 false _ A3.out).mono ?_);rintro e w' ⟨rfl,⟨nd,rfl⟩⟩;refine ⟨_,rfl,?_⟩)|((with_reducible refine gate_callee (f:=96) rfl ?_);refine gL 10 Tryz.func96 #[.int .i64 a1] ?_;(with_reducible refine (cmp_isNaN_int.calls a1 false _ A4.out).mono ?_);rintro e w' ⟨rfl,⟨nd,rfl⟩⟩;refine ⟨_,rfl,?_⟩))
     go_ret
     exact ⟨qrs,dR⟩


/-! ### slices_Compare_int_int: function 46 -/
def slices_Compare_int_int.l0:Nat → List Int → List Int → List Int → Int → Int → Option (Int)
 | 0,_,_,_,_,_=>none
 | k + 1,x0,x1,x9,x10,x11=>if x11 < x10 then (if 0 ≤ x11 then (if x11 < (x9.length:Int) then (if x11 ≥ (x1.length:Int) then (some 1) else (if x11 < (x1.length:Int) then ((cmp_Compare_int.f (rd x9 x11) (rd x1 x11)).bind fun t2=>(if t2 = 0 then (slices_Compare_int_int.l0 k x0 x1 x9 x10 (wrap64 (x11 + 1))) else (some t2))) else (none))) else (none)) else (none)) else (if (x0.length:Int) < (x1.length:Int) then (some (-1)) else (some 0))
def slices_Compare_int_int.f (k:Nat) (l0:List Int) (l1:List Int):Option (Int):=slices_Compare_int_int.l0 k l0 l1 l0 (l0.length:Int) 0
set_option maxHeartbeats 8000000 in
set_option maxRecDepth 100000 in
theorem slices_Compare_int_int.calls (k:Nat) (A0:Option Addr) (c0:Nat) (l0:List Int) (A1:Option Addr) (c1:Nat) (l1:List Int) (r:Int) (w:World) (hr0:Kd.C (Kd.int .i64) w A0 l0.length l0) (hc0:l0.length ≤ c0) (hr1:Kd.C (Kd.int .i64) w A1 l1.length l1) (hc1:l1.length ≤ c1) (h:slices_Compare_int_int.f k l0 l1 = some r) :
  Calls Tryz.prog 46 #[.slice A0 l0.length c0,.slice A1 l1.length c1] w fun e w'=>e = .returned (.int .i64 r) ∧ Drawn0 w w':=by
 have HR0:=aM hr0;have HC0:=aM hc0;clear hr0 hc0;have HR1:=aM hr1;have HC1:=aM hc1;clear hr1 hc1;have H:(slices_Compare_int_int.l0 k l0 l1 l0 (l0.length:Int) 0) = some r:=h;clear h;have H':=aM H;clear H;go_enter Tryz.func46,Tryz.ntmps46;go_wp2
 go_loopg [11] k (fun kq v11 w'=>∃ (x11_1:Int),v11 = .int .i64 x11_1 ∧ Aside0 (slices_Compare_int_int.l0 kq l0 l1 l0 (l0.length:Int) x11_1 = some r) ∧ Aside0 (kq ≤ k) ∧ Drawn0 w w')
 case atStart=>exact ⟨(0),qrs,H',⟨Nat.le_refl _⟩,by repeat (first|exact Drawn0.refl _|apply Drawn0.step)⟩
 case round =>
  clear H';(try clear c1)
  obtain ⟨x11_1,rfl,HA,HK1,⟨m1,rfl⟩⟩:=hrel
  cases gk with
  | zero=>exact absurd HA.out (by simp [slices_Compare_int_int.l0])
  | succ k1 =>
   have H:=HA.out;clear HA;simp only [slices_Compare_int_int.l0] at H;by_cases c3:x11_1 < (l0.length:Int)
   ·rw [if_pos c3] at H;have c3b0:=decide_eq_true c3;clear c3;replace H:=iN H;obtain ⟨c4,H⟩:=H;have c4b0:decide (0 ≤ x11_1) = true:=decide_eq_true c4;clear c4;replace H:=iN H;obtain ⟨c5,H⟩:=H;have c5b0:decide (x11_1 < (l0.length:Int)) = true:=decide_eq_true c5;clear c5;by_cases c6:x11_1 ≥ (l1.length:Int)
    ·rw [if_pos c6] at H;have c6b0:decide ((l1.length:Int) ≤ x11_1) = true:=decide_eq_true c6;clear c6;obtain rfl:=Option.some.inj H;have p12:0 ≤ (x11_1:Int):=of_decide_eq_true ab;have q12:x11_1 < (l0.length:Int):=of_decide_eq_true ab;obtain ⟨ad12,e12,hx12_0⟩:=Kd.at_int HR0.out x11_1 p12 q12;cases e12
     replace p12:=eq_true p12;replace q12:=eq_true q12;go_wp2
     go_ret
     exact ⟨qrs,dR⟩
    ·rw [if_neg c6] at H;have c6b0:decide ((l1.length:Int) ≤ x11_1) = false:=decide_eq_false c6;clear c6;replace H:=iN H;obtain ⟨c7,H⟩:=H;have c7b0:decide (x11_1 < (l1.length:Int)) = true:=decide_eq_true c7;clear c7;replace H:=oB H;obtain ⟨t14,A8,H⟩:=H;(try dsimp only at H)
     by_cases c9:t14 = 0
     ·rw [if_pos c9] at H;have c9b0:(t14 == 0) = true:=beq_iff_eq.mpr c9;have c9b1:(t14 != 0) = false:=bne_eq_false_iff_eq.mpr c9;clear c9;have H':=aM H;clear H;have p12:0 ≤ (x11_1:Int):=of_decide_eq_true ab;have q12:x11_1 < (l0.length:Int):=of_decide_eq_true ab;obtain ⟨ad12,e12,hx12_0⟩:=Kd.at_int HR0.out x11_1 p12 q12;cases e12
      replace p12:=eq_true p12;replace q12:=eq_true q12;have p13:0 ≤ (x11_1:Int):=of_decide_eq_true ab;have q13:x11_1 < (l1.length:Int):=of_decide_eq_true ab;obtain ⟨ad13,e13,hx13_0⟩:=Kd.at_int HR1.out x11_1 p13 q13;cases e13
      replace p13:=eq_true p13;replace q13:=eq_true q13;go_wp2_with (first|((with_reducible refine gate_callee (f:=77) rfl ?_);refine gL 26 Tryz.func77 #[.int .i64 (rd l0 x11_1),.int .i64 (rd l1 x11_1)] ?_;(with_reducible refine (cmp_Compare_int.calls (rd l0 x11_1) (rd l1 x11_1) t14 _ A8.out).mono ?_);rintro e w' ⟨rfl,⟨nd,rfl⟩⟩;refine ⟨_,rfl,?_⟩))
      go_roundg k1
      case measure=>have:=HK1.out;omega
      case rel=>exact ⟨(wrap64 (x11_1 + 1)),qrs,H',⟨by have:=HK1.out;omega⟩,by repeat (first|exact Drawn0.refl _|apply Drawn0.step)⟩
     ·rw [if_neg c9] at H;have c9b0:(t14 == 0) = false:=beq_eq_false_iff_ne.mpr c9;have c9b1:(t14 != 0) = true:=bne_iff_ne.mpr c9;obtain rfl:=Option.some.inj H;have p12:0 ≤ (x11_1:Int):=of_decide_eq_true ab;have q12:x11_1 < (l0.length:Int):=of_decide_eq_true ab;obtain ⟨ad12,e12,hx12_0⟩:=Kd.at_int HR0.out x11_1 p12 q12;cases e12
      replace p12:=eq_true p12;replace q12:=eq_true q12;have p13:0 ≤ (x11_1:Int):=of_decide_eq_true ab;have q13:x11_1 < (l1.length:Int):=of_decide_eq_true ab;obtain ⟨ad13,e13,hx13_0⟩:=Kd.at_int HR1.out x11_1 p13 q13;cases e13
      replace p13:=eq_true p13;replace q13:=eq_true q13;go_wp2_with (first|((with_reducible refine gate_callee (f:=77) rfl ?_);refine gL 26 Tryz.func77 #[.int .i64 (rd l0 x11_1),.int .i64 (rd l1 x11_1)] ?_;(with_reducible refine (cmp_Compare_int.calls (rd l0 x11_1) (rd l1 x11_1) t14 _ A8.out).mono ?_);rintro e w' ⟨rfl,⟨nd,rfl⟩⟩;refine ⟨_,rfl,?_⟩))
      go_ret
      exact ⟨qrs,dR⟩
   ·rw [if_neg c3] at H;have c3b0:=decide_eq_false c3;clear c3;by_cases c10:(l0.length:Int) < (l1.length:Int)
    ·rw [if_pos c10] at H;have c10b0:=decide_eq_true c10;have c10b1:decide (l0.length < l1.length) = true:=decide_eq_true (Int.ofNat_lt.mp c10);clear c10;obtain rfl:=Option.some.inj H;go_wp2
     go_ret
     exact ⟨qrs,dR⟩
    ·rw [if_neg c10] at H;have c10b0:=decide_eq_false c10;have c10b1:decide (l0.length < l1.length) = false:=decide_eq_false (fun h=>c10 (Int.ofNat_lt.mpr h));clear c10;obtain rfl:=Option.some.inj H;go_wp2
     go_ret
     exact ⟨qrs,dR⟩
theorem slices_Compare_int_int.enters:∀ (args:Array Value) (w:World),(callFunc 46 args).run Tryz.prog w = .ok (.enter 46 args) w:=enters_of Tryz.func46 kR rfl


/-! ### impl_setOf: function 99 -/
def impl_setOf.l0:Nat → Int → List Int → Int → Option (List Int)
 | 0,_,_,_=>none
 | k + 1,x0,x3,x4=>if 0 ≤ x4 then (if (shr .i64 x0 x4) > 0 then (if (Go.bits .and .i64 (shr .i64 x0 x4) 1) = 1 then (if x3.length < 17592186044416 then (impl_setOf.l0 k x0 (x3 ++ [x4]) (wrap64 (x4 + 1))) else (none)) else (impl_setOf.l0 k x0 x3 (wrap64 (x4 + 1)))) else (some x3)) else (none)
def impl_setOf.f (k:Nat) (a0:Int):Option (List Int):=impl_setOf.l0 k a0 (([]:List Int)) 0
set_option maxHeartbeats 8000000 in
set_option maxRecDepth 100000 in
theorem impl_setOf.calls (k:Nat) (a0:Int) (r:List Int) (w:World) (h:impl_setOf.f k a0 = some r) :
  Calls Tryz.prog 99 #[.int .i64 a0] w fun e w'=>∃ v0_:Value,e = .returned (v0_) ∧ Kd.R (Kd.int .i64) 3 w' w.heap.size (fun _=>True) v0_ r ∧ Below w.heap.size w w':=by
 have HB:=aM (Below.refl w.heap.size w);have H:(impl_setOf.l0 k a0 (([]:List Int)) 0) = some r:=h;clear h;obtain ⟨y11,hy11⟩:∃ y_:List Int,y_ = (([]:List Int)):=⟨_,rfl⟩;replace H:(impl_setOf.l0 k a0 y11 0) = some r:=yR hy11 H;have Ny11:=aM hy11;clear hy11;have H':=aM H;clear H;go_enter Tryz.func99,Tryz.ntmps99;go_wp2_with (first|((with_reducible refine gate_dst (N:=5) rfl ?_);refine Kd.R_lit (Kd.int .i64) _ 3 ?hg (N:=5) ?hd (xs:=([]:List Int)) (inner:=[]) (ok:=fun _=>True) (okp:=fun _=>True) ?hr ?hp (fun _ hk=>hk) trivial (Below.refl _ _) (Nat.le_refl _) (by simp) ?_;(case hd=>rfl);(case hg=>rfl);(case hr=>first|(go_simp;done)|(go_simp;rfl));(case hp=>exact (Reps.none _ _));intro v12 w2 ho3 hb hg_ hnew_;clear hg_ hnew_;(first|rw [← Ny11.out] at ho3|(simp only [Int.reduceToNat] at ho3;rw [← Ny11.out] at ho3));have HO13:=aM (Kd.R_lower ho3 (below_size bw));replace HB:=aM (below_step bw hb);clear hb ho3))
 go_loopg [3,4] k (fun kq v3 v4 w'=>∃ (x3_1:List Int) (x4_1:Int),v4 = .int .i64 x4_1 ∧ Aside0 (impl_setOf.l0 kq a0 x3_1 x4_1 = some r) ∧ Aside0 (kq ≤ k) ∧ Aside0 (Kd.R (Kd.int .i64) 3 w' w.heap.size (fun _=>True) v3 x3_1) ∧ Aside0 (Below w.heap.size w w'))
 case atStart=>exact ⟨(y11),(0),qrs,H',⟨Nat.le_refl _⟩,⟨qra HO13.out⟩,⟨by exact bw⟩⟩
 case round =>
  clear H'
  try clear p2
  obtain ⟨x3_1,x4_1,rfl,HA,HK1,HO_3,HB⟩:=hrel
  cases gk with
  | zero=>exact absurd HA.out (by simp [impl_setOf.l0])
  | succ k1 =>
   have H:=HA.out;clear HA;simp only [impl_setOf.l0] at H;replace H:=iN H;obtain ⟨c4,H⟩:=H;have c4b0:=eq_true c4;have c4b1:decide (0 ≤ x4_1) = true:=decide_eq_true c4;clear c4;obtain ⟨ji5,hji5⟩:∃ j_:Int,(shr .i64 a0 x4_1) = j_:=⟨_,rfl⟩;(first|rw [hji5] at H|simp only [hji5] at H)
   have hji5_:(a0 / 2 ^ min x4_1.toNat 64) = ji5:=hji5;have hji5z:x4_1 ≤ 64 → (a0 / 2 ^ x4_1.toNat) = ji5:=shr_small hji5;by_cases c6:(ji5) > 0
   ·rw [if_pos c6] at H;have c6b0:decide (0 < (ji5)) = true:=decide_eq_true c6;clear c6;have c7b0:=eq_true (of_decide_eq_true ab:0 ≤ x4_1);by_cases c8:(Go.bits .and .i64 (ji5) 1) = 1
    ·rw [if_pos c8] at H;have c8b0:((Go.bits .and .i64 (ji5) 1) == 1) = true:=beq_iff_eq.mpr c8;have c8b1:((Go.bits .and .i64 (ji5) 1) != 1) = false:=bne_eq_false_iff_eq.mpr c8;clear c8;replace H:=iN H;obtain ⟨c9,H⟩:=H;have LMc9:=aM c9;clear c9;obtain ⟨y14,hy14⟩:∃ y_:List Int,y_ = (x3_1 ++ [x4_1]):=⟨_,rfl⟩;replace H:(impl_setOf.l0 k1 a0 y14 (wrap64 (x4_1 + 1))) = some r:=yR hy14 H;have Ny14:=aM hy14;clear hy14;have H':=aM H;clear H;go_wp2_with (first|((with_reducible refine gate_builtin (b:=.append) (xs:=#[.tmp 17,.tmp 19]) rfl ?_);at_builtin;refine Kd.R_append (Kd.int .i64) (w0:=w) w.heap.size rfl (.tmp 17) (.tmp 19) 22 3 (.int .i64 0) 8 rfl Tryz.underlying22 info3 rfl (by decide) (by omega) u3 x3_1 x4_1 [.int .i64 x4_1] (fun _=>True) (fun _=>False) rfl rfl ?aP (fun _ hk=>hk.elim) ?aF ?aO ?aB ?aS ?aL ?_;(case aP=>exact rfl);(case aB=>exact bw);(case aF=>exact (fun _ _=>trivial));(case aO=>exact (qra HO_3.out));(case aS=>exact (below_size bw));(case aL=>have:=LMc9.out;omega);intro v15 w10 ho hb hg hat;rw [← Ny14.out] at ho;replace HB:=aM (hb);have HO16:=aM (ho);clear HO_3;clear ho hb hg hat))
     go_roundg k1
     case measure=>have:=HK1.out;omega
     case rel=>exact ⟨(y14),(wrap64 (x4_1 + 1)),qrs,H',⟨by have:=HK1.out;omega⟩,⟨qra HO16.out⟩,⟨by exact bw⟩⟩
    ·rw [if_neg c8] at H;have c8b0:((Go.bits .and .i64 (ji5) 1) == 1) = false:=beq_eq_false_iff_ne.mpr c8;have c8b1:((Go.bits .and .i64 (ji5) 1) != 1) = true:=bne_iff_ne.mpr c8;have H':=aM H;clear H;go_wp2
     go_roundg k1
     case measure=>have:=HK1.out;omega
     case rel=>exact ⟨(x3_1),(wrap64 (x4_1 + 1)),qrs,H',⟨by have:=HK1.out;omega⟩,⟨qra HO_3.out⟩,⟨by exact bw⟩⟩
   ·rw [if_neg c6] at H;have c6b0:decide (0 < (ji5)) = false:=decide_eq_false c6;clear c6;obtain rfl:=Option.some.inj H;go_wp2
    go_ret
    exact ⟨_,by first|rfl|(simp [errW_none,errW_some] <;> rfl)|(simp only [← hji5];first|rfl|(simp [errW_none,errW_some] <;> rfl))|(simp [*,errW_none,errW_some] <;> rfl),by (with_reducible repeat (first|apply Kd.R_alloc|apply Kd.R_drewN|apply Kd.R_drew));exact HO_3.out,by exact bw⟩


/-! ### impl_votes_isLeast: function 88 -/
def impl_votes_isLeast.l0:Nat → Int → Int → Int → Int → List Bool → Option (Bool)
 | 0,_,_,_,_,_=>none
 | k + 1,x1,x13,x14,x3,x4=>if x14 < x13 then ((impl_has.f x1 x14).bind fun t2=>(if t2 = true then (if 0 ≤ x14 then (if 0 ≤ (Go.bits .andNot .i64 x1 (shl .i64 1 x14)) then (if (Go.bits .andNot .i64 x1 (shl .i64 1 x14)) < (x4.length:Int) then (if rdOf false x4 (Go.bits .andNot .i64 x1 (shl .i64 1 x14)) = true then (some false) else (impl_votes_isLeast.l0 k x1 x13 (wrap64 (x14 + 1)) x3 x4)) else (none)) else (none)) else (none)) else (impl_votes_isLeast.l0 k x1 x13 (wrap64 (x14 + 1)) x3 x4))) else (some true)
def impl_votes_isLeast.f (k:Nat) (a0_0:Int) (l0_1:List Bool) (a1:Int):Option (Bool):=if 0 ≤ a1 then (if a1 < (l0_1.length:Int) then (if rdOf false l0_1 a1 = true then (impl_votes_isLeast.l0 k a1 a0_0 0 a0_0 l0_1) else (some false)) else (none)) else (none)
set_option maxHeartbeats 8000000 in
set_option maxRecDepth 100000 in
theorem impl_votes_isLeast.calls (k:Nat) (a0_0:Int) (A0_1:Option Addr) (c0_1:Nat) (l0_1:List Bool) (a1:Int) (r:Bool) (w:World) (hr0_1:Kd.C Kd.bool w A0_1 l0_1.length l0_1) (hc0_1:l0_1.length ≤ c0_1) (h:impl_votes_isLeast.f k a0_0 l0_1 a1 = some r) :
  Calls Tryz.prog 88 #[.agg #[.int .i64 a0_0,.slice A0_1 l0_1.length c0_1],.int .i64 a1] w fun e w'=>e = .returned (.bool r) ∧ Below w.heap.size w w':=by
 have hu59:=Tryz.underlying59;have HR0_1:=aM hr0_1;have HC0_1:=aM hc0_1;clear hr0_1 hc0_1;have HB:=aM (Below.refl w.heap.size w);have H:(if 0 ≤ a1 then (if a1 < (l0_1.length:Int) then (if rdOf false l0_1 a1 = true then (impl_votes_isLeast.l0 k a1 a0_0 0 a0_0 l0_1) else (some false)) else (none)) else (none)) = some r:=h;clear h;replace H:=iN H;obtain ⟨c3,H⟩:=H;have c3b0:decide (0 ≤ a1) = true:=decide_eq_true c3;clear c3;replace H:=iN H;obtain ⟨c4,H⟩:=H;have c4b0:decide (a1 < (l0_1.length:Int)) = true:=decide_eq_true c4;clear c4;obtain ⟨bq5,hbq5⟩:∃ b_:Bool,b_ = (rdOf false l0_1 a1):=⟨_,rfl⟩;rw [← hbq5] at H;have Nbq5:=aM hbq5;clear hbq5;by_cases c6:bq5 = true
 ·subst c6;rw [if_pos rfl] at H;have H':=aM H;clear H;go_enter Tryz.func88,Tryz.ntmps88;go_wp2_with (first|((with_reducible refine gate_dst (N:=2) rfl ?_);refine bE 2 #[.int .i64 a0_0,.slice A0_1 l0_1.length c0_1] 59 ?_;intro gb22 hg w7 hbox hb;have BK22:=aM (hbox);have GW22:=aM (gS hg);have GE22:=aM (gS hg);replace HB:=aM (below_step bw hb);clear hb hbox hg;have hcz8_0:=cz BK22.out 0;have hcz8_1:=cz BK22.out 1;have hfz8_0:=blk_frozen BK22.out 0;have hfz8_1:=blk_frozen BK22.out 1;have p23:0 ≤ (a1:Int):=of_decide_eq_true ab;have q23:a1 < (l0_1.length:Int):=of_decide_eq_true ab;obtain ⟨ad23,e23,hx23_0⟩:=Kd.at_bool HR0_1.out a1 p23 q23;(try rw [← Nbq5.out] at hx23_0);cases e23;replace hx23_0:=(HB.out.cell (World.block_lt_of_cell? w _ hx23_0)).trans hx23_0;replace p23:=eq_true p23;replace q23:=eq_true q23))
  repeat (go_quiet (first|((with_reducible refine gate_dst (N:=2) rfl ?_);refine bE 2 #[.int .i64 a0_0,.slice A0_1 l0_1.length c0_1] 59 ?_;intro gb22 hg w7 hbox hb;have BK22:=aM (hbox);have GW22:=aM (gS hg);have GE22:=aM (gS hg);replace HB:=aM (below_step bw hb);clear hb hbox hg;have hcz8_0:=cz BK22.out 0;have hcz8_1:=cz BK22.out 1;have hfz8_0:=blk_frozen BK22.out 0;have hfz8_1:=blk_frozen BK22.out 1;have p23:0 ≤ (a1:Int):=of_decide_eq_true ab;have q23:a1 < (l0_1.length:Int):=of_decide_eq_true ab;obtain ⟨ad23,e23,hx23_0⟩:=Kd.at_bool HR0_1.out a1 p23 q23;(try rw [← Nbq5.out] at hx23_0);cases e23;replace hx23_0:=(HB.out.cell (World.block_lt_of_cell? w _ hx23_0)).trans hx23_0;replace p23:=eq_true p23;replace q23:=eq_true q23));try go_wp2_with (first|((with_reducible refine gate_dst (N:=2) rfl ?_);refine bE 2 #[.int .i64 a0_0,.slice A0_1 l0_1.length c0_1] 59 ?_;intro gb22 hg w7 hbox hb;have BK22:=aM (hbox);have GW22:=aM (gS hg);have GE22:=aM (gS hg);replace HB:=aM (below_step bw hb);clear hb hbox hg;have hcz8_0:=cz BK22.out 0;have hcz8_1:=cz BK22.out 1;have hfz8_0:=blk_frozen BK22.out 0;have hfz8_1:=blk_frozen BK22.out 1;have p23:0 ≤ (a1:Int):=of_decide_eq_true ab;have q23:a1 < (l0_1.length:Int):=of_decide_eq_true ab;obtain ⟨ad23,e23,hx23_0⟩:=Kd.at_bool HR0_1.out a1 p23 q23;(try rw [← Nbq5.out] at hx23_0);cases e23;replace hx23_0:=(HB.out.cell (World.block_lt_of_cell? w _ hx23_0)).trans hx23_0;replace p23:=eq_true p23;replace q23:=eq_true q23)))
  go_loopg [14] k (fun kq v14 w'=>∃ (x14_1:Int),v14 = .int .i64 x14_1 ∧ Aside0 (impl_votes_isLeast.l0 kq a1 a0_0 x14_1 a0_0 l0_1 = some r) ∧ Aside0 (kq ≤ k) ∧ Aside0 (w'.heap[gb22]? = some (.cells #[.int .i64 a0_0,(.slice (some ad23) l0_1.length c0_1)] 59 (0,0))) ∧ Aside0 (Below w.heap.size w w'))
  case atStart=>exact ⟨(0),qrs,H',⟨Nat.le_refl _⟩,⟨bk1 BK22.out⟩,⟨by exact bw⟩⟩
  case round =>
   clear H';(try clear c3);(try clear c3b0);(try clear c4);(try clear c4b0);(try clear c6);(try clear hcz8_0);(try clear hcz8_1);(try clear hfz8_0);(try clear hfz8_1);(try clear hx23_0);(try clear p23);(try clear q23)
   obtain ⟨x14_1,rfl,HA,HK1,BK22,HB⟩:=hrel
   cases gk with
   | zero=>exact absurd HA.out (by simp [impl_votes_isLeast.l0])
   | succ k1 =>
    have H:=HA.out;clear HA;simp only [impl_votes_isLeast.l0] at H;by_cases c9:x14_1 < a0_0
    ·rw [if_pos c9] at H;have c9b0:=decide_eq_true c9;clear c9;replace H:=oB H;obtain ⟨t24,A10,H⟩:=H;(try dsimp only at H)
     by_cases c11:t24 = true
     ·subst c11;rw [if_pos rfl] at H;replace H:=iN H;obtain ⟨c12,H⟩:=H;have c12b0:=eq_true c12;have c12b1:decide (0 ≤ x14_1) = true:=decide_eq_true c12;clear c12;obtain ⟨ji13,hji13⟩:∃ j_:Int,(shl .i64 1 x14_1) = j_:=⟨_,rfl⟩;(first|rw [hji13] at H|simp only [hji13] at H)
      (try rw [hji13] at A10)
      have hji13_:(IntKind.i64.wrap (1 * 2 ^ min x14_1.toNat 64)) = ji13:=hji13;have hji13z:x14_1 ≤ 64 → (IntKind.i64.wrap (1 * 2 ^ x14_1.toNat)) = ji13:=shl_small hji13;have hji13u:(IntKind.i64.wrap (2 ^ min x14_1.toNat 64)) = ji13:=by have h_:=hji13_;rw [Int.one_mul] at h_;exact h_
      have hji13v:x14_1 ≤ 64 → (IntKind.i64.wrap (2 ^ x14_1.toNat)) = ji13:=fun hle_=>by have h_:=hji13z hle_;rw [Int.one_mul] at h_;exact h_
      have hji13y:(wrap64 (1 * 2 ^ min x14_1.toNat 64)) = ji13:=(i64_w _).symm.trans hji13_;have hji13x:x14_1 ≤ 64 → (wrap64 (1 * 2 ^ x14_1.toNat)) = ji13:=fun h_=>(i64_w _).symm.trans (hji13z h_)
      replace H:=iN H;obtain ⟨c14,H⟩:=H;have c14b0:decide (0 ≤ (Go.bits .andNot .i64 a1 (ji13))) = true:=decide_eq_true c14;clear c14;replace H:=iN H;obtain ⟨c15,H⟩:=H;have c15b0:decide ((Go.bits .andNot .i64 a1 (ji13)) < (l0_1.length:Int)) = true:=decide_eq_true c15;clear c15;obtain ⟨bq16,hbq16⟩:∃ b_:Bool,b_ = (rdOf false l0_1 (Go.bits .andNot .i64 a1 (ji13))):=⟨_,rfl⟩;rw [← hbq16] at H;have Nbq16:=aM hbq16;clear hbq16;by_cases c17:bq16 = true
      ·subst c17;rw [if_pos rfl] at H;obtain rfl:=Option.some.inj H;go_wp2_with (first|(go_at_call 83;(with_reducible refine (impl_has.calls a1 x14_1 true _ A10.out).mono ?_);rintro e w' ⟨rfl,⟨nd,rfl⟩⟩;(try exact dW);have hcz18_0:=cz BK22.out 0;have hcz18_1:=cz BK22.out 1;have hfz18_0:=blk_frozen BK22.out 0;have hfz18_1:=blk_frozen BK22.out 1;have p25:0 ≤ ((Go.bits .andNot .i64 a1 (ji13)):Int):=of_decide_eq_true ab;have q25:(Go.bits .andNot .i64 a1 (ji13)) < (l0_1.length:Int):=of_decide_eq_true ab;obtain ⟨ad25,e25,hx25_0⟩:=Kd.at_bool HR0_1.out (Go.bits .andNot .i64 a1 (ji13)) p25 q25;(try rw [← Nbq5.out] at hx25_0);(try rw [← Nbq16.out] at hx25_0);obtain rfl:ad23 = ad25:=(by injection e25);replace hx25_0:=(HB.out.cell (World.block_lt_of_cell? w _ hx25_0)).trans hx25_0;replace p25:=eq_true p25;replace q25:=eq_true q25))
       repeat (go_quiet (first|(go_at_call 83;(with_reducible refine (impl_has.calls a1 x14_1 true _ A10.out).mono ?_);rintro e w' ⟨rfl,⟨nd,rfl⟩⟩;(try exact dW);have hcz18_0:=cz BK22.out 0;have hcz18_1:=cz BK22.out 1;have hfz18_0:=blk_frozen BK22.out 0;have hfz18_1:=blk_frozen BK22.out 1;have p25:0 ≤ ((Go.bits .andNot .i64 a1 (ji13)):Int):=of_decide_eq_true ab;have q25:(Go.bits .andNot .i64 a1 (ji13)) < (l0_1.length:Int):=of_decide_eq_true ab;obtain ⟨ad25,e25,hx25_0⟩:=Kd.at_bool HR0_1.out (Go.bits .andNot .i64 a1 (ji13)) p25 q25;(try rw [← Nbq5.out] at hx25_0);(try rw [← Nbq16.out] at hx25_0);obtain rfl:ad23 = ad25:=(by injection e25);replace hx25_0:=(HB.out.cell (World.block_lt_of_cell? w _ hx25_0)).trans hx25_0;replace p25:=eq_true p25;replace q25:=eq_true q25));try go_wp2_with (first|(go_at_call 83;(with_reducible refine (impl_has.calls a1 x14_1 true _ A10.out).mono ?_);rintro e w' ⟨rfl,⟨nd,rfl⟩⟩;(try exact dW);have hcz18_0:=cz BK22.out 0;have hcz18_1:=cz BK22.out 1;have hfz18_0:=blk_frozen BK22.out 0;have hfz18_1:=blk_frozen BK22.out 1;have p25:0 ≤ ((Go.bits .andNot .i64 a1 (ji13)):Int):=of_decide_eq_true ab;have q25:(Go.bits .andNot .i64 a1 (ji13)) < (l0_1.length:Int):=of_decide_eq_true ab;obtain ⟨ad25,e25,hx25_0⟩:=Kd.at_bool HR0_1.out (Go.bits .andNot .i64 a1 (ji13)) p25 q25;(try rw [← Nbq5.out] at hx25_0);(try rw [← Nbq16.out] at hx25_0);obtain rfl:ad23 = ad25:=(by injection e25);replace hx25_0:=(HB.out.cell (World.block_lt_of_cell? w _ hx25_0)).trans hx25_0;replace p25:=eq_true p25;replace q25:=eq_true q25)))
       go_ret
       exact ⟨by first|rfl|(simp [errW_none,errW_some] <;> rfl)|(simp only [← hji13];first|rfl|(simp [errW_none,errW_some] <;> rfl))|(simp [*,errW_none,errW_some] <;> rfl),by exact bw⟩
      ·replace c17:=Bool.eq_false_iff.mpr c17;subst c17;rw [if_neg (show ¬ (false = true) by decide)] at H;have H':=aM H;clear H;go_wp2_with (first|(go_at_call 83;(with_reducible refine (impl_has.calls a1 x14_1 true _ A10.out).mono ?_);rintro e w' ⟨rfl,⟨nd,rfl⟩⟩;(try exact dW);have hcz19_0:=cz BK22.out 0;have hcz19_1:=cz BK22.out 1;have hfz19_0:=blk_frozen BK22.out 0;have hfz19_1:=blk_frozen BK22.out 1;have p25:0 ≤ ((Go.bits .andNot .i64 a1 (ji13)):Int):=of_decide_eq_true ab;have q25:(Go.bits .andNot .i64 a1 (ji13)) < (l0_1.length:Int):=of_decide_eq_true ab;obtain ⟨ad25,e25,hx25_0⟩:=Kd.at_bool HR0_1.out (Go.bits .andNot .i64 a1 (ji13)) p25 q25;(try rw [← Nbq5.out] at hx25_0);(try rw [← Nbq16.out] at hx25_0);obtain rfl:ad23 = ad25:=(by injection e25);replace hx25_0:=(HB.out.cell (World.block_lt_of_cell? w _ hx25_0)).trans hx25_0;replace p25:=eq_true p25;replace q25:=eq_true q25))
       repeat (go_quiet (first|(go_at_call 83;(with_reducible refine (impl_has.calls a1 x14_1 true _ A10.out).mono ?_);rintro e w' ⟨rfl,⟨nd,rfl⟩⟩;(try exact dW);have hcz19_0:=cz BK22.out 0;have hcz19_1:=cz BK22.out 1;have hfz19_0:=blk_frozen BK22.out 0;have hfz19_1:=blk_frozen BK22.out 1;have p25:0 ≤ ((Go.bits .andNot .i64 a1 (ji13)):Int):=of_decide_eq_true ab;have q25:(Go.bits .andNot .i64 a1 (ji13)) < (l0_1.length:Int):=of_decide_eq_true ab;obtain ⟨ad25,e25,hx25_0⟩:=Kd.at_bool HR0_1.out (Go.bits .andNot .i64 a1 (ji13)) p25 q25;(try rw [← Nbq5.out] at hx25_0);(try rw [← Nbq16.out] at hx25_0);obtain rfl:ad23 = ad25:=(by injection e25);replace hx25_0:=(HB.out.cell (World.block_lt_of_cell? w _ hx25_0)).trans hx25_0;replace p25:=eq_true p25;replace q25:=eq_true q25));try go_wp2_with (first|(go_at_call 83;(with_reducible refine (impl_has.calls a1 x14_1 true _ A10.out).mono ?_);rintro e w' ⟨rfl,⟨nd,rfl⟩⟩;(try exact dW);have hcz19_0:=cz BK22.out 0;have hcz19_1:=cz BK22.out 1;have hfz19_0:=blk_frozen BK22.out 0;have hfz19_1:=blk_frozen BK22.out 1;have p25:0 ≤ ((Go.bits .andNot .i64 a1 (ji13)):Int):=of_decide_eq_true ab;have q25:(Go.bits .andNot .i64 a1 (ji13)) < (l0_1.length:Int):=of_decide_eq_true ab;obtain ⟨ad25,e25,hx25_0⟩:=Kd.at_bool HR0_1.out (Go.bits .andNot .i64 a1 (ji13)) p25 q25;(try rw [← Nbq5.out] at hx25_0);(try rw [← Nbq16.out] at hx25_0);obtain rfl:ad23 = ad25:=(by injection e25);replace hx25_0:=(HB.out.cell (World.block_lt_of_cell? w _ hx25_0)).trans hx25_0;replace p25:=eq_true p25;replace q25:=eq_true q25)))
       go_roundg k1
       case measure=>have:=HK1.out;omega
       case rel=>exact ⟨(wrap64 (x14_1 + 1)),qrs,H',⟨by have:=HK1.out;omega⟩,⟨bk1 BK22.out⟩,⟨by exact bw⟩⟩
     ·replace c11:=Bool.eq_false_iff.mpr c11;subst c11;rw [if_neg (show ¬ (false = true) by decide)] at H;have H':=aM H;clear H;go_wp2_with (first|(go_at_call 83;(with_reducible refine (impl_has.calls a1 x14_1 false _ A10.out).mono ?_);rintro e w' ⟨rfl,⟨nd,rfl⟩⟩;(try exact dW)))
      repeat (go_quiet (first|(go_at_call 83;(with_reducible refine (impl_has.calls a1 x14_1 false _ A10.out).mono ?_);rintro e w' ⟨rfl,⟨nd,rfl⟩⟩;(try exact dW)));try go_wp2_with (first|(go_at_call 83;(with_reducible refine (impl_has.calls a1 x14_1 false _ A10.out).mono ?_);rintro e w' ⟨rfl,⟨nd,rfl⟩⟩;(try exact dW))))
      go_roundg k1
      case measure=>have:=HK1.out;omega
      case rel=>exact ⟨(wrap64 (x14_1 + 1)),qrs,H',⟨by have:=HK1.out;omega⟩,⟨bk1 BK22.out⟩,⟨by exact bw⟩⟩
    ·rw [if_neg c9] at H;have c9b0:=decide_eq_false c9;clear c9;obtain rfl:=Option.some.inj H;go_wp2
     repeat (go_quiet (fail);try go_wp2)
     go_ret
     exact ⟨eE,by exact bw⟩
 ·replace c6:=Bool.eq_false_iff.mpr c6;subst c6;rw [if_neg (show ¬ (false = true) by decide)] at H;obtain rfl:=Option.some.inj H;go_enter Tryz.func88,Tryz.ntmps88;go_wp2_with (first|((with_reducible refine gate_dst (N:=2) rfl ?_);refine bE 2 #[.int .i64 a0_0,.slice A0_1 l0_1.length c0_1] 59 ?_;intro gb22 hg w20 hbox hb;have BK22:=aM (hbox);have GW22:=aM (gS hg);have GE22:=aM (gS hg);replace HB:=aM (below_step bw hb);clear hb hbox hg;have hcz21_0:=cz BK22.out 0;have hcz21_1:=cz BK22.out 1;have hfz21_0:=blk_frozen BK22.out 0;have hfz21_1:=blk_frozen BK22.out 1;have p23:0 ≤ (a1:Int):=of_decide_eq_true ab;have q23:a1 < (l0_1.length:Int):=of_decide_eq_true ab;obtain ⟨ad23,e23,hx23_0⟩:=Kd.at_bool HR0_1.out a1 p23 q23;(try rw [← Nbq5.out] at hx23_0);cases e23;replace hx23_0:=(HB.out.cell (World.block_lt_of_cell? w _ hx23_0)).trans hx23_0;replace p23:=eq_true p23;replace q23:=eq_true q23))
  repeat (go_quiet (first|((with_reducible refine gate_dst (N:=2) rfl ?_);refine bE 2 #[.int .i64 a0_0,.slice A0_1 l0_1.length c0_1] 59 ?_;intro gb22 hg w20 hbox hb;have BK22:=aM (hbox);have GW22:=aM (gS hg);have GE22:=aM (gS hg);replace HB:=aM (below_step bw hb);clear hb hbox hg;have hcz21_0:=cz BK22.out 0;have hcz21_1:=cz BK22.out 1;have hfz21_0:=blk_frozen BK22.out 0;have hfz21_1:=blk_frozen BK22.out 1;have p23:0 ≤ (a1:Int):=of_decide_eq_true ab;have q23:a1 < (l0_1.length:Int):=of_decide_eq_true ab;obtain ⟨ad23,e23,hx23_0⟩:=Kd.at_bool HR0_1.out a1 p23 q23;(try rw [← Nbq5.out] at hx23_0);cases e23;replace hx23_0:=(HB.out.cell (World.block_lt_of_cell? w _ hx23_0)).trans hx23_0;replace p23:=eq_true p23;replace q23:=eq_true q23));try go_wp2_with (first|((with_reducible refine gate_dst (N:=2) rfl ?_);refine bE 2 #[.int .i64 a0_0,.slice A0_1 l0_1.length c0_1] 59 ?_;intro gb22 hg w20 hbox hb;have BK22:=aM (hbox);have GW22:=aM (gS hg);have GE22:=aM (gS hg);replace HB:=aM (below_step bw hb);clear hb hbox hg;have hcz21_0:=cz BK22.out 0;have hcz21_1:=cz BK22.out 1;have hfz21_0:=blk_frozen BK22.out 0;have hfz21_1:=blk_frozen BK22.out 1;have p23:0 ≤ (a1:Int):=of_decide_eq_true ab;have q23:a1 < (l0_1.length:Int):=of_decide_eq_true ab;obtain ⟨ad23,e23,hx23_0⟩:=Kd.at_bool HR0_1.out a1 p23 q23;(try rw [← Nbq5.out] at hx23_0);cases e23;replace hx23_0:=(HB.out.cell (World.block_lt_of_cell? w _ hx23_0)).trans hx23_0;replace p23:=eq_true p23;replace q23:=eq_true q23)))
  go_ret
  exact ⟨eE,by exact bw⟩


/-! ### spec_l1In: function 41 -/
def spec_l1In.f (a0:Int) (a1:Int) (a2:Int):Option (Bool):=if a0 ≥ a1 then (some (decide (a0 ≤ a2))) else (some false)
set_option maxHeartbeats 8000000 in
set_option maxRecDepth 100000 in
theorem spec_l1In.calls (a0:Int) (a1:Int) (a2:Int) (r:Bool) (w:World) (h:spec_l1In.f a0 a1 a2 = some r) :
  Calls Tryz.prog 41 #[.int .i64 a0,.int .i64 a1,.int .i64 a2] w fun e w'=>e = .returned (.bool r) ∧ Drawn0 w w':=by
 have H:(if a0 ≥ a1 then (some (decide (a0 ≤ a2))) else (some false)) = some r:=h;clear h;by_cases c4:a0 ≥ a1
 ·rw [if_pos c4] at H;have c4b0:decide (a1 ≤ a0) = true:=decide_eq_true c4;clear c4;obtain rfl:=Option.some.inj H;go_enter Tryz.func41,Tryz.ntmps41;go_wp2
  go_ret
  exact ⟨qrs,dR⟩
 ·rw [if_neg c4] at H;have c4b0:decide (a1 ≤ a0) = false:=decide_eq_false c4;clear c4;obtain rfl:=Option.some.inj H;go_enter Tryz.func41,Tryz.ntmps41;go_wp2
  go_ret
  exact ⟨qrs,dR⟩


/-! ### spec_l1All: function 69 -/
def spec_l1All.l0:Nat → Int → Int → List Int → Int → Int → Option (Bool)
 | 0,_,_,_,_,_=>none
 | k + 1,x1,x2,x9,x10,x11=>if x11 < x10 then (if 0 ≤ x11 then (if x11 < (x9.length:Int) then ((spec_l1In.f (rd x9 x11) x1 x2).bind fun t3=>(if t3 = true then (spec_l1All.l0 k x1 x2 x9 x10 (wrap64 (x11 + 1))) else (some false))) else (none)) else (none)) else (some true)
def spec_l1All.f (k:Nat) (l0:List Int) (a1:Int) (a2:Int):Option (Bool):=spec_l1All.l0 k a1 a2 l0 (l0.length:Int) 0
set_option maxHeartbeats 8000000 in
set_option maxRecDepth 100000 in
theorem spec_l1All.calls (k:Nat) (A0:Option Addr) (c0:Nat) (l0:List Int) (a1:Int) (a2:Int) (r:Bool) (w:World) (hr0:Kd.C (Kd.int .i64) w A0 l0.length l0) (hc0:l0.length ≤ c0) (h:spec_l1All.f k l0 a1 a2 = some r) :
  Calls Tryz.prog 69 #[.slice A0 l0.length c0,.int .i64 a1,.int .i64 a2] w fun e w'=>e = .returned (.bool r) ∧ Drawn0 w w':=by
 have HR0:=aM hr0;have HC0:=aM hc0;clear hr0 hc0;have H:(spec_l1All.l0 k a1 a2 l0 (l0.length:Int) 0) = some r:=h;clear h;have H':=aM H;clear H;go_enter Tryz.func69,Tryz.ntmps69;go_wp2
 go_loopg [11] k (fun kq v11 w'=>∃ (x11_1:Int),v11 = .int .i64 x11_1 ∧ Aside0 (spec_l1All.l0 kq a1 a2 l0 (l0.length:Int) x11_1 = some r) ∧ Aside0 (kq ≤ k) ∧ Drawn0 w w')
 case atStart=>exact ⟨(0),qrs,H',⟨Nat.le_refl _⟩,by repeat (first|exact Drawn0.refl _|apply Drawn0.step)⟩
 case round =>
  clear H'
  try clear p2
  obtain ⟨x11_1,rfl,HA,HK1,⟨m1,rfl⟩⟩:=hrel
  cases gk with
  | zero=>exact absurd HA.out (by simp [spec_l1All.l0])
  | succ k1 =>
   have H:=HA.out;clear HA;simp only [spec_l1All.l0] at H;by_cases c4:x11_1 < (l0.length:Int)
   ·rw [if_pos c4] at H;have c4b0:=decide_eq_true c4;clear c4;replace H:=iN H;obtain ⟨c5,H⟩:=H;have c5b0:decide (0 ≤ x11_1) = true:=decide_eq_true c5;clear c5;replace H:=iN H;obtain ⟨c6,H⟩:=H;have c6b0:decide (x11_1 < (l0.length:Int)) = true:=decide_eq_true c6;clear c6;replace H:=oB H;obtain ⟨t9,A7,H⟩:=H;(try dsimp only at H)
    by_cases c8:t9 = true
    ·subst c8;rw [if_pos rfl] at H;have H':=aM H;clear H;have p3:0 ≤ (x11_1:Int):=of_decide_eq_true ab;have q3:x11_1 < (l0.length:Int):=of_decide_eq_true ab;obtain ⟨ad3,e3,hx3_0⟩:=Kd.at_int HR0.out x11_1 p3 q3;cases e3
     replace p3:=eq_true p3;replace q3:=eq_true q3;go_wp2_with (first|((with_reducible refine gate_callee (f:=41) rfl ?_);refine gL 18 Tryz.func41 #[.int .i64 (rd l0 x11_1),.int .i64 a1,.int .i64 a2] ?_;(with_reducible refine (spec_l1In.calls (rd l0 x11_1) a1 a2 true _ A7.out).mono ?_);rintro e w' ⟨rfl,⟨nd,rfl⟩⟩;refine ⟨_,rfl,?_⟩))
     go_roundg k1
     case measure=>have:=HK1.out;omega
     case rel=>exact ⟨(wrap64 (x11_1 + 1)),qrs,H',⟨by have:=HK1.out;omega⟩,by repeat (first|exact Drawn0.refl _|apply Drawn0.step)⟩
    ·replace c8:=Bool.eq_false_iff.mpr c8;subst c8;rw [if_neg (show ¬ (false = true) by decide)] at H;obtain rfl:=Option.some.inj H;have p3:0 ≤ (x11_1:Int):=of_decide_eq_true ab;have q3:x11_1 < (l0.length:Int):=of_decide_eq_true ab;obtain ⟨ad3,e3,hx3_0⟩:=Kd.at_int HR0.out x11_1 p3 q3;cases e3
     replace p3:=eq_true p3;replace q3:=eq_true q3;go_wp2_with (first|((with_reducible refine gate_callee (f:=41) rfl ?_);refine gL 18 Tryz.func41 #[.int .i64 (rd l0 x11_1),.int .i64 a1,.int .i64 a2] ?_;(with_reducible refine (spec_l1In.calls (rd l0 x11_1) a1 a2 false _ A7.out).mono ?_);rintro e w' ⟨rfl,⟨nd,rfl⟩⟩;refine ⟨_,rfl,?_⟩))
     go_ret
     exact ⟨qrs,dR⟩
   ·rw [if_neg c4] at H;have c4b0:=decide_eq_false c4;clear c4;obtain rfl:=Option.some.inj H;go_wp2
    go_ret
    exact ⟨qrs,dR⟩


/-! ### spec_voSum: function 70 -/
def spec_voSum.l0:Nat → Int → List Int → Int → Int → Option (Int)
 | 0,_,_,_,_=>none
 | k + 1,x3,x6,x7,x8=>if x8 < x7 then (if 0 ≤ x8 then (if x8 < (x6.length:Int) then (spec_voSum.l0 k (wrap64 (x3 + (rd x6 x8))) x6 x7 (wrap64 (x8 + 1))) else (none)) else (none)) else (some x3)
def spec_voSum.f (k:Nat) (l0:List Int):Option (Int):=spec_voSum.l0 k 0 l0 (l0.length:Int) 0
set_option maxHeartbeats 8000000 in
set_option maxRecDepth 100000 in
theorem spec_voSum.calls (k:Nat) (A0:Option Addr) (c0:Nat) (l0:List Int) (r:Int) (w:World) (hr0:Kd.C (Kd.int .i64) w A0 l0.length l0) (hc0:l0.length ≤ c0) (h:spec_voSum.f k l0 = some r) :
  Calls Tryz.prog 70 #[.slice A0 l0.length c0] w fun e w'=>e = .returned (.int .i64 r) ∧ Drawn0 w w':=by
 have HR0:=aM hr0;have HC0:=aM hc0;clear hr0 hc0;have H:(spec_voSum.l0 k 0 l0 (l0.length:Int) 0) = some r:=h;clear h;have H':=aM H;clear H;go_enter Tryz.func70,Tryz.ntmps70;go_wp2
 go_loopg [3,8] k (fun kq v3 v8 w'=>∃ (x3_1:Int) (x8_1:Int),v3 = .int .i64 x3_1 ∧ v8 = .int .i64 x8_1 ∧ Aside0 (spec_voSum.l0 kq x3_1 l0 (l0.length:Int) x8_1 = some r) ∧ Aside0 (kq ≤ k) ∧ Drawn0 w w')
 case atStart=>exact ⟨(0),(0),qrs,qrs,H',⟨Nat.le_refl _⟩,by repeat (first|exact Drawn0.refl _|apply Drawn0.step)⟩
 case round =>
  clear H';obtain ⟨x3_1,x8_1,rfl,rfl,HA,HK1,⟨m1,rfl⟩⟩:=hrel
  cases gk with
  | zero=>exact absurd HA.out (by simp [spec_voSum.l0])
  | succ k1 =>
   have H:=HA.out;clear HA;simp only [spec_voSum.l0] at H;by_cases c2:x8_1 < (l0.length:Int)
   ·rw [if_pos c2] at H;have c2b0:=decide_eq_true c2;clear c2;replace H:=iN H;obtain ⟨c3,H⟩:=H;have c3b0:decide (0 ≤ x8_1) = true:=decide_eq_true c3;clear c3;replace H:=iN H;obtain ⟨c4,H⟩:=H;have c4b0:decide (x8_1 < (l0.length:Int)) = true:=decide_eq_true c4;clear c4;have H':=aM H;clear H;have p5:0 ≤ (x8_1:Int):=of_decide_eq_true ab;have q5:x8_1 < (l0.length:Int):=of_decide_eq_true ab;obtain ⟨ad5,e5,hx5_0⟩:=Kd.at_int HR0.out x8_1 p5 q5;cases e5
    replace p5:=eq_true p5;replace q5:=eq_true q5;go_wp2
    go_roundg k1
    case measure=>have:=HK1.out;omega
    case rel=>exact ⟨(wrap64 (x3_1 + (rd l0 x8_1))),(wrap64 (x8_1 + 1)),qrs,qrs,H',⟨by have:=HK1.out;omega⟩,by repeat (first|exact Drawn0.refl _|apply Drawn0.step)⟩
   ·rw [if_neg c2] at H;have c2b0:=decide_eq_false c2;clear c2;obtain rfl:=Option.some.inj H;go_wp2
    go_ret
    exact ⟨qrs,dR⟩


/-! ### spec_voGood: function 40 -/
def spec_voGood.j0:Nat → Bool → Int → List Int → Option (Bool)
 | 0,_,_,_=>none
 | k + 1,x13,x4,x5=>if x13 = true then (some false) else ((spec_voSum.f k x5).bind fun t2=>((spec_l1In.f x4 1 t2).bind fun t3=>(some t3)))
def spec_voGood.f (k:Nat) (a0_0:Int) (l0_1:List Int):Option (Bool):=(spec_l1In.f (l0_1.length:Int) 1 9).bind fun t2=>(if t2 = true then ((spec_l1All.f k l0_1 0 1000).bind fun t3=>(spec_voGood.j0 k (!t3) a0_0 l0_1)) else (spec_voGood.j0 k true a0_0 l0_1))
set_option maxHeartbeats 8000000 in
set_option maxRecDepth 100000 in
theorem spec_voGood.calls (k:Nat) (a0_0:Int) (A0_1:Option Addr) (c0_1:Nat) (l0_1:List Int) (r:Bool) (w:World) (hr0_1:Kd.C (Kd.int .i64) w A0_1 l0_1.length l0_1) (hc0_1:l0_1.length ≤ c0_1) (h:spec_voGood.f k a0_0 l0_1 = some r) :
  Calls Tryz.prog 40 #[.agg #[.int .i64 a0_0,.slice A0_1 l0_1.length c0_1]] w fun e w'=>e = .returned (.bool r) ∧ Below w.heap.size w w':=by
 have hu24:=Tryz.underlying24;have HR0_1:=aM hr0_1;have HC0_1:=aM hc0_1;clear hr0_1 hc0_1;have HB:=aM (Below.refl w.heap.size w);have H:((spec_l1In.f (l0_1.length:Int) 1 9).bind fun t15=>(if t15 = true then ((spec_l1All.f k l0_1 0 1000).bind fun t16=>(spec_voGood.j0 k (!t16) a0_0 l0_1)) else (spec_voGood.j0 k true a0_0 l0_1))) = some r:=h;clear h;have HC2:=aM H;clear H;go_enter Tryz.func40,Tryz.ntmps40;go_upto_region 1 with (first|((with_reducible refine gate_dst (N:=1) rfl ?_);refine bE 1 #[.int .i64 a0_0,.slice A0_1 l0_1.length c0_1] 24 ?_;intro gb14 hg w3 hbox hb;have BK14:=aM (hbox);have GW14:=aM (gS hg);have GE14:=aM (gS hg);replace HB:=aM (below_step bw hb);clear hb hbox hg))
 repeat (go_quiet (first|((with_reducible refine gate_dst (N:=1) rfl ?_);refine bE 1 #[.int .i64 a0_0,.slice A0_1 l0_1.length c0_1] 24 ?_;intro gb14 hg w3 hbox hb;have BK14:=aM (hbox);have GW14:=aM (gS hg);have GE14:=aM (gS hg);replace HB:=aM (below_step bw hb);clear hb hbox hg));go_upto_region 1 with (first|((with_reducible refine gate_dst (N:=1) rfl ?_);refine bE 1 #[.int .i64 a0_0,.slice A0_1 l0_1.length c0_1] 24 ?_;intro gb14 hg w3 hbox hb;have BK14:=aM (hbox);have GW14:=aM (gS hg);have GE14:=aM (gS hg);replace HB:=aM (below_step bw hb);clear hb hbox hg)))
 (try simp only [Act.put,sA,sZ,sS])
 go_cut [13] (fun v13 wc=>∃ (kq:Nat) (x13_1:Bool),v13 = .bool x13_1 ∧ Aside0 (spec_voGood.j0 kq x13_1 a0_0 l0_1 = some r) ∧ Aside0 (kq ≤ k) ∧ Aside0 (wc.heap[gb14]? = some (.cells #[.int .i64 a0_0,(.slice A0_1 l0_1.length c0_1)] 24 (0,0))) ∧ Aside0 (Below w.heap.size w wc))
 case first =>
  have H:=HC2.out;clear HC2;replace H:=oB H;obtain ⟨t15,A4,H⟩:=H;(try dsimp only at H)
  by_cases c5:t15 = true
  ·subst c5;rw [if_pos rfl] at H;replace H:=oB H;obtain ⟨t16,A6,H⟩:=H;(try dsimp only at H)
   have H':=aM H;clear H;have hcz7_0:=cz BK14.out 0;have hcz7_1:=cz BK14.out 1;have hfz7_0:=blk_frozen BK14.out 0;have hfz7_1:=blk_frozen BK14.out 1;go_wp2_with (first|(go_at_call 41;(with_reducible refine (spec_l1In.calls (l0_1.length:Int) 1 9 true _ A4.out).mono ?_);rintro e w' ⟨rfl,⟨nd,rfl⟩⟩;(try exact dW))|(go_at_call 69;(with_reducible refine (spec_l1All.calls k _ _ l0_1 0 1000 t16 _ ?side1 ?side2 A6.out).mono ?_);(case side1=>exact qc (Kd.C_below HR0_1.out bw));(case side2=>exact HC0_1.out);rintro e w' ⟨rfl,⟨nd,rfl⟩⟩;(try exact dW)))
   repeat (go_quiet (first|(go_at_call 41;(with_reducible refine (spec_l1In.calls (l0_1.length:Int) 1 9 true _ A4.out).mono ?_);rintro e w' ⟨rfl,⟨nd,rfl⟩⟩;(try exact dW))|(go_at_call 69;(with_reducible refine (spec_l1All.calls k _ _ l0_1 0 1000 t16 _ ?side1 ?side2 A6.out).mono ?_);(case side1=>exact qc (Kd.C_below HR0_1.out bw));(case side2=>exact HC0_1.out);rintro e w' ⟨rfl,⟨nd,rfl⟩⟩;(try exact dW)));try go_wp2_with (first|(go_at_call 41;(with_reducible refine (spec_l1In.calls (l0_1.length:Int) 1 9 true _ A4.out).mono ?_);rintro e w' ⟨rfl,⟨nd,rfl⟩⟩;(try exact dW))|(go_at_call 69;(with_reducible refine (spec_l1All.calls k _ _ l0_1 0 1000 t16 _ ?side1 ?side2 A6.out).mono ?_);(case side1=>exact qc (Kd.C_below HR0_1.out bw));(case side2=>exact HC0_1.out);rintro e w' ⟨rfl,⟨nd,rfl⟩⟩;(try exact dW))))
   go_meet
   case rel=>exact ⟨_,(!t16),qrs,H',⟨by first|omega|exact Nat.le_refl _⟩,⟨bk1 BK14.out⟩,⟨by exact bw⟩⟩
  ·replace c5:=Bool.eq_false_iff.mpr c5;subst c5;rw [if_neg (show ¬ (false = true) by decide)] at H;have H':=aM H;clear H;have hcz8_0:=cz BK14.out 0;have hcz8_1:=cz BK14.out 1;have hfz8_0:=blk_frozen BK14.out 0;have hfz8_1:=blk_frozen BK14.out 1;go_wp2_with (first|(go_at_call 41;(with_reducible refine (spec_l1In.calls (l0_1.length:Int) 1 9 false _ A4.out).mono ?_);rintro e w' ⟨rfl,⟨nd,rfl⟩⟩;(try exact dW)))
   repeat (go_quiet (first|(go_at_call 41;(with_reducible refine (spec_l1In.calls (l0_1.length:Int) 1 9 false _ A4.out).mono ?_);rintro e w' ⟨rfl,⟨nd,rfl⟩⟩;(try exact dW)));try go_wp2_with (first|(go_at_call 41;(with_reducible refine (spec_l1In.calls (l0_1.length:Int) 1 9 false _ A4.out).mono ?_);rintro e w' ⟨rfl,⟨nd,rfl⟩⟩;(try exact dW))))
   go_meet
   case rel=>exact ⟨_,(true),qrs,H',⟨by first|omega|exact Nat.le_refl _⟩,⟨bk1 BK14.out⟩,⟨by exact bw⟩⟩
 case rest =>
  clear HC2;(try clear c5);(try clear hcz7_0);(try clear hcz7_1);(try clear hcz8_0);(try clear hcz8_1);(try clear hfz7_0);(try clear hfz7_1);(try clear hfz8_0);(try clear hfz8_1)
  obtain ⟨kq,x13_1,rfl,HA,HJ1,BK14,HB⟩:=hcut
  cases kq with
  | zero=>exact absurd HA.out (by simp [spec_voGood.j0])
  | succ kj1 =>
   have H:=HA.out;clear HA;simp only [spec_voGood.j0] at H;by_cases c9:x13_1 = true
   ·subst c9;rw [if_pos rfl] at H;obtain rfl:=Option.some.inj H;go_wp2
    repeat (go_quiet (fail);try go_wp2)
    go_ret
    exact ⟨eE,by exact bw⟩
   ·replace c9:=Bool.eq_false_iff.mpr c9;subst c9;rw [if_neg (show ¬ (false = true) by decide)] at H;replace H:=oB H;obtain ⟨t17,A10,H⟩:=H;(try dsimp only at H)
    replace H:=oB H;obtain ⟨t18,A11,H⟩:=H;(try dsimp only at H)
    obtain rfl:=Option.some.inj H;have hcz12_0:=cz BK14.out 0;have hcz12_1:=cz BK14.out 1;have hfz12_0:=blk_frozen BK14.out 0;have hfz12_1:=blk_frozen BK14.out 1;go_wp2_with (first|(go_at_call 70;(with_reducible refine (spec_voSum.calls kj1 _ _ l0_1 t17 _ ?side1 ?side2 A10.out).mono ?_);(case side1=>exact qcs HR0_1.out HB.out);(case side2=>exact HC0_1.out);rintro e w' ⟨rfl,⟨nd,rfl⟩⟩;(try exact dW))|(go_at_call 41;(with_reducible refine (spec_l1In.calls a0_0 1 t17 t18 _ A11.out).mono ?_);rintro e w' ⟨rfl,⟨nd,rfl⟩⟩;(try exact dW)))
    repeat (go_quiet (first|(go_at_call 70;(with_reducible refine (spec_voSum.calls kj1 _ _ l0_1 t17 _ ?side1 ?side2 A10.out).mono ?_);(case side1=>exact qcs HR0_1.out HB.out);(case side2=>exact HC0_1.out);rintro e w' ⟨rfl,⟨nd,rfl⟩⟩;(try exact dW))|(go_at_call 41;(with_reducible refine (spec_l1In.calls a0_0 1 t17 t18 _ A11.out).mono ?_);rintro e w' ⟨rfl,⟨nd,rfl⟩⟩;(try exact dW)));try go_wp2_with (first|(go_at_call 70;(with_reducible refine (spec_voSum.calls kj1 _ _ l0_1 t17 _ ?side1 ?side2 A10.out).mono ?_);(case side1=>exact qcs HR0_1.out HB.out);(case side2=>exact HC0_1.out);rintro e w' ⟨rfl,⟨nd,rfl⟩⟩;(try exact dW))|(go_at_call 41;(with_reducible refine (spec_l1In.calls a0_0 1 t17 t18 _ A11.out).mono ?_);rintro e w' ⟨rfl,⟨nd,rfl⟩⟩;(try exact dW))))
    go_ret
    exact ⟨eE,by exact bw⟩


/-! ### spec_chMembers: function 32 -/
def spec_chMembers.l0:Nat → Int → List (S_impl_Committee) → Int → Int → Option (Int)
 | 0,_,_,_,_=>none
 | k + 1,x3,x6,x7,x8=>if x8 < x7 then (if 0 ≤ x8 then (if x8 < (x6.length:Int) then ((spec_voGood.f k ((rd_impl_Committee x6 x8).f0) ((rd_impl_Committee x6 x8).f1)).bind fun t2=>(if t2 = true then (spec_chMembers.l0 k (wrap64 (x3 + (((rd_impl_Committee x6 x8).f1).length:Int))) x6 x7 (wrap64 (x8 + 1))) else (some (-1)))) else (none)) else (none)) else (some x3)
def spec_chMembers.f (k:Nat) (l0:List (S_impl_Committee)):Option (Int):=spec_chMembers.l0 k 0 l0 (l0.length:Int) 0
set_option maxHeartbeats 8000000 in
set_option maxRecDepth 100000 in
theorem spec_chMembers.calls (k:Nat) (A0:Option Addr) (c0:Nat) (l0:List (S_impl_Committee)) (r:Int) (w:World) (hr0:Kd.C k_impl_Committee w A0 l0.length l0) (hc0:l0.length ≤ c0) (h:spec_chMembers.f k l0 = some r) :
  Calls Tryz.prog 32 #[.slice A0 l0.length c0] w fun e w'=>e = .returned (.int .i64 r) ∧ Below w.heap.size w w':=by
 have hu24:=Tryz.underlying24;have HR0:=aM hr0;have HC0:=aM hc0;clear hr0 hc0;have HB:=aM (Below.refl w.heap.size w);have H:(spec_chMembers.l0 k 0 l0 (l0.length:Int) 0) = some r:=h;clear h;have H':=aM H;clear H;go_enter Tryz.func32,Tryz.ntmps32;go_wp2
 go_loopg [3,8] k (fun kq v3 v8 w'=>∃ (x3_1:Int) (x8_1:Int),v3 = .int .i64 x3_1 ∧ v8 = .int .i64 x8_1 ∧ Aside0 (spec_chMembers.l0 kq x3_1 l0 (l0.length:Int) x8_1 = some r) ∧ Aside0 (kq ≤ k) ∧ Aside0 (Below w.heap.size w w'))
 case atStart=>exact ⟨(0),(0),qrs,qrs,H',⟨Nat.le_refl _⟩,⟨by exact bw⟩⟩
 case round =>
  clear H';obtain ⟨x3_1,x8_1,rfl,rfl,HA,HK1,HB⟩:=hrel
  cases gk with
  | zero=>exact absurd HA.out (by simp [spec_chMembers.l0])
  | succ k1 =>
   have H:=HA.out;clear HA;simp only [spec_chMembers.l0] at H;by_cases c2:x8_1 < (l0.length:Int)
   ·rw [if_pos c2] at H;have c2b0:=decide_eq_true c2;clear c2;replace H:=iN H;obtain ⟨c3,H⟩:=H;have c3b0:decide (0 ≤ x8_1) = true:=decide_eq_true c3;clear c3;replace H:=iN H;obtain ⟨c4,H⟩:=H;have c4b0:decide (x8_1 < (l0.length:Int)) = true:=decide_eq_true c4;clear c4;replace H:=oB H;obtain ⟨t16,A5,H⟩:=H;(try dsimp only at H)
    by_cases c6:t16 = true
    ·subst c6;rw [if_pos rfl] at H;have H':=aM H;clear H;have p14:0 ≤ (x8_1:Int):=of_decide_eq_true ab;have q14:x8_1 < (l0.length:Int):=of_decide_eq_true ab;obtain ⟨ad14,A14_1,c221_1,e14,hx14_0,hx14_1,hl14_1,hi14_1⟩:=at_impl_Committee HR0.out x8_1 p14 q14;cases e14
     replace hx14_0:=(HB.out.cell (World.block_lt_of_cell? w _ hx14_0)).trans hx14_0;replace hx14_1:=(HB.out.cell (World.block_lt_of_cell? w _ hx14_1)).trans hx14_1;have HR14_1:=aM hi14_1;have HC14_1:=aM hl14_1;clear hi14_1 hl14_1;replace p14:=eq_true p14;replace q14:=eq_true q14;go_wp2_with (first|((with_reducible refine gate_dst (N:=5) rfl ?_);refine bE 5 #[.int .i64 0,.slice none 0 0] 24 ?_;intro gb15 hg w7 hbox hb;have BK15:=aM (hbox);have GW15:=aM (gS hg);have GE15:=aM (gS hg);replace HB:=aM (below_step bw hb);clear hb hbox hg;have hcz8_0:=cz BK15.out 0;have hcz8_1:=cz BK15.out 1;have hfz8_0:=blk_frozen BK15.out 0;have hfz8_1:=blk_frozen BK15.out 1)|((with_reducible refine gate_callee (f:=40) rfl ?_);refine gL 13 Tryz.func40 #[.agg #[.int .i64 ((rd_impl_Committee l0 x8_1).f0),.slice A14_1 ((rd_impl_Committee l0 x8_1).f1).length c221_1]] ?_;(with_reducible refine (spec_voGood.calls k1 ((rd_impl_Committee l0 x8_1).f0) _ _ ((rd_impl_Committee l0 x8_1).f1) true _ ?side1 ?side2 A5.out).mono ?_);(case side1=>exact Kd.C_below HR14_1.out bw);(case side2=>exact HC14_1.out);rintro e w9 ⟨rfl,hb⟩;refine ⟨_,rfl,?_⟩;replace BK15:=aM (blk_below (g:=gb15) (o:=.cells #[.int .i64 ((rd_impl_Committee l0 x8_1).f0),.slice A14_1 ((rd_impl_Committee l0 x8_1).f1).length c221_1] 24 (0,0)) (by (with_reducible repeat (first|refine blk_drewN ?_ _|refine blk_drew ?_|refine blk_alloc ?_ _));refine blk_put (cs:=#[.int .i64 ((rd_impl_Committee l0 x8_1).f0),.slice none 0 0]) ?_ 1 _ rfl;(with_reducible repeat (first|refine blk_drewN ?_ _|refine blk_drew ?_|refine blk_alloc ?_ _));refine blk_put (cs:=#[.int .i64 0,.slice none 0 0]) ?_ 0 _ rfl;(with_reducible repeat (first|refine blk_drewN ?_ _|refine blk_drew ?_|refine blk_alloc ?_ _));exact BK15.out) hb);replace HB:=aM (below_step bw hb);(try clear hb);have hcz10_0:=cz BK15.out 0;have hcz10_1:=cz BK15.out 1;have hfz10_0:=blk_frozen BK15.out 0;have hfz10_1:=blk_frozen BK15.out 1))
     go_roundg k1
     case measure=>have:=HK1.out;omega
     case rel=>exact ⟨(wrap64 (x3_1 + (((rd_impl_Committee l0 x8_1).f1).length:Int))),(wrap64 (x8_1 + 1)),qrs,qrs,H',⟨by have:=HK1.out;omega⟩,⟨by exact bw⟩⟩
    ·replace c6:=Bool.eq_false_iff.mpr c6;subst c6;rw [if_neg (show ¬ (false = true) by decide)] at H;obtain rfl:=Option.some.inj H;have p14:0 ≤ (x8_1:Int):=of_decide_eq_true ab;have q14:x8_1 < (l0.length:Int):=of_decide_eq_true ab;obtain ⟨ad14,A14_1,c221_1,e14,hx14_0,hx14_1,hl14_1,hi14_1⟩:=at_impl_Committee HR0.out x8_1 p14 q14;cases e14
     replace hx14_0:=(HB.out.cell (World.block_lt_of_cell? w _ hx14_0)).trans hx14_0;replace hx14_1:=(HB.out.cell (World.block_lt_of_cell? w _ hx14_1)).trans hx14_1;have HR14_1:=aM hi14_1;have HC14_1:=aM hl14_1;clear hi14_1 hl14_1;replace p14:=eq_true p14;replace q14:=eq_true q14;go_wp2_with (first|((with_reducible refine gate_dst (N:=5) rfl ?_);refine bE 5 #[.int .i64 0,.slice none 0 0] 24 ?_;intro gb15 hg w11 hbox hb;have BK15:=aM (hbox);have GW15:=aM (gS hg);have GE15:=aM (gS hg);replace HB:=aM (below_step bw hb);clear hb hbox hg;have hcz12_0:=cz BK15.out 0;have hcz12_1:=cz BK15.out 1;have hfz12_0:=blk_frozen BK15.out 0;have hfz12_1:=blk_frozen BK15.out 1)|((with_reducible refine gate_callee (f:=40) rfl ?_);refine gL 13 Tryz.func40 #[.agg #[.int .i64 ((rd_impl_Committee l0 x8_1).f0),.slice A14_1 ((rd_impl_Committee l0 x8_1).f1).length c221_1]] ?_;(with_reducible refine (spec_voGood.calls k1 ((rd_impl_Committee l0 x8_1).f0) _ _ ((rd_impl_Committee l0 x8_1).f1) false _ ?side1 ?side2 A5.out).mono ?_);(case side1=>exact Kd.C_below HR14_1.out bw);(case side2=>exact HC14_1.out);rintro e w13 ⟨rfl,hb⟩;refine ⟨_,rfl,?_⟩;replace BK15:=aM (blk_below (g:=gb15) (o:=.cells #[.int .i64 ((rd_impl_Committee l0 x8_1).f0),.slice A14_1 ((rd_impl_Committee l0 x8_1).f1).length c221_1] 24 (0,0)) (by (with_reducible repeat (first|refine blk_drewN ?_ _|refine blk_drew ?_|refine blk_alloc ?_ _));refine blk_put (cs:=#[.int .i64 ((rd_impl_Committee l0 x8_1).f0),.slice none 0 0]) ?_ 1 _ rfl;(with_reducible repeat (first|refine blk_drewN ?_ _|refine blk_drew ?_|refine blk_alloc ?_ _));refine blk_put (cs:=#[.int .i64 0,.slice none 0 0]) ?_ 0 _ rfl;(with_reducible repeat (first|refine blk_drewN ?_ _|refine blk_drew ?_|refine blk_alloc ?_ _));exact BK15.out) hb);replace HB:=aM (below_step bw hb);(try clear hb)))
     go_ret
     exact ⟨eE,by exact bw⟩
   ·rw [if_neg c2] at H;have c2b0:=decide_eq_false c2;clear c2;obtain rfl:=Option.some.inj H;go_wp2
    go_ret
    exact ⟨eE,by exact bw⟩


/-! ### spec_AreCouncil: function 13 -/
def spec_AreCouncil.f (k:Nat) (a0_0:Int) (l0_1:List Int) (l1:List (S_impl_Committee)):Option (Bool):=(spec_voGood.f k a0_0 l0_1).bind fun t2=>(if t2 = true then (if (l1.length:Int) = (l0_1.length:Int) then ((spec_chMembers.f k l1).bind fun t3=>((spec_l1In.f t3 1 9).bind fun t4=>(some t4))) else (some false)) else (some false))
set_option maxHeartbeats 8000000 in
set_option maxRecDepth 100000 in
theorem spec_AreCouncil.calls (k:Nat) (a0_0:Int) (A0_1:Option Addr) (c0_1:Nat) (l0_1:List Int) (A1:Option Addr) (c1:Nat) (l1:List (S_impl_Committee)) (r:Bool) (w:World) (hr0_1:Kd.C (Kd.int .i64) w A0_1 l0_1.length l0_1) (hc0_1:l0_1.length ≤ c0_1) (hr1:Kd.C k_impl_Committee w A1 l1.length l1) (hc1:l1.length ≤ c1) (h:spec_AreCouncil.f k a0_0 l0_1 l1 = some r) :
  Calls Tryz.prog 13 #[.agg #[.int .i64 a0_0,.slice A0_1 l0_1.length c0_1],.slice A1 l1.length c1] w fun e w'=>e = .returned (.bool r) ∧ Below w.heap.size w w':=by
 have hu24:=Tryz.underlying24;have HR0_1:=aM hr0_1;have HC0_1:=aM hc0_1;clear hr0_1 hc0_1;have HR1:=aM hr1;have HC1:=aM hc1;clear hr1 hc1;have HB:=aM (Below.refl w.heap.size w);have H:((spec_voGood.f k a0_0 l0_1).bind fun t21=>(if t21 = true then (if (l1.length:Int) = (l0_1.length:Int) then ((spec_chMembers.f k l1).bind fun t22=>((spec_l1In.f t22 1 9).bind fun t23=>(some t23))) else (some false)) else (some false))) = some r:=h;clear h;replace H:=oB H;obtain ⟨t21,A3,H⟩:=H;(try dsimp only at H)
 by_cases c4:t21 = true
 ·subst c4;rw [if_pos rfl] at H;by_cases c5:(l1.length:Int) = (l0_1.length:Int)
  ·rw [if_pos c5] at H;have c5b0:((l1.length:Int) == (l0_1.length:Int)) = true:=beq_iff_eq.mpr c5;have c5b1:((l1.length:Int) != (l0_1.length:Int)) = false:=bne_eq_false_iff_eq.mpr c5;have c5b2:(l1.length == l0_1.length) = true:=by first|simpa using c5|(simp at c5 ⊢;omega)
   clear c5;replace H:=oB H;obtain ⟨t22,A6,H⟩:=H;(try dsimp only at H)
   replace H:=oB H;obtain ⟨t23,A7,H⟩:=H;(try dsimp only at H)
   obtain rfl:=Option.some.inj H;go_enter Tryz.func13,Tryz.ntmps13;go_wp2_with (first|((with_reducible refine gate_dst (N:=2) rfl ?_);(try (refine gate_guard (by rfl) ?_;dsimp only));refine bE 2 #[.int .i64 a0_0,.slice A0_1 l0_1.length c0_1] 24 ?_;intro gb20 hg w8 hbox hb;have BK20:=aM (hbox);have GW20:=aM (gS hg);have GE20:=aM (gS hg);replace HB:=aM (below_step bw hb);clear hb hbox hg;have hcz9_0:=cz BK20.out 0;have hcz9_1:=cz BK20.out 1;have hfz9_0:=blk_frozen BK20.out 0;have hfz9_1:=blk_frozen BK20.out 1)|((with_reducible refine gate_callee (f:=40) rfl ?_);refine gL 6 Tryz.func40 #[.agg #[.int .i64 a0_0,.slice A0_1 l0_1.length c0_1]] ?_;(with_reducible refine (spec_voGood.calls k a0_0 _ _ l0_1 true _ ?side1 ?side2 A3.out).mono ?_);(case side1=>exact qcs HR0_1.out HB.out);(case side2=>exact HC0_1.out);rintro e w10 ⟨rfl,hb⟩;refine ⟨_,rfl,?_⟩;replace BK20:=aM (bB BK20.out hb);replace HB:=aM (below_step bw hb);(try clear hb);have hcz11_0:=cz BK20.out 0;have hcz11_1:=cz BK20.out 1;have hfz11_0:=blk_frozen BK20.out 0;have hfz11_1:=blk_frozen BK20.out 1)|(go_at_call 32;(with_reducible refine (spec_chMembers.calls k _ _ l1 t22 _ ?side1 ?side2 A6.out).mono ?_);(case side1=>exact qcs HR1.out HB.out);(case side2=>exact HC1.out);rintro e w12 ⟨rfl,hb⟩;replace BK20:=aM (bB BK20.out hb);replace HB:=aM (below_step bw hb);(try clear hb))|(go_at_call 41;(with_reducible refine (spec_l1In.calls t22 1 9 t23 _ A7.out).mono ?_);rintro e w' ⟨rfl,⟨nd,rfl⟩⟩))
   go_ret
   exact ⟨eE,by exact bw⟩
  ·rw [if_neg c5] at H;have c5b0:((l1.length:Int) == (l0_1.length:Int)) = false:=beq_eq_false_iff_ne.mpr c5;have c5b1:((l1.length:Int) != (l0_1.length:Int)) = true:=bne_iff_ne.mpr c5;have c5b2:(l1.length == l0_1.length) = false:=by first|simpa using c5|(simp at c5 ⊢;omega)
   obtain rfl:=Option.some.inj H;go_enter Tryz.func13,Tryz.ntmps13;go_wp2_with (first|((with_reducible refine gate_dst (N:=2) rfl ?_);(try (refine gate_guard (by rfl) ?_;dsimp only));refine bE 2 #[.int .i64 a0_0,.slice A0_1 l0_1.length c0_1] 24 ?_;intro gb20 hg w13 hbox hb;have BK20:=aM (hbox);have GW20:=aM (gS hg);have GE20:=aM (gS hg);replace HB:=aM (below_step bw hb);clear hb hbox hg;have hcz14_0:=cz BK20.out 0;have hcz14_1:=cz BK20.out 1;have hfz14_0:=blk_frozen BK20.out 0;have hfz14_1:=blk_frozen BK20.out 1)|((with_reducible refine gate_callee (f:=40) rfl ?_);refine gL 6 Tryz.func40 #[.agg #[.int .i64 a0_0,.slice A0_1 l0_1.length c0_1]] ?_;(with_reducible refine (spec_voGood.calls k a0_0 _ _ l0_1 true _ ?side1 ?side2 A3.out).mono ?_);(case side1=>exact qcs HR0_1.out HB.out);(case side2=>exact HC0_1.out);rintro e w15 ⟨rfl,hb⟩;refine ⟨_,rfl,?_⟩;replace BK20:=aM (bB BK20.out hb);replace HB:=aM (below_step bw hb);(try clear hb);have hcz16_0:=cz BK20.out 0;have hcz16_1:=cz BK20.out 1;have hfz16_0:=blk_frozen BK20.out 0;have hfz16_1:=blk_frozen BK20.out 1))
   go_ret
   exact ⟨eE,by exact bw⟩
 ·replace c4:=Bool.eq_false_iff.mpr c4;subst c4;rw [if_neg (show ¬ (false = true) by decide)] at H;obtain rfl:=Option.some.inj H;go_enter Tryz.func13,Tryz.ntmps13;go_wp2_with (first|((with_reducible refine gate_dst (N:=2) rfl ?_);(try (refine gate_guard (by rfl) ?_;dsimp only));refine bE 2 #[.int .i64 a0_0,.slice A0_1 l0_1.length c0_1] 24 ?_;intro gb20 hg w17 hbox hb;have BK20:=aM (hbox);have GW20:=aM (gS hg);have GE20:=aM (gS hg);replace HB:=aM (below_step bw hb);clear hb hbox hg;have hcz18_0:=cz BK20.out 0;have hcz18_1:=cz BK20.out 1;have hfz18_0:=blk_frozen BK20.out 0;have hfz18_1:=blk_frozen BK20.out 1)|((with_reducible refine gate_callee (f:=40) rfl ?_);refine gL 6 Tryz.func40 #[.agg #[.int .i64 a0_0,.slice A0_1 l0_1.length c0_1]] ?_;(with_reducible refine (spec_voGood.calls k a0_0 _ _ l0_1 false _ ?side1 ?side2 A3.out).mono ?_);(case side1=>exact qcs HR0_1.out HB.out);(case side2=>exact HC0_1.out);rintro e w19 ⟨rfl,hb⟩;refine ⟨_,rfl,?_⟩;replace BK20:=aM (bB BK20.out hb);replace HB:=aM (below_step bw hb);(try clear hb)))
  go_ret
  exact ⟨eE,by exact bw⟩


/-! ### spec_voList: function 89 -/
def spec_voList.l0:Nat → Int → List Int → Int → Option (List Int)
 | 0,_,_,_=>none
 | k + 1,x0,x3,x4=>if 0 ≤ x4 then (if (shr .i64 x0 x4) > 0 then (if (Int.tmod (shr .i64 x0 x4) 2) = 1 then (if x3.length < 17592186044416 then (spec_voList.l0 k x0 (x3 ++ [x4]) (wrap64 (x4 + 1))) else (none)) else (spec_voList.l0 k x0 x3 (wrap64 (x4 + 1)))) else (some x3)) else (none)
def spec_voList.f (k:Nat) (a0:Int):Option (List Int):=spec_voList.l0 k a0 ([]:List Int) 0
set_option maxHeartbeats 8000000 in
set_option maxRecDepth 100000 in
theorem spec_voList.calls (k:Nat) (a0:Int) (r:List Int) (w:World) (h:spec_voList.f k a0 = some r) :
  Calls Tryz.prog 89 #[.int .i64 a0] w fun e w'=>∃ v0_:Value,e = .returned (v0_) ∧ Kd.R (Kd.int .i64) 3 w' w.heap.size (fun _=>True) v0_ r ∧ Below w.heap.size w w':=by
 have HB:=aM (Below.refl w.heap.size w);have H:(spec_voList.l0 k a0 ([]:List Int) 0) = some r:=h;clear h;have H':=aM H;clear H;go_enter Tryz.func89,Tryz.ntmps89;go_wp2
 go_loopg [3,4] k (fun kq v3 v4 w'=>∃ (x3_1:List Int) (x4_1:Int),v4 = .int .i64 x4_1 ∧ Aside0 (spec_voList.l0 kq a0 x3_1 x4_1 = some r) ∧ Aside0 (kq ≤ k) ∧ Aside0 (Kd.R (Kd.int .i64) 3 w' w.heap.size (fun _=>True) v3 x3_1) ∧ Aside0 (Below w.heap.size w w'))
 case atStart=>exact ⟨(([]:List Int)),(0),qrs,H',⟨Nat.le_refl _⟩,⟨by first|exact Kd.R_nil _ _ _ _ _|exact Kd.N_nil _ _ _ _ _|exact Kd.V_nil _ _ _ _ _|exact Kd.Q_nil _ _ _ _ _|exact Kd.S_nil _ _ _ _ _⟩,⟨by exact bw⟩⟩
 case round =>
  clear H';obtain ⟨x3_1,x4_1,rfl,HA,HK1,HO_3,HB⟩:=hrel
  cases gk with
  | zero=>exact absurd HA.out (by simp [spec_voList.l0])
  | succ k1 =>
   have H:=HA.out;clear HA;simp only [spec_voList.l0] at H;replace H:=iN H;obtain ⟨c2,H⟩:=H;have c2b0:=eq_true c2;have c2b1:decide (0 ≤ x4_1) = true:=decide_eq_true c2;clear c2;obtain ⟨ji3,hji3⟩:∃ j_:Int,(shr .i64 a0 x4_1) = j_:=⟨_,rfl⟩;(first|rw [hji3] at H|simp only [hji3] at H)
   have hji3_:(a0 / 2 ^ min x4_1.toNat 64) = ji3:=hji3;have hji3z:x4_1 ≤ 64 → (a0 / 2 ^ x4_1.toNat) = ji3:=shr_small hji3;by_cases c4:(ji3) > 0
   ·rw [if_pos c4] at H;have c4b0:decide (0 < (ji3)) = true:=decide_eq_true c4;clear c4;have c5b0:=eq_true (of_decide_eq_true ab:0 ≤ x4_1);by_cases c6:(Int.tmod (ji3) 2) = 1
    ·rw [if_pos c6] at H;have c6b0:((Int.tmod (ji3) 2) == 1) = true:=beq_iff_eq.mpr c6;have c6b1:((Int.tmod (ji3) 2) != 1) = false:=bne_eq_false_iff_eq.mpr c6;clear c6;replace H:=iN H;obtain ⟨c7,H⟩:=H;have LMc7:=aM c7;clear c7;obtain ⟨y9,hy9⟩:∃ y_:List Int,y_ = (x3_1 ++ [x4_1]):=⟨_,rfl⟩;replace H:(spec_voList.l0 k1 a0 y9 (wrap64 (x4_1 + 1))) = some r:=yR hy9 H;have Ny9:=aM hy9;clear hy9;have H':=aM H;clear H;go_wp2_with (first|((with_reducible refine gate_builtin (b:=.append) (xs:=#[.tmp 16,.tmp 18]) rfl ?_);at_builtin;refine Kd.R_append (Kd.int .i64) (w0:=w) w.heap.size rfl (.tmp 16) (.tmp 18) 22 3 (.int .i64 0) 8 rfl Tryz.underlying22 info3 rfl (by decide) (by omega) u3 x3_1 x4_1 [.int .i64 x4_1] (fun _=>True) (fun _=>False) rfl rfl ?aP (fun _ hk=>hk.elim) ?aF ?aO ?aB ?aS ?aL ?_;(case aP=>exact rfl);(case aB=>exact bw);(case aF=>exact (fun _ _=>trivial));(case aO=>exact (qra HO_3.out));(case aS=>exact (below_size bw));(case aL=>have:=LMc7.out;omega);intro v10 w8 ho hb hg hat;rw [← Ny9.out] at ho;replace HB:=aM (hb);have HO11:=aM (ho);clear HO_3;clear ho hb hg hat))
     go_roundg k1
     case measure=>have:=HK1.out;omega
     case rel=>exact ⟨(y9),(wrap64 (x4_1 + 1)),qrs,H',⟨by have:=HK1.out;omega⟩,⟨qra HO11.out⟩,⟨by exact bw⟩⟩
    ·rw [if_neg c6] at H;have c6b0:((Int.tmod (ji3) 2) == 1) = false:=beq_eq_false_iff_ne.mpr c6;have c6b1:((Int.tmod (ji3) 2) != 1) = true:=bne_iff_ne.mpr c6;have H':=aM H;clear H;go_wp2
     go_roundg k1
     case measure=>have:=HK1.out;omega
     case rel=>exact ⟨(x3_1),(wrap64 (x4_1 + 1)),qrs,H',⟨by have:=HK1.out;omega⟩,⟨qra HO_3.out⟩,⟨by exact bw⟩⟩
   ·rw [if_neg c4] at H;have c4b0:decide (0 < (ji3)) = false:=decide_eq_false c4;clear c4;obtain rfl:=Option.some.inj H;go_wp2
    go_ret
    exact ⟨_,by first|rfl|(simp [errW_none,errW_some] <;> rfl)|(simp only [← hji3];first|rfl|(simp [errW_none,errW_some] <;> rfl))|(simp [*,errW_none,errW_some] <;> rfl),by (with_reducible repeat (first|apply Kd.R_alloc|apply Kd.R_drewN|apply Kd.R_drew));exact HO_3.out,by exact bw⟩


/-! ### spec_voBefore: function 101 -/
mutual
def spec_voBefore.l0:Nat → List Int → List Int → Int → Option (Bool)
 | 0,_,_,_=>none
 | k + 1,x0,x1,x5=>if x5 < (x0.length:Int) then (spec_voBefore.j1 k x0 x1 x5 (decide (x5 < (x1.length:Int)))) else (spec_voBefore.j1 k x0 x1 x5 false)
def spec_voBefore.j1:Nat → List Int → List Int → Int → Bool → Option (Bool)
 | 0,_,_,_,_=>none
 | k + 1,x0,x1,x5,x15=>if x15 = true then (if 0 ≤ x5 then (if x5 < (x0.length:Int) then (if x5 < (x1.length:Int) then (if (rd x0 x5) = (rd x1 x5) then (spec_voBefore.l0 k x0 x1 (wrap64 (x5 + 1))) else (some (decide ((rd x0 x5) < (rd x1 x5))))) else (none)) else (none)) else (none)) else (some (decide ((x0.length:Int) < (x1.length:Int))))
end
def spec_voBefore.f (k:Nat) (l0:List Int) (l1:List Int):Option (Bool):=spec_voBefore.l0 k l0 l1 0
set_option maxHeartbeats 8000000 in
set_option maxRecDepth 100000 in
theorem spec_voBefore.calls (k:Nat) (A0:Option Addr) (c0:Nat) (l0:List Int) (A1:Option Addr) (c1:Nat) (l1:List Int) (r:Bool) (w:World) (hr0:Kd.C (Kd.int .i64) w A0 l0.length l0) (hc0:l0.length ≤ c0) (hr1:Kd.C (Kd.int .i64) w A1 l1.length l1) (hc1:l1.length ≤ c1) (h:spec_voBefore.f k l0 l1 = some r) :
  Calls Tryz.prog 101 #[.slice A0 l0.length c0,.slice A1 l1.length c1] w fun e w'=>e = .returned (.bool r) ∧ Drawn0 w w':=by
 have HR0:=aM hr0;have HC0:=aM hc0;clear hr0 hc0;have HR1:=aM hr1;have HC1:=aM hc1;clear hr1 hc1;have H:(spec_voBefore.l0 k l0 l1 0) = some r:=h;clear h;have H':=aM H;clear H;go_enter Tryz.func101,Tryz.ntmps101;go_wp2
 repeat (go_quiet (fail);try go_wp2)
 go_loopg [5] k (fun kq v5 w'=>∃ (x5_1:Int),v5 = .int .i64 x5_1 ∧ Aside0 (spec_voBefore.l0 kq l0 l1 x5_1 = some r) ∧ Aside0 (kq ≤ k) ∧ Drawn0 w w')
 case atStart=>exact ⟨(0),qrs,H',⟨Nat.le_refl _⟩,by repeat (first|exact Drawn0.refl _|apply Drawn0.step)⟩
 case round =>
  clear H';(try clear c1)
  obtain ⟨x5_1,rfl,HA,HK1,⟨m1,rfl⟩⟩:=hrel
  cases gk with
  | zero=>exact absurd HA.out (by simp [spec_voBefore.l0])
  | succ k1 =>
   have H:=HA.out;clear HA;simp only [spec_voBefore.l0] at H;have HC3:=aM H;clear H;go_upto_region 2 with (fail)
   repeat (go_quiet (fail);go_upto_region 2 with (fail))
   go_cut [15] (fun v15 wc=>∃ (kq:Nat) (x15_2:Bool),v15 = .bool x15_2 ∧ Aside0 (spec_voBefore.j1 kq l0 l1 x5_1 x15_2 = some r) ∧ Aside0 (kq ≤ k1) ∧ Drawn0 w wc)
   case first =>
    have H:=HC3.out;clear HC3;by_cases c4:x5_1 < (l0.length:Int)
    ·rw [if_pos c4] at H;have c4b0:=decide_eq_true c4;clear c4;(first|rw [c4b0]|(simp only [i64_w,i32_w];rw [c4b0])|skip)
     have H':=aM H;clear H;go_wp2
     repeat (go_quiet (fail);try go_wp2)
     go_meet
     case rel=>exact ⟨_,(decide (x5_1 < (l1.length:Int))),qrs,H',⟨by have:=HK1.out;first|omega|exact Nat.le_refl _⟩,by repeat (first|exact Drawn0.refl _|apply Drawn0.step)⟩
    ·rw [if_neg c4] at H;have c4b0:=decide_eq_false c4;clear c4;(first|rw [c4b0]|(simp only [i64_w,i32_w];rw [c4b0])|skip)
     have H':=aM H;clear H;go_wp2
     repeat (go_quiet (fail);try go_wp2)
     go_meet
     case rel=>exact ⟨_,(false),qrs,H',⟨by have:=HK1.out;first|omega|exact Nat.le_refl _⟩,by repeat (first|exact Drawn0.refl _|apply Drawn0.step)⟩
   case rest =>
    clear HC3;(try clear c4);(try clear c4b0)
    obtain ⟨kq,x15_2,rfl,HA,HJ2,⟨mc2,rfl⟩⟩:=hcut
    cases kq with
    | zero=>exact absurd HA.out (by simp [spec_voBefore.j1])
    | succ kj2 =>
     have H:=HA.out;clear HA;simp only [spec_voBefore.j1] at H;by_cases c5:x15_2 = true
     ·subst c5;rw [if_pos rfl] at H;replace H:=iN H;obtain ⟨c6,H⟩:=H;have c6b0:decide (0 ≤ x5_1) = true:=decide_eq_true c6;clear c6;replace H:=iN H;obtain ⟨c7,H⟩:=H;have c7b0:decide (x5_1 < (l0.length:Int)) = true:=decide_eq_true c7;clear c7;replace H:=iN H;obtain ⟨c8,H⟩:=H;have c8b0:decide (x5_1 < (l1.length:Int)) = true:=decide_eq_true c8;clear c8;by_cases c9:(rd l0 x5_1) = (rd l1 x5_1)
      ·rw [if_pos c9] at H;have c9b0:((rd l0 x5_1) == (rd l1 x5_1)) = true:=beq_iff_eq.mpr c9;have c9b1:((rd l0 x5_1) != (rd l1 x5_1)) = false:=bne_eq_false_iff_eq.mpr c9;clear c9;have H':=aM H;clear H;have p10:0 ≤ (x5_1:Int):=of_decide_eq_true ab;have q10:x5_1 < (l0.length:Int):=of_decide_eq_true ab;obtain ⟨ad10,e10,hx10_0⟩:=Kd.at_int HR0.out x5_1 p10 q10;cases e10
       replace p10:=eq_true p10;replace q10:=eq_true q10;have p11:0 ≤ (x5_1:Int):=of_decide_eq_true ab;have q11:x5_1 < (l1.length:Int):=of_decide_eq_true ab;obtain ⟨ad11,e11,hx11_0⟩:=Kd.at_int HR1.out x5_1 p11 q11;cases e11
       replace p11:=eq_true p11;replace q11:=eq_true q11;go_wp2
       repeat (go_quiet (fail);try go_wp2)
       go_roundg kj2
       case measure=>have:=HK1.out;have:=HJ2.out;omega
       case rel=>exact ⟨(wrap64 (x5_1 + 1)),qrs,H',⟨by have:=HK1.out;have:=HJ2.out;omega⟩,by repeat (first|exact Drawn0.refl _|apply Drawn0.step)⟩
      ·rw [if_neg c9] at H;have c9b0:((rd l0 x5_1) == (rd l1 x5_1)) = false:=beq_eq_false_iff_ne.mpr c9;have c9b1:((rd l0 x5_1) != (rd l1 x5_1)) = true:=bne_iff_ne.mpr c9;obtain rfl:=Option.some.inj H;have p10:0 ≤ (x5_1:Int):=of_decide_eq_true ab;have q10:x5_1 < (l0.length:Int):=of_decide_eq_true ab;obtain ⟨ad10,e10,hx10_0⟩:=Kd.at_int HR0.out x5_1 p10 q10;cases e10
       replace p10:=eq_true p10;replace q10:=eq_true q10;have p11:0 ≤ (x5_1:Int):=of_decide_eq_true ab;have q11:x5_1 < (l1.length:Int):=of_decide_eq_true ab;obtain ⟨ad11,e11,hx11_0⟩:=Kd.at_int HR1.out x5_1 p11 q11;cases e11
       replace p11:=eq_true p11;replace q11:=eq_true q11;have p12:0 ≤ (x5_1:Int):=of_decide_eq_true ab;have q12:x5_1 < (l0.length:Int):=of_decide_eq_true ab;obtain ⟨ad12,e12,hx12_0⟩:=Kd.at_int HR0.out x5_1 p12 q12;obtain rfl:ad10 = ad12:=(by injection e12);replace p12:=eq_true p12;replace q12:=eq_true q12;have p13:0 ≤ (x5_1:Int):=of_decide_eq_true ab;have q13:x5_1 < (l1.length:Int):=of_decide_eq_true ab;obtain ⟨ad13,e13,hx13_0⟩:=Kd.at_int HR1.out x5_1 p13 q13;obtain rfl:ad11 = ad13:=(by injection e13);replace p13:=eq_true p13;replace q13:=eq_true q13;go_wp2
       repeat (go_quiet (fail);try go_wp2)
       go_ret
       exact ⟨qrs,dR⟩
     ·replace c5:=Bool.eq_false_iff.mpr c5;subst c5;rw [if_neg (show ¬ (false = true) by decide)] at H;obtain rfl:=Option.some.inj H;go_wp2
      repeat (go_quiet (fail);try go_wp2)
      go_ret
      exact ⟨qrs,dR⟩


/-! ### spec_voWeight: function 54 -/
def spec_voWeight.l0:Nat → Int → Int → List Int → Int → Int → Option (Int)
 | 0,_,_,_,_,_=>none
 | k + 1,x1,x5,x9,x10,x11=>if x11 < x10 then (if 0 ≤ x11 then (if x11 < (x9.length:Int) then (if (Int.tmod (shr .i64 x1 x11) 2) = 1 then (spec_voWeight.l0 k x1 (wrap64 (x5 + (rd x9 x11))) x9 x10 (wrap64 (x11 + 1))) else (spec_voWeight.l0 k x1 x5 x9 x10 (wrap64 (x11 + 1)))) else (none)) else (none)) else (some x5)
def spec_voWeight.f (k:Nat) (a0_0:Int) (l0_1:List Int) (a1:Int):Option (Int):=spec_voWeight.l0 k a1 0 l0_1 (l0_1.length:Int) 0
set_option maxHeartbeats 8000000 in
set_option maxRecDepth 100000 in
theorem spec_voWeight.calls (k:Nat) (a0_0:Int) (A0_1:Option Addr) (c0_1:Nat) (l0_1:List Int) (a1:Int) (r:Int) (w:World) (hr0_1:Kd.C (Kd.int .i64) w A0_1 l0_1.length l0_1) (hc0_1:l0_1.length ≤ c0_1) (h:spec_voWeight.f k a0_0 l0_1 a1 = some r) :
  Calls Tryz.prog 54 #[.agg #[.int .i64 a0_0,.slice A0_1 l0_1.length c0_1],.int .i64 a1] w fun e w'=>e = .returned (.int .i64 r) ∧ Below w.heap.size w w':=by
 have hu24:=Tryz.underlying24;have HR0_1:=aM hr0_1;have HC0_1:=aM hc0_1;clear hr0_1 hc0_1;have HB:=aM (Below.refl w.heap.size w);have H:(spec_voWeight.l0 k a1 0 l0_1 (l0_1.length:Int) 0) = some r:=h;clear h;have H':=aM H;clear H;go_enter Tryz.func54,Tryz.ntmps54;go_wp2_with (first|((with_reducible refine gate_dst (N:=2) rfl ?_);refine bE 2 #[.int .i64 a0_0,.slice A0_1 l0_1.length c0_1] 24 ?_;intro gb12 hg w3 hbox hb;have BK12:=aM (hbox);have GW12:=aM (gS hg);have GE12:=aM (gS hg);replace HB:=aM (below_step bw hb);clear hb hbox hg;have hcz4_0:=cz BK12.out 0;have hcz4_1:=cz BK12.out 1;have hfz4_0:=blk_frozen BK12.out 0;have hfz4_1:=blk_frozen BK12.out 1))
 go_loopg [5,11] k (fun kq v5 v11 w'=>∃ (x5_1:Int) (x11_1:Int),v5 = .int .i64 x5_1 ∧ v11 = .int .i64 x11_1 ∧ Aside0 (spec_voWeight.l0 kq a1 x5_1 l0_1 (l0_1.length:Int) x11_1 = some r) ∧ Aside0 (kq ≤ k) ∧ Aside0 (w'.heap[gb12]? = some (.cells #[.int .i64 a0_0,(.slice A0_1 l0_1.length c0_1)] 24 (0,0))) ∧ Aside0 (Below w.heap.size w w'))
 case atStart=>exact ⟨(0),(0),qrs,qrs,H',⟨Nat.le_refl _⟩,⟨bk1 BK12.out⟩,⟨by exact bw⟩⟩
 case round =>
  clear H';(try clear hcz4_0);(try clear hcz4_1);(try clear hfz4_0);(try clear hfz4_1)
  obtain ⟨x5_1,x11_1,rfl,rfl,HA,HK1,BK12,HB⟩:=hrel
  cases gk with
  | zero=>exact absurd HA.out (by simp [spec_voWeight.l0])
  | succ k1 =>
   have H:=HA.out;clear HA;simp only [spec_voWeight.l0] at H;by_cases c5:x11_1 < (l0_1.length:Int)
   ·rw [if_pos c5] at H;have c5b0:=decide_eq_true c5;clear c5;replace H:=iN H;obtain ⟨c6,H⟩:=H;have c6b0:decide (0 ≤ x11_1) = true:=decide_eq_true c6;clear c6;replace H:=iN H;obtain ⟨c7,H⟩:=H;have c7b0:decide (x11_1 < (l0_1.length:Int)) = true:=decide_eq_true c7;clear c7;have c8b0:=eq_true (of_decide_eq_true ab:0 ≤ x11_1);obtain ⟨ji9,hji9⟩:∃ j_:Int,(shr .i64 a1 x11_1) = j_:=⟨_,rfl⟩;(first|rw [hji9] at H|simp only [hji9] at H)
    have hji9_:(a1 / 2 ^ min x11_1.toNat 64) = ji9:=hji9;have hji9z:x11_1 ≤ 64 → (a1 / 2 ^ x11_1.toNat) = ji9:=shr_small hji9;by_cases c10:(Int.tmod (ji9) 2) = 1
    ·rw [if_pos c10] at H;have c10b0:((Int.tmod (ji9) 2) == 1) = true:=beq_iff_eq.mpr c10;have c10b1:((Int.tmod (ji9) 2) != 1) = false:=bne_eq_false_iff_eq.mpr c10;clear c10;have H':=aM H;clear H;have p13:0 ≤ (x11_1:Int):=of_decide_eq_true ab;have q13:x11_1 < (l0_1.length:Int):=of_decide_eq_true ab;obtain ⟨ad13,e13,hx13_0⟩:=Kd.at_int HR0_1.out x11_1 p13 q13;cases e13
     replace hx13_0:=(HB.out.cell (World.block_lt_of_cell? w _ hx13_0)).trans hx13_0;replace p13:=eq_true p13;replace q13:=eq_true q13;go_wp2
     go_roundg k1
     case measure=>have:=HK1.out;omega
     case rel=>exact ⟨(wrap64 (x5_1 + (rd l0_1 x11_1))),(wrap64 (x11_1 + 1)),qrs,qrs,H',⟨by have:=HK1.out;omega⟩,⟨bk1 BK12.out⟩,⟨by exact bw⟩⟩
    ·rw [if_neg c10] at H;have c10b0:((Int.tmod (ji9) 2) == 1) = false:=beq_eq_false_iff_ne.mpr c10;have c10b1:((Int.tmod (ji9) 2) != 1) = true:=bne_iff_ne.mpr c10;have H':=aM H;clear H;have p13:0 ≤ (x11_1:Int):=of_decide_eq_true ab;have q13:x11_1 < (l0_1.length:Int):=of_decide_eq_true ab;obtain ⟨ad13,e13,hx13_0⟩:=Kd.at_int HR0_1.out x11_1 p13 q13;cases e13
     replace hx13_0:=(HB.out.cell (World.block_lt_of_cell? w _ hx13_0)).trans hx13_0;replace p13:=eq_true p13;replace q13:=eq_true q13;go_wp2
     go_roundg k1
     case measure=>have:=HK1.out;omega
     case rel=>exact ⟨(x5_1),(wrap64 (x11_1 + 1)),qrs,qrs,H',⟨by have:=HK1.out;omega⟩,⟨bk1 BK12.out⟩,⟨by exact bw⟩⟩
   ·rw [if_neg c5] at H;have c5b0:=decide_eq_false c5;clear c5;obtain rfl:=Option.some.inj H;go_wp2
    go_ret
    exact ⟨eE,by exact bw⟩


/-! ### spec_voAll: function 64 -/
def spec_voAll.f (a0:Int):Option (Int):=if 0 ≤ a0 then (some (wrap64 ((shl .i64 1 a0) - 1))) else (none)
set_option maxHeartbeats 8000000 in
set_option maxRecDepth 100000 in
theorem spec_voAll.calls (a0:Int) (r:Int) (w:World) (h:spec_voAll.f a0 = some r) :
  Calls Tryz.prog 64 #[.int .i64 a0] w fun e w'=>e = .returned (.int .i64 r) ∧ Drawn0 w w':=by
 have H:(if 0 ≤ a0 then (some (wrap64 ((shl .i64 1 a0) - 1))) else (none)) = some r:=h;clear h;replace H:=iN H;obtain ⟨c2,H⟩:=H;have c2b0:=eq_true c2;have c2b1:decide (0 ≤ a0) = true:=decide_eq_true c2;clear c2;obtain ⟨ji3,hji3⟩:∃ j_:Int,(shl .i64 1 a0) = j_:=⟨_,rfl⟩;(first|rw [hji3] at H|simp only [hji3] at H)
 have hji3_:(IntKind.i64.wrap (1 * 2 ^ min a0.toNat 64)) = ji3:=hji3;have hji3z:a0 ≤ 64 → (IntKind.i64.wrap (1 * 2 ^ a0.toNat)) = ji3:=shl_small hji3;have hji3u:(IntKind.i64.wrap (2 ^ min a0.toNat 64)) = ji3:=by have h_:=hji3_;rw [Int.one_mul] at h_;exact h_
 have hji3v:a0 ≤ 64 → (IntKind.i64.wrap (2 ^ a0.toNat)) = ji3:=fun hle_=>by have h_:=hji3z hle_;rw [Int.one_mul] at h_;exact h_
 have hji3y:(wrap64 (1 * 2 ^ min a0.toNat 64)) = ji3:=(i64_w _).symm.trans hji3_;have hji3x:a0 ≤ 64 → (wrap64 (1 * 2 ^ a0.toNat)) = ji3:=fun h_=>(i64_w _).symm.trans (hji3z h_)
 obtain rfl:=Option.some.inj H;go_enter Tryz.func64,Tryz.ntmps64;go_wp2
 go_ret
 exact ⟨by first|rfl|(simp;done)|(simp only [← hji3] <;> (first|rfl|simp))|(simp [*];done),by repeat (first|exact Drawn0.refl _|apply Drawn0.step)⟩


/-! ### spec_chCouncil: function 33 -/
mutual
def spec_chCouncil.l0:Nat → List (S_impl_Committee) → List Bool → Int → Int → Int → List Int → Option (List Bool)
 | 0,_,_,_,_,_,_=>none
 | k + 1,x1,x5,x18,x19,x9,x10=>if x19 < x18 then (spec_chCouncil.l1 k x1 x5 x19 x19 0 x18 x19 x1 (x1.length:Int) 0 x9 x10) else (some x5)
def spec_chCouncil.l1:Nat → List (S_impl_Committee) → List Bool → Int → Int → Int → Int → Int → List (S_impl_Committee) → Int → Int → Int → List Int → Option (List Bool)
 | 0,_,_,_,_,_,_,_,_,_,_,_,_=>none
 | k + 1,x1,x5,x6,x7,x8,x18,x19,x23,x24,x25,x9,x10=>if x25 < x24 then (if 0 ≤ x25 then (if x25 < (x23.length:Int) then ((spec_voAll.f (((rd_impl_Committee x23 x25).f1).length:Int)).bind fun t3=>(if (wrap64 (t3 + 1)) = 0 then (none) else ((spec_voWeight.f k ((rd_impl_Committee x23 x25).f0) ((rd_impl_Committee x23 x25).f1) (Int.tmod x7 (wrap64 (t3 + 1)))).bind fun t4=>(if t4 ≥ ((rd_impl_Committee x23 x25).f0) then (spec_chCouncil.l1 k x1 x5 x6 (wrap64 (Int.tdiv x7 (wrap64 (t3 + 1)))) (Go.bits .or .i64 x8 (shl .i64 1 x25)) x18 x19 x23 x24 (wrap64 (x25 + 1)) x9 x10) else (spec_chCouncil.l1 k x1 x5 x6 (wrap64 (Int.tdiv x7 (wrap64 (t3 + 1)))) x8 x18 x19 x23 x24 (wrap64 (x25 + 1)) x9 x10))))) else (none)) else (none)) else ((spec_voWeight.f k x9 x10 x8).bind fun t2=>(if 0 ≤ x6 then (if x6 < (x5.length:Int) then (spec_chCouncil.l0 k x1 (x5.set (x6:Int).toNat (decide (t2 ≥ x9))) x18 (wrap64 (x19 + 1)) x9 x10) else (none)) else (none)))
end
def spec_chCouncil.f (k:Nat) (a0_0:Int) (l0_1:List Int) (l1:List (S_impl_Committee)):Option (List Bool):=(spec_chMembers.f k l1).bind fun t2=>((spec_voAll.f t2).bind fun t3=>(if 0 ≤ (wrap64 (t3 + 1)) then (if (wrap64 (t3 + 1):Int).toNat ≤ 281474976710656 then ((some (List.replicate (wrap64 (t3 + 1):Int).toNat false:List Bool)).bind fun y4=>(spec_chCouncil.l0 k l1 y4 (y4.length:Int) 0 a0_0 l0_1)) else (none)) else (none)))
def spec_chCouncil.T10:Bool × List (List Nat × List Nat):=(true,[([],[]),([],[]),([],[]),([1,2],[1,2]),([0,3],[0,3]),([],[]),([5],[5]),([4,6],[4,6])])
def spec_chCouncil.B10:List Nat:=[0,0,0,6,15,0,32,127]
theorem spec_chCouncil.tab10:rtab .any (opsOf Tryz.f33 10) = spec_chCouncil.T10:=by kernel_rfl
theorem spec_chCouncil.bits10:waitsOk spec_chCouncil.T10.2 spec_chCouncil.B10 = true:=by kernel_rfl
def spec_chCouncil.T14:Bool × List (List Nat × List Nat):=(true,[([],[]),([],[]),([],[]),([],[]),([2,3],[2,3]),([],[]),([5],[5]),([4,6],[4,6]),([0,1,0,1,2,3,4,5,6,7],[0,1]),([8,7,4,0,1,2,3,4,5,6,7],[7,8])])
def spec_chCouncil.B14:List Nat:=[0,0,0,0,12,0,32,124,255,511]
theorem spec_chCouncil.tab14:rtab .any (opsOf Tryz.f33 14) = spec_chCouncil.T14:=by kernel_rfl
theorem spec_chCouncil.bits14:waitsOk spec_chCouncil.T14.2 spec_chCouncil.B14 = true:=by kernel_rfl
set_option maxHeartbeats 8000000 in
set_option maxRecDepth 100000 in
theorem spec_chCouncil.calls (k:Nat) (a0_0:Int) (A0_1:Option Addr) (c0_1:Nat) (l0_1:List Int) (A1:Option Addr) (c1:Nat) (l1:List (S_impl_Committee)) (r:List Bool) (w:World) (hr0_1:Kd.C (Kd.int .i64) w A0_1 l0_1.length l0_1) (hc0_1:l0_1.length ≤ c0_1) (hr1:Kd.C k_impl_Committee w A1 l1.length l1) (hc1:l1.length ≤ c1) (h:spec_chCouncil.f k a0_0 l0_1 l1 = some r) :
  Calls Tryz.prog 33 #[.agg #[.int .i64 a0_0,.slice A0_1 l0_1.length c0_1],.slice A1 l1.length c1] w fun e w'=>∃ v0_:Value,e = .returned (v0_) ∧ Kd.R Kd.bool 4 w' w.heap.size (fun _=>True) v0_ r ∧ Below w.heap.size w w':=by
 have hu24:=Tryz.underlying24;have HR0_1:=aM hr0_1;have HC0_1:=aM hc0_1;clear hr0_1 hc0_1;have HR1:=aM hr1;have HC1:=aM hc1;clear hr1 hc1;have HB:=aM (Below.refl w.heap.size w);have H:((spec_chMembers.f k l1).bind fun t43=>((spec_voAll.f t43).bind fun t44=>(if 0 ≤ (wrap64 (t44 + 1)) then (if (wrap64 (t44 + 1):Int).toNat ≤ 281474976710656 then ((some (List.replicate (wrap64 (t44 + 1):Int).toNat false:List Bool)).bind fun y45=>(spec_chCouncil.l0 k l1 y45 (y45.length:Int) 0 a0_0 l0_1)) else (none)) else (none)))) = some r:=h;clear h;replace H:=oB H;obtain ⟨t43,A3,H⟩:=H;(try dsimp only at H)
 replace H:=oB H;obtain ⟨t44,A4,H⟩:=H;(try dsimp only at H)
 obtain ⟨ji5,hji5⟩:∃ j_:Int,(wrap64 (t44 + 1)) = j_:=⟨_,rfl⟩;(first|rw [hji5] at H|simp only [hji5] at H)
 (try rw [hji5] at A3)
 (try rw [hji5] at A4)
 have hji5w:(IntKind.i64.wrap (t44 + 1)) = ji5:=(i64_w _).trans hji5;replace H:=iN H;obtain ⟨c6,H⟩:=H;have c6b0:=eq_true c6;have c6b1:decide (0 ≤ (ji5)) = true:=decide_eq_true c6;clear c6;replace H:=iN H;obtain ⟨c7,H⟩:=H;have c7b0:=eq_true c7;have c7b1:decide ((ji5:Int).toNat ≤ 281474976710656) = true:=decide_eq_true c7;clear c7;obtain ⟨y45,hy45⟩:∃ y_:List Bool,y_ = (List.replicate (ji5:Int).toNat false):=⟨_,rfl⟩;replace H:(spec_chCouncil.l0 k l1 y45 (y45.length:Int) 0 a0_0 l0_1) = some r:=yR hy45 H;have Ny45:=aM hy45;clear hy45;have H':=aM H;clear H;go_enter Tryz.func33,Tryz.ntmps33;go_wp2_with (first|((with_reducible refine gate_dst (N:=2) rfl ?_);refine bE 2 #[.int .i64 a0_0,.slice A0_1 l0_1.length c0_1] 24 ?_;intro gb42 hg w8 hbox hb;have BK42:=aM (hbox);have GW42:=aM (gS hg);have GE42:=aM (gS hg);replace HB:=aM (below_step bw hb);clear hb hbox hg)|((with_reducible refine gate_callee (f:=32) rfl ?_);refine gL 13 Tryz.func32 #[.slice A1 l1.length c1] ?_;(with_reducible refine (spec_chMembers.calls k _ _ l1 t43 _ ?side1 ?side2 A3.out).mono ?_);(case side1=>exact qcs HR1.out HB.out);(case side2=>exact HC1.out);rintro e w9 ⟨rfl,hb⟩;refine ⟨_,rfl,?_⟩;replace BK42:=aM (bB BK42.out hb);replace HB:=aM (below_step bw hb);(try clear hb))|((with_reducible refine gate_callee (f:=64) rfl ?_);refine gL 14 Tryz.func64 #[.int .i64 t43] ?_;(with_reducible refine (spec_voAll.calls t43 t44 _ A4.out).mono ?_);rintro e w' ⟨rfl,⟨nd,rfl⟩⟩;refine ⟨_,rfl,?_⟩)|((with_reducible refine gate_dst (N:=16) rfl ?_);refine Kd.R_make Kd.bool _ 4 rfl (N:=16) rfl 57 _ _ rfl ji5 rfl rfl Tryz.underlying57 (.bool false) 1 info4 rfl (by decide) (by omega) false (ok:=fun _=>True) (okp:=fun _=>True) rfl (fun _ hk=>hk) trivial (of_decide_eq_true ab) (Nat.le_trans (Nat.mul_le_mul_right _ (of_decide_eq_true ab:ji5.toNat ≤ 281474976710656)) (by omega)) (Below.refl _ _) (Nat.le_refl _) ?_;intro v46 w10 ho11 hb hg_ hnew_;clear hg_ hnew_;(first|rw [← Ny45.out] at ho11|(simp only [Int.reduceToNat] at ho11;rw [← Ny45.out] at ho11));have HO47:=aM (Kd.R_lower ho11 (below_size bw));replace BK42:=aM (bB BK42.out hb);replace HB:=aM (below_step bw hb);clear hb ho11;obtain ⟨Ao12,co12,eo12⟩:=Kd.R_slice HO47.out;subst eo12))
 go_loopg [19] k (fun kq v19 w'=>∃ (x5_1:List Bool) (x19_1:Int),v19 = .int .i64 x19_1 ∧ Aside0 (spec_chCouncil.l0 kq l1 x5_1 (y45.length:Int) x19_1 a0_0 l0_1 = some r) ∧ Aside0 (kq ≤ k) ∧ Aside0 (Kd.R Kd.bool 4 w' w.heap.size (fun _=>True) (.slice Ao12 y45.length co12) x5_1) ∧ Aside0 (w'.heap[gb42]? = some (.cells #[.int .i64 a0_0,(.slice A0_1 l0_1.length c0_1)] 24 (0,0))) ∧ Aside0 (Below w.heap.size w w'))
 case atStart=>exact ⟨(y45),(0),qrs,H',⟨Nat.le_refl _⟩,⟨qra HO47.out⟩,⟨bk1 BK42.out⟩,⟨by exact bw⟩⟩
 case round =>
  clear H';(try clear c1);(try clear c6);(try clear c6b0);(try clear c6b1);(try clear c7);(try clear c7b0);(try clear c7b1)
  obtain ⟨x5_1,x19_1,rfl,HA,HK1,HO_5,BK42,HB⟩:=hrel;have hl5_1:=(Kd.R_reads' HO_5.out).1;rw [hl5_1] at HO_5;(try simp only [hl5_1])
  (try simp only [hl5_1] at BK42)
  cases gk with
  | zero=>exact absurd HA.out (by simp [spec_chCouncil.l0])
  | succ k1 =>
   have H:=HA.out;clear HA;simp only [spec_chCouncil.l0] at H;by_cases c13:x19_1 < (y45.length:Int)
   ·rw [if_pos c13] at H;have c13b0:=decide_eq_true c13;(try simp only [hl5_1] at c13b0)
    clear c13;have H':=aM H;clear H;go_wp2
    go_loopg [7,8,25] k1 (fun kq v7 v8 v25 w'=>∃ (x7_2:Int) (x8_2:Int) (x25_2:Int),v7 = .int .i64 x7_2 ∧ v8 = .int .i64 x8_2 ∧ v25 = .int .i64 x25_2 ∧ Aside0 (spec_chCouncil.l1 kq l1 x5_1 x19_1 x7_2 x8_2 (y45.length:Int) x19_1 l1 (l1.length:Int) x25_2 a0_0 l0_1 = some r) ∧ Aside0 (kq ≤ k1) ∧ Aside0 (Kd.R Kd.bool 4 w' w.heap.size (fun _=>True) (.slice Ao12 x5_1.length co12) x5_1) ∧ Aside0 (w'.heap[gb42]? = some (.cells #[.int .i64 a0_0,(.slice A0_1 l0_1.length c0_1)] 24 (0,0))) ∧ Aside0 (Below w.heap.size w w'))
    case atStart=>exact ⟨(x19_1),(0),(0),qrs,qrs,qrs,H',⟨Nat.le_refl _⟩,⟨by (try simp only [hl5_1]);(with_reducible repeat (first|apply Kd.R_alloc|apply Kd.R_drewN|apply Kd.R_drew));exact HO_5.out⟩,⟨by (try simp only [hl5_1]);(with_reducible repeat (first|refine blk_drewN ?_ _|refine blk_drew ?_|refine blk_alloc ?_ _));exact BK42.out⟩,⟨by exact bw⟩⟩
    case round =>
     clear H';(try clear c13);(try clear c13b0)
     obtain ⟨x7_2,x8_2,x25_2,rfl,rfl,rfl,HA,HK2,HO_5,BK42,HB⟩:=hrel
     cases gk with
     | zero=>exact absurd HA.out (by simp [spec_chCouncil.l1])
     | succ k2 =>
      have H:=HA.out;clear HA;simp only [spec_chCouncil.l1] at H;by_cases c14:x25_2 < (l1.length:Int)
      ·rw [if_pos c14] at H;have c14b0:=decide_eq_true c14;(try simp only [hl5_1] at c14b0)
       clear c14;replace H:=iN H;obtain ⟨c15,H⟩:=H;have c15b0:decide (0 ≤ x25_2) = true:=decide_eq_true c15;clear c15;replace H:=iN H;obtain ⟨c16,H⟩:=H;have c16b0:decide (x25_2 < (l1.length:Int)) = true:=decide_eq_true c16;(try simp only [hl5_1] at c16b0)
       clear c16;replace H:=oB H;obtain ⟨t52,A17,H⟩:=H;(try dsimp only at H)
       replace H:=iM H;obtain ⟨c18,H⟩:=H;have c18b0:((wrap64 (t52 + 1)) == 0) = false:=beq_eq_false_iff_ne.mpr c18;have c18b1:((wrap64 (t52 + 1)) != 0) = true:=bne_iff_ne.mpr c18;replace H:=oB H;obtain ⟨t53,A19,H⟩:=H;(try dsimp only at H)
       by_cases c20:t53 ≥ ((rd_impl_Committee l1 x25_2).f0)
       ·rw [if_pos c20] at H;have c20b0:decide (((rd_impl_Committee l1 x25_2).f0) ≤ t53) = true:=decide_eq_true c20;clear c20;have c21b0:=eq_true (of_decide_eq_true ab:0 ≤ x25_2);obtain ⟨ji22,hji22⟩:∃ j_:Int,(shl .i64 1 x25_2) = j_:=⟨_,rfl⟩;(first|rw [hji22] at H|simp only [hji22] at H)
        (try rw [hji22] at A17)
        (try rw [hji22] at A19)
        have hji22_:(IntKind.i64.wrap (1 * 2 ^ min x25_2.toNat 64)) = ji22:=hji22;have hji22z:x25_2 ≤ 64 → (IntKind.i64.wrap (1 * 2 ^ x25_2.toNat)) = ji22:=shl_small hji22;have hji22u:(IntKind.i64.wrap (2 ^ min x25_2.toNat 64)) = ji22:=by have h_:=hji22_;rw [Int.one_mul] at h_;exact h_
        have hji22v:x25_2 ≤ 64 → (IntKind.i64.wrap (2 ^ x25_2.toNat)) = ji22:=fun hle_=>by have h_:=hji22z hle_;rw [Int.one_mul] at h_;exact h_
        have hji22y:(wrap64 (1 * 2 ^ min x25_2.toNat 64)) = ji22:=(i64_w _).symm.trans hji22_;have hji22x:x25_2 ≤ 64 → (wrap64 (1 * 2 ^ x25_2.toNat)) = ji22:=fun h_=>(i64_w _).symm.trans (hji22z h_)
        have H':=aM H;clear H;have p50:0 ≤ (x25_2:Int):=of_decide_eq_true ab;have q50:x25_2 < (l1.length:Int):=of_decide_eq_true ab;obtain ⟨ad50,A50_1,c264_1,e50,hx50_0,hx50_1,hl50_1,hi50_1⟩:=at_impl_Committee HR1.out x25_2 p50 q50;cases e50
        replace hx50_0:=(HB.out.cell (World.block_lt_of_cell? w _ hx50_0)).trans hx50_0;replace hx50_1:=(HB.out.cell (World.block_lt_of_cell? w _ hx50_1)).trans hx50_1;have HR50_1:=aM hi50_1;have HC50_1:=aM hl50_1;clear hi50_1 hl50_1;replace p50:=eq_true p50;replace q50:=eq_true q50
        try go_wp2_with (first|((with_reducible refine gate_dst (N:=10) rfl ?_);refine bE 10 #[.int .i64 0,.slice none 0 0] 24 ?_;intro gb51 hg w23 hbox hb;replace HO_5:=aM (Kd.R_below (qra HO_5.out) hb);have BK51:=aM (hbox);have GW51:=aM (gS hg);have GE51:=aM (gS hg);replace HB:=aM (below_step bw hb);have NB42_51:=aM (nL BK42.out hg);have NB51_42:=aM (nR BK42.out hg);replace BK42:=aM (bB BK42.out hb);clear hb hbox hg;have hnb24:=NB51_42.out;have hnc24:=NB42_51.out;have hcz25_0:=cz BK51.out 0;have hcz25_1:=cz BK51.out 1;have hfz25_0:=blk_frozen BK51.out 0;have hfz25_1:=blk_frozen BK51.out 1)|((with_reducible refine gate_callee (f:=64) rfl ?_);refine gL 33 Tryz.func64 #[.int .i64 (((rd_impl_Committee l1 x25_2).f1).length:Int)] ?_;(with_reducible refine (spec_voAll.calls (((rd_impl_Committee l1 x25_2).f1).length:Int) t52 _ A17.out).mono ?_);rintro e w' ⟨rfl,⟨nd,rfl⟩⟩;refine ⟨_,rfl,?_⟩))
        have n0_:Aside0 (Kd.R Kd.bool 4 ((w23.setCell ⟨gb51,0,none⟩ (.int .i64 ((rd_impl_Committee l1 x25_2).f0))).setCell ⟨gb51,1,none⟩ (.slice A50_1 ((rd_impl_Committee l1 x25_2).f1).length c264_1)) w.heap.size (fun _=>True) (.slice Ao12 x5_1.length co12) x5_1):=⟨by (with_reducible repeat (first|apply Kd.R_alloc|apply Kd.R_drewN|apply Kd.R_drew));exact Kd.R_mono (Kd.R_far (p:=⟨gb51,1,none⟩) (Kd.R_far (p:=⟨gb51,0,none⟩) (Kd.R_types HO_5.out BK51.out (by decide)) (fun _ hk=>hk.2) (.int .i64 ((rd_impl_Committee l1 x25_2).f0))) (fun _ hk=>hk.2) (.slice A50_1 ((rd_impl_Committee l1 x25_2).f1).length c264_1)) (fun _ hk=>trivial)⟩;have n1_:Aside0 (((w23.setCell ⟨gb51,0,none⟩ (.int .i64 ((rd_impl_Committee l1 x25_2).f0))).setCell ⟨gb51,1,none⟩ (.slice A50_1 ((rd_impl_Committee l1 x25_2).f1).length c264_1)).heap[gb42]? = some (.cells #[.int .i64 a0_0,.slice A0_1 l0_1.length c0_1] 24 (0,0))):=⟨by (with_reducible repeat (first|refine blk_drewN ?_ _|refine blk_drew ?_|refine blk_alloc ?_ _));refine blk_far ?_ NB42_51.out _;(with_reducible repeat (first|refine blk_drewN ?_ _|refine blk_drew ?_|refine blk_alloc ?_ _));refine blk_far ?_ NB42_51.out _;(with_reducible repeat (first|refine blk_drewN ?_ _|refine blk_drew ?_|refine blk_alloc ?_ _));exact BK42.out⟩;have n2_:Aside0 (((w23.setCell ⟨gb51,0,none⟩ (.int .i64 ((rd_impl_Committee l1 x25_2).f0))).setCell ⟨gb51,1,none⟩ (.slice A50_1 ((rd_impl_Committee l1 x25_2).f1).length c264_1)).heap[gb51]? = some (.cells #[.int .i64 ((rd_impl_Committee l1 x25_2).f0),.slice A50_1 ((rd_impl_Committee l1 x25_2).f1).length c264_1] 24 (0,0))):=⟨by (with_reducible repeat (first|refine blk_drewN ?_ _|refine blk_drew ?_|refine blk_alloc ?_ _));refine blk_put (cs:=#[.int .i64 ((rd_impl_Committee l1 x25_2).f0),.slice none 0 0]) ?_ 1 _ rfl;(with_reducible repeat (first|refine blk_drewN ?_ _|refine blk_drew ?_|refine blk_alloc ?_ _));refine blk_put (cs:=#[.int .i64 0,.slice none 0 0]) ?_ 0 _ rfl;(with_reducible repeat (first|refine blk_drewN ?_ _|refine blk_drew ?_|refine blk_alloc ?_ _));exact BK51.out⟩;have n3_:Aside0 (Below w.heap.size w ((w23.setCell ⟨gb51,0,none⟩ (.int .i64 ((rd_impl_Committee l1 x25_2).f0))).setCell ⟨gb51,1,none⟩ (.slice A50_1 ((rd_impl_Committee l1 x25_2).f1).length c264_1))):=⟨by exact bw⟩;(try clear HO_5)
        (try clear BK42)
        (try clear BK51)
        (try clear HB)
        generalize ((w23.setCell ⟨gb51,0,none⟩ (.int .i64 ((rd_impl_Committee l1 x25_2).f0))).setCell ⟨gb51,1,none⟩ (.slice A50_1 ((rd_impl_Committee l1 x25_2).f1).length c264_1)) = w26 at n0_ n1_ n2_ n3_ ⊢
        have HO_5:=n0_;have BK42:=n1_;have BK51:=n2_;have HB:=n3_;clear n0_ n1_ n2_ n3_;(try (rw [drewN_self w26];generalize hq_:World.drewN w26 _ = w26;have n0_:Aside0 (Kd.R Kd.bool 4 w26 w.heap.size (fun _=>True) (.slice Ao12 x5_1.length co12) x5_1):=⟨by rw [← hq_];exact (qra HO_5.out)⟩;have n1_:Aside0 (w26.heap[gb42]? = some (.cells #[.int .i64 a0_0,.slice A0_1 l0_1.length c0_1] 24 (0,0))):=⟨by rw [← hq_];exact (bk1 BK42.out)⟩;have n2_:Aside0 (w26.heap[gb51]? = some (.cells #[.int .i64 ((rd_impl_Committee l1 x25_2).f0),.slice A50_1 ((rd_impl_Committee l1 x25_2).f1).length c264_1] 24 (0,0))):=⟨by rw [← hq_];exact (bk1 BK51.out)⟩;have n3_:Aside0 (Below w.heap.size w w26):=⟨by rw [← hq_];exact bw⟩;clear HO_5 BK42 BK51 HB hq_;have HO_5:=n0_;have BK42:=n1_;have BK51:=n2_;have HB:=n3_;clear n0_ n1_ n2_ n3_))
        replace HO_5:=aM (Kd.R_drew HO_5.out);replace BK42:=aM (blk_drew BK42.out);replace BK51:=aM (blk_drew BK51.out);replace HB:=aM (below_drew1 HB.out);refine start_ (n:=8) (S:=fun w'=>w'.cell? ⟨gb51,0,none⟩ = some (.int .i64 ((rd_impl_Committee l1 x25_2).f0)) ∧ w'.cell? ⟨gb51,1,none⟩ = some (.slice A50_1 ((rd_impl_Committee l1 x25_2).f1).length c264_1)) (ds:=[]) (mA 8 0) kR rfl rfl ⟨(blk_cell BK51.out 0).trans rfl,(blk_cell BK51.out 1).trans rfl⟩ (fun hHeld=>?_);refine with_tabW spec_chCouncil.tab10 spec_chCouncil.bits10 (fun HT_ HW_=>?_)
        generalize w26.drew = w27 at HO_5 BK42 BK51 HB hHeld ⊢
        refine pT 1 36 HT_.out ?_;refine pT 2 37 HT_.out ?_;refine pT 3 38 HT_.out ?_;refine pT 5 40 HT_.out ?_;refine pK 0 35 HT_.out HW_.out hHeld ?_;refine pK 6 41 HT_.out HW_.out hHeld ?_;refine oN 4 (some 39) HT_.out fun K hK=>?_
        refine gC Tryz.func54 #[.agg #[.int .i64 ((rd_impl_Committee l1 x25_2).f0),.slice A50_1 ((rd_impl_Committee l1 x25_2).f1).length c264_1],.int .i64 (Int.tmod x7_2 (wrap64 (t52 + 1)))] ?_
        with_reducible refine (spec_voWeight.calls k2 ((rd_impl_Committee l1 x25_2).f0) _ _ ((rd_impl_Committee l1 x25_2).f1) (Int.tmod x7_2 (wrap64 (t52 + 1))) t53 _ ?side1 ?side2 A19.out).mono ?_
        (case side1=>exact qcs HR50_1.out HB.out)
        (case side2=>exact HC50_1.out)
        rintro e w28 ⟨rfl,hb⟩
        refine ⟨_,rfl,?_⟩;replace HO_5:=aM (Kd.R_below (qra HO_5.out) hb);replace BK42:=aM (bB BK42.out hb);replace BK51:=aM (bB BK51.out hb);replace HB:=aM (below_step bw hb);(try clear hb)
        (try clear hk)
        refine hK.out _ _ ⟨(blk_cell BK51.out 0).trans rfl,(blk_cell BK51.out 1).trans rfl⟩ (fun hHeld=>?_);clear hK K;refine nM 39 ?_;refine pT 7 42 HT_.out ?_;refine done_ (done_of HT_.out kR) ?_
        try go_wp2
        go_roundg k2
        case measure=>have:=HK1.out;have:=HK2.out;omega
        case rel=>exact ⟨(wrap64 (Int.tdiv x7_2 (wrap64 (t52 + 1)))),(Go.bits .or .i64 x8_2 (ji22)),(wrap64 (x25_2 + 1)),qrs,(by first|rfl|(simp;done)|(simp only [← hji22] <;> (first|rfl|simp))|(simp [*];done)),qrs,H',⟨by have:=HK1.out;have:=HK2.out;omega⟩,⟨by (try simp only [hl5_1]);(with_reducible repeat (first|apply Kd.R_alloc|apply Kd.R_drewN|apply Kd.R_drew));exact HO_5.out⟩,⟨by (try simp only [hl5_1]);(with_reducible repeat (first|refine blk_drewN ?_ _|refine blk_drew ?_|refine blk_alloc ?_ _));exact BK42.out⟩,⟨by exact bw⟩⟩
       ·rw [if_neg c20] at H;have c20b0:decide (((rd_impl_Committee l1 x25_2).f0) ≤ t53) = false:=decide_eq_false c20;clear c20;have H':=aM H;clear H;have p50:0 ≤ (x25_2:Int):=of_decide_eq_true ab;have q50:x25_2 < (l1.length:Int):=of_decide_eq_true ab;obtain ⟨ad50,A50_1,c264_1,e50,hx50_0,hx50_1,hl50_1,hi50_1⟩:=at_impl_Committee HR1.out x25_2 p50 q50;cases e50
        replace hx50_0:=(HB.out.cell (World.block_lt_of_cell? w _ hx50_0)).trans hx50_0;replace hx50_1:=(HB.out.cell (World.block_lt_of_cell? w _ hx50_1)).trans hx50_1;have HR50_1:=aM hi50_1;have HC50_1:=aM hl50_1;clear hi50_1 hl50_1;replace p50:=eq_true p50;replace q50:=eq_true q50
        try go_wp2_with (first|((with_reducible refine gate_dst (N:=10) rfl ?_);refine bE 10 #[.int .i64 0,.slice none 0 0] 24 ?_;intro gb51 hg w29 hbox hb;replace HO_5:=aM (Kd.R_below (qra HO_5.out) hb);have BK51:=aM (hbox);have GW51:=aM (gS hg);have GE51:=aM (gS hg);replace HB:=aM (below_step bw hb);have NB42_51:=aM (nL BK42.out hg);have NB51_42:=aM (nR BK42.out hg);replace BK42:=aM (bB BK42.out hb);clear hb hbox hg;have hnb30:=NB51_42.out;have hnc30:=NB42_51.out;have hcz31_0:=cz BK51.out 0;have hcz31_1:=cz BK51.out 1;have hfz31_0:=blk_frozen BK51.out 0;have hfz31_1:=blk_frozen BK51.out 1)|((with_reducible refine gate_callee (f:=64) rfl ?_);refine gL 33 Tryz.func64 #[.int .i64 (((rd_impl_Committee l1 x25_2).f1).length:Int)] ?_;(with_reducible refine (spec_voAll.calls (((rd_impl_Committee l1 x25_2).f1).length:Int) t52 _ A17.out).mono ?_);rintro e w' ⟨rfl,⟨nd,rfl⟩⟩;refine ⟨_,rfl,?_⟩))
        have n0_:Aside0 (Kd.R Kd.bool 4 ((w29.setCell ⟨gb51,0,none⟩ (.int .i64 ((rd_impl_Committee l1 x25_2).f0))).setCell ⟨gb51,1,none⟩ (.slice A50_1 ((rd_impl_Committee l1 x25_2).f1).length c264_1)) w.heap.size (fun _=>True) (.slice Ao12 x5_1.length co12) x5_1):=⟨by (with_reducible repeat (first|apply Kd.R_alloc|apply Kd.R_drewN|apply Kd.R_drew));exact Kd.R_mono (Kd.R_far (p:=⟨gb51,1,none⟩) (Kd.R_far (p:=⟨gb51,0,none⟩) (Kd.R_types HO_5.out BK51.out (by decide)) (fun _ hk=>hk.2) (.int .i64 ((rd_impl_Committee l1 x25_2).f0))) (fun _ hk=>hk.2) (.slice A50_1 ((rd_impl_Committee l1 x25_2).f1).length c264_1)) (fun _ hk=>trivial)⟩;have n1_:Aside0 (((w29.setCell ⟨gb51,0,none⟩ (.int .i64 ((rd_impl_Committee l1 x25_2).f0))).setCell ⟨gb51,1,none⟩ (.slice A50_1 ((rd_impl_Committee l1 x25_2).f1).length c264_1)).heap[gb42]? = some (.cells #[.int .i64 a0_0,.slice A0_1 l0_1.length c0_1] 24 (0,0))):=⟨by (with_reducible repeat (first|refine blk_drewN ?_ _|refine blk_drew ?_|refine blk_alloc ?_ _));refine blk_far ?_ NB42_51.out _;(with_reducible repeat (first|refine blk_drewN ?_ _|refine blk_drew ?_|refine blk_alloc ?_ _));refine blk_far ?_ NB42_51.out _;(with_reducible repeat (first|refine blk_drewN ?_ _|refine blk_drew ?_|refine blk_alloc ?_ _));exact BK42.out⟩;have n2_:Aside0 (((w29.setCell ⟨gb51,0,none⟩ (.int .i64 ((rd_impl_Committee l1 x25_2).f0))).setCell ⟨gb51,1,none⟩ (.slice A50_1 ((rd_impl_Committee l1 x25_2).f1).length c264_1)).heap[gb51]? = some (.cells #[.int .i64 ((rd_impl_Committee l1 x25_2).f0),.slice A50_1 ((rd_impl_Committee l1 x25_2).f1).length c264_1] 24 (0,0))):=⟨by (with_reducible repeat (first|refine blk_drewN ?_ _|refine blk_drew ?_|refine blk_alloc ?_ _));refine blk_put (cs:=#[.int .i64 ((rd_impl_Committee l1 x25_2).f0),.slice none 0 0]) ?_ 1 _ rfl;(with_reducible repeat (first|refine blk_drewN ?_ _|refine blk_drew ?_|refine blk_alloc ?_ _));refine blk_put (cs:=#[.int .i64 0,.slice none 0 0]) ?_ 0 _ rfl;(with_reducible repeat (first|refine blk_drewN ?_ _|refine blk_drew ?_|refine blk_alloc ?_ _));exact BK51.out⟩;have n3_:Aside0 (Below w.heap.size w ((w29.setCell ⟨gb51,0,none⟩ (.int .i64 ((rd_impl_Committee l1 x25_2).f0))).setCell ⟨gb51,1,none⟩ (.slice A50_1 ((rd_impl_Committee l1 x25_2).f1).length c264_1))):=⟨by exact bw⟩;(try clear HO_5)
        (try clear BK42)
        (try clear BK51)
        (try clear HB)
        generalize ((w29.setCell ⟨gb51,0,none⟩ (.int .i64 ((rd_impl_Committee l1 x25_2).f0))).setCell ⟨gb51,1,none⟩ (.slice A50_1 ((rd_impl_Committee l1 x25_2).f1).length c264_1)) = w32 at n0_ n1_ n2_ n3_ ⊢
        have HO_5:=n0_;have BK42:=n1_;have BK51:=n2_;have HB:=n3_;clear n0_ n1_ n2_ n3_;(try (rw [drewN_self w32];generalize hq_:World.drewN w32 _ = w32;have n0_:Aside0 (Kd.R Kd.bool 4 w32 w.heap.size (fun _=>True) (.slice Ao12 x5_1.length co12) x5_1):=⟨by rw [← hq_];exact (qra HO_5.out)⟩;have n1_:Aside0 (w32.heap[gb42]? = some (.cells #[.int .i64 a0_0,.slice A0_1 l0_1.length c0_1] 24 (0,0))):=⟨by rw [← hq_];exact (bk1 BK42.out)⟩;have n2_:Aside0 (w32.heap[gb51]? = some (.cells #[.int .i64 ((rd_impl_Committee l1 x25_2).f0),.slice A50_1 ((rd_impl_Committee l1 x25_2).f1).length c264_1] 24 (0,0))):=⟨by rw [← hq_];exact (bk1 BK51.out)⟩;have n3_:Aside0 (Below w.heap.size w w32):=⟨by rw [← hq_];exact bw⟩;clear HO_5 BK42 BK51 HB hq_;have HO_5:=n0_;have BK42:=n1_;have BK51:=n2_;have HB:=n3_;clear n0_ n1_ n2_ n3_))
        replace HO_5:=aM (Kd.R_drew HO_5.out);replace BK42:=aM (blk_drew BK42.out);replace BK51:=aM (blk_drew BK51.out);replace HB:=aM (below_drew1 HB.out);refine start_ (n:=8) (S:=fun w'=>w'.cell? ⟨gb51,0,none⟩ = some (.int .i64 ((rd_impl_Committee l1 x25_2).f0)) ∧ w'.cell? ⟨gb51,1,none⟩ = some (.slice A50_1 ((rd_impl_Committee l1 x25_2).f1).length c264_1)) (ds:=[]) (mA 8 0) kR rfl rfl ⟨(blk_cell BK51.out 0).trans rfl,(blk_cell BK51.out 1).trans rfl⟩ (fun hHeld=>?_);refine with_tabW spec_chCouncil.tab10 spec_chCouncil.bits10 (fun HT_ HW_=>?_)
        generalize w32.drew = w33 at HO_5 BK42 BK51 HB hHeld ⊢
        refine pT 1 36 HT_.out ?_;refine pT 2 37 HT_.out ?_;refine pT 3 38 HT_.out ?_;refine pT 5 40 HT_.out ?_;refine pK 0 35 HT_.out HW_.out hHeld ?_;refine pK 6 41 HT_.out HW_.out hHeld ?_;refine oN 4 (some 39) HT_.out fun K hK=>?_
        refine gC Tryz.func54 #[.agg #[.int .i64 ((rd_impl_Committee l1 x25_2).f0),.slice A50_1 ((rd_impl_Committee l1 x25_2).f1).length c264_1],.int .i64 (Int.tmod x7_2 (wrap64 (t52 + 1)))] ?_
        with_reducible refine (spec_voWeight.calls k2 ((rd_impl_Committee l1 x25_2).f0) _ _ ((rd_impl_Committee l1 x25_2).f1) (Int.tmod x7_2 (wrap64 (t52 + 1))) t53 _ ?side1 ?side2 A19.out).mono ?_
        (case side1=>exact qcs HR50_1.out HB.out)
        (case side2=>exact HC50_1.out)
        rintro e w34 ⟨rfl,hb⟩
        refine ⟨_,rfl,?_⟩;replace HO_5:=aM (Kd.R_below (qra HO_5.out) hb);replace BK42:=aM (bB BK42.out hb);replace BK51:=aM (bB BK51.out hb);replace HB:=aM (below_step bw hb);(try clear hb)
        (try clear hk)
        refine hK.out _ _ ⟨(blk_cell BK51.out 0).trans rfl,(blk_cell BK51.out 1).trans rfl⟩ (fun hHeld=>?_);clear hK K;refine nM 39 ?_;refine pT 7 42 HT_.out ?_;refine done_ (done_of HT_.out kR) ?_
        try go_wp2
        go_roundg k2
        case measure=>have:=HK1.out;have:=HK2.out;omega
        case rel=>exact ⟨(wrap64 (Int.tdiv x7_2 (wrap64 (t52 + 1)))),(x8_2),(wrap64 (x25_2 + 1)),qrs,qrs,qrs,H',⟨by have:=HK1.out;have:=HK2.out;omega⟩,⟨by (try simp only [hl5_1]);(with_reducible repeat (first|apply Kd.R_alloc|apply Kd.R_drewN|apply Kd.R_drew));exact HO_5.out⟩,⟨by (try simp only [hl5_1]);(with_reducible repeat (first|refine blk_drewN ?_ _|refine blk_drew ?_|refine blk_alloc ?_ _));exact BK42.out⟩,⟨by exact bw⟩⟩
      ·rw [if_neg c14] at H;have c14b0:=decide_eq_false c14;(try simp only [hl5_1] at c14b0)
       clear c14;replace H:=oB H;obtain ⟨t48,A35,H⟩:=H;(try dsimp only at H)
       replace H:=iN H;obtain ⟨c36,H⟩:=H;have c36b0:decide (0 ≤ x19_1) = true:=decide_eq_true c36;clear c36;replace H:=iN H;obtain ⟨c37,H⟩:=H;have c37b0:decide (x19_1 < (x5_1.length:Int)) = true:=decide_eq_true c37;(try simp only [hl5_1] at c37b0)
       clear c37;obtain ⟨y49,hy49⟩:∃ y_:List Bool,y_ = (x5_1.set (x19_1:Int).toNat (decide (t48 ≥ a0_0))):=⟨_,rfl⟩;replace H:(spec_chCouncil.l0 k2 l1 y49 (y45.length:Int) (wrap64 (x19_1 + 1)) a0_0 l0_1) = some r:=yR hy49 H;have Ny49:=aM hy49;clear hy49;have H':=aM H;clear H
       try go_wp2
       replace HO_5:=aM (Kd.R_drew HO_5.out);replace BK42:=aM (blk_drew BK42.out);replace HB:=aM (below_drew1 HB.out);refine start_ (n:=10) (S:=fun w'=>w'.cell? ⟨gb42,0,none⟩ = some (.int .i64 a0_0) ∧ w'.cell? ⟨gb42,1,none⟩ = some (.slice A0_1 l0_1.length c0_1)) (ds:=[9]) (mA 10 0) kR rfl rfl ⟨(blk_cell BK42.out 0).trans rfl,(blk_cell BK42.out 1).trans rfl⟩ (fun hHeld=>?_);refine with_tabW spec_chCouncil.tab14 spec_chCouncil.bits14 (fun HT_ HW_=>?_)
       generalize wr.drew = w39 at HO_5 BK42 HB hHeld ⊢
       refine pT 0 51 HT_.out ?_;refine pT 1 52 HT_.out ?_;refine pT 3 54 HT_.out ?_;refine pT 5 56 HT_.out ?_;refine pK 2 53 HT_.out HW_.out hHeld ?_;refine pK 6 57 HT_.out HW_.out hHeld ?_;refine oN 4 (some 55) HT_.out fun K hK=>?_
       refine gC Tryz.func54 #[.agg #[.int .i64 a0_0,.slice A0_1 l0_1.length c0_1],.int .i64 x8_2] ?_
       with_reducible refine (spec_voWeight.calls k2 a0_0 _ _ l0_1 x8_2 t48 _ ?side1 ?side2 A35.out).mono ?_
       (case side1=>exact qcs HR0_1.out HB.out)
       (case side2=>exact HC0_1.out)
       rintro e w40 ⟨rfl,hb⟩
       refine ⟨_,rfl,?_⟩;replace HO_5:=aM (Kd.R_below (qra HO_5.out) hb);replace BK42:=aM (bB BK42.out hb);replace HB:=aM (below_step bw hb);(try clear hb)
       have p38:0 ≤ (x19_1:Int):=of_decide_eq_true ab;have q38:(x19_1:Int) < ((x5_1.length:Int):Int):=of_decide_eq_true ab;obtain ⟨go38,co38,eo38,gb38,gl38,cl38,HG38⟩:=Kd.R_form HO_5.out (by omega);(first|cases eo38|(injection eo38 with ea_ en_ ec_;(first|subst ea_|(injection ea_ with ea_;subst ea_));subst ec_;clear en_))
       have GB38:=aM gb38;have GG38:=aM HG38;clear gb38 gl38 HG38;obtain ⟨hx38_0,hf38_0⟩:=Kd.R_celln false HO_5.out (x19_1:Int) p38 q38;replace p38:=eq_true p38;replace q38:=eq_true q38;have HP41:=Kd.R_putn HO_5.out (x19_1:Int) (decide (t48 ≥ a0_0));rw [← Ny49.out] at HP41;have HQ41:=aM HP41;clear HP41;refine hK.out _ _ ⟨(blk_cell BK42.out 0).trans rfl,(blk_cell BK42.out 1).trans rfl⟩ (fun hHeld=>?_);clear hK K;refine nM 55 ?_;refine pT 7 58 HT_.out ?_;refine pT 8 59 HT_.out ?_;refine last_ (i:=9) (N:=none) (mA 10 1023) rfl rfl (one_of HT_.out kR) (by decide) (fun K hK=>?_);refine skip_ (w1:=?_) (by rfl) rfl ?_ ?_;rotate_left
       ·go_simp
        rfl
       refine hK.out _ _ ?_;clear hK K;refine done_ (done_of HT_.out kR) ?_
       try go_wp2
       (try simp only [← hl5_1])
       go_roundg k2
       case measure=>have:=HK1.out;have:=HK2.out;omega
       case rel=>exact ⟨(y49),(wrap64 (x19_1 + 1)),qrs,H',⟨by have:=HK1.out;have:=HK2.out;omega⟩,⟨by (try simp only [hl5_1]);(with_reducible repeat (first|apply Kd.R_alloc|apply Kd.R_drewN|apply Kd.R_drew));exact HQ41.out⟩,⟨by (try simp only [hl5_1]);(with_reducible repeat (first|refine blk_drewN ?_ _|refine blk_drew ?_|refine blk_alloc ?_ _));refine blk_far ?_ (by have h_:=Kd.R_ne HO_5.out BK42.out (by decide);intro e_;exact h_ (by rw [e_];rfl)) _;(with_reducible repeat (first|refine blk_drewN ?_ _|refine blk_drew ?_|refine blk_alloc ?_ _));exact BK42.out⟩,⟨by repeat (first|(with_reducible first|exact HB.out|apply below_alloc|apply pw_below_drewN|apply below_drew1|refine below_set ?_ GB38.out|refine below_set ?_ GE42.out)|exact HB.out)⟩⟩
   ·rw [if_neg c13] at H;have c13b0:=decide_eq_false c13;(try simp only [hl5_1] at c13b0)
    clear c13;obtain rfl:=Option.some.inj H;go_wp2
    go_ret
    exact ⟨_,by first|rfl|(simp [errW_none,errW_some] <;> rfl)|(simp only [← hji5];first|rfl|(simp [errW_none,errW_some] <;> rfl))|(simp [*,errW_none,errW_some] <;> rfl),by (with_reducible repeat (first|apply Kd.R_alloc|apply Kd.R_drewN|apply Kd.R_drew));exact HO_5.out,by exact bw⟩


/-! ### impl_gcd: function 81 -/
def impl_gcd.l0:Nat → Int → Int → Option (Int)
 | 0,_,_=>none
 | k + 1,x0,x1=>if x1 = 0 then (some x0) else (impl_gcd.l0 k x1 (Int.tmod x0 x1))
def impl_gcd.f (k:Nat) (a0:Int) (a1:Int):Option (Int):=impl_gcd.l0 k a0 a1
set_option maxHeartbeats 8000000 in
set_option maxRecDepth 100000 in
theorem impl_gcd.calls (k:Nat) (a0:Int) (a1:Int) (r:Int) (w:World) (h:impl_gcd.f k a0 a1 = some r) :
  Calls Tryz.prog 81 #[.int .i64 a0,.int .i64 a1] w fun e w'=>e = .returned (.int .i64 r) ∧ Drawn0 w w':=by
 have H:(impl_gcd.l0 k a0 a1) = some r:=h;clear h;have H':=aM H;clear H;go_enter Tryz.func81,Tryz.ntmps81;go_wp2
 repeat (go_quiet (fail);try go_wp2)
 go_loopg [0,1] k (fun kq v0 v1 w'=>∃ (x0_1:Int) (x1_1:Int),v0 = .int .i64 x0_1 ∧ v1 = .int .i64 x1_1 ∧ Aside0 (impl_gcd.l0 kq x0_1 x1_1 = some r) ∧ Aside0 (kq ≤ k) ∧ Drawn0 w w')
 case atStart=>exact ⟨(a0),(a1),qrs,qrs,H',⟨Nat.le_refl _⟩,by repeat (first|exact Drawn0.refl _|apply Drawn0.step)⟩
 case round =>
  clear H'
  try clear p2
  obtain ⟨x0_1,x1_1,rfl,rfl,HA,HK1,⟨m1,rfl⟩⟩:=hrel
  cases gk with
  | zero=>exact absurd HA.out (by simp [impl_gcd.l0])
  | succ k1 =>
   have H:=HA.out;clear HA;simp only [impl_gcd.l0] at H;by_cases c3:x1_1 = 0
   ·rw [if_pos c3] at H;have c3b0:(x1_1 == 0) = true:=beq_iff_eq.mpr c3;have c3b1:(x1_1 != 0) = false:=bne_eq_false_iff_eq.mpr c3;clear c3;obtain rfl:=Option.some.inj H;go_wp2
    repeat (go_quiet (fail);try go_wp2)
    go_ret
    exact ⟨qrs,dR⟩
   ·rw [if_neg c3] at H;have c3b0:(x1_1 == 0) = false:=beq_eq_false_iff_ne.mpr c3;have c3b1:(x1_1 != 0) = true:=bne_iff_ne.mpr c3;have H':=aM H;clear H;go_wp2
    repeat (go_quiet (fail);try go_wp2)
    go_roundg k1
    case measure=>have:=HK1.out;omega
    case rel=>exact ⟨(x1_1),(Int.tmod x0_1 x1_1),qrs,qrs,H',⟨by have:=HK1.out;omega⟩,by repeat (first|exact Drawn0.refl _|apply Drawn0.step)⟩


/-! ### impl_shareOf: function 50 -/
def impl_shareOf.f (k:Nat) (a0:Int) (a1:Int):Option (Int × Int):=(impl_gcd.f k a0 a1).bind fun t2=>(if t2 = 0 then (none) else (some (wrap64 (Int.tdiv a0 t2),wrap64 (Int.tdiv a1 t2))))
def impl_shareOf.T2:Bool × List (List Nat × List Nat):=(true,[([],[]),([],[]),([0,1],[0,1]),([],[]),([],[]),([3,4],[3,4]),([2,5],[2,5]),([6,0,1,2,3,4,5,6],[6])])
def impl_shareOf.B2:List Nat:=[0,0,3,0,0,24,63,127]
theorem impl_shareOf.tab2:rtab .any (opsOf Tryz.f50 2) = impl_shareOf.T2:=by kernel_rfl
theorem impl_shareOf.bits2:waitsOk impl_shareOf.T2.2 impl_shareOf.B2 = true:=by kernel_rfl
set_option maxHeartbeats 8000000 in
set_option maxRecDepth 100000 in
theorem impl_shareOf.calls (k:Nat) (a0:Int) (a1:Int) (r1:Int) (r2:Int) (w:World) (h:impl_shareOf.f k a0 a1 = some (r1,r2)) :
  Calls Tryz.prog 50 #[.int .i64 a0,.int .i64 a1] w fun e w'=>e = .returned (.agg #[.int .i64 r1,.int .i64 r2]) ∧ Below w.heap.size w w':=by
 have hu44:=Tryz.underlying44;have HB:=aM (Below.refl w.heap.size w);have H:((impl_gcd.f k a0 a1).bind fun t10=>(if t10 = 0 then (none) else (some (wrap64 (Int.tdiv a0 t10),wrap64 (Int.tdiv a1 t10))))) = some (r1,r2):=h;clear h;replace H:=oB H;obtain ⟨t10,A3,H⟩:=H;(try dsimp only at H)
 replace H:=iM H;obtain ⟨c4,H⟩:=H;have c4b0:(t10 == 0) = false:=beq_eq_false_iff_ne.mpr c4;have c4b1:(t10 != 0) = true:=bne_iff_ne.mpr c4;simp only [Option.some.injEq,Prod.mk.injEq] at H;obtain ⟨rfl,rfl⟩:=H;go_enter Tryz.func50,Tryz.ntmps50
 try go_wp2_with (first|((with_reducible refine gate_dst (N:=4) rfl ?_);refine bE 4 #[.int .i64 0,.int .i64 0] 44 ?_;intro gb9 hg w5 hbox hb;have BK9:=aM (hbox);have GW9:=aM (gS hg);have GE9:=aM (gS hg);replace HB:=aM (below_step bw hb);clear hb hbox hg)|((with_reducible refine gate_callee (f:=81) rfl ?_);refine gL 8 Tryz.func81 #[.int .i64 a0,.int .i64 a1] ?_;(with_reducible refine (impl_gcd.calls k a0 a1 t10 _ A3.out).mono ?_);rintro e w' ⟨rfl,⟨nd,rfl⟩⟩;refine ⟨_,rfl,?_⟩;(try (rw [drewN_self w5];generalize hq_:World.drewN w5 _ = w5;have n0_:Aside0 (w5.heap[gb9]? = some (.cells #[.int .i64 0,.int .i64 0] 44 (0,0))):=⟨by rw [← hq_];exact (bk1 BK9.out)⟩;have n1_:Aside0 (Below w.heap.size w w5):=⟨by rw [← hq_];exact bw⟩;clear BK9 HB hq_;have BK9:=n0_;have HB:=n1_;clear n0_ n1_))))
 replace BK9:=aM (blk_drew BK9.out);replace HB:=aM (below_drew1 HB.out);refine start_ (n:=8) (S:=fun w'=>True) (ds:=[]) (mA 8 0) kR rfl rfl trivial (fun hHeld=>?_);refine with_tabW impl_shareOf.tab2 impl_shareOf.bits2 (fun HT_ HW_=>?_)
 generalize w5.drew = w6 at BK9 HB hHeld ⊢
 refine pT 0 9 HT_.out ?_;refine pT 1 10 HT_.out ?_;refine pT 2 11 HT_.out ?_;refine pT 3 12 HT_.out ?_;refine pT 4 13 HT_.out ?_;refine pT 5 14 HT_.out ?_;refine pT 6 15 HT_.out ?_;refine oN 7 none HT_.out fun K hK=>?_
 have hs7:w6.cell? ⟨gb9,0,none⟩ = some (.int .i64 0):=(blk_cell BK9.out 0).trans rfl;have hfs7:=blk_frozen BK9.out 0;have hs8:w6.cell? ⟨gb9,1,none⟩ = some (.int .i64 0):=(blk_cell BK9.out 1).trans rfl;have hfs8:=blk_frozen BK9.out 1;refine skip_ (w1:=?_) (by rfl) rfl ?_ ?_;rotate_left
 ·go_simp
  rfl
 refine hK.out _ _ trivial (fun hHeld=>?_);clear hK K;refine done_ (done_of HT_.out kR) ?_
 try go_wp2
 refine bodyPost_ret (results_cell_row rfl _ _ gb9 44 #[.int .i64 (wrap64 (Int.tdiv a0 t10)),.int .i64 (wrap64 (Int.tdiv a1 t10))] (0,0) _ rfl (by (with_reducible repeat (first|refine blk_drewN ?_ _|refine blk_drew ?_|refine blk_alloc ?_ _));refine blk_put (cs:=#[.int .i64 (wrap64 (Int.tdiv a0 t10)),.int .i64 0]) ?_ 1 _ rfl;(with_reducible repeat (first|refine blk_drewN ?_ _|refine blk_drew ?_|refine blk_alloc ?_ _));refine blk_put (cs:=#[.int .i64 0,.int .i64 0]) ?_ 0 _ rfl;(with_reducible repeat (first|refine blk_drewN ?_ _|refine blk_drew ?_|refine blk_alloc ?_ _));exact BK9.out) Tryz.underlying44 rfl kR) rfl ?_;exact ⟨eE,by exact bw⟩


/-! ### impl_sharesOf: function 34 -/
def impl_sharesOf.l0:Nat → Int → List (S_impl_Share) → List Int → Int → Int → Option ((List (S_impl_Share)))
 | 0,_,_,_,_,_=>none
 | k + 1,x1,x5,x9,x10,x11=>if x11 < x10 then (if 0 ≤ x11 then (if x11 < (x9.length:Int) then ((impl_shareOf.f k (rd x9 x11) x1).bind fun bt2=>(if x5.length < 8796093022208 then (impl_sharesOf.l0 k x1 (x5 ++ [(⟨bt2.1,bt2.2⟩:S_impl_Share)]) x9 x10 (wrap64 (x11 + 1))) else (none))) else (none)) else (none)) else (some x5)
def impl_sharesOf.f (k:Nat) (l0:List Int) (a1:Int):Option ((List (S_impl_Share))):=impl_sharesOf.l0 k a1 (([]:List (S_impl_Share))) l0 (l0.length:Int) 0
set_option maxHeartbeats 8000000 in
set_option maxRecDepth 100000 in
theorem impl_sharesOf.calls (k:Nat) (A0:Option Addr) (c0:Nat) (l0:List Int) (a1:Int) (r:List (S_impl_Share)) (w:World) (hr0:Kd.C (Kd.int .i64) w A0 l0.length l0) (hc0:l0.length ≤ c0) (h:impl_sharesOf.f k l0 a1 = some r) :
  Calls Tryz.prog 34 #[.slice A0 l0.length c0,.int .i64 a1] w fun e w'=>∃ v0_:Value,e = .returned (v0_) ∧ Kd.R k_impl_Share 44 w' w.heap.size (fun _=>True) v0_ r ∧ Below w.heap.size w w':=by
 have HR0:=aM hr0;have HC0:=aM hc0;clear hr0 hc0;have HB:=aM (Below.refl w.heap.size w);have H:(impl_sharesOf.l0 k a1 (([]:List (S_impl_Share))) l0 (l0.length:Int) 0) = some r:=h;clear h;obtain ⟨y12,hy12⟩:∃ y_:List (S_impl_Share),y_ = (([]:List (S_impl_Share))):=⟨_,rfl⟩;replace H:(impl_sharesOf.l0 k a1 y12 l0 (l0.length:Int) 0) = some r:=yR hy12 H;have Ny12:=aM hy12;clear hy12;have H':=aM H;clear H;go_enter Tryz.func34,Tryz.ntmps34;go_wp2_with (first|((with_reducible refine gate_dst (N:=8) rfl ?_);refine Kd.R_lit k_impl_Share _ 44 ?hg (N:=8) ?hd (xs:=([]:List (S_impl_Share))) (inner:=[]) (ok:=fun _=>True) (okp:=fun _=>True) ?hr ?hp (fun _ hk=>hk) trivial (Below.refl _ _) (Nat.le_refl _) (by simp) ?_;(case hd=>rfl);(case hg=>rfl);(case hr=>first|(go_simp;done)|(go_simp;rfl));(case hp=>exact (Reps.none _ _));intro v13 w3 ho4 hb hg_ hnew_;clear hg_ hnew_;(first|rw [← Ny12.out] at ho4|(simp only [Int.reduceToNat] at ho4;rw [← Ny12.out] at ho4));have HO14:=aM (Kd.R_lower ho4 (below_size bw));replace HB:=aM (below_step bw hb);clear hb ho4))
 go_loopg [5,11] k (fun kq v5 v11 w'=>∃ (x5_1:List (S_impl_Share)) (x11_1:Int),v11 = .int .i64 x11_1 ∧ Aside0 (impl_sharesOf.l0 kq a1 x5_1 l0 (l0.length:Int) x11_1 = some r) ∧ Aside0 (kq ≤ k) ∧ Aside0 (Kd.R k_impl_Share 44 w' w.heap.size (fun _=>True) v5 x5_1) ∧ Aside0 (Below w.heap.size w w'))
 case atStart=>exact ⟨(y12),(0),qrs,H',⟨Nat.le_refl _⟩,⟨qra HO14.out⟩,⟨by exact bw⟩⟩
 case round =>
  clear H';obtain ⟨x5_1,x11_1,rfl,HA,HK1,HO_5,HB⟩:=hrel
  cases gk with
  | zero=>exact absurd HA.out (by simp [impl_sharesOf.l0])
  | succ k1 =>
   have H:=HA.out;clear HA;simp only [impl_sharesOf.l0] at H;by_cases c5:x11_1 < (l0.length:Int)
   ·rw [if_pos c5] at H;have c5b0:=decide_eq_true c5;clear c5;replace H:=iN H;obtain ⟨c6,H⟩:=H;have c6b0:decide (0 ≤ x11_1) = true:=decide_eq_true c6;clear c6;replace H:=iN H;obtain ⟨c7,H⟩:=H;have c7b0:decide (x11_1 < (l0.length:Int)) = true:=decide_eq_true c7;clear c7;replace H:=oB H;obtain ⟨⟨t16,t17⟩,A8,H⟩:=H;(try dsimp only at H)
    replace H:=iN H;obtain ⟨c9,H⟩:=H;have LMc9:=aM c9;clear c9;obtain ⟨y18,hy18⟩:∃ y_:List (S_impl_Share),y_ = (x5_1 ++ [(⟨t16,t17⟩:S_impl_Share)]):=⟨_,rfl⟩;replace H:(impl_sharesOf.l0 k1 a1 y18 l0 (l0.length:Int) (wrap64 (x11_1 + 1))) = some r:=yR hy18 H;have Ny18:=aM hy18;clear hy18;have H':=aM H;clear H;have p15:0 ≤ (x11_1:Int):=of_decide_eq_true ab;have q15:x11_1 < (l0.length:Int):=of_decide_eq_true ab;obtain ⟨ad15,e15,hx15_0⟩:=Kd.at_int HR0.out x11_1 p15 q15;cases e15
    replace hx15_0:=(HB.out.cell (World.block_lt_of_cell? w _ hx15_0)).trans hx15_0;replace p15:=eq_true p15;replace q15:=eq_true q15;go_wp2_with (first|((with_reducible refine gate_callee (f:=50) rfl ?_);refine gL 18 Tryz.func50 #[.int .i64 (rd l0 x11_1),.int .i64 a1] ?_;(with_reducible refine (impl_shareOf.calls k1 (rd l0 x11_1) a1 t16 t17 _ A8.out).mono ?_);rintro e w10 ⟨rfl,hb⟩;refine ⟨_,rfl,?_⟩;replace HO_5:=aM (Kd.R_below (qra HO_5.out) hb);replace HB:=aM (below_step bw hb);(try clear hb);(try clear hk))|((with_reducible refine gate_builtin (b:=.append) (xs:=#[.tmp 15,.tmp 19]) rfl ?_);at_builtin;refine Kd.R_append k_impl_Share (w0:=w) w.heap.size rfl (.tmp 15) (.tmp 19) 31 44 (.agg #[(.int .i64 0),(.int .i64 0)]) 16 rfl Tryz.underlying31 info44 rfl (by decide) (by omega) u5 x5_1 (⟨t16,t17⟩:S_impl_Share) [.int .i64 t16,.int .i64 t17] (fun _=>True) (fun _=>False) rfl rfl ?aP (fun _ hk=>hk.elim) ?aF ?aO ?aB ?aS ?aL ?_;(case aP=>exact k_impl_Share_mkM _ _ _ (⟨t16,t17⟩:S_impl_Share));(case aB=>exact bw);(case aF=>exact (fun _ _=>trivial));(case aO=>exact (qra HO_5.out));(case aS=>exact (below_size bw));(case aL=>have:=LMc9.out;omega);intro v19 w11 ho hb hg hat;rw [← Ny18.out] at ho;replace HB:=aM (hb);have HO20:=aM (ho);clear HO_5;clear ho hb hg hat))
    go_roundg k1
    case measure=>have:=HK1.out;omega
    case rel=>exact ⟨(y18),(wrap64 (x11_1 + 1)),qrs,H',⟨by have:=HK1.out;omega⟩,⟨qra HO20.out⟩,⟨by exact bw⟩⟩
   ·rw [if_neg c5] at H;have c5b0:=decide_eq_false c5;clear c5;obtain rfl:=Option.some.inj H;go_wp2
    go_ret
    exact ⟨_,eE,by (with_reducible repeat (first|apply Kd.R_alloc|apply Kd.R_drewN|apply Kd.R_drew));exact HO_5.out,by exact bw⟩


/-! ### impl_votes_isSwing: function 65 -/
def impl_votes_isSwing.f (a0_0:Int) (l0_1:List Bool) (a1:Int) (a2:Int):Option (Bool):=(impl_has.f a1 a2).bind fun t3=>(if t3 = true then (some false) else (if 0 ≤ a1 then (if a1 < (l0_1.length:Int) then (if rdOf false l0_1 a1 = true then (some false) else (if 0 ≤ a2 then (if 0 ≤ (Go.bits .or .i64 a1 (shl .i64 1 a2)) then (if (Go.bits .or .i64 a1 (shl .i64 1 a2)) < (l0_1.length:Int) then (some (rdOf false l0_1 (Go.bits .or .i64 a1 (shl .i64 1 a2)))) else (none)) else (none)) else (none))) else (none)) else (none)))
set_option maxHeartbeats 8000000 in
set_option maxRecDepth 100000 in
theorem impl_votes_isSwing.calls (a0_0:Int) (A0_1:Option Addr) (c0_1:Nat) (l0_1:List Bool) (a1:Int) (a2:Int) (r:Bool) (w:World) (hr0_1:Kd.C Kd.bool w A0_1 l0_1.length l0_1) (hc0_1:l0_1.length ≤ c0_1) (h:impl_votes_isSwing.f a0_0 l0_1 a1 a2 = some r) :
  Calls Tryz.prog 65 #[.agg #[.int .i64 a0_0,.slice A0_1 l0_1.length c0_1],.int .i64 a1,.int .i64 a2] w fun e w'=>e = .returned (.bool r) ∧ Below w.heap.size w w':=by
 have hu59:=Tryz.underlying59;have HR0_1:=aM hr0_1;have HC0_1:=aM hc0_1;clear hr0_1 hc0_1;have HB:=aM (Below.refl w.heap.size w);have H:((impl_has.f a1 a2).bind fun t19=>(if t19 = true then (some false) else (if 0 ≤ a1 then (if a1 < (l0_1.length:Int) then (if rdOf false l0_1 a1 = true then (some false) else (if 0 ≤ a2 then (if 0 ≤ (Go.bits .or .i64 a1 (shl .i64 1 a2)) then (if (Go.bits .or .i64 a1 (shl .i64 1 a2)) < (l0_1.length:Int) then (some (rdOf false l0_1 (Go.bits .or .i64 a1 (shl .i64 1 a2)))) else (none)) else (none)) else (none))) else (none)) else (none)))) = some r:=h;clear h;replace H:=oB H;obtain ⟨t19,A4,H⟩:=H;(try dsimp only at H)
 by_cases c5:t19 = true
 ·subst c5;rw [if_pos rfl] at H;obtain rfl:=Option.some.inj H;go_enter Tryz.func65,Tryz.ntmps65;go_wp2_with (first|((with_reducible refine gate_dst (N:=3) rfl ?_);refine bE 3 #[.int .i64 a0_0,.slice A0_1 l0_1.length c0_1] 59 ?_;intro gb3 hg w6 hbox hb;have BK3:=aM (hbox);have GW3:=aM (gS hg);have GE3:=aM (gS hg);replace HB:=aM (below_step bw hb);clear hb hbox hg)|(go_at_call 83;(with_reducible refine (impl_has.calls a1 a2 true _ A4.out).mono ?_);rintro e w' ⟨rfl,⟨nd,rfl⟩⟩;(try exact dW)))
  repeat (go_quiet (first|((with_reducible refine gate_dst (N:=3) rfl ?_);refine bE 3 #[.int .i64 a0_0,.slice A0_1 l0_1.length c0_1] 59 ?_;intro gb3 hg w6 hbox hb;have BK3:=aM (hbox);have GW3:=aM (gS hg);have GE3:=aM (gS hg);replace HB:=aM (below_step bw hb);clear hb hbox hg)|(go_at_call 83;(with_reducible refine (impl_has.calls a1 a2 true _ A4.out).mono ?_);rintro e w' ⟨rfl,⟨nd,rfl⟩⟩;(try exact dW)));try go_wp2_with (first|((with_reducible refine gate_dst (N:=3) rfl ?_);refine bE 3 #[.int .i64 a0_0,.slice A0_1 l0_1.length c0_1] 59 ?_;intro gb3 hg w6 hbox hb;have BK3:=aM (hbox);have GW3:=aM (gS hg);have GE3:=aM (gS hg);replace HB:=aM (below_step bw hb);clear hb hbox hg)|(go_at_call 83;(with_reducible refine (impl_has.calls a1 a2 true _ A4.out).mono ?_);rintro e w' ⟨rfl,⟨nd,rfl⟩⟩;(try exact dW))))
  go_ret
  exact ⟨eE,by exact bw⟩
 ·replace c5:=Bool.eq_false_iff.mpr c5;subst c5;rw [if_neg (show ¬ (false = true) by decide)] at H;replace H:=iN H;obtain ⟨c7,H⟩:=H;have c7b0:decide (0 ≤ a1) = true:=decide_eq_true c7;clear c7;replace H:=iN H;obtain ⟨c8,H⟩:=H;have c8b0:decide (a1 < (l0_1.length:Int)) = true:=decide_eq_true c8;clear c8;obtain ⟨bq9,hbq9⟩:∃ b_:Bool,b_ = (rdOf false l0_1 a1):=⟨_,rfl⟩;rw [← hbq9] at H;have Nbq9:=aM hbq9;clear hbq9;by_cases c10:bq9 = true
  ·subst c10;rw [if_pos rfl] at H;obtain rfl:=Option.some.inj H;go_enter Tryz.func65,Tryz.ntmps65;go_wp2_with (first|((with_reducible refine gate_dst (N:=3) rfl ?_);refine bE 3 #[.int .i64 a0_0,.slice A0_1 l0_1.length c0_1] 59 ?_;intro gb3 hg w11 hbox hb;have BK3:=aM (hbox);have GW3:=aM (gS hg);have GE3:=aM (gS hg);replace HB:=aM (below_step bw hb);clear hb hbox hg)|(go_at_call 83;(with_reducible refine (impl_has.calls a1 a2 false _ A4.out).mono ?_);rintro e w' ⟨rfl,⟨nd,rfl⟩⟩;(try exact dW);have hcz12_0:=cz BK3.out 0;have hcz12_1:=cz BK3.out 1;have hfz12_0:=blk_frozen BK3.out 0;have hfz12_1:=blk_frozen BK3.out 1;have p20:0 ≤ (a1:Int):=of_decide_eq_true ab;have q20:a1 < (l0_1.length:Int):=of_decide_eq_true ab;obtain ⟨ad20,e20,hx20_0⟩:=Kd.at_bool HR0_1.out a1 p20 q20;(try rw [← Nbq9.out] at hx20_0);cases e20;replace hx20_0:=(HB.out.cell (World.block_lt_of_cell? w _ hx20_0)).trans hx20_0;replace p20:=eq_true p20;replace q20:=eq_true q20))
   repeat (go_quiet (first|((with_reducible refine gate_dst (N:=3) rfl ?_);refine bE 3 #[.int .i64 a0_0,.slice A0_1 l0_1.length c0_1] 59 ?_;intro gb3 hg w11 hbox hb;have BK3:=aM (hbox);have GW3:=aM (gS hg);have GE3:=aM (gS hg);replace HB:=aM (below_step bw hb);clear hb hbox hg)|(go_at_call 83;(with_reducible refine (impl_has.calls a1 a2 false _ A4.out).mono ?_);rintro e w' ⟨rfl,⟨nd,rfl⟩⟩;(try exact dW);have hcz12_0:=cz BK3.out 0;have hcz12_1:=cz BK3.out 1;have hfz12_0:=blk_frozen BK3.out 0;have hfz12_1:=blk_frozen BK3.out 1;have p20:0 ≤ (a1:Int):=of_decide_eq_true ab;have q20:a1 < (l0_1.length:Int):=of_decide_eq_true ab;obtain ⟨ad20,e20,hx20_0⟩:=Kd.at_bool HR0_1.out a1 p20 q20;(try rw [← Nbq9.out] at hx20_0);cases e20;replace hx20_0:=(HB.out.cell (World.block_lt_of_cell? w _ hx20_0)).trans hx20_0;replace p20:=eq_true p20;replace q20:=eq_true q20));try go_wp2_with (first|((with_reducible refine gate_dst (N:=3) rfl ?_);refine bE 3 #[.int .i64 a0_0,.slice A0_1 l0_1.length c0_1] 59 ?_;intro gb3 hg w11 hbox hb;have BK3:=aM (hbox);have GW3:=aM (gS hg);have GE3:=aM (gS hg);replace HB:=aM (below_step bw hb);clear hb hbox hg)|(go_at_call 83;(with_reducible refine (impl_has.calls a1 a2 false _ A4.out).mono ?_);rintro e w' ⟨rfl,⟨nd,rfl⟩⟩;(try exact dW);have hcz12_0:=cz BK3.out 0;have hcz12_1:=cz BK3.out 1;have hfz12_0:=blk_frozen BK3.out 0;have hfz12_1:=blk_frozen BK3.out 1;have p20:0 ≤ (a1:Int):=of_decide_eq_true ab;have q20:a1 < (l0_1.length:Int):=of_decide_eq_true ab;obtain ⟨ad20,e20,hx20_0⟩:=Kd.at_bool HR0_1.out a1 p20 q20;(try rw [← Nbq9.out] at hx20_0);cases e20;replace hx20_0:=(HB.out.cell (World.block_lt_of_cell? w _ hx20_0)).trans hx20_0;replace p20:=eq_true p20;replace q20:=eq_true q20)))
   go_ret
   exact ⟨eE,by exact bw⟩
  ·replace c10:=Bool.eq_false_iff.mpr c10;subst c10;rw [if_neg (show ¬ (false = true) by decide)] at H;replace H:=iN H;obtain ⟨c13,H⟩:=H;have c13b0:=eq_true c13;have c13b1:decide (0 ≤ a2) = true:=decide_eq_true c13;clear c13;obtain ⟨ji14,hji14⟩:∃ j_:Int,(shl .i64 1 a2) = j_:=⟨_,rfl⟩;(first|rw [hji14] at H|simp only [hji14] at H)
   (try rw [hji14] at A4)
   have hji14_:(IntKind.i64.wrap (1 * 2 ^ min a2.toNat 64)) = ji14:=hji14;have hji14z:a2 ≤ 64 → (IntKind.i64.wrap (1 * 2 ^ a2.toNat)) = ji14:=shl_small hji14;have hji14u:(IntKind.i64.wrap (2 ^ min a2.toNat 64)) = ji14:=by have h_:=hji14_;rw [Int.one_mul] at h_;exact h_
   have hji14v:a2 ≤ 64 → (IntKind.i64.wrap (2 ^ a2.toNat)) = ji14:=fun hle_=>by have h_:=hji14z hle_;rw [Int.one_mul] at h_;exact h_
   have hji14y:(wrap64 (1 * 2 ^ min a2.toNat 64)) = ji14:=(i64_w _).symm.trans hji14_;have hji14x:a2 ≤ 64 → (wrap64 (1 * 2 ^ a2.toNat)) = ji14:=fun h_=>(i64_w _).symm.trans (hji14z h_)
   replace H:=iN H;obtain ⟨c15,H⟩:=H;have c15b0:decide (0 ≤ (Go.bits .or .i64 a1 (ji14))) = true:=decide_eq_true c15;clear c15;replace H:=iN H;obtain ⟨c16,H⟩:=H;have c16b0:decide ((Go.bits .or .i64 a1 (ji14)) < (l0_1.length:Int)) = true:=decide_eq_true c16;clear c16;obtain rfl:=Option.some.inj H;go_enter Tryz.func65,Tryz.ntmps65;go_wp2_with (first|((with_reducible refine gate_dst (N:=3) rfl ?_);refine bE 3 #[.int .i64 a0_0,.slice A0_1 l0_1.length c0_1] 59 ?_;intro gb3 hg w17 hbox hb;have BK3:=aM (hbox);have GW3:=aM (gS hg);have GE3:=aM (gS hg);replace HB:=aM (below_step bw hb);clear hb hbox hg)|(go_at_call 83;(with_reducible refine (impl_has.calls a1 a2 false _ A4.out).mono ?_);rintro e w' ⟨rfl,⟨nd,rfl⟩⟩;(try exact dW);have hcz18_0:=cz BK3.out 0;have hcz18_1:=cz BK3.out 1;have hfz18_0:=blk_frozen BK3.out 0;have hfz18_1:=blk_frozen BK3.out 1;have p20:0 ≤ (a1:Int):=of_decide_eq_true ab;have q20:a1 < (l0_1.length:Int):=of_decide_eq_true ab;obtain ⟨ad20,e20,hx20_0⟩:=Kd.at_bool HR0_1.out a1 p20 q20;(try rw [← Nbq9.out] at hx20_0);cases e20;replace hx20_0:=(HB.out.cell (World.block_lt_of_cell? w _ hx20_0)).trans hx20_0;replace p20:=eq_true p20;replace q20:=eq_true q20;have p21:0 ≤ ((Go.bits .or .i64 a1 (ji14)):Int):=of_decide_eq_true ab;have q21:(Go.bits .or .i64 a1 (ji14)) < (l0_1.length:Int):=of_decide_eq_true ab;obtain ⟨ad21,e21,hx21_0⟩:=Kd.at_bool HR0_1.out (Go.bits .or .i64 a1 (ji14)) p21 q21;(try rw [← Nbq9.out] at hx21_0);obtain rfl:ad20 = ad21:=(by injection e21);replace hx21_0:=(HB.out.cell (World.block_lt_of_cell? w _ hx21_0)).trans hx21_0;replace p21:=eq_true p21;replace q21:=eq_true q21))
   repeat (go_quiet (first|((with_reducible refine gate_dst (N:=3) rfl ?_);refine bE 3 #[.int .i64 a0_0,.slice A0_1 l0_1.length c0_1] 59 ?_;intro gb3 hg w17 hbox hb;have BK3:=aM (hbox);have GW3:=aM (gS hg);have GE3:=aM (gS hg);replace HB:=aM (below_step bw hb);clear hb hbox hg)|(go_at_call 83;(with_reducible refine (impl_has.calls a1 a2 false _ A4.out).mono ?_);rintro e w' ⟨rfl,⟨nd,rfl⟩⟩;(try exact dW);have hcz18_0:=cz BK3.out 0;have hcz18_1:=cz BK3.out 1;have hfz18_0:=blk_frozen BK3.out 0;have hfz18_1:=blk_frozen BK3.out 1;have p20:0 ≤ (a1:Int):=of_decide_eq_true ab;have q20:a1 < (l0_1.length:Int):=of_decide_eq_true ab;obtain ⟨ad20,e20,hx20_0⟩:=Kd.at_bool HR0_1.out a1 p20 q20;(try rw [← Nbq9.out] at hx20_0);cases e20;replace hx20_0:=(HB.out.cell (World.block_lt_of_cell? w _ hx20_0)).trans hx20_0;replace p20:=eq_true p20;replace q20:=eq_true q20;have p21:0 ≤ ((Go.bits .or .i64 a1 (ji14)):Int):=of_decide_eq_true ab;have q21:(Go.bits .or .i64 a1 (ji14)) < (l0_1.length:Int):=of_decide_eq_true ab;obtain ⟨ad21,e21,hx21_0⟩:=Kd.at_bool HR0_1.out (Go.bits .or .i64 a1 (ji14)) p21 q21;(try rw [← Nbq9.out] at hx21_0);obtain rfl:ad20 = ad21:=(by injection e21);replace hx21_0:=(HB.out.cell (World.block_lt_of_cell? w _ hx21_0)).trans hx21_0;replace p21:=eq_true p21;replace q21:=eq_true q21));try go_wp2_with (first|((with_reducible refine gate_dst (N:=3) rfl ?_);refine bE 3 #[.int .i64 a0_0,.slice A0_1 l0_1.length c0_1] 59 ?_;intro gb3 hg w17 hbox hb;have BK3:=aM (hbox);have GW3:=aM (gS hg);have GE3:=aM (gS hg);replace HB:=aM (below_step bw hb);clear hb hbox hg)|(go_at_call 83;(with_reducible refine (impl_has.calls a1 a2 false _ A4.out).mono ?_);rintro e w' ⟨rfl,⟨nd,rfl⟩⟩;(try exact dW);have hcz18_0:=cz BK3.out 0;have hcz18_1:=cz BK3.out 1;have hfz18_0:=blk_frozen BK3.out 0;have hfz18_1:=blk_frozen BK3.out 1;have p20:0 ≤ (a1:Int):=of_decide_eq_true ab;have q20:a1 < (l0_1.length:Int):=of_decide_eq_true ab;obtain ⟨ad20,e20,hx20_0⟩:=Kd.at_bool HR0_1.out a1 p20 q20;(try rw [← Nbq9.out] at hx20_0);cases e20;replace hx20_0:=(HB.out.cell (World.block_lt_of_cell? w _ hx20_0)).trans hx20_0;replace p20:=eq_true p20;replace q20:=eq_true q20;have p21:0 ≤ ((Go.bits .or .i64 a1 (ji14)):Int):=of_decide_eq_true ab;have q21:(Go.bits .or .i64 a1 (ji14)) < (l0_1.length:Int):=of_decide_eq_true ab;obtain ⟨ad21,e21,hx21_0⟩:=Kd.at_bool HR0_1.out (Go.bits .or .i64 a1 (ji14)) p21 q21;(try rw [← Nbq9.out] at hx21_0);obtain rfl:ad20 = ad21:=(by injection e21);replace hx21_0:=(HB.out.cell (World.block_lt_of_cell? w _ hx21_0)).trans hx21_0;replace p21:=eq_true p21;replace q21:=eq_true q21)))
   go_ret
   exact ⟨by first|rfl|(simp [errW_none,errW_some] <;> rfl)|(simp only [← hji14];first|rfl|(simp [errW_none,errW_some] <;> rfl))|(simp [*,errW_none,errW_some] <;> rfl),by exact bw⟩


/-! ### impl_votes_swings: function 35 -/
mutual
def impl_votes_swings.l0:Nat → List Int → Int → Int → Int → List Bool → Option (List Int)
 | 0,_,_,_,_,_=>none
 | k + 1,x3,x10,x11,x5,x6=>if x11 < x10 then (impl_votes_swings.l1 k x3 x11 x10 x11 (x6.length:Int) 0 x5 x6) else (some x3)
def impl_votes_swings.l1:Nat → List Int → Int → Int → Int → Int → Int → Int → List Bool → Option (List Int)
 | 0,_,_,_,_,_,_,_,_=>none
 | k + 1,x3,x4,x10,x11,x16,x17,x5,x6=>if x17 < x16 then ((impl_votes_isSwing.f x5 x6 x17 x4).bind fun t2=>(if t2 = true then (if 0 ≤ x4 then (if x4 < (x3.length:Int) then (impl_votes_swings.l1 k (x3.set (x4:Int).toNat (wrap64 ((rd x3 x4) + 1))) x4 x10 x11 x16 (wrap64 (x17 + 1)) x5 x6) else (none)) else (none)) else (impl_votes_swings.l1 k x3 x4 x10 x11 x16 (wrap64 (x17 + 1)) x5 x6))) else (impl_votes_swings.l0 k x3 x10 (wrap64 (x11 + 1)) x5 x6)
end
def impl_votes_swings.f (k:Nat) (a0_0:Int) (l0_1:List Bool):Option (List Int):=if 0 ≤ a0_0 then (if (a0_0:Int).toNat ≤ 35184372088832 then ((some (List.replicate (a0_0:Int).toNat 0:List Int)).bind fun y2=>(impl_votes_swings.l0 k y2 (y2.length:Int) 0 a0_0 l0_1)) else (none)) else (none)
set_option maxHeartbeats 8000000 in
set_option maxRecDepth 100000 in
theorem impl_votes_swings.calls (k:Nat) (a0_0:Int) (A0_1:Option Addr) (c0_1:Nat) (l0_1:List Bool) (r:List Int) (w:World) (hr0_1:Kd.C Kd.bool w A0_1 l0_1.length l0_1) (hc0_1:l0_1.length ≤ c0_1) (h:impl_votes_swings.f k a0_0 l0_1 = some r) :
  Calls Tryz.prog 35 #[.agg #[.int .i64 a0_0,.slice A0_1 l0_1.length c0_1]] w fun e w'=>∃ v0_:Value,e = .returned (v0_) ∧ Kd.R (Kd.int .i64) 3 w' w.heap.size (fun _=>True) v0_ r ∧ Below w.heap.size w w':=by
 have hu59:=Tryz.underlying59;have HR0_1:=aM hr0_1;have HC0_1:=aM hc0_1;clear hr0_1 hc0_1;have HB:=aM (Below.refl w.heap.size w);have H:(if 0 ≤ a0_0 then (if (a0_0:Int).toNat ≤ 35184372088832 then ((some (List.replicate (a0_0:Int).toNat 0:List Int)).bind fun y24=>(impl_votes_swings.l0 k y24 (y24.length:Int) 0 a0_0 l0_1)) else (none)) else (none)) = some r:=h;clear h;replace H:=iN H;obtain ⟨c2,H⟩:=H;have c2b0:=eq_true c2;have c2b1:decide (0 ≤ a0_0) = true:=decide_eq_true c2;clear c2;replace H:=iN H;obtain ⟨c3,H⟩:=H;have c3b0:=eq_true c3;have c3b1:decide ((a0_0:Int).toNat ≤ 35184372088832) = true:=decide_eq_true c3;clear c3;obtain ⟨y24,hy24⟩:∃ y_:List Int,y_ = (List.replicate (a0_0:Int).toNat 0):=⟨_,rfl⟩;replace H:(impl_votes_swings.l0 k y24 (y24.length:Int) 0 a0_0 l0_1) = some r:=yR hy24 H;have Ny24:=aM hy24;clear hy24;have H':=aM H;clear H;go_enter Tryz.func35,Tryz.ntmps35;go_wp2_with (first|((with_reducible refine gate_dst (N:=1) rfl ?_);refine bE 1 #[.int .i64 a0_0,.slice A0_1 l0_1.length c0_1] 59 ?_;intro gb23 hg w4 hbox hb;have BK23:=aM (hbox);have GW23:=aM (gS hg);have GE23:=aM (gS hg);replace HB:=aM (below_step bw hb);clear hb hbox hg;have hcz5_0:=cz BK23.out 0;have hcz5_1:=cz BK23.out 1;have hfz5_0:=blk_frozen BK23.out 0;have hfz5_1:=blk_frozen BK23.out 1)|((with_reducible refine gate_dst (N:=8) rfl ?_);refine Kd.R_make (Kd.int .i64) _ 3 rfl (N:=8) rfl 22 _ _ rfl a0_0 rfl rfl Tryz.underlying22 (.int .i64 0) 8 info3 rfl (by decide) (by omega) 0 (ok:=fun _=>True) (okp:=fun _=>True) rfl (fun _ hk=>hk) trivial (of_decide_eq_true ab) (Nat.le_trans (Nat.mul_le_mul_right _ (of_decide_eq_true ab:a0_0.toNat ≤ 35184372088832)) (by omega)) (Below.refl _ _) (Nat.le_refl _) ?_;intro v25 w6 ho7 hb hg_ hnew_;clear hg_ hnew_;(first|rw [← Ny24.out] at ho7|(simp only [Int.reduceToNat] at ho7;rw [← Ny24.out] at ho7));have HO26:=aM (Kd.R_lower ho7 (below_size bw));replace BK23:=aM (bB BK23.out hb);replace HB:=aM (below_step bw hb);clear hb ho7;obtain ⟨Ao8,co8,eo8⟩:=Kd.R_slice HO26.out;subst eo8))
 go_loopg [11] k (fun kq v11 w'=>∃ (x3_1:List Int) (x11_1:Int),v11 = .int .i64 x11_1 ∧ Aside0 (impl_votes_swings.l0 kq x3_1 (y24.length:Int) x11_1 a0_0 l0_1 = some r) ∧ Aside0 (kq ≤ k) ∧ Aside0 (Kd.R (Kd.int .i64) 3 w' w.heap.size (fun _=>True) (.slice Ao8 y24.length co8) x3_1) ∧ Aside0 (w'.heap[gb23]? = some (.cells #[.int .i64 a0_0,(.slice A0_1 l0_1.length c0_1)] 59 (0,0))) ∧ Aside0 (Below w.heap.size w w'))
 case atStart=>exact ⟨(y24),(0),qrs,H',⟨Nat.le_refl _⟩,⟨qra HO26.out⟩,⟨bk1 BK23.out⟩,⟨by exact bw⟩⟩
 case round =>
  clear H';(try clear c2);(try clear c2b0);(try clear c2b1);(try clear c3);(try clear c3b0);(try clear c3b1);(try clear hcz5_0);(try clear hcz5_1);(try clear hfz5_0);(try clear hfz5_1)
  obtain ⟨x3_1,x11_1,rfl,HA,HK1,HO_3,BK23,HB⟩:=hrel;have hl3_1:=(Kd.R_reads' HO_3.out).1;rw [hl3_1] at HO_3;(try simp only [hl3_1])
  (try simp only [hl3_1] at BK23)
  cases gk with
  | zero=>exact absurd HA.out (by simp [impl_votes_swings.l0])
  | succ k1 =>
   have H:=HA.out;clear HA;simp only [impl_votes_swings.l0] at H;by_cases c9:x11_1 < (y24.length:Int)
   ·rw [if_pos c9] at H;have c9b0:=decide_eq_true c9;(try simp only [hl3_1] at c9b0)
    clear c9;have H':=aM H;clear H;have hcz10_0:=cz BK23.out 0;have hcz10_1:=cz BK23.out 1;have hfz10_0:=blk_frozen BK23.out 0;have hfz10_1:=blk_frozen BK23.out 1;go_wp2
    go_loopg [17] k1 (fun kq v17 w'=>∃ (x3_2:List Int) (x17_2:Int),v17 = .int .i64 x17_2 ∧ Aside0 (impl_votes_swings.l1 kq x3_2 x11_1 (y24.length:Int) x11_1 (l0_1.length:Int) x17_2 a0_0 l0_1 = some r) ∧ Aside0 (kq ≤ k1) ∧ Aside0 (Kd.R (Kd.int .i64) 3 w' w.heap.size (fun _=>True) (.slice Ao8 x3_1.length co8) x3_2) ∧ Aside0 (w'.heap[gb23]? = some (.cells #[.int .i64 a0_0,(.slice A0_1 l0_1.length c0_1)] 59 (0,0))) ∧ Aside0 (Below w.heap.size w w'))
    case atStart=>exact ⟨(x3_1),(0),qrs,H',⟨Nat.le_refl _⟩,⟨by (try simp only [hl3_1]);(with_reducible repeat (first|apply Kd.R_alloc|apply Kd.R_drewN|apply Kd.R_drew));exact HO_3.out⟩,⟨by (try simp only [hl3_1]);(with_reducible repeat (first|refine blk_drewN ?_ _|refine blk_drew ?_|refine blk_alloc ?_ _));exact BK23.out⟩,⟨by exact bw⟩⟩
    case round =>
     clear H';(try clear c9);(try clear c9b0);(try clear hcz10_0);(try clear hcz10_1);(try clear hfz10_0);(try clear hfz10_1)
     obtain ⟨x3_2,x17_2,rfl,HA,HK2,HO_3,BK23,HB⟩:=hrel;have hl3_2:=(Kd.R_reads' HO_3.out).1;rw [hl3_2] at HO_3;(try simp only [hl3_2])
     (try simp only [hl3_2] at BK23)
     cases gk with
     | zero=>exact absurd HA.out (by simp [impl_votes_swings.l1])
     | succ k2 =>
      have H:=HA.out;clear HA;simp only [impl_votes_swings.l1] at H;by_cases c11:x17_2 < (l0_1.length:Int)
      ·rw [if_pos c11] at H;have c11b0:=decide_eq_true c11;(try simp only [hl3_1,hl3_2] at c11b0)
       clear c11;replace H:=oB H;obtain ⟨t27,A12,H⟩:=H;(try dsimp only at H)
       by_cases c13:t27 = true
       ·subst c13;rw [if_pos rfl] at H;replace H:=iN H;obtain ⟨c14,H⟩:=H;have c14b0:decide (0 ≤ x11_1) = true:=decide_eq_true c14;clear c14;replace H:=iN H;obtain ⟨c15,H⟩:=H;have c15b0:decide (x11_1 < (x3_2.length:Int)) = true:=decide_eq_true c15;(try simp only [hl3_1,hl3_2] at c15b0)
        clear c15;obtain ⟨y29,hy29⟩:∃ y_:List Int,y_ = (x3_2.set (x11_1:Int).toNat (wrap64 ((rd x3_2 x11_1) + 1))):=⟨_,rfl⟩;replace H:(impl_votes_swings.l1 k2 y29 x11_1 (y24.length:Int) x11_1 (l0_1.length:Int) (wrap64 (x17_2 + 1)) a0_0 l0_1) = some r:=yR hy29 H;have Ny29:=aM hy29;clear hy29;have H':=aM H;clear H;have hcz17_0:=cz BK23.out 0;have hcz17_1:=cz BK23.out 1;have hfz17_0:=blk_frozen BK23.out 0;have hfz17_1:=blk_frozen BK23.out 1;go_wp2_with (first|((with_reducible refine gate_callee (f:=65) rfl ?_);refine gL 23 Tryz.func65 #[.agg #[.int .i64 a0_0,.slice A0_1 l0_1.length c0_1],.int .i64 x17_2,.int .i64 x11_1] ?_;(with_reducible refine (impl_votes_isSwing.calls a0_0 _ _ l0_1 x17_2 x11_1 true _ ?side1 ?side2 A12.out).mono ?_);(case side1=>exact qcs HR0_1.out HB.out);(case side2=>exact HC0_1.out);rintro e w18 ⟨rfl,hb⟩;refine ⟨_,rfl,?_⟩;replace HO_3:=aM (Kd.R_below (qra HO_3.out) hb);replace BK23:=aM (bB BK23.out hb);replace HB:=aM (below_step bw hb);(try clear hb);(try clear hk);have p28:0 ≤ (x11_1:Int):=of_decide_eq_true ab;have q28:x11_1 < (x3_2.length:Int):=of_decide_eq_true ab;obtain ⟨ad28,e28,hx28_0⟩:=Kd.at_int (Kd.R_reads' HO_3.out).2.2 x11_1 p28 q28;cases e28;replace p28:=eq_true p28;replace q28:=eq_true q28;have p16:0 ≤ (x11_1:Int):=of_decide_eq_true ab;have q16:(x11_1:Int) < ((x3_2.length:Int):Int):=of_decide_eq_true ab;obtain ⟨go16,co16,eo16,gb16,gl16,cl16,HG16⟩:=Kd.R_form HO_3.out (by omega);(first|cases eo16|(injection eo16 with ea_ en_ ec_;(first|subst ea_|(injection ea_ with ea_;subst ea_));subst ec_;clear en_));have GB16:=aM gb16;have GG16:=aM HG16;clear gb16 gl16 HG16;(first|simp only [add_plain] at hx28_0|skip);obtain ⟨hx16_0,hf16_0⟩:=Kd.R_celln 0 HO_3.out (x11_1:Int) p16 q16;replace p16:=eq_true p16;replace q16:=eq_true q16;obtain ⟨hy19_,hz19_⟩:=Kd.R_celln 0 HO_3.out (x11_1:Int) (of_decide_eq_true ab) (of_decide_eq_true ab);have HP19:=Kd.R_putg HO_3.out (x11_1:Int) (wrap64 ((rd x3_2 x11_1) + 1)))|((with_reducible refine gate_store (t:=3) (p:=29) rfl ?_);refine store_event (t:=3) (p:=29) (v:=?vo_w20) (w1:=(w18.setCell ⟨go16,(x11_1:Int).toNat,none⟩ (.int .i64 (wrap64 ((rd x3_2 x11_1) + 1))))) ?hg ?ho ?hn ?hr ?_;(case ho=>rfl);(case hg=>rfl);(case hn=>rfl);(case hr=>first|(go_simp;done)|(go_simp;rfl));intro w20 hw;have hg:w18.grownBy w20 (some go16):=(by rw [hw];exact HP19.2);have hp_:Kd.R (Kd.int .i64) 3 w20 w.heap.size (fun _=>True) (.slice (some ⟨go16,0,none⟩) x3_2.length co8) y29:=(by rw [hw,Ny29.out];exact HP19.1);clear HP19;replace BK23:=aM (blk_grown (g:=gb23) (o:=.cells #[.int .i64 a0_0,.slice A0_1 l0_1.length c0_1] 59 (0,0)) (bk1 BK23.out) hg (Kd.R_ne HO_3.out BK23.out (by decide)));replace HO_3:=aM (hp_);replace HB:=aM ((by rw [hw];exact below_set (HB.out) GB16.out:Below w.heap.size w w20));clear hg hw hp_))
        (try simp only [← hl3_2])
        go_roundg k2
        case measure=>have:=HK1.out;have:=HK2.out;omega
        case rel=>exact ⟨(y29),(wrap64 (x17_2 + 1)),qrs,H',⟨by have:=HK1.out;have:=HK2.out;omega⟩,⟨by (try simp only [hl3_1]);(try simp only [hl3_2]);(with_reducible repeat (first|apply Kd.R_alloc|apply Kd.R_drewN|apply Kd.R_drew));exact HO_3.out⟩,⟨by (try simp only [hl3_1]);(try simp only [hl3_2]);(with_reducible repeat (first|refine blk_drewN ?_ _|refine blk_drew ?_|refine blk_alloc ?_ _));exact BK23.out⟩,⟨by exact bw⟩⟩
       ·replace c13:=Bool.eq_false_iff.mpr c13;subst c13;rw [if_neg (show ¬ (false = true) by decide)] at H;have H':=aM H;clear H;have hcz21_0:=cz BK23.out 0;have hcz21_1:=cz BK23.out 1;have hfz21_0:=blk_frozen BK23.out 0;have hfz21_1:=blk_frozen BK23.out 1;go_wp2_with (first|((with_reducible refine gate_callee (f:=65) rfl ?_);refine gL 23 Tryz.func65 #[.agg #[.int .i64 a0_0,.slice A0_1 l0_1.length c0_1],.int .i64 x17_2,.int .i64 x11_1] ?_;(with_reducible refine (impl_votes_isSwing.calls a0_0 _ _ l0_1 x17_2 x11_1 false _ ?side1 ?side2 A12.out).mono ?_);(case side1=>exact qcs HR0_1.out HB.out);(case side2=>exact HC0_1.out);rintro e w22 ⟨rfl,hb⟩;refine ⟨_,rfl,?_⟩;replace HO_3:=aM (Kd.R_below (qra HO_3.out) hb);replace BK23:=aM (bB BK23.out hb);replace HB:=aM (below_step bw hb);(try clear hb)))
        (try simp only [← hl3_2])
        go_roundg k2
        case measure=>have:=HK1.out;have:=HK2.out;omega
        case rel=>exact ⟨(x3_2),(wrap64 (x17_2 + 1)),qrs,H',⟨by have:=HK1.out;have:=HK2.out;omega⟩,⟨by (try simp only [hl3_1]);(try simp only [hl3_2]);(with_reducible repeat (first|apply Kd.R_alloc|apply Kd.R_drewN|apply Kd.R_drew));exact HO_3.out⟩,⟨by (try simp only [hl3_1]);(try simp only [hl3_2]);(with_reducible repeat (first|refine blk_drewN ?_ _|refine blk_drew ?_|refine blk_alloc ?_ _));exact BK23.out⟩,⟨by exact bw⟩⟩
      ·rw [if_neg c11] at H;have c11b0:=decide_eq_false c11;(try simp only [hl3_1,hl3_2] at c11b0)
       clear c11;have H':=aM H;clear H;go_wp2
       (try simp only [← hl3_1,← hl3_2])
       go_roundg k2
       case measure=>have:=HK1.out;have:=HK2.out;omega
       case rel=>exact ⟨(x3_2),(wrap64 (x11_1 + 1)),qrs,H',⟨by have:=HK1.out;have:=HK2.out;omega⟩,⟨by (try simp only [hl3_1]);(try simp only [hl3_2]);(with_reducible repeat (first|apply Kd.R_alloc|apply Kd.R_drewN|apply Kd.R_drew));exact HO_3.out⟩,⟨by (try simp only [hl3_1]);(try simp only [hl3_2]);(with_reducible repeat (first|refine blk_drewN ?_ _|refine blk_drew ?_|refine blk_alloc ?_ _));exact BK23.out⟩,⟨by exact bw⟩⟩
   ·rw [if_neg c9] at H;have c9b0:=decide_eq_false c9;(try simp only [hl3_1] at c9b0)
    clear c9;obtain rfl:=Option.some.inj H;go_wp2
    go_ret
    exact ⟨_,eE,by (with_reducible repeat (first|apply Kd.R_alloc|apply Kd.R_drewN|apply Kd.R_drew));exact HO_3.out,by exact bw⟩


/-! ### impl_CouncilPowers: function 6 -/
def impl_CouncilPowers.f (k:Nat) (a0_0:Int) (l0_1:List Int) (l1:List (S_impl_Committee)):Option ((List (S_impl_Share)) × Bool):=(impl_AreCouncil.f k a0_0 l0_1 l1).bind fun t2=>(if t2 = true then ((impl_councilVotes.f k a0_0 l0_1 l1).bind fun bt3=>((impl_votes_swings.f k bt3.1 bt3.2).bind fun t4=>((impl_sharesOf.f k t4 (wrap64 ((bt3.2.length:Int) / 2))).bind fun t5=>(some (t5,true))))) else (some (([]:List (S_impl_Share)),false)))
def impl_CouncilPowers.T4:Bool × List (List Nat × List Nat):=(true,[([],[]),([0],[0]),([],[]),([2],[2]),([3],[3]),([4],[4]),([1,5,1],[1,5]),([6,6,0,1,2,3,4,5,6],[6]),([7,0,1,2,3,4,5,6,7],[])])
def impl_CouncilPowers.B4:List Nat:=[0,1,0,4,12,28,63,127,255]
theorem impl_CouncilPowers.tab4:rtab .any (opsOf Tryz.f6 4) = impl_CouncilPowers.T4:=by kernel_rfl
theorem impl_CouncilPowers.bits4:waitsOk impl_CouncilPowers.T4.2 impl_CouncilPowers.B4 = true:=by kernel_rfl
set_option maxHeartbeats 8000000 in
set_option maxRecDepth 100000 in
theorem impl_CouncilPowers.calls (k:Nat) (a0_0:Int) (A0_1:Option Addr) (c0_1:Nat) (l0_1:List Int) (A1:Option Addr) (c1:Nat) (l1:List (S_impl_Committee)) (r1:List (S_impl_Share)) (r2:Bool) (w:World) (hr0_1:Kd.C (Kd.int .i64) w A0_1 l0_1.length l0_1) (hc0_1:l0_1.length ≤ c0_1) (hr1:Kd.C k_impl_Committee w A1 l1.length l1) (hc1:l1.length ≤ c1) (h:impl_CouncilPowers.f k a0_0 l0_1 l1 = some (r1,r2)) :
  Calls Tryz.prog 6 #[.agg #[.int .i64 a0_0,.slice A0_1 l0_1.length c0_1],.slice A1 l1.length c1] w fun e w'=>∃ v0_:Value,e = .returned (.tuple #[v0_,.bool r2]) ∧ Kd.R k_impl_Share 44 w' w.heap.size (fun _=>True) v0_ r1 ∧ Below w.heap.size w w':=by
 have hu24:=Tryz.underlying24;have hu59:=Tryz.underlying59;have HR0_1:=aM hr0_1;have HC0_1:=aM hc0_1;clear hr0_1 hc0_1;have HR1:=aM hr1;have HC1:=aM hc1;clear hr1 hc1;have HB:=aM (Below.refl w.heap.size w);have H:((impl_AreCouncil.f k a0_0 l0_1 l1).bind fun t26=>(if t26 = true then ((impl_councilVotes.f k a0_0 l0_1 l1).bind fun bt27=>((impl_votes_swings.f k bt27.1 bt27.2).bind fun t33=>((impl_sharesOf.f k t33 (wrap64 ((bt27.2.length:Int) / 2))).bind fun t38=>(some (t38,true))))) else (some (([]:List (S_impl_Share)),false)))) = some (r1,r2):=h;clear h;replace H:=oB H;obtain ⟨t26,A3,H⟩:=H;(try dsimp only at H)
 by_cases c4:t26 = true
 ·subst c4;rw [if_pos rfl] at H;replace H:=oB H;obtain ⟨⟨t27,t28⟩,A5,H⟩:=H;(try dsimp only at H)
  replace H:=oB H;obtain ⟨t33,A6,H⟩:=H;(try dsimp only at H)
  replace H:=oB H;obtain ⟨t38,A7,H⟩:=H;(try dsimp only at H)
  simp only [Option.some.injEq,Prod.mk.injEq] at H;obtain ⟨rfl,rfl⟩:=H;go_enter Tryz.func6,Tryz.ntmps6
  try go_wp2_with (first|((with_reducible refine gate_dst (N:=2) rfl ?_);refine bE 2 #[.int .i64 a0_0,.slice A0_1 l0_1.length c0_1] 24 ?_;intro gb25 hg w8 hbox hb;have BK25:=aM (hbox);have GW25:=aM (gS hg);have GE25:=aM (gS hg);replace HB:=aM (below_step bw hb);clear hb hbox hg;have hcz9_0:=cz BK25.out 0;have hcz9_1:=cz BK25.out 1;have hfz9_0:=blk_frozen BK25.out 0;have hfz9_1:=blk_frozen BK25.out 1)|((with_reducible refine gate_callee (f:=12) rfl ?_);refine gL 9 Tryz.func12 #[.agg #[.int .i64 a0_0,.slice A0_1 l0_1.length c0_1],.slice A1 l1.length c1] ?_;(with_reducible refine (impl_AreCouncil.calls k a0_0 _ _ l0_1 _ _ l1 true _ ?side1 ?side2 ?side3 ?side4 A3.out).mono ?_);(case side1=>exact qcs HR0_1.out HB.out);(case side2=>exact HC0_1.out);(case side3=>exact qcs HR1.out HB.out);(case side4=>exact HC1.out);rintro e w10 ⟨rfl,hb⟩;refine ⟨_,rfl,?_⟩;replace BK25:=aM (bB BK25.out hb);replace HB:=aM (below_step bw hb);(try clear hb);have hcz11_0:=cz BK25.out 0;have hcz11_1:=cz BK25.out 1;have hfz11_0:=blk_frozen BK25.out 0;have hfz11_1:=blk_frozen BK25.out 1)|((with_reducible refine gate_callee (f:=29) rfl ?_);refine gL 13 Tryz.func29 #[.agg #[.int .i64 a0_0,.slice A0_1 l0_1.length c0_1],.slice A1 l1.length c1] ?_;(with_reducible refine (impl_councilVotes.calls k a0_0 _ _ l0_1 _ _ l1 t27 t28 _ ?side1 ?side2 ?side3 ?side4 A5.out).mono ?_);(case side1=>exact qcs HR0_1.out HB.out);(case side2=>exact HC0_1.out);(case side3=>exact qcs HR1.out HB.out);(case side4=>exact HC1.out);rintro e w12 ⟨v30,rfl,ho0,hb⟩;refine ⟨_,rfl,?_⟩;have HO31:=aM (Kd.R_lower ho0 (below_size bw));replace BK25:=aM (bB BK25.out hb);replace HB:=aM (below_step bw hb);(try clear hb);(try clear ho0))|((with_reducible refine gate_dst (N:=6) rfl ?_);refine bE 6 #[.int .i64 0,.slice none 0 0] 59 ?_;intro gb32 hg w13 hbox hb;replace HO31:=aM (Kd.R_below (qra HO31.out) hb);have BK32:=aM (hbox);have GW32:=aM (gS hg);have GE32:=aM (gS hg);replace HB:=aM (below_step bw hb);have NB25_32:=aM (nL BK25.out hg);have NB32_25:=aM (nR BK25.out hg);replace BK25:=aM (bB BK25.out hb);clear hb hbox hg;have hnb14:=NB32_25.out;have hnc14:=NB25_32.out;have hcz15_0:=cz BK32.out 0;have hcz15_1:=cz BK32.out 1;have hfz15_0:=blk_frozen BK32.out 0;have hfz15_1:=blk_frozen BK32.out 1;obtain ⟨Ao16,co16,eo16⟩:=Kd.R_slice HO31.out;subst eo16))
  have n0_:Aside0 (Kd.R Kd.bool 4 ((w13.setCell ⟨gb32,0,none⟩ (.int .i64 t27)).setCell ⟨gb32,1,none⟩ (.slice Ao16 t28.length co16)) w.heap.size (fun _=>True) (.slice Ao16 t28.length co16) t28):=⟨by (with_reducible repeat (first|apply Kd.R_alloc|apply Kd.R_drewN|apply Kd.R_drew));exact Kd.R_mono (Kd.R_far (p:=⟨gb32,1,none⟩) (Kd.R_far (p:=⟨gb32,0,none⟩) (Kd.R_types HO31.out BK32.out (by decide)) (fun _ hk=>hk.2) (.int .i64 t27)) (fun _ hk=>hk.2) (.slice Ao16 t28.length co16)) (fun _ hk=>trivial)⟩;have n1_:Aside0 (((w13.setCell ⟨gb32,0,none⟩ (.int .i64 t27)).setCell ⟨gb32,1,none⟩ (.slice Ao16 t28.length co16)).heap[gb25]? = some (.cells #[.int .i64 a0_0,.slice A0_1 l0_1.length c0_1] 24 (0,0))):=⟨by (with_reducible repeat (first|refine blk_drewN ?_ _|refine blk_drew ?_|refine blk_alloc ?_ _));refine blk_far ?_ NB25_32.out _;(with_reducible repeat (first|refine blk_drewN ?_ _|refine blk_drew ?_|refine blk_alloc ?_ _));refine blk_far ?_ NB25_32.out _;(with_reducible repeat (first|refine blk_drewN ?_ _|refine blk_drew ?_|refine blk_alloc ?_ _));exact BK25.out⟩;have n2_:Aside0 (((w13.setCell ⟨gb32,0,none⟩ (.int .i64 t27)).setCell ⟨gb32,1,none⟩ (.slice Ao16 t28.length co16)).heap[gb32]? = some (.cells #[.int .i64 t27,.slice Ao16 t28.length co16] 59 (0,0))):=⟨by (with_reducible repeat (first|refine blk_drewN ?_ _|refine blk_drew ?_|refine blk_alloc ?_ _));refine blk_put (cs:=#[.int .i64 t27,.slice none 0 0]) ?_ 1 _ rfl;(with_reducible repeat (first|refine blk_drewN ?_ _|refine blk_drew ?_|refine blk_alloc ?_ _));refine blk_put (cs:=#[.int .i64 0,.slice none 0 0]) ?_ 0 _ rfl;(with_reducible repeat (first|refine blk_drewN ?_ _|refine blk_drew ?_|refine blk_alloc ?_ _));exact BK32.out⟩;have n3_:Aside0 (Below w.heap.size w ((w13.setCell ⟨gb32,0,none⟩ (.int .i64 t27)).setCell ⟨gb32,1,none⟩ (.slice Ao16 t28.length co16))):=⟨by exact bw⟩;(try clear HO31)
  (try clear BK25)
  (try clear BK32)
  (try clear HB)
  generalize ((w13.setCell ⟨gb32,0,none⟩ (.int .i64 t27)).setCell ⟨gb32,1,none⟩ (.slice Ao16 t28.length co16)) = w17 at n0_ n1_ n2_ n3_ ⊢
  have HO31:=n0_;have BK25:=n1_;have BK32:=n2_;have HB:=n3_;clear n0_ n1_ n2_ n3_;replace HO31:=aM (Kd.R_drew HO31.out);replace BK25:=aM (blk_drew BK25.out);replace BK32:=aM (blk_drew BK32.out);replace HB:=aM (below_drew1 HB.out);refine start_ (n:=9) (S:=fun w'=>w'.cell? ⟨gb32,0,none⟩ = some (.int .i64 t27) ∧ w'.cell? ⟨gb32,1,none⟩ = some (.slice Ao16 t28.length co16)) (ds:=[]) (mA 9 0) kR rfl rfl ⟨(blk_cell BK32.out 0).trans rfl,(blk_cell BK32.out 1).trans rfl⟩ (fun hHeld=>?_);refine with_tabW impl_CouncilPowers.tab4 impl_CouncilPowers.bits4 (fun HT_ HW_=>?_)
  generalize w17.drew = w18 at HO31 BK25 BK32 HB hHeld ⊢
  refine pT 2 16 HT_.out ?_;refine pK 0 14 HT_.out HW_.out hHeld ?_;refine pK 3 17 HT_.out HW_.out hHeld ?_;refine pT 4 18 HT_.out ?_;refine pT 5 19 HT_.out ?_;refine oN 1 (some 15) HT_.out fun K hK=>?_
  refine gC Tryz.func35 #[.agg #[.int .i64 t27,.slice Ao16 t28.length co16]] ?_
  with_reducible refine (impl_votes_swings.calls k t27 _ _ t28 t33 _ ?side1 ?side2 A6.out).mono ?_
  (case side1=>exact qc (Kd.R_reads' HO31.out).2.2)
  (case side2=>exact (Kd.R_reads' HO31.out).2.1)
  rintro e w19 ⟨v36,rfl,ho0,hb⟩
  refine ⟨_,rfl,?_⟩;replace HO31:=aM (Kd.R_below (qra HO31.out) hb);have HO37:=aM (Kd.R_lower ho0 (below_size bw));replace BK25:=aM (bB BK25.out hb);replace BK32:=aM (bB BK32.out hb);replace HB:=aM (below_step bw hb);(try clear hb)
  (try clear hk)
  (try clear ho0)
  obtain ⟨Ao20,co20,eo20⟩:=Kd.R_slice HO37.out;(first|subst eo20|(injection eo20 with f1_ f2_ f3_;have f4_:=f1_.symm;have f5_:=f3_.symm;clear f1_ f2_ f3_;subst f4_;subst f5_))
  refine hK.out _ _ ⟨(blk_cell BK32.out 0).trans rfl,(blk_cell BK32.out 1).trans rfl⟩ (fun hHeld=>?_);clear hK K;refine nM 15 ?_;refine oN 6 (some 20) HT_.out fun K hK=>?_
  refine gC Tryz.func34 #[.slice Ao20 t33.length co20,.int .i64 (wrap64 ((t28.length:Int) / 2))] ?_
  with_reducible refine (impl_sharesOf.calls k _ _ t33 (wrap64 ((t28.length:Int) / 2)) t38 _ ?side1 ?side2 A7.out).mono ?_
  (case side1=>exact qc (Kd.R_reads' HO37.out).2.2)
  (case side2=>exact (Kd.R_reads' HO37.out).2.1)
  rintro e w21 ⟨v39,rfl,ho0,hb⟩
  refine ⟨_,rfl,?_⟩;replace HO31:=aM (Kd.R_below (qra HO31.out) hb);replace HO37:=aM (Kd.R_below (qra HO37.out) hb);have HO40:=aM (Kd.R_lower ho0 (below_size bw));replace BK25:=aM (bB BK25.out hb);replace BK32:=aM (bB BK32.out hb);replace HB:=aM (below_step bw hb);(try clear hb)
  (try clear ho0)
  refine hK.out _ _ ⟨(blk_cell BK32.out 0).trans rfl,(blk_cell BK32.out 1).trans rfl⟩ (fun hHeld=>?_);clear hK K;refine nM 20 ?_;refine pT 7 4 HT_.out ?_;refine pT 8 5 HT_.out ?_;refine done_ (done_of HT_.out kR) ?_
  try go_wp2
  go_ret2
  exact ⟨_,eE,by (with_reducible repeat (first|apply Kd.R_alloc|apply Kd.R_drewN|apply Kd.R_drew));exact HO40.out,by exact bw⟩
 ·replace c4:=Bool.eq_false_iff.mpr c4;subst c4;rw [if_neg (show ¬ (false = true) by decide)] at H;simp only [Option.some.injEq,Prod.mk.injEq] at H;obtain ⟨rfl,rfl⟩:=H;go_enter Tryz.func6,Tryz.ntmps6;go_wp2_with (first|((with_reducible refine gate_dst (N:=2) rfl ?_);refine bE 2 #[.int .i64 a0_0,.slice A0_1 l0_1.length c0_1] 24 ?_;intro gb25 hg w22 hbox hb;have BK25:=aM (hbox);have GW25:=aM (gS hg);have GE25:=aM (gS hg);replace HB:=aM (below_step bw hb);clear hb hbox hg;have hcz23_0:=cz BK25.out 0;have hcz23_1:=cz BK25.out 1;have hfz23_0:=blk_frozen BK25.out 0;have hfz23_1:=blk_frozen BK25.out 1)|((with_reducible refine gate_callee (f:=12) rfl ?_);refine gL 9 Tryz.func12 #[.agg #[.int .i64 a0_0,.slice A0_1 l0_1.length c0_1],.slice A1 l1.length c1] ?_;(with_reducible refine (impl_AreCouncil.calls k a0_0 _ _ l0_1 _ _ l1 false _ ?side1 ?side2 ?side3 ?side4 A3.out).mono ?_);(case side1=>exact qcs HR0_1.out HB.out);(case side2=>exact HC0_1.out);(case side3=>exact qcs HR1.out HB.out);(case side4=>exact HC1.out);rintro e w24 ⟨rfl,hb⟩;refine ⟨_,rfl,?_⟩;replace BK25:=aM (bB BK25.out hb);replace HB:=aM (below_step bw hb);(try clear hb)))
  go_ret2
  exact ⟨_,eE,by first|exact Kd.R_nil _ _ _ _ _|exact Kd.N_nil _ _ _ _ _|exact Kd.V_nil _ _ _ _ _|exact Kd.Q_nil _ _ _ _ _|exact Kd.S_nil _ _ _ _ _,by exact bw⟩


/-! ### spec_pwSwings: function 66 -/
def spec_pwSwings.l0:Nat → List Bool → Int → List Int → List Bool → Int → Int → Option (List Int)
 | 0,_,_,_,_,_,_=>none
 | k + 1,x0,x1,x5,x8,x9,x10=>if x10 < x9 then (if 0 ≤ x10 then (if x10 < (x8.length:Int) then (if 0 ≤ x1 then (if (Int.tmod (shr .i64 x10 x1) 2) = 0 then (if rdOf false x8 x10 = true then (spec_pwSwings.l0 k x0 x1 x5 x8 x9 (wrap64 (x10 + 1))) else (if 0 ≤ (wrap64 (x10 + (shl .i64 1 x1))) then (if (wrap64 (x10 + (shl .i64 1 x1))) < (x0.length:Int) then (if rdOf false x0 (wrap64 (x10 + (shl .i64 1 x1))) = true then (if x5.length < 17592186044416 then (spec_pwSwings.l0 k x0 x1 (x5 ++ [x10]) x8 x9 (wrap64 (x10 + 1))) else (none)) else (spec_pwSwings.l0 k x0 x1 x5 x8 x9 (wrap64 (x10 + 1)))) else (none)) else (none))) else (spec_pwSwings.l0 k x0 x1 x5 x8 x9 (wrap64 (x10 + 1)))) else (none)) else (none)) else (none)) else (some x5)
def spec_pwSwings.f (k:Nat) (l0:List Bool) (a1:Int):Option (List Int):=spec_pwSwings.l0 k l0 a1 ([]:List Int) l0 (l0.length:Int) 0
set_option maxHeartbeats 8000000 in
set_option maxRecDepth 100000 in
theorem spec_pwSwings.calls (k:Nat) (A0:Option Addr) (c0:Nat) (l0:List Bool) (a1:Int) (r:List Int) (w:World) (hr0:Kd.C Kd.bool w A0 l0.length l0) (hc0:l0.length ≤ c0) (h:spec_pwSwings.f k l0 a1 = some r) :
  Calls Tryz.prog 66 #[.slice A0 l0.length c0,.int .i64 a1] w fun e w'=>∃ v0_:Value,e = .returned (v0_) ∧ Kd.R (Kd.int .i64) 3 w' w.heap.size (fun _=>True) v0_ r ∧ Below w.heap.size w w':=by
 have HR0:=aM hr0;have HC0:=aM hc0;clear hr0 hc0;have HB:=aM (Below.refl w.heap.size w);have H:(spec_pwSwings.l0 k l0 a1 ([]:List Int) l0 (l0.length:Int) 0) = some r:=h;clear h;have H':=aM H;clear H;go_enter Tryz.func66,Tryz.ntmps66;go_wp2
 go_loopg [5,10] k (fun kq v5 v10 w'=>∃ (x5_1:List Int) (x10_1:Int),v10 = .int .i64 x10_1 ∧ Aside0 (spec_pwSwings.l0 kq l0 a1 x5_1 l0 (l0.length:Int) x10_1 = some r) ∧ Aside0 (kq ≤ k) ∧ Aside0 (Kd.R (Kd.int .i64) 3 w' w.heap.size (fun _=>True) v5 x5_1) ∧ Aside0 (Below w.heap.size w w'))
 case atStart=>exact ⟨(([]:List Int)),(0),qrs,H',⟨Nat.le_refl _⟩,⟨by first|exact Kd.R_nil _ _ _ _ _|exact Kd.N_nil _ _ _ _ _|exact Kd.V_nil _ _ _ _ _|exact Kd.Q_nil _ _ _ _ _|exact Kd.S_nil _ _ _ _ _⟩,⟨by exact bw⟩⟩
 case round =>
  clear H'
  try clear p2
  obtain ⟨x5_1,x10_1,rfl,HA,HK1,HO_5,HB⟩:=hrel
  cases gk with
  | zero=>exact absurd HA.out (by simp [spec_pwSwings.l0])
  | succ k1 =>
   have H:=HA.out;clear HA;simp only [spec_pwSwings.l0] at H;by_cases c3:x10_1 < (l0.length:Int)
   ·rw [if_pos c3] at H;have c3b0:=decide_eq_true c3;clear c3;replace H:=iN H;obtain ⟨c4,H⟩:=H;have c4b0:decide (0 ≤ x10_1) = true:=decide_eq_true c4;clear c4;replace H:=iN H;obtain ⟨c5,H⟩:=H;have c5b0:decide (x10_1 < (l0.length:Int)) = true:=decide_eq_true c5;clear c5;replace H:=iN H;obtain ⟨c6,H⟩:=H;have c6b0:=eq_true c6;have c6b1:decide (0 ≤ a1) = true:=decide_eq_true c6;clear c6;obtain ⟨ji7,hji7⟩:∃ j_:Int,(shr .i64 x10_1 a1) = j_:=⟨_,rfl⟩;(first|rw [hji7] at H|simp only [hji7] at H)
    have hji7_:(x10_1 / 2 ^ min a1.toNat 64) = ji7:=hji7;have hji7z:a1 ≤ 64 → (x10_1 / 2 ^ a1.toNat) = ji7:=shr_small hji7;by_cases c8:(Int.tmod (ji7) 2) = 0
    ·rw [if_pos c8] at H;have c8b0:((Int.tmod (ji7) 2) == 0) = true:=beq_iff_eq.mpr c8;have c8b1:((Int.tmod (ji7) 2) != 0) = false:=bne_eq_false_iff_eq.mpr c8;clear c8;obtain ⟨bq9,hbq9⟩:∃ b_:Bool,b_ = (rdOf false l0 x10_1):=⟨_,rfl⟩;rw [← hbq9] at H;have Nbq9:=aM hbq9;clear hbq9;by_cases c10:bq9 = true
     ·subst c10;rw [if_pos rfl] at H;have H':=aM H;clear H;have p20:0 ≤ (x10_1:Int):=of_decide_eq_true ab;have q20:x10_1 < (l0.length:Int):=of_decide_eq_true ab;obtain ⟨ad20,e20,hx20_0⟩:=Kd.at_bool HR0.out x10_1 p20 q20;(try rw [← Nbq9.out] at hx20_0)
      cases e20
      replace hx20_0:=(HB.out.cell (World.block_lt_of_cell? w _ hx20_0)).trans hx20_0;replace p20:=eq_true p20;replace q20:=eq_true q20;go_wp2
      go_roundg k1
      case measure=>have:=HK1.out;omega
      case rel=>exact ⟨(x5_1),(wrap64 (x10_1 + 1)),qrs,H',⟨by have:=HK1.out;omega⟩,⟨qra HO_5.out⟩,⟨by exact bw⟩⟩
     ·replace c10:=Bool.eq_false_iff.mpr c10;subst c10;rw [if_neg (show ¬ (false = true) by decide)] at H;have c11b0:=eq_true (of_decide_eq_true ab:0 ≤ a1);obtain ⟨ji12,hji12⟩:∃ j_:Int,(shl .i64 1 a1) = j_:=⟨_,rfl⟩;(first|rw [hji12] at H|simp only [hji12] at H)
      have hji12_:(IntKind.i64.wrap (1 * 2 ^ min a1.toNat 64)) = ji12:=hji12;have hji12z:a1 ≤ 64 → (IntKind.i64.wrap (1 * 2 ^ a1.toNat)) = ji12:=shl_small hji12;have hji12u:(IntKind.i64.wrap (2 ^ min a1.toNat 64)) = ji12:=by have h_:=hji12_;rw [Int.one_mul] at h_;exact h_
      have hji12v:a1 ≤ 64 → (IntKind.i64.wrap (2 ^ a1.toNat)) = ji12:=fun hle_=>by have h_:=hji12z hle_;rw [Int.one_mul] at h_;exact h_
      have hji12y:(wrap64 (1 * 2 ^ min a1.toNat 64)) = ji12:=(i64_w _).symm.trans hji12_;have hji12x:a1 ≤ 64 → (wrap64 (1 * 2 ^ a1.toNat)) = ji12:=fun h_=>(i64_w _).symm.trans (hji12z h_)
      obtain ⟨ji13,hji13⟩:∃ j_:Int,(wrap64 (x10_1 + (ji12))) = j_:=⟨_,rfl⟩;(first|rw [hji13] at H|simp only [hji13] at H)
      have hji13w:(IntKind.i64.wrap (x10_1 + (ji12))) = ji13:=(i64_w _).trans hji13;replace H:=iN H;obtain ⟨c14,H⟩:=H;have c14b0:decide (0 ≤ (ji13)) = true:=decide_eq_true c14;clear c14;replace H:=iN H;obtain ⟨c15,H⟩:=H;have c15b0:decide ((ji13) < (l0.length:Int)) = true:=decide_eq_true c15;clear c15;obtain ⟨bq16,hbq16⟩:∃ b_:Bool,b_ = (rdOf false l0 (ji13)):=⟨_,rfl⟩;rw [← hbq16] at H;have Nbq16:=aM hbq16;clear hbq16;by_cases c17:bq16 = true
      ·subst c17;rw [if_pos rfl] at H;replace H:=iN H;obtain ⟨c18,H⟩:=H;have LMc18:=aM c18;clear c18;obtain ⟨y23,hy23⟩:∃ y_:List Int,y_ = (x5_1 ++ [x10_1]):=⟨_,rfl⟩;replace H:(spec_pwSwings.l0 k1 l0 a1 y23 l0 (l0.length:Int) (wrap64 (x10_1 + 1))) = some r:=yR hy23 H;have Ny23:=aM hy23;clear hy23;have H':=aM H;clear H;have p20:0 ≤ (x10_1:Int):=of_decide_eq_true ab;have q20:x10_1 < (l0.length:Int):=of_decide_eq_true ab;obtain ⟨ad20,e20,hx20_0⟩:=Kd.at_bool HR0.out x10_1 p20 q20;(try rw [← Nbq9.out] at hx20_0)
       (try rw [← Nbq16.out] at hx20_0)
       cases e20
       replace hx20_0:=(HB.out.cell (World.block_lt_of_cell? w _ hx20_0)).trans hx20_0;replace p20:=eq_true p20;replace q20:=eq_true q20;have p21:0 ≤ ((ji13):Int):=of_decide_eq_true ab;have q21:(ji13) < (l0.length:Int):=of_decide_eq_true ab;obtain ⟨ad21,e21,hx21_0⟩:=Kd.at_bool HR0.out (ji13) p21 q21;(try rw [← Nbq9.out] at hx21_0)
       (try rw [← Nbq16.out] at hx21_0)
       obtain rfl:ad20 = ad21:=(by injection e21);replace hx21_0:=(HB.out.cell (World.block_lt_of_cell? w _ hx21_0)).trans hx21_0;replace p21:=eq_true p21;replace q21:=eq_true q21;go_wp2_with (first|((with_reducible refine gate_builtin (b:=.append) (xs:=#[.tmp 33,.tmp 35]) rfl ?_);at_builtin;refine Kd.R_append (Kd.int .i64) (w0:=w) w.heap.size rfl (.tmp 33) (.tmp 35) 22 3 (.int .i64 0) 8 rfl Tryz.underlying22 info3 rfl (by decide) (by omega) u5 x5_1 x10_1 [.int .i64 x10_1] (fun _=>True) (fun _=>False) rfl rfl ?aP (fun _ hk=>hk.elim) ?aF ?aO ?aB ?aS ?aL ?_;(case aP=>exact rfl);(case aB=>exact bw);(case aF=>exact (fun _ _=>trivial));(case aO=>exact (qra HO_5.out));(case aS=>exact (below_size bw));(case aL=>have:=LMc18.out;omega);intro v24 w19 ho hb hg hat;rw [← Ny23.out] at ho;replace HB:=aM (hb);have HO25:=aM (ho);clear HO_5;clear ho hb hg hat))
       go_roundg k1
       case measure=>have:=HK1.out;omega
       case rel=>exact ⟨(y23),(wrap64 (x10_1 + 1)),qrs,H',⟨by have:=HK1.out;omega⟩,⟨qra HO25.out⟩,⟨by exact bw⟩⟩
      ·replace c17:=Bool.eq_false_iff.mpr c17;subst c17;rw [if_neg (show ¬ (false = true) by decide)] at H;have H':=aM H;clear H;have p20:0 ≤ (x10_1:Int):=of_decide_eq_true ab;have q20:x10_1 < (l0.length:Int):=of_decide_eq_true ab;obtain ⟨ad20,e20,hx20_0⟩:=Kd.at_bool HR0.out x10_1 p20 q20;(try rw [← Nbq9.out] at hx20_0)
       (try rw [← Nbq16.out] at hx20_0)
       cases e20
       replace hx20_0:=(HB.out.cell (World.block_lt_of_cell? w _ hx20_0)).trans hx20_0;replace p20:=eq_true p20;replace q20:=eq_true q20;have p21:0 ≤ ((ji13):Int):=of_decide_eq_true ab;have q21:(ji13) < (l0.length:Int):=of_decide_eq_true ab;obtain ⟨ad21,e21,hx21_0⟩:=Kd.at_bool HR0.out (ji13) p21 q21;(try rw [← Nbq9.out] at hx21_0)
       (try rw [← Nbq16.out] at hx21_0)
       obtain rfl:ad20 = ad21:=(by injection e21);replace hx21_0:=(HB.out.cell (World.block_lt_of_cell? w _ hx21_0)).trans hx21_0;replace p21:=eq_true p21;replace q21:=eq_true q21;go_wp2
       go_roundg k1
       case measure=>have:=HK1.out;omega
       case rel=>exact ⟨(x5_1),(wrap64 (x10_1 + 1)),qrs,H',⟨by have:=HK1.out;omega⟩,⟨qra HO_5.out⟩,⟨by exact bw⟩⟩
    ·rw [if_neg c8] at H;have c8b0:((Int.tmod (ji7) 2) == 0) = false:=beq_eq_false_iff_ne.mpr c8;have c8b1:((Int.tmod (ji7) 2) != 0) = true:=bne_iff_ne.mpr c8;have H':=aM H;clear H;have p20:0 ≤ (x10_1:Int):=of_decide_eq_true ab;have q20:x10_1 < (l0.length:Int):=of_decide_eq_true ab;obtain ⟨ad20,e20,hx20_0⟩:=Kd.at_bool HR0.out x10_1 p20 q20;cases e20
     replace hx20_0:=(HB.out.cell (World.block_lt_of_cell? w _ hx20_0)).trans hx20_0;replace p20:=eq_true p20;replace q20:=eq_true q20;go_wp2
     go_roundg k1
     case measure=>have:=HK1.out;omega
     case rel=>exact ⟨(x5_1),(wrap64 (x10_1 + 1)),qrs,H',⟨by have:=HK1.out;omega⟩,⟨qra HO_5.out⟩,⟨by exact bw⟩⟩
   ·rw [if_neg c3] at H;have c3b0:=decide_eq_false c3;clear c3;obtain rfl:=Option.some.inj H;go_wp2
    go_ret
    exact ⟨_,eE,by (with_reducible repeat (first|apply Kd.R_alloc|apply Kd.R_drewN|apply Kd.R_drew));exact HO_5.out,by exact bw⟩

end Go.Proofs.YtidkafljeldokaaGreat.P
