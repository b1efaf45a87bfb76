/- Part 1 of the texts below the law FnQuarrelsToldOfAll. Printed by this session's driver over the kit's printer, but for the hand contracts and the plain laws. -/
import Derived.Below
import Derived.Tactics
import Derived.WalkKit
import Derived.KernelRfl
import Derived.Deep.LoopGhost
import Derived.Shelf.Abstract
import Derived.Lib.SliceRun
import Derived.Test.YtflkfbjmlacgcaaGreatProg
import Derived.Deep.Draws
import Derived.Deep.AppendLies
import Derived.Maps.AppendAt
import Derived.OwnWalk
import Derived.Laws.BytesArg
import Derived.Laws.MakeOwn
import Derived.Laws.OwnMore
import Derived.Deep.OwnRows
import Derived.Lib.ConvBytes
import Derived.Laws.Slices
import Derived.RowKit3
import Derived.Deep.QuietTactic
import Derived.BigQuiet
import Derived.WideLaws
import Derived.Deep.DeepCutAuto
import Derived.Deep.CutBlock
import Derived.Deep.RegionHeld3
import Derived.Laws.Rows
import Derived.Lib.AppendStr
import Derived.ArgAppend
import Derived.Laws.IdiomCopy
import Derived.OrdersHeld
import Derived.Laws.BitsLemmas
import Derived.RowKit
import Derived.Test.YtflkfbjmlacgcaaGreatCFnQuarrelsToldOfAll0
set_option linter.unusedVariables false
set_option linter.unusedSimpArgs false
set_option maxHeartbeats 8000000
set_option maxRecDepth 100000
namespace Go.Proofs.YtflkfbjmlacgcaaGreat.P
open Go.RowKit Go.Proofs.YtflkfbjmlacgcaaGreatW.PrintWords Go.Proofs.YtflkfbjmlacgcaaGreatW.PrintLast Go.Proofs.YtflkfbjmlacgcaaGreatW.PrintMore

theorem all_any {α : Type} (p : α → Bool) (l : List α) : l.all p = !(l.any fun x => !p x) := by
  induction l with
  | nil => rfl
  | cons x l ih => rw [List.all_cons, List.any_cons, ih]; cases p x <;> simp

theorem box_new (w : World) (v : Value) (t : TypeId) : (w.alloc (.cells #[v] t (0, 0))).heap[w.heap.size]? = some (.cells #[v] t (0, 0)) := blk_new w _
theorem box_old {w : World} {g : Nat} {o : Obj} (h : w.heap[g]? = some o) (o' : Obj) : (w.alloc o').heap[g]? = some o := by
  exact (Below.heap_alloc w o' g (blk_lt h)).trans h
theorem box_later {w W : World} {g : Nat} {o : Obj} (h : w.heap[g]? = some o) (hb : Below w.heap.size w W) : W.heap[g]? = some o := (hb.block g (blk_lt h)).trans h
theorem box_cell {w : World} {g : Nat} {t : TypeId} {v : Value} (h : w.heap[g]? = some (.cells #[v] t (0, 0))) : w.cell? ⟨g, 0, none⟩ = some v := (blk_cell h 0).trans rfl

section
variable {P : Program} {ops : Array Oper} {Q : Exit → Act → World → Prop}
theorem gate_fn {o : Oper} {rest : List Oper} {a : Act} {W : World} {t : Tmp} {ao : Array Operand} {ts : Array TypeId} (_ho : o.op = .call { callee := .value (.tmp t), args := ao, argTypes := ts }) (h : wpList P ops Q (o :: rest) a W) : wpList P ops Q (o :: rest) a W := h
theorem run_fn {oi : Oper} {a : Act} {w : World} {g : FuncId} {lb : Array Value} {t : Tmp} {ao : Array Operand} {ts : Array TypeId} (eg : ∀ (args : Array Value) (w : World), (callFunc g args).run P w = .ok (.enter g args) w) (args : Array Value)
    (hop : oi.op = .call { callee := .value (.tmp t), args := ao, argTypes := ts }) (hfn : a.eval (.tmp t) = .func (.func g) #[] lb) (hargs : ao.map a.eval = args) : (execOp a.eval oi).run P w = .ok (.enter g (args ++ lb)) w := by
  unfold execOp
  simp [hop, resolve, Deferred.ofValue, invoke, hfn, hargs, eg]
theorem goesFL_ {rest : List Oper} {oi : Oper} {a : Act} {w : World} (N : Option Tmp) (hd : oi.dst = N) (hg : oi.guard = none) {g : FuncId} {lb : Array Value} {t : Tmp} {ao : Array Operand} {ts : Array TypeId} (eg : ∀ (args : Array Value) (w : World), (callFunc g args).run P w = .ok (.enter g args) w) (args : Array Value)
    (hop : oi.op = .call { callee := .value (.tmp t), args := ao, argTypes := ts }) (hfn : a.eval (.tmp t) = .func (.func g) #[] lb) (hargs : ao.map a.eval = args)
    (h : Calls P g (args ++ lb) w fun e w' => ∃ v, e = .returned v ∧ wpList P ops Q rest (a.put N v) w') : wpList P ops Q (oi :: rest) a w := by
  refine wpList_plain hg fun K hK => ?_
  have hrun := run_fn (w := w) eg args hop hfn hargs
  unfold Oper.wp
  rw [hrun, Oper.upon_enter]
  refine h.mono fun e w'' hh => ?_
  obtain ⟨v, rfl, hk⟩ := hh
  subst hd
  exact hK _ _ hk
theorem goesFr_ {oi : Oper} {N : Option Tmp} {a : Act} {w : World} {K : Act → World → Prop} {g : FuncId} {lb : Array Value} {t : Tmp} {ao : Array Operand} {ts : Array TypeId} (eg : ∀ (args : Array Value) (w : World), (callFunc g args).run P w = .ok (.enter g args) w) (args : Array Value)
    (hw : Region.wanted oi (yielded ops a.tmps) = true) (hN : oi.dst = N) (hop : oi.op = .call { callee := .value (.tmp t), args := ao, argTypes := ts }) (hfn : a.eval (.tmp t) = .func (.func g) #[] lb) (hargs : ao.map a.eval = args)
    (h : Calls P g (args ++ lb) w fun e w' => ∃ v, e = .returned v ∧ K (a.put N v) w') : if Region.wanted oi (yielded ops a.tmps) = true then Oper.wp P oi a w K Q else K (a.put N undef) w :=
  call_ g (args ++ lb) hw hN (run_fn eg args hop hfn hargs) h
end
theorem S_split {α : Type} {d : Kd α} {e : Nat} {W w1 : World} {v : Value} {xs : List α} (h : Kd.S d e w1 W.heap.size (fun _ => True) v xs) : ∃ n, n = W.heap.size ∧ Kd.S d e w1 W.heap.size (fun k_ => n ≤ k_) v xs := ⟨_, rfl, Kd.S_mono (Kd.S_bound h) (fun _ hk => hk.2.1)⟩
theorem S_elderN {α : Type} {d : Kd α} {e base n : Nat} {ok : Nat → Prop} {W w1 : World} {u : Value} {xs : List α} (h : Kd.S d e W base ok u xs) (hb : Below W.heap.size W w1) (hn : n = W.heap.size) : Kd.S d e w1 base (fun k_ => ok k_ ∧ k_ < n) u xs := by subst hn; exact Kd.S_old h hb
theorem drop_cons {α : Type} (l : List α) (d : α) (i : Nat) (h : i < l.length) : l.drop i = l.getD i d :: l.drop (i + 1) := by
  rw [List.drop_eq_getElem_cons h, List.getD_eq_getElem?_getD, List.getElem?_eq_getElem h]; rfl

theorem iN {p : Prop} [Decidable p] {α : Type} {x : Option α} {r : α} (H : (if p then x else none) = some r) : p ∧ x = some r := by
  by_cases h : p
  · rw [if_pos h] at H; exact ⟨h, H⟩
  · rw [if_neg h] at H; cases H
theorem iM {p : Prop} [Decidable p] {α : Type} {x : Option α} {r : α} (H : (if p then none else x) = some r) : ¬ p ∧ x = some r := by
  by_cases h : p
  · rw [if_pos h] at H; cases H
  · rw [if_neg h] at H; exact ⟨h, H⟩
theorem dN {p : Prop} [Decidable p] {x y : Option Bool} {r : Bool} (H : (if p then x else y) = some r) (hr : r = true) (hy : ¬ y = some true := by simp) : p ∧ x = some r := by
  subst hr
  by_cases h : p
  · rw [if_pos h] at H; exact ⟨h, H⟩
  · rw [if_neg h] at H; exact absurd H hy
theorem dM {p : Prop} [Decidable p] {x y : Option Bool} {r : Bool} (H : (if p then y else x) = some r) (hr : r = true) (hy : ¬ y = some true := by simp) : ¬ p ∧ x = some r := by
  subst hr
  by_cases h : p
  · rw [if_pos h] at H; exact absurd H hy
  · rw [if_neg h] at H; exact ⟨h, H⟩

/-- Short names of the printed walks' own searches: each is proved by its own default. -/
theorem bw {p : Prop} (h : p := by repeat (first | (with_reducible first | exact Aside0.out (by assumption) | apply below_alloc | apply pw_below_drewN | apply below_drew1 | refine below_set ?_ (Aside0.out (by assumption))) | exact Aside0.out (by assumption))) : p := h
theorem bk {p : Prop} (h : p := by (with_reducible repeat (first | refine blk_drewN ?_ _ | refine blk_drew ?_ | refine blk_alloc ?_ _)); exact Aside0.out (by assumption)) : p := h
theorem mq {p : Prop} (h : p := by (try simp only [List.map_toArray, List.map_cons, List.map_nil]); first | done | rfl | (simp only [List.length_drop, List.length_take]; rfl)) : p := h
theorem ab {p : Prop} (h : p := by first | (with_reducible assumption) | assumption) : p := h
theorem sA {α : Type _} (l : List α) (i : Nat) (a : α) : l.toArray.setIfInBounds i a = (l.set i a).toArray := List.setIfInBounds_toArray ..
theorem sZ {α : Type _} {x : α} {xs : List α} {a : α} : (x :: xs).set 0 a = a :: xs := rfl
theorem sS {α : Type _} {x : α} {xs : List α} {i : Nat} {a : α} : (x :: xs).set (i + 1) a = x :: xs.set i a := rfl
theorem qra {p q : Prop} (h : p) (hh : p → q := by intro h; (with_reducible repeat (first | apply Kd.R_alloc | apply Kd.R_drewN | apply Kd.R_drew)); exact h) : q := hh h
theorem qsa {p q : Prop} (h : p) (hh : p → q := by intro h; (with_reducible repeat (first | apply Kd.S_alloc | apply Kd.S_drewN | apply Kd.S_drew)); exact h) : q := hh h
theorem qcs {p r q : Prop} (h : p) (b : r) (hh : p → r → q := by intro h b; repeat (first | exact (Kd.C_below h b) | (with_reducible refine Kd.C_alloc ?_ _) | (with_reducible refine Kd.C_drewN ?_ _) | (with_reducible refine Kd.C_drew ?_))) : q := hh h b
theorem qrs {p : Prop} (h : p := by first | rfl | (simp; done) | (simp [*]; done)) : p := h
/-- What has come up in a region, by a number's bits. -/
def mbits : Nat → Nat → List Bool
  | 0, _ => []
  | n + 1, k => (k % 2 == 1) :: mbits n (k / 2)
def mA (n k : Nat) : Array Bool := (mbits n k).toArray
theorem aM {p : Prop} (h : p) : Aside0 p := ⟨h⟩
theorem kR {p : Prop} (h : p := by kernel_rfl) : p := h
section
variable {P : Program} {md : Region.Mode} {ops : Array Oper} {Q : Exit → Act → World → Prop} {S : World → Prop} {ds : List Nat} {T : Bool × List (List Nat × List Nat)} {n k fuel : Nat} {oi : Oper} {v : Value} {a a' : Act} {w : World}
/-- A step of a drawing region that yields in every world. -/
theorem pT (i N : Nat) (hT : rtab md ops = T) (h : wpAnyLast P md ops Q S ds fuel (mA n (k + 2 ^ i)) a' w) (hi : ops[i]? = some oi := by rfl) (hN : oi.dst = some N := by rfl) (hc : anyT T (mA n k).toList (mA n (k + 2 ^ i)).toList i = true := by kernel_rfl)
    (hQ : ∀ c a w, Q (.panic c) (a.put oi.dst v) w → Q (.panic c) a w := by intro _ _ _ h; exact h) (hy : Yields P ops oi v a := by refine Or.inl ⟨by rfl, ?_⟩; intro w'; go_simp; with_reducible rfl)
    (ha : a.put (some N) v = a' := by simp only [Act.put, sA, sZ, sS, i64_w, i32_w]; rfl) : wpAnyLast P md ops Q S ds (fuel + 1) (mA n k) a w := pure_ (mA n (k + 2 ^ i)) hi hN (any_of hT hc) hQ hy ha h
theorem pU (i N : Nat) (hT : rtab md ops = T) (h : wpAnyLast P md ops Q S ds fuel (mA n (k + 2 ^ i)) a' w) (hi : ops[i]? = some oi := by rfl) (hN : oi.dst = some N := by rfl) (hc : anyT T (mA n k).toList (mA n (k + 2 ^ i)).toList i = true := by kernel_rfl)
    (hQ : ∀ c a w, Q (.panic c) (a.put oi.dst undef) w → Q (.panic c) a w := by intro _ _ _ h; exact h) (hy : Yields P ops oi undef a := by exact Or.inr ⟨by rfl, rfl⟩)
    (ha : a.put (some N) undef = a' := by simp only [Act.put, sA, sZ, sS, i64_w, i32_w]; rfl) : wpAnyLast P md ops Q S ds (fuel + 1) (mA n k) a w := pure_ (mA n (k + 2 ^ i)) hi hN (any_of hT hc) hQ hy ha h
end
theorem cz {w : World} {g : Nat} {cs : Array Value} {t : TypeId} {v : Value} (h : w.heap[g]? = some (.cells cs t (0, 0))) (i : Nat) (hv : cs[i]? = some v := by rfl) : w.cell? ⟨g, i, none⟩ = some v := (blk_cell h i).trans hv
theorem bB {w0 w w1 : World} {g : Nat} {o : Obj} (h : w0.heap[g]? = some o) (hb : Below w.heap.size w w1) (e : w0.heap[g]? = some o → w.heap[g]? = some o := by intro h; (with_reducible repeat (first | refine blk_drewN ?_ _ | refine blk_drew ?_ | refine blk_alloc ?_ _)); exact h) : w1.heap[g]? = some o := blk_below (e h) hb
theorem gS {w W : World} {g : Nat} (hg : g = W.heap.size) (h : Below w.heap.size w W := by repeat (first | (with_reducible first | exact Aside0.out (by assumption) | apply below_alloc | apply pw_below_drewN | apply below_drew1 | refine below_set ?_ (Aside0.out (by assumption))) | exact Aside0.out (by assumption))) : w.heap.size ≤ g := by rw [hg]; exact below_size h
theorem qc {p q : Prop} (h : p) (hh : p → q := by intro h; repeat (first | exact h | (with_reducible refine Kd.C_alloc ?_ _) | (with_reducible refine Kd.C_drewN ?_ _) | (with_reducible refine Kd.C_drew ?_))) : q := hh h
theorem eE {p : Prop} (h : p := by first | rfl | (simp [errW_none, errW_some] <;> rfl) | (simp [*, errW_none, errW_some] <;> rfl)) : p := h
section
variable {P : Program} {ops : Array Oper} {rest : List Oper} {o : Oper} {a : Act} {Q : Exit → Act → World → Prop}
theorem bE {W : World} (N : Nat) (cs : Array Value) (t : TypeId) (h : ∀ g, g = W.heap.size → ∀ w1, w1.heap[g]? = some (.cells cs t (0, 0)) → Below W.heap.size W w1 → wpList P ops Q rest (a.put o.dst (.pointer (some ⟨g, 0, none⟩))) w1) (hgd : o.guard = none := by rfl) (hd : o.dst = some N := by rfl)
    (hrun : (execOp a.eval o).run P W = .ok (.value (.pointer (some ⟨W.heap.size, 0, none⟩))) (W.alloc (.cells cs t (0, 0))) := by first | (go_simp; done) | (go_simp; rfl)) : wpList P ops Q (o :: rest) a W := box_event hgd hd hrun h
end
theorem yR {p q r : Prop} (hy : p) (H : q) (h : p → q → r := by intro hy_ H; first | (rw [hy_]; with_reducible exact H) | (have H2_ := (Option.bind_some _ _).symm.trans H; rw [hy_]; with_reducible exact H2_) | (have H2_ := (Option.bind_some _ _).symm.trans H; with_reducible exact H2_) | with_reducible exact H | (rw [hy_]; exact H) | exact H) : r := h hy H
theorem nL {w W : World} {g gb : Nat} {o : Obj} (h : w.heap[g]? = some o) (hg : gb = W.heap.size) (e : w.heap[g]? = some o → W.heap[g]? = some o := by intro h; (with_reducible repeat (first | refine blk_drewN ?_ _ | refine blk_drew ?_ | refine blk_alloc ?_ _)); exact h) : g ≠ gb := by rw [hg]; exact Nat.ne_of_lt (blk_lt (e h))
theorem nR {w W : World} {g gb : Nat} {o : Obj} (h : w.heap[g]? = some o) (hg : gb = W.heap.size) (e : w.heap[g]? = some o → W.heap[g]? = some o := by intro h; (with_reducible repeat (first | refine blk_drewN ?_ _ | refine blk_drew ?_ | refine blk_alloc ?_ _)); exact h) : gb ≠ g := by rw [hg]; exact Nat.ne_of_gt (blk_lt (e h))
theorem dR {p : Prop} (h : p := by repeat (first | exact Drawn0.refl _ | apply Drawn0.step)) : p := h
theorem dW {p : Prop} (h : p := by first | exact ⟨rfl, _, World.drewN_drewN _ _ _⟩ | exact ⟨rfl, _, Eq.trans (World.drewN_drewN _ _ _) (congrArg (World.drewN _) (Nat.add_assoc _ _ _))⟩) : p := h
theorem oB {α β : Type} {x : Option α} {f : α → Option β} {r : β} (H : x.bind f = some r) : ∃ a, Aside0 (x = some a) ∧ f a = some r := by
  obtain ⟨a, h, H⟩ := Option.bind_eq_some_iff.mp H
  exact ⟨a, ⟨h⟩, H⟩
theorem bk1 {p q : Prop} (h : p) (e : p → q := by intro h; (with_reducible repeat (first | refine blk_drewN ?_ _ | refine blk_drew ?_ | refine blk_alloc ?_ _)); exact h) : q := e h
section
variable {P : Program} {md : Region.Mode} {ops : Array Oper} {Q : Exit → Act → World → Prop} {S : World → Prop} {ds B : List Nat} {T : Bool × List (List Nat × List Nat)} {n k fuel : Nat} {oi : Oper} {v : Value} {a a' : Act} {w : World} {N : Option Tmp} {f : FuncId} {fn : Func} {ao : Array Operand} {ts : Array TypeId}
theorem pK (i N : Nat) (hT : rtab md ops = T) (hB : waitsOk T.2 B = true) (hS : S w) (h : wpAnyLast P md ops Q S ds fuel (mA n (k + 2 ^ i)) a' w) (hi : ops[i]? = some oi := by rfl) (hN : oi.dst = some N := by rfl) (hc : takeW T B ds (mA n k).toList (mA n (k + 2 ^ i)).toList i = true := by kernel_rfl)
    (hQ : ∀ c a w, Q (.panic c) (a.put oi.dst v) w → Q (.panic c) a w := by intro _ _ _ h; exact h) (hy : YieldsIf P ops S oi v a := by refine Or.inl ⟨by rfl, ?_⟩; intro w' s0; go_simp; with_reducible rfl)
    (ha : a.put (some N) v = a' := by simp only [Act.put, sA, sZ, sS, i64_w, i32_w]; rfl) : wpAnyLast P md ops Q S ds (fuel + 1) (mA n k) a w := take_ (mA n (k + 2 ^ i)) hi hN (take_ofW hT hB hc) hQ hy hS ha h
theorem oN (i : Nat) (N : Option Tmp) (hT : rtab md ops = T) (h : ∀ K : Act → World → Prop, Shut (∀ a' w', S w' → (S w' → wpAnyLast P md ops Q S ds fuel (mA n (k + 2 ^ i)) a' w') → K a' w') → if Region.wanted oi (yielded ops a.tmps) = true then Oper.wp P oi a w K Q else K (a.put N undef) w) (hi : ops[i]? = some oi := by rfl) (hN : oi.dst = N := by rfl)
    (hc : (readyT T.2 (mA n k).toList == [i] && (mA n k).toList.set i true == (mA n (k + 2 ^ i)).toList) = true := by kernel_rfl) (hd : i ∉ ds := by decide) : wpAnyLast P md ops Q S ds (fuel + 1) (mA n k) a w := one_ (mA n (k + 2 ^ i)) hi hN (one_of hT hc) hd h
theorem gC {K : Act → World → Prop} (hf : P.funcs[f]? = some fn) (args : Array Value) (h : Calls P f args w fun e w' => ∃ v, e = .returned v ∧ K (a.put N v) w') (hop : oi.op = .call { callee := .value (.func f), args := ao, argTypes := ts } := by rfl) (hname : (fn.name == "runtime.NumGoroutine") = false := by kernel_rfl) (hb : fn.body.isSome = true := by rfl) (hw : Region.wanted oi (yielded ops a.tmps) = true := by rfl) (hN : oi.dst = N := by rfl)
    (hargs : ao.map a.eval = args := by (try simp only [List.map_toArray, List.map_cons, List.map_nil]); first | done | rfl | (simp only [List.length_drop, List.length_take]; rfl)) : if Region.wanted oi (yielded ops a.tmps) = true then Oper.wp P oi a w K Q else K (a.put N undef) w := goes_ hf hname hb args hw hN hop hargs h
theorem gL (N : Nat) {rest : List Oper} (hf : P.funcs[f]? = some fn) (args : Array Value) (h : Calls P f args w fun e w' => ∃ v, e = .returned v ∧ wpList P ops Q rest (a.put (some N) v) w') (hd : oi.dst = some N := by rfl) (hg : oi.guard = none := by rfl) (hop : oi.op = .call { callee := .value (.func f), args := ao, argTypes := ts } := by rfl) (hname : (fn.name == "runtime.NumGoroutine") = false := by kernel_rfl) (hb : fn.body.isSome = true := by rfl)
    (hargs : ao.map a.eval = args := by (try simp only [List.map_toArray, List.map_cons, List.map_nil]); first | done | rfl | (simp only [List.length_drop, List.length_take]; rfl)) : wpList P ops Q (oi :: rest) a w := goesL_ (some N) hd hg hf hname hb args hop hargs h
end
section
variable {w W : World} {n k g i j l : Nat} {t : TypeId} {cs ds cs' : Array Value} {a b c : Value}
theorem sF1 (hW : w.setCell ⟨k, i, none⟩ a = W) (h : w.heap[g]? = some (.cells cs t (0, 0))) (hn : g ≠ k) : W.heap[g]? = some (.cells cs t (0, 0)) := hW ▸ blk_far h hn _
theorem sF2 (hW : (w.setCell ⟨k, i, none⟩ a).setCell ⟨k, j, none⟩ b = W) (h : w.heap[g]? = some (.cells cs t (0, 0))) (hn : g ≠ k) : W.heap[g]? = some (.cells cs t (0, 0)) := hW ▸ blk_far (blk_far h hn _) hn _
theorem sP1 (hW : w.setCell ⟨k, i, none⟩ a = W) (h : w.heap[k]? = some (.cells cs t (0, 0))) (e : cs.setIfInBounds i a = cs' := by simp only [sA, sZ, sS]; rfl) : W.heap[k]? = some (.cells cs' t (0, 0)) := hW ▸ blk_put h i a e
theorem sP2 (hW : (w.setCell ⟨k, i, none⟩ a).setCell ⟨k, j, none⟩ b = W) (h : w.heap[k]? = some (.cells cs t (0, 0))) (e : (cs.setIfInBounds i a).setIfInBounds j b = cs' := by simp only [sA, sZ, sS]; rfl) : W.heap[k]? = some (.cells cs' t (0, 0)) := hW ▸ blk_put (blk_put h i a rfl) j b e
theorem sB1 (hW : w.setCell ⟨k, i, none⟩ a = W) {v : World} (h : Below v.heap.size v w) (hg : v.heap.size ≤ k := by exact Aside0.out (by assumption)) : Below v.heap.size v W := hW ▸ below_set h hg
theorem sB2 (hW : (w.setCell ⟨k, i, none⟩ a).setCell ⟨k, j, none⟩ b = W) {v : World} (h : Below v.heap.size v w) (hg : v.heap.size ≤ k := by exact Aside0.out (by assumption)) : Below v.heap.size v W := hW ▸ below_set (below_set h hg) hg
end
section
variable {P : Program} {md : Region.Mode} {ops : Array Oper} {Q : Exit → Act → World → Prop} {S : World → Prop} {ds : List Nat} {fuel : Nat} {l : Array Bool} {a a' : Act} {w : World} {v : Value}
theorem nM (N : Nat) (h : wpAnyLast P md ops Q S ds fuel l a' w) (ha : a.put (some N) v = a' := by simp only [Act.put, sA, sZ, sS, i64_w, i32_w]; rfl) : wpAnyLast P md ops Q S ds fuel l (a.put (some N) v) w := norm_ ha h
end
theorem bF {p q r : Prop} (h : p) (n : r) (e : p → r → q := by intro h n; repeat (first | exact h | refine blk_far ?_ n _ | (with_reducible first | refine blk_drewN ?_ _ | refine blk_drew ?_ | refine blk_alloc ?_ _))) : q := e h n
theorem qna {p q : Prop} (h : p) (hh : p → q := by intro h; (with_reducible repeat (first | apply Kd.N_alloc | apply Kd.N_drewN | apply Kd.N_drew)); exact h) : q := hh h
theorem qva {p q : Prop} (h : p) (hh : p → q := by intro h; (with_reducible repeat (first | apply Kd.V_alloc | apply Kd.V_drewN | apply Kd.V_drew)); exact h) : q := hh h
section
variable {α : Type} {d : Kd α} {e base g t : Nat} {W w w1 w0 : World} {ok : Nat → Prop} {v u0 u1 : Value} {xs : List α} {cs : Array Value} {q : Prop} {o : Obj} {row : Option Nat}
/-- A row behind two stores into a box that is none of its blocks. -/
theorem fN (h : Kd.N d e W base ok v xs) (hn : ∀ k, ok k → k ≠ g) (E : Kd.N d e ((W.setCell ⟨g, 0, none⟩ u0).setCell ⟨g, 1, none⟩ u1) base ok v xs → q := by intro h; (with_reducible repeat (first | apply Kd.N_alloc | apply Kd.N_drewN | apply Kd.N_drew)); exact h) : q := E (Kd.N_far (p := ⟨g, 1, none⟩) (Kd.N_far (p := ⟨g, 0, none⟩) h hn u0) hn u1)
theorem fR (h : d.R e W base ok v xs) (hn : ∀ k, ok k → k ≠ g) (E : d.R e ((W.setCell ⟨g, 0, none⟩ u0).setCell ⟨g, 1, none⟩ u1) base ok v xs → q := by intro h; (with_reducible repeat (first | apply Kd.R_alloc | apply Kd.R_drewN | apply Kd.R_drew)); exact h) : q := E (Kd.R_far (p := ⟨g, 1, none⟩) (Kd.R_far (p := ⟨g, 0, none⟩) h hn u0) hn u1)
theorem fS (h : Kd.S d e W base ok v xs) (hn : ∀ k, ok k → k ≠ g) (E : Kd.S d e ((W.setCell ⟨g, 0, none⟩ u0).setCell ⟨g, 1, none⟩ u1) base ok v xs → q := by intro h; (with_reducible repeat (first | apply Kd.S_alloc | apply Kd.S_drewN | apply Kd.S_drew)); exact h) : q := E (Kd.S_far (p := ⟨g, 1, none⟩) (Kd.S_far (p := ⟨g, 0, none⟩) h hn u0) hn u1)
theorem tR (h : d.R e W base ok v xs) (hb : W.heap[g]? = some (.cells cs t (0, 0))) (E : d.R e ((W.setCell ⟨g, 0, none⟩ u0).setCell ⟨g, 1, none⟩ u1) base ok v xs → q := by intro h; (with_reducible repeat (first | apply Kd.R_alloc | apply Kd.R_drewN | apply Kd.R_drew)); exact h) (ht : ∀ q, q ∈ e :: d.E → q ≠ t := by decide) : q := E (Kd.R_mono (Kd.R_far (p := ⟨g, 1, none⟩) (Kd.R_far (p := ⟨g, 0, none⟩) (Kd.R_types h hb ht) (fun _ hk => hk.2) u0) (fun _ hk => hk.2) u1) (fun _ h_ => h_.1))
theorem tS (h : Kd.S d e W base ok v xs) (hb : W.heap[g]? = some (.cells cs t (0, 0))) (E : Kd.S d e ((W.setCell ⟨g, 0, none⟩ u0).setCell ⟨g, 1, none⟩ u1) base ok v xs → q := by intro h; (with_reducible repeat (first | apply Kd.S_alloc | apply Kd.S_drewN | apply Kd.S_drew)); exact h) (ht : ∀ q, q ∈ e :: d.E → q ≠ t := by decide) : q := E (Kd.S_mono (Kd.S_far (p := ⟨g, 1, none⟩) (Kd.S_far (p := ⟨g, 0, none⟩) (Kd.S_types h hb ht) (fun _ hk => hk.2) u0) (fun _ hk => hk.2) u1) (fun _ h_ => h_.1))
theorem cj {p q : Prop} (h : p) (e : p → q := by intro hk; simp only [hk, ne_eq, not_false_eq_true, and_self]) : q := e h
theorem bG {r : Prop} (h : w0.heap[g]? = some o) (n : r) (hb : Below w.heap.size w w1) (E : w0.heap[g]? = some o → r → w.heap[g]? = some o := by intro h n; repeat (first | exact h | refine blk_far ?_ n _ | (with_reducible first | refine blk_drewN ?_ _ | refine blk_drew ?_ | refine blk_alloc ?_ _))) : w1.heap[g]? = some o := blk_below (E h n) hb
theorem bH (h : w0.heap[g]? = some o) (hg : w.grownBy w1 row) (hne : some g ≠ row) (E : w0.heap[g]? = some o → w.heap[g]? = some o := by intro h; (with_reducible repeat (first | refine blk_drewN ?_ _ | refine blk_drew ?_ | refine blk_alloc ?_ _)); exact h) : w1.heap[g]? = some o := blk_grown (E h) hg hne
theorem bPp {x y : Value} (h : W.heap[g]? = some (.cells #[x, y] t (0, 0))) : ((W.setCell ⟨g, 0, none⟩ u0).setCell ⟨g, 1, none⟩ u1).heap[g]? = some (.cells #[u0, u1] t (0, 0)) := blk_put (cs' := #[u0, u1]) (blk_put (cs' := #[u0, y]) h 0 u0 rfl) 1 u1 rfl
theorem bP {x y : Value} (h : w0.heap[g]? = some (.cells #[x, y] t (0, 0))) (hb : Below w.heap.size w w1) (E : w0.heap[g]? = some (.cells #[x, y] t (0, 0)) → w.heap[g]? = some (.cells #[u0, u1] t (0, 0)) := by intro h; (with_reducible repeat (first | refine blk_drewN ?_ _ | refine blk_drew ?_ | refine blk_alloc ?_ _)); exact bPp h) : w1.heap[g]? = some (.cells #[u0, u1] t (0, 0)) := blk_below (E h) hb
end
end Go.Proofs.YtflkfbjmlacgcaaGreat.P

namespace Go.Proofs.YtflkfbjmlacgcaaGreat.P
open Go.RowKit Go.Proofs.YtflkfbjmlacgcaaGreatW.PrintWords Go.Proofs.YtflkfbjmlacgcaaGreatW.PrintLast Go.Proofs.YtflkfbjmlacgcaaGreatW.PrintMore
attribute [local go_sem] max2_int min2_int max_two min_two max_three min_three max_four min_four   -- for this text's walks alone
set_option linter.unusedVariables false
set_option linter.unusedSimpArgs false



def errW : Option Int → Value
  | none => .nilIface
  | some c => .iface 0 (.int .i64 c)
theorem errW_none : errW none = .nilIface := rfl
theorem errW_some (c : Int) : errW (some c) = .iface 0 (.int .i64 c) := rfl

theorem info3 : (Tryz.prog.info? 3).map (fun i => (i.zero, i.size, i.bytes)) = some (some (.int .i64 0), 1, 8) := by kernel_rfl
theorem info4 : (Tryz.prog.info? 4).map (fun i => (i.zero, i.size, i.bytes)) = some (some (.bool false), 1, 1) := by kernel_rfl
-- the values' own types
def rd_LI (xs : List (List Int)) (i : Int) : (List Int) := xs.getD i.toNat ([] : List Int)
theorem at_LI {w : World} {A : Option Addr} {n : Nat} {xs : List (List Int)} (h : Kd.C (Kd.slice 3 (Kd.int .i64)) w A n xs) (i : Int) (h0 : 0 ≤ i) (h1 : i < n) : ∃ ad A0 c0, A = some ad ∧ w.cell? (ad.add i.toNat) = some (.slice A0 (rd_LI xs i).length c0) ∧ (rd_LI xs i).length ≤ c0 ∧ (Kd.int .i64).C w A0 (rd_LI xs i).length (rd_LI xs i) := by
  obtain ⟨ad, c, e, _, hK, hc0⟩ := Kd.C_get h ([] : List Int) i h0 h1
  have hc : ∀ j u, c[j]? = some u → w.cell? (ad.add (i.toNat * 1 + j)) = some u := hc0
  obtain ⟨A0, c0, rfl, l0, g0⟩ := hK
  exact ⟨ad, A0, c0, e, by have hq := hc 0 _ rfl; rwa [Nat.mul_one, Nat.add_zero] at hq, l0, g0⟩

structure S_impl_Committee where
  f0 : Int
  f1 : (List Int)
def z_impl_Committee : S_impl_Committee := ⟨(0 : Int), ([] : List Int)⟩
def k_impl_Committee : Kd S_impl_Committee := Kd.iso (Kd.pair (Kd.int .i64) (Kd.slice 3 (Kd.int .i64))) (fun x : S_impl_Committee => (x.f0, x.f1))
theorem k_impl_Committee_open {w : World} {x : S_impl_Committee} {cs : List Value} (h : k_impl_Committee.K w x cs) : ∃ A1 c1, cs = [.int .i64 x.f0, .slice A1 x.f1.length c1] ∧ x.f1.length ≤ c1 ∧ (Kd.int .i64).C w A1 x.f1.length x.f1 := by
  obtain ⟨_, _, rfl, rfl, ⟨A1, c1, rfl, l1, g1⟩⟩ := h
  exact ⟨A1, c1, rfl, l1, g1⟩
theorem k_impl_Committee_openM {w : World} {base : Nat} {ok : Nat → Prop} {x : S_impl_Committee} {cs : List Value} (h : k_impl_Committee.M w base ok x cs) : ∃ v1, cs = [.int .i64 x.f0, v1] ∧ (Kd.int .i64).R 3 w base ok v1 x.f1 := by
  obtain ⟨_, _, rfl, rfl, ⟨v1, rfl, g1⟩⟩ := h
  exact ⟨v1, rfl, g1⟩
theorem k_impl_Committee_mk (w : World) (x : S_impl_Committee) {A1 : Option Addr} {c1 : Nat} (l1 : x.f1.length ≤ c1) (g1 : (Kd.int .i64).C w A1 x.f1.length x.f1) : k_impl_Committee.K w x [.int .i64 x.f0, .slice A1 x.f1.length c1] := ⟨[.int .i64 x.f0], [.slice A1 x.f1.length c1], rfl, rfl, ⟨A1, c1, rfl, l1, g1⟩⟩
theorem k_impl_Committee_mkM (w : World) (base : Nat) (ok : Nat → Prop) (x : S_impl_Committee) {v1 : Value} (g1 : (Kd.int .i64).R 3 w base ok v1 x.f1) : k_impl_Committee.M w base ok x [.int .i64 x.f0, v1] := ⟨[.int .i64 x.f0], [v1], rfl, rfl, ⟨v1, rfl, g1⟩⟩
def rd_impl_Committee (xs : List S_impl_Committee) (i : Int) : S_impl_Committee := xs.getD i.toNat z_impl_Committee
theorem at_impl_Committee {w : World} {A : Option Addr} {n : Nat} {xs : List S_impl_Committee} (h : Kd.C k_impl_Committee w A n xs) (i : Int) (h0 : 0 ≤ i) (h1 : i < n) : ∃ ad A1 c1, A = some ad ∧ w.cell? (ad.add (i.toNat * 2)) = some (.int .i64 (rd_impl_Committee xs i).f0) ∧ w.cell? ⟨(ad.add (i.toNat * 2)).block, (ad.add (i.toNat * 2)).off + 1, none⟩ = some (.slice A1 (rd_impl_Committee xs i).f1.length c1) ∧ (rd_impl_Committee xs i).f1.length ≤ c1 ∧ (Kd.int .i64).C w A1 (rd_impl_Committee xs i).f1.length (rd_impl_Committee xs i).f1 := by
  obtain ⟨ad, c, e, _, hK, hc0⟩ := Kd.C_get h z_impl_Committee i h0 h1
  have hc : ∀ j u, c[j]? = some u → w.cell? (ad.add (i.toNat * 2 + j)) = some u := hc0
  obtain ⟨A1, c1, rfl, l1, g1⟩ := k_impl_Committee_open hK
  exact ⟨ad, A1, c1, e, hc 0 _ rfl, by rw [← add_field _ _ 1 (by omega)]; exact hc 1 _ rfl, l1, g1⟩


def impl_votesOf.l0:Nat → (Int → Option (Bool)) → Int → Int → Int → List Bool → Option (Int × List Bool)
 | 0,_,_,_,_,_=>none
 | k + 1,x1,x14,x15,x3,x4=>if x15 < x14 then ((x1 x15).bind fun t2=>(if 0 ≤ x15 then (if x15 < (x4.length:Int) then (impl_votesOf.l0 k x1 x14 (wrap64 (x15 + 1)) x3 (x4.set (x15:Int).toNat t2)) else (none)) else (none))) else (some (x3,x4))
def impl_votesOf.f (k:Nat) (a0:Int) (a1:(Int → Option (Bool))):Option (Int × List Bool):=if 0 ≤ a0 then (if 0 ≤ (shl .i64 1 a0) then (if (shl .i64 1 a0:Int).toNat ≤ 281474976710656 then ((some (List.replicate (shl .i64 1 a0:Int).toNat false:List Bool)).bind fun y2=>(impl_votesOf.l0 k a1 (y2.length:Int) 0 a0 y2)) else (none)) else (none)) else (none)
def impl_votesOf.T5:Bool × List (List Nat × List Nat):=(true,[([],[]),([0],[0]),([],[]),([],[]),([],[]),([3,4],[3,4]),([1,2,0,1,2,3,4,5],[1,2]),([6,5,5,0,1,2,3,4,5],[5,6])])
def impl_votesOf.B5:List Nat:=[0,1,0,0,0,24,63,127]
theorem impl_votesOf.tab5:rtab .any (opsOf Tryz.f63 5) = impl_votesOf.T5:=by kernel_rfl
theorem impl_votesOf.bits5:waitsOk impl_votesOf.T5.2 impl_votesOf.B5 = true:=by kernel_rfl
theorem impl_votesOf.calls (k:Nat) (a0:Int) (a1:(Int → Option (Bool))) (g1_:Nat) (lb1_:Array Value) (eg1_:∀ (args:Array Value) (w:World),(callFunc g1_ args).run Tryz.prog w = .ok (.enter g1_ args) w) (r1:Int) (r2:List Bool) (w:World) (hp1:∀ (W:World) (b0_:Int) (r0_:Bool),a1 b0_ = some r0_ → Below w.heap.size w W → Calls Tryz.prog g1_ (#[.int .i64 b0_] ++ lb1_) W fun e w'=>e = .returned (.bool r0_) ∧ Below W.heap.size W w') (h:impl_votesOf.f k a0 a1 = some (r1,r2)) :
  Calls Tryz.prog 63 #[.int .i64 a0,.func (.func g1_) #[] lb1_] w fun e w'=>∃ v1_:Value,e = .returned (.agg #[.int .i64 r1,v1_]) ∧ Kd.R Kd.bool 4 w' w.heap.size (fun _=>True) v1_ r2 ∧ Below w.heap.size w w':=by
 have hu40:=Tryz.underlying40;have HP1:=aM hp1;clear hp1;have HB:=aM (Below.refl w.heap.size w);have H:(if 0 ≤ a0 then (if 0 ≤ (shl .i64 1 a0) then (if (shl .i64 1 a0:Int).toNat ≤ 281474976710656 then ((some (List.replicate (shl .i64 1 a0:Int).toNat false:List Bool)).bind fun y27=>(impl_votesOf.l0 k a1 (y27.length:Int) 0 a0 y27)) else (none)) else (none)) else (none)) = some (r1,r2):=h;clear h;replace H:=iN H;obtain ⟨c3,H⟩:=H;have c3b0:=eq_true c3;have c3b1:decide (0 ≤ a0) = true:=decide_eq_true c3;clear c3;obtain ⟨ji4,hji4⟩:∃ j_:Int,(shl .i64 1 a0) = j_:=⟨_,rfl⟩;(first|rw [hji4] at H|simp only [hji4] at H)
 have hji4_:(IntKind.i64.wrap (1 * 2 ^ min a0.toNat 64)) = ji4:=hji4;have hji4z:a0 ≤ 64 → (IntKind.i64.wrap (1 * 2 ^ a0.toNat)) = ji4:=shl_small hji4;have hji4u:(IntKind.i64.wrap (2 ^ min a0.toNat 64)) = ji4:=by have h_:=hji4_;rw [Int.one_mul] at h_;exact h_
 have hji4v:a0 ≤ 64 → (IntKind.i64.wrap (2 ^ a0.toNat)) = ji4:=fun hle_=>by have h_:=hji4z hle_;rw [Int.one_mul] at h_;exact h_
 have hji4y:(wrap64 (1 * 2 ^ min a0.toNat 64)) = ji4:=(i64_w _).symm.trans hji4_;have hji4x:a0 ≤ 64 → (wrap64 (1 * 2 ^ a0.toNat)) = ji4:=fun h_=>(i64_w _).symm.trans (hji4z h_)
 replace H:=iN H;obtain ⟨c5,H⟩:=H;have c5b0:=eq_true c5;have c5b1:decide (0 ≤ (ji4)) = true:=decide_eq_true c5;clear c5;replace H:=iN H;obtain ⟨c6,H⟩:=H;have c6b0:=eq_true c6;have c6b1:decide ((ji4:Int).toNat ≤ 281474976710656) = true:=decide_eq_true c6;clear c6;obtain ⟨y27,hy27⟩:∃ y_:List Bool,y_ = (List.replicate (ji4:Int).toNat false):=⟨_,rfl⟩;replace H:(impl_votesOf.l0 k a1 (y27.length:Int) 0 a0 y27) = some (r1,r2):=yR hy27 H;have Ny27:=aM hy27;clear hy27;have H':=aM H;clear H;go_enter Tryz.func63,Tryz.ntmps63;go_wp2_with (first|((with_reducible refine gate_dst (N:=4) rfl ?_);refine bE 4 #[.int .i64 0,.slice none 0 0] 40 ?_;intro gb26 hg w7 hbox hb;have BK26:=aM (hbox);have GW26:=aM (gS hg);have GE26:=aM (gS hg);replace HB:=aM (below_step bw hb);clear hb hbox hg)|((with_reducible refine gate_dst (N:=10) rfl ?_);refine Kd.R_make Kd.bool _ 4 rfl (N:=10) rfl 38 _ _ rfl ji4 rfl rfl Tryz.underlying38 (.bool false) 1 info4 rfl (by decide) (by omega) false (ok:=fun _=>True) (okp:=fun _=>True) rfl (fun _ hk=>hk) trivial (of_decide_eq_true ab) (Nat.le_trans (Nat.mul_le_mul_right _ (of_decide_eq_true ab:ji4.toNat ≤ 281474976710656)) (by omega)) (Below.refl _ _) (Nat.le_refl _) ?_;intro v28 w8 ho9 hb hg_ hnew_;clear hg_ hnew_;(first|rw [← Ny27.out] at ho9|(simp only [Int.reduceToNat] at ho9;rw [← Ny27.out] at ho9));have HO29:=aM (Kd.R_lower ho9 (below_size bw));replace BK26:=aM (bB BK26.out hb);replace HB:=aM (below_step bw hb);clear hb ho9;obtain ⟨Ao10,co10,eo10⟩:=Kd.R_slice HO29.out;subst eo10)|((with_reducible refine gate_dst (N:=5) rfl ?_);refine bE 5 #[.int .i64 0,.slice none 0 0] 40 ?_;intro gb30 hg w11 hbox hb;replace HO29:=aM (Kd.R_below (qra HO29.out) hb);have BK30:=aM (hbox);have GW30:=aM (gS hg);have GE30:=aM (gS hg);replace HB:=aM (below_step bw hb);have NB26_30:=aM (nL BK26.out hg);have NB30_26:=aM (nR BK26.out hg);replace BK26:=aM (bB BK26.out hb);clear hb hbox hg;have hnb12:=NB30_26.out;have hnc12:=NB26_30.out;have hcz13_0:=cz BK30.out 0;have hcz13_1:=cz BK30.out 1;have hfz13_0:=blk_frozen BK30.out 0;have hfz13_1:=blk_frozen BK30.out 1))
 go_loopg [15] k (fun kq v15 w'=>∃ (x15_1:Int) (x33_1:List Bool) (u33:Value),v15 = .int .i64 x15_1 ∧ Aside0 (impl_votesOf.l0 kq a1 (y27.length:Int) x15_1 a0 x33_1 = some (r1,r2)) ∧ Aside0 (kq ≤ k) ∧ Aside0 (Kd.R Kd.bool 4 w' w.heap.size (fun _=>True) u33 x33_1) ∧ Aside0 (w'.heap[gb26]? = some (.cells #[.int .i64 0,(.slice none 0 0)] 40 (0,0))) ∧ Aside0 (w'.heap[gb30]? = some (.cells #[.int .i64 a0,u33] 40 (0,0))) ∧ Aside0 (Below w.heap.size w w'))
 case atStart=>exact ⟨(0),(y27),(.slice Ao10 y27.length co10),qrs,H',⟨Nat.le_refl _⟩,⟨by (with_reducible repeat (first|apply Kd.R_alloc|apply Kd.R_drewN|apply Kd.R_drew));exact Kd.R_mono (Kd.R_far (p:=⟨gb30,1,none⟩) (Kd.R_far (p:=⟨gb30,0,none⟩) (Kd.R_types HO29.out BK30.out (by decide)) (fun _ hk=>hk.2) (.int .i64 a0)) (fun _ hk=>hk.2) (.slice Ao10 y27.length co10)) (fun _ hk=>trivial)⟩,⟨bF BK26.out NB26_30.out⟩,⟨by (with_reducible repeat (first|refine blk_drewN ?_ _|refine blk_drew ?_|refine blk_alloc ?_ _));refine blk_put (cs:=#[.int .i64 a0,.slice none 0 0]) ?_ 1 _ rfl;(with_reducible repeat (first|refine blk_drewN ?_ _|refine blk_drew ?_|refine blk_alloc ?_ _));refine blk_put (cs:=#[.int .i64 0,.slice none 0 0]) ?_ 0 _ rfl;(with_reducible repeat (first|refine blk_drewN ?_ _|refine blk_drew ?_|refine blk_alloc ?_ _));exact BK30.out⟩,⟨by exact bw⟩⟩
 case round =>
  clear H';(try clear c3);(try clear c3b0);(try clear c3b1);(try clear c5);(try clear c5b0);(try clear c5b1);(try clear c6);(try clear c6b0);(try clear c6b1);(try clear hcz13_0);(try clear hcz13_1);(try clear hfz13_0);(try clear hfz13_1)
  obtain ⟨x15_1,x33_1,u33,rfl,HA,HK1,HO_33,BK26,BK30,HB⟩:=hrel
  cases gk with
  | zero=>exact absurd HA.out (by simp [impl_votesOf.l0])
  | succ k1 =>
   have H:=HA.out;clear HA;simp only [impl_votesOf.l0] at H;by_cases c14:x15_1 < (y27.length:Int)
   ·rw [if_pos c14] at H;have c14b0:=decide_eq_true c14;clear c14;replace H:=oB H;obtain ⟨t31,A15,H⟩:=H;(try dsimp only at H)
    replace H:=iN H;obtain ⟨c16,H⟩:=H;have c16b0:decide (0 ≤ x15_1) = true:=decide_eq_true c16;clear c16;replace H:=iN H;obtain ⟨c17,H⟩:=H;have c17b0:decide (x15_1 < (x33_1.length:Int)) = true:=decide_eq_true c17;clear c17;obtain ⟨y32,hy32⟩:∃ y_:List Bool,y_ = (x33_1.set (x15_1:Int).toNat t31):=⟨_,rfl⟩;replace H:(impl_votesOf.l0 k1 a1 (y27.length:Int) (wrap64 (x15_1 + 1)) a0 y32) = some (r1,r2):=yR hy32 H;have Ny32:=aM hy32;clear hy32;have H':=aM H;clear H
    try go_wp2
    replace HO_33:=aM (Kd.R_drew HO_33.out);replace BK26:=aM (blk_drew BK26.out);replace BK30:=aM (blk_drew BK30.out);replace HB:=aM (below_drew1 HB.out);refine start_ (n:=8) (S:=fun w'=>w'.cell? ⟨gb30,0,none⟩ = some (.int .i64 a0) ∧ w'.cell? ⟨gb30,1,none⟩ = some (u33)) (ds:=[7]) (mA 8 0) kR rfl rfl ⟨(blk_cell BK30.out 0).trans rfl,(blk_cell BK30.out 1).trans rfl⟩ (fun hHeld=>?_);refine with_tabW impl_votesOf.tab5 impl_votesOf.bits5 (fun HT_ HW_=>?_)
    generalize wr.drew = w19 at HO_33 BK26 BK30 HB hHeld ⊢
    refine pT 0 18 HT_.out ?_;refine pT 2 20 HT_.out ?_;refine pT 3 21 HT_.out ?_;refine pT 4 22 HT_.out ?_;refine pK 1 19 HT_.out HW_.out hHeld ?_;refine oN 5 (some 23) HT_.out fun K hK=>?_
    refine goesFr_ eg1_ #[.int .i64 x15_1] (by rfl) rfl rfl (by rfl) mq ?_
    with_reducible refine (HP1.out _ x15_1 t31 A15.out ?side1).mono ?_
    (case side1=>exact bw)
    rintro e w20 ⟨rfl,hb⟩
    refine ⟨_,rfl,?_⟩;replace HO_33:=aM (Kd.R_below (qra HO_33.out) hb);replace BK26:=aM (bB BK26.out hb);replace BK30:=aM (bB BK30.out hb);replace HB:=aM (below_step bw hb);(try clear hb)
    (try clear hk)
    have p18:0 ≤ (x15_1:Int):=of_decide_eq_true ab;have q18:(x15_1:Int) < ((x33_1.length:Int):Int):=of_decide_eq_true ab;obtain ⟨go18,co18,eo18,gb18,gl18,cl18,HG18⟩:=Kd.R_form HO_33.out (by omega);(first|cases eo18|(injection eo18 with ea_ en_ ec_;(first|subst ea_|(injection ea_ with ea_;subst ea_));subst ec_;clear en_))
    have GB18:=aM gb18;have GG18:=aM HG18;clear gb18 gl18 HG18;obtain ⟨hx18_0,hf18_0⟩:=Kd.R_celln false HO_33.out (x15_1:Int) p18 q18;replace p18:=eq_true p18;replace q18:=eq_true q18;have HP21:=Kd.R_putn HO_33.out (x15_1:Int) t31;rw [← Ny32.out] at HP21;have HQ21:=aM HP21;clear HP21;refine hK.out _ _ ⟨(blk_cell BK30.out 0).trans rfl,(blk_cell BK30.out 1).trans rfl⟩ (fun hHeld=>?_);clear hK K;refine nM 23 ?_;refine pT 6 24 HT_.out ?_;refine last_ (i:=7) (N:=none) (mA 8 255) rfl rfl (one_of HT_.out kR) (by decide) (fun K hK=>?_);refine skip_ (w1:=?_) (by rfl) rfl ?_ ?_;rotate_left
    ·go_simp
     rfl
    refine hK.out _ _ ?_;clear hK K;refine done_ (done_of HT_.out kR) ?_
    try go_wp2
    go_roundg k1
    case measure=>have:=HK1.out;omega
    case rel=>exact ⟨(wrap64 (x15_1 + 1)),(y32),(.slice (some ⟨go18,0,none⟩) x33_1.length co18),qrs,H',⟨by have:=HK1.out;omega⟩,⟨qra HQ21.out⟩,⟨by (with_reducible repeat (first|refine blk_drewN ?_ _|refine blk_drew ?_|refine blk_alloc ?_ _));refine blk_far ?_ (by have h_:=Kd.R_ne HO_33.out BK26.out (by decide);intro e_;exact h_ (by rw [e_];rfl)) _;(with_reducible repeat (first|refine blk_drewN ?_ _|refine blk_drew ?_|refine blk_alloc ?_ _));exact BK26.out⟩,⟨by (with_reducible repeat (first|refine blk_drewN ?_ _|refine blk_drew ?_|refine blk_alloc ?_ _));refine blk_far ?_ (by have h_:=Kd.R_ne HO_33.out BK30.out (by decide);intro e_;exact h_ (by rw [e_];rfl)) _;(with_reducible repeat (first|refine blk_drewN ?_ _|refine blk_drew ?_|refine blk_alloc ?_ _));exact BK30.out⟩,⟨by repeat (first|(with_reducible first|exact HB.out|apply below_alloc|apply pw_below_drewN|apply below_drew1|refine below_set ?_ GB18.out|refine below_set ?_ GE26.out|refine below_set ?_ GE30.out)|exact HB.out)⟩⟩
   ·rw [if_neg c14] at H;have c14b0:=decide_eq_false c14;clear c14;simp only [Option.some.injEq,Prod.mk.injEq] at H;obtain ⟨rfl,rfl⟩:=H;have hnb22:=NB30_26.out;have hnc22:=NB26_30.out;have hcz23_0:=cz BK30.out 0;have hcz23_1:=cz BK30.out 1;have hfz23_0:=blk_frozen BK30.out 0;have hfz23_1:=blk_frozen BK30.out 1;have hcz24_0:=cz BK26.out 0;have hcz24_1:=cz BK26.out 1;have hfz24_0:=blk_frozen BK26.out 0;have hfz24_1:=blk_frozen BK26.out 1;obtain ⟨Ao25,co25,eo25⟩:=Kd.R_slice HO_33.out;subst eo25;go_wp2
    refine bodyPost_ret (results_cell_row rfl _ _ gb26 40 #[.int .i64 a0,.slice Ao25 x33_1.length co25] (0,0) _ rfl (by (with_reducible repeat (first|refine blk_drewN ?_ _|refine blk_drew ?_|refine blk_alloc ?_ _));refine blk_put (cs:=#[.int .i64 a0,.slice none 0 0]) ?_ 1 _ rfl;(with_reducible repeat (first|refine blk_drewN ?_ _|refine blk_drew ?_|refine blk_alloc ?_ _));refine blk_put (cs:=#[.int .i64 0,.slice none 0 0]) ?_ 0 _ rfl;(with_reducible repeat (first|refine blk_drewN ?_ _|refine blk_drew ?_|refine blk_alloc ?_ _));exact BK26.out) Tryz.underlying40 rfl kR) rfl ?_;exact ⟨_,by first|rfl|(simp [errW_none,errW_some] <;> rfl)|(simp only [← hji4];first|rfl|(simp [errW_none,errW_some] <;> rfl))|(simp [*,errW_none,errW_some] <;> rfl),by (with_reducible repeat (first|apply Kd.R_alloc|apply Kd.R_drewN|apply Kd.R_drew));exact Kd.R_mono (Kd.R_far (p:=⟨gb26,1,none⟩) (Kd.R_far (p:=⟨gb26,0,none⟩) (Kd.R_types HO_33.out BK26.out (by decide)) (fun _ hk=>hk.2) (.int .i64 a0)) (fun _ hk=>hk.2) (.slice Ao25 x33_1.length co25)) (fun _ hk=>trivial),by exact bw⟩


def impl_has.f (a0:Int) (a1:Int):Option (Bool):=if 0 ≤ a1 then (some ((Go.bits .and .i64 (shr .i64 a0 a1) 1) == 1)) else (none)
theorem impl_has.calls (a0:Int) (a1:Int) (r:Bool) (w:World) (h:impl_has.f a0 a1 = some r) :
  Calls Tryz.prog 65 #[.int .i64 a0,.int .i64 a1] w fun e w'=>e = .returned (.bool r) ∧ Drawn0 w w':=by
 have H:(if 0 ≤ a1 then (some ((Go.bits .and .i64 (shr .i64 a0 a1) 1) == 1)) else (none)) = some r:=h;clear h;replace H:=iN H;obtain ⟨c3,H⟩:=H;have c3b0:=eq_true c3;have c3b1:decide (0 ≤ a1) = true:=decide_eq_true c3;clear c3;obtain ⟨ji4,hji4⟩:∃ j_:Int,(shr .i64 a0 a1) = j_:=⟨_,rfl⟩;(first|rw [hji4] at H|simp only [hji4] at H)
 have hji4_:(a0 / 2 ^ min a1.toNat 64) = ji4:=hji4;have hji4z:a1 ≤ 64 → (a0 / 2 ^ a1.toNat) = ji4:=shr_small hji4;obtain rfl:=Option.some.inj H;go_enter Tryz.func65,Tryz.ntmps65;go_wp2
 go_ret
 exact ⟨by first|rfl|(simp;done)|(simp only [← hji4] <;> (first|rfl|simp))|(simp [*];done),by repeat (first|exact Drawn0.refl _|apply Drawn0.step)⟩


def impl_Committee_weight.l0:Nat → Int → Int → List Int → Int → Int → Option (Int)
 | 0,_,_,_,_,_=>none
 | k + 1,x1,x5,x9,x10,x11=>if x11 < x10 then (if 0 ≤ x11 then (if x11 < (x9.length:Int) then ((impl_has.f x1 x11).bind fun t2=>(if t2 = true then (impl_Committee_weight.l0 k x1 (wrap64 (x5 + (rd x9 x11))) x9 x10 (wrap64 (x11 + 1))) else (impl_Committee_weight.l0 k x1 x5 x9 x10 (wrap64 (x11 + 1))))) else (none)) else (none)) else (some x5)
def impl_Committee_weight.f (k:Nat) (a0_0:Int) (l0_1:List Int) (a1:Int):Option (Int):=impl_Committee_weight.l0 k a1 0 l0_1 (l0_1.length:Int) 0
theorem impl_Committee_weight.calls (k:Nat) (a0_0:Int) (A0_1:Option Addr) (c0_1:Nat) (l0_1:List Int) (a1:Int) (r:Int) (w:World) (hr0_1:Kd.C (Kd.int .i64) w A0_1 l0_1.length l0_1) (hc0_1:l0_1.length ≤ c0_1) (h:impl_Committee_weight.f k a0_0 l0_1 a1 = some r) :
  Calls Tryz.prog 36 #[.agg #[.int .i64 a0_0,.slice A0_1 l0_1.length c0_1],.int .i64 a1] w fun e w'=>e = .returned (.int .i64 r) ∧ Below w.heap.size w w':=by
 have hu24:=Tryz.underlying24;have HR0_1:=aM hr0_1;have HC0_1:=aM hc0_1;clear hr0_1 hc0_1;have HB:=aM (Below.refl w.heap.size w);have H:(impl_Committee_weight.l0 k a1 0 l0_1 (l0_1.length:Int) 0) = some r:=h;clear h;have H':=aM H;clear H;go_enter Tryz.func36,Tryz.ntmps36;go_wp2_with (first|((with_reducible refine gate_dst (N:=2) rfl ?_);refine bE 2 #[.int .i64 a0_0,.slice A0_1 l0_1.length c0_1] 24 ?_;intro gb10 hg w3 hbox hb;have BK10:=aM (hbox);have GW10:=aM (gS hg);have GE10:=aM (gS hg);replace HB:=aM (below_step bw hb);clear hb hbox hg;have hcz4_0:=cz BK10.out 0;have hcz4_1:=cz BK10.out 1;have hfz4_0:=blk_frozen BK10.out 0;have hfz4_1:=blk_frozen BK10.out 1))
 go_loopg [5,11] k (fun kq v5 v11 w'=>∃ (x5_1:Int) (x11_1:Int),v5 = .int .i64 x5_1 ∧ v11 = .int .i64 x11_1 ∧ Aside0 (impl_Committee_weight.l0 kq a1 x5_1 l0_1 (l0_1.length:Int) x11_1 = some r) ∧ Aside0 (kq ≤ k) ∧ Aside0 (w'.heap[gb10]? = some (.cells #[.int .i64 a0_0,(.slice A0_1 l0_1.length c0_1)] 24 (0,0))) ∧ Aside0 (Below w.heap.size w w'))
 case atStart=>exact ⟨(0),(0),qrs,qrs,H',⟨Nat.le_refl _⟩,⟨bk1 BK10.out⟩,⟨by exact bw⟩⟩
 case round =>
  clear H';(try clear hcz4_0);(try clear hcz4_1);(try clear hfz4_0);(try clear hfz4_1)
  obtain ⟨x5_1,x11_1,rfl,rfl,HA,HK1,BK10,HB⟩:=hrel
  cases gk with
  | zero=>exact absurd HA.out (by simp [impl_Committee_weight.l0])
  | succ k1 =>
   have H:=HA.out;clear HA;simp only [impl_Committee_weight.l0] at H;by_cases c5:x11_1 < (l0_1.length:Int)
   ·rw [if_pos c5] at H;have c5b0:=decide_eq_true c5;clear c5;replace H:=iN H;obtain ⟨c6,H⟩:=H;have c6b0:decide (0 ≤ x11_1) = true:=decide_eq_true c6;clear c6;replace H:=iN H;obtain ⟨c7,H⟩:=H;have c7b0:decide (x11_1 < (l0_1.length:Int)) = true:=decide_eq_true c7;clear c7;replace H:=oB H;obtain ⟨t13,A8,H⟩:=H;(try dsimp only at H)
    by_cases c9:t13 = true
    ·subst c9;rw [if_pos rfl] at H;have H':=aM H;clear H;have p12:0 ≤ (x11_1:Int):=of_decide_eq_true ab;have q12:x11_1 < (l0_1.length:Int):=of_decide_eq_true ab;obtain ⟨ad12,e12,hx12_0⟩:=Kd.at_int HR0_1.out x11_1 p12 q12;cases e12
     replace hx12_0:=(HB.out.cell (World.block_lt_of_cell? w _ hx12_0)).trans hx12_0;replace p12:=eq_true p12;replace q12:=eq_true q12;go_wp2_with (first|((with_reducible refine gate_callee (f:=65) rfl ?_);refine gL 18 Tryz.func65 #[.int .i64 a1,.int .i64 x11_1] ?_;(with_reducible refine (impl_has.calls a1 x11_1 true _ A8.out).mono ?_);rintro e w' ⟨rfl,⟨nd,rfl⟩⟩;refine ⟨_,rfl,?_⟩))
     go_roundg k1
     case measure=>have:=HK1.out;omega
     case rel=>exact ⟨(wrap64 (x5_1 + (rd l0_1 x11_1))),(wrap64 (x11_1 + 1)),qrs,qrs,H',⟨by have:=HK1.out;omega⟩,⟨bk1 BK10.out⟩,⟨by exact bw⟩⟩
    ·replace c9:=Bool.eq_false_iff.mpr c9;subst c9;rw [if_neg (show ¬ (false = true) by decide)] at H;have H':=aM H;clear H;have p12:0 ≤ (x11_1:Int):=of_decide_eq_true ab;have q12:x11_1 < (l0_1.length:Int):=of_decide_eq_true ab;obtain ⟨ad12,e12,hx12_0⟩:=Kd.at_int HR0_1.out x11_1 p12 q12;cases e12
     replace hx12_0:=(HB.out.cell (World.block_lt_of_cell? w _ hx12_0)).trans hx12_0;replace p12:=eq_true p12;replace q12:=eq_true q12;go_wp2_with (first|((with_reducible refine gate_callee (f:=65) rfl ?_);refine gL 18 Tryz.func65 #[.int .i64 a1,.int .i64 x11_1] ?_;(with_reducible refine (impl_has.calls a1 x11_1 false _ A8.out).mono ?_);rintro e w' ⟨rfl,⟨nd,rfl⟩⟩;refine ⟨_,rfl,?_⟩))
     go_roundg k1
     case measure=>have:=HK1.out;omega
     case rel=>exact ⟨(x5_1),(wrap64 (x11_1 + 1)),qrs,qrs,H',⟨by have:=HK1.out;omega⟩,⟨bk1 BK10.out⟩,⟨by exact bw⟩⟩
   ·rw [if_neg c5] at H;have c5b0:=decide_eq_false c5;clear c5;obtain rfl:=Option.some.inj H;go_wp2
    go_ret
    exact ⟨eE,by exact bw⟩


def impl_Committee_votes_1.f (k:Nat) (a0:Int) (a1_0:Int) (l1_1:List Int):Option (Bool):=(impl_Committee_weight.f k a1_0 l1_1 a0).bind fun t2=>(some (decide (t2 ≥ a1_0)))
theorem impl_Committee_votes_1.calls (k:Nat) (a0:Int) (gc1:Nat) (a1_0:Int) (A1_1:Option Addr) (c1_1:Nat) (l1_1:List Int) (r:Bool) (w:World) (hr1_1:Kd.C (Kd.int .i64) w A1_1 l1_1.length l1_1) (hc1_1:l1_1.length ≤ c1_1) (hb1:w.heap[gc1]? = some (.cells #[.int .i64 a1_0,.slice A1_1 l1_1.length c1_1] 24 (0,0))) (h:impl_Committee_votes_1.f k a0 a1_0 l1_1 = some r) :
  Calls Tryz.prog 68 #[.int .i64 a0,.pointer (some ⟨gc1,0,none⟩)] w fun e w'=>e = .returned (.bool r) ∧ Below w.heap.size w w':=by
 have hu24:=Tryz.underlying24;have HR1_1:=aM hr1_1;have HC1_1:=aM hc1_1;clear hr1_1 hc1_1;have BK1:=aM hb1;clear hb1;have HB:=aM (Below.refl w.heap.size w);have H:((impl_Committee_weight.f k a1_0 l1_1 a0).bind fun t6=>(some (decide (t6 ≥ a1_0)))) = some r:=h;clear h;replace H:=oB H;obtain ⟨t6,A3,H⟩:=H;(try dsimp only at H)
 obtain rfl:=Option.some.inj H;go_enter Tryz.func68,Tryz.ntmps68
 try go_wp2
 replace BK1:=aM (blk_drew BK1.out);replace HB:=aM (below_drew1 HB.out);refine start_ (n:=7) (S:=fun w'=>w'.cell? ⟨gc1,0,none⟩ = some (.int .i64 a1_0) ∧ w'.cell? ⟨gc1,1,none⟩ = some (.slice A1_1 l1_1.length c1_1)) (ds:=[]) (mA 7 0) kR rfl rfl ⟨(blk_cell BK1.out 0).trans rfl,(blk_cell BK1.out 1).trans rfl⟩ (fun hHeld=>?_);generalize w.drew = w4 at BK1 HB hHeld ⊢
 refine pure_ (i:=1) (N:=some 5) (v:=?_) (a':=?_) (mA 7 2) rfl rfl kR (fun _ _ _ h=>h) (Or.inl ⟨by rfl,?_⟩) ?_ ?_;rotate_left
 ·intro w';go_simp
  with_reducible rfl
 rotate_left
 ·simp only [Act.put,sA,sZ,sS,i64_w,i32_w];rfl
 refine pure_ (i:=3) (N:=some 7) (v:=?_) (a':=?_) (mA 7 10) rfl rfl kR (fun _ _ _ h=>h) (Or.inl ⟨by rfl,?_⟩) ?_ ?_;rotate_left
 ·intro w';go_simp
  with_reducible rfl
 rotate_left
 ·simp only [Act.put,sA,sZ,sS,i64_w,i32_w];rfl
 refine take_ (i:=0) (N:=some 4) (v:=?_) (a':=?_) (mA 7 11) rfl rfl kR (fun _ _ _ h=>h) (Or.inl ⟨by rfl,?_⟩) hHeld ?_ ?_;rotate_left
 ·rintro w' ⟨s0,s1⟩
  go_simp
  with_reducible rfl
 rotate_left
 ·simp only [Act.put,sA,sZ,sS,i64_w,i32_w];rfl
 refine take_ (i:=4) (N:=some 8) (v:=?_) (a':=?_) (mA 7 27) rfl rfl kR (fun _ _ _ h=>h) (Or.inl ⟨by rfl,?_⟩) hHeld ?_ ?_;rotate_left
 ·rintro w' ⟨s0,s1⟩
  go_simp
  with_reducible rfl
 rotate_left
 ·simp only [Act.put,sA,sZ,sS,i64_w,i32_w];rfl
 refine one_ (i:=2) (N:=some 6) (mA 7 31) rfl rfl kR (by decide) (fun K hK=>?_);refine gC Tryz.func36 #[.agg #[.int .i64 a1_0,.slice A1_1 l1_1.length c1_1],.int .i64 a0] ?_
 with_reducible refine (impl_Committee_weight.calls k a1_0 _ _ l1_1 a0 t6 _ ?side1 ?side2 A3.out).mono ?_
 (case side1=>exact qcs HR1_1.out HB.out)
 (case side2=>exact HC1_1.out)
 rintro e w5 ⟨rfl,hb⟩
 refine ⟨_,rfl,?_⟩;replace BK1:=aM (bB BK1.out hb);replace HB:=aM (below_step bw hb);(try clear hb)
 refine hK.out _ _ ⟨(blk_cell BK1.out 0).trans rfl,(blk_cell BK1.out 1).trans rfl⟩ (fun hHeld=>?_);clear hK K;refine nM 6 ?_;refine pure_ (i:=5) (N:=some 9) (v:=?_) (a':=?_) (mA 7 63) rfl rfl kR (fun _ _ _ h=>h) (Or.inl ⟨by rfl,?_⟩) ?_ ?_;rotate_left
 ·intro w';go_simp
  with_reducible rfl
 rotate_left
 ·simp only [Act.put,sA,sZ,sS,i64_w,i32_w];rfl
 refine pure_ (i:=6) (N:=some 3) (v:=?_) (a':=?_) (mA 7 127) rfl rfl kR (fun _ _ _ h=>h) (Or.inl ⟨by rfl,?_⟩) ?_ ?_;rotate_left
 ·intro w';go_simp
  with_reducible rfl
 rotate_left
 ·simp only [Act.put,sA,sZ,sS,i64_w,i32_w];rfl
 refine done_ kR ?_
 try go_wp2
 go_ret
 exact ⟨eE,by exact bw⟩
theorem impl_Committee_votes_1.enters:∀ (args:Array Value) (w:World),(callFunc 68 args).run Tryz.prog w = .ok (.enter 68 args) w:=enters_of Tryz.func68 kR rfl


def impl_Committee_votes.f (k:Nat) (a0_0:Int) (l0_1:List Int):Option (Int × List Bool):=(impl_votesOf.f k (l0_1.length:Int) (fun y0_=>impl_Committee_votes_1.f k y0_ a0_0 l0_1)).bind fun bt2=>(some (bt2.1,bt2.2))
theorem impl_Committee_votes.calls (k:Nat) (a0_0:Int) (A0_1:Option Addr) (c0_1:Nat) (l0_1:List Int) (r1:Int) (r2:List Bool) (w:World) (hr0_1:Kd.C (Kd.int .i64) w A0_1 l0_1.length l0_1) (hc0_1:l0_1.length ≤ c0_1) (h:impl_Committee_votes.f k a0_0 l0_1 = some (r1,r2)) :
  Calls Tryz.prog 30 #[.agg #[.int .i64 a0_0,.slice A0_1 l0_1.length c0_1]] w fun e w'=>∃ v1_:Value,e = .returned (.agg #[.int .i64 r1,v1_]) ∧ Kd.R Kd.bool 4 w' w.heap.size (fun _=>True) v1_ r2 ∧ Below w.heap.size w w':=by
 have hmf:∀ (fn:Fn) (first cap:Array Value) (w:World),(Instr.makeFunc fn first cap).run Tryz.prog w = .ok (.func fn first cap) w:=fun _ _ _ _=>rfl
 have hu24:=Tryz.underlying24;have hu40:=Tryz.underlying40;have HR0_1:=aM hr0_1;have HC0_1:=aM hc0_1;clear hr0_1 hc0_1;have HB:=aM (Below.refl w.heap.size w);have H:((impl_votesOf.f k (l0_1.length:Int) (fun y0_=>impl_Committee_votes_1.f k y0_ a0_0 l0_1)).bind fun bt12=>(some (bt12.1,bt12.2))) = some (r1,r2):=h;clear h;replace H:=oB H;obtain ⟨⟨t12,t13⟩,A2,H⟩:=H;(try dsimp only at H)
 simp only [Option.some.injEq,Prod.mk.injEq] at H;obtain ⟨rfl,rfl⟩:=H;go_enter Tryz.func30,Tryz.ntmps30;go_wp2_with (first|((with_reducible refine gate_dst (N:=1) rfl ?_);refine bE 1 #[.int .i64 a0_0,.slice A0_1 l0_1.length c0_1] 24 ?_;intro gb10 hg w3 hbox hb;have BK10:=aM (hbox);have GW10:=aM (gS hg);have GE10:=aM (gS hg);replace HB:=aM (below_step bw hb);clear hb hbox hg)|((with_reducible refine gate_dst (N:=2) rfl ?_);refine bE 2 #[.int .i64 0,.slice none 0 0] 40 ?_;intro gb11 hg w4 hbox hb;have BK11:=aM (hbox);have GW11:=aM (gS hg);have GE11:=aM (gS hg);replace HB:=aM (below_step bw hb);have NB10_11:=aM (nL BK10.out hg);have NB11_10:=aM (nR BK10.out hg);replace BK10:=aM (bB BK10.out hb);clear hb hbox hg;have hnb5:=NB10_11.out;have hnc5:=NB11_10.out;have hcz6_0:=cz BK10.out 0;have hcz6_1:=cz BK10.out 1;have hfz6_0:=blk_frozen BK10.out 0;have hfz6_1:=blk_frozen BK10.out 1)|((with_reducible refine gate_callee (f:=63) rfl ?_);refine gL 7 Tryz.func63 #[.int .i64 (l0_1.length:Int),.func (.func 68) #[] #[.pointer (some ⟨gb10,0,none⟩)]] ?_;(with_reducible refine (impl_votesOf.calls k (l0_1.length:Int) (fun y0_=>impl_Committee_votes_1.f k y0_ a0_0 l0_1) 68 #[.pointer (some ⟨gb10,0,none⟩)] impl_Committee_votes_1.enters t12 t13 _ ?side1 A2.out).mono ?_);(case side1=>exact (fun W_ a0_ r0_ hx_ hb_ =>(impl_Committee_votes_1.calls k a0_ gb10 a0_0 _ _ l0_1 r0_ W_  (Kd.C_below (by repeat (first|exact (Kd.C_below HR0_1.out HB.out)|(with_reducible refine Kd.C_alloc ?_ _)|(with_reducible refine Kd.C_drewN ?_ _)|(with_reducible refine Kd.C_drew ?_))) hb_) (by exact HC0_1.out) (box_later (bk1 BK10.out) hb_) hx_).mono (fun _ _ h_=>h_)));rintro e w7 ⟨v14,rfl,ho0,hb⟩;refine ⟨_,rfl,?_⟩;have HO15:=aM (Kd.R_lower ho0 (below_size bw));replace BK10:=aM (bB BK10.out hb);replace BK11:=aM (bB BK11.out hb);replace HB:=aM (below_step bw hb);(try clear hb);(try clear ho0);have hcz8_0:=cz BK11.out 0;have hcz8_1:=cz BK11.out 1;have hfz8_0:=blk_frozen BK11.out 0;have hfz8_1:=blk_frozen BK11.out 1;obtain ⟨Ao9,co9,eo9⟩:=Kd.R_slice HO15.out;subst eo9))
 refine bodyPost_ret (results_cell_row rfl _ _ gb11 40 #[.int .i64 t12,.slice Ao9 t13.length co9] (0,0) _ rfl (by (with_reducible repeat (first|refine blk_drewN ?_ _|refine blk_drew ?_|refine blk_alloc ?_ _));refine blk_put (cs:=#[.int .i64 t12,.slice none 0 0]) ?_ 1 _ rfl;(with_reducible repeat (first|refine blk_drewN ?_ _|refine blk_drew ?_|refine blk_alloc ?_ _));refine blk_put (cs:=#[.int .i64 0,.slice none 0 0]) ?_ 0 _ rfl;(with_reducible repeat (first|refine blk_drewN ?_ _|refine blk_drew ?_|refine blk_alloc ?_ _));exact BK11.out) Tryz.underlying40 rfl kR) rfl ?_;exact ⟨_,eE,by (with_reducible repeat (first|apply Kd.R_alloc|apply Kd.R_drewN|apply Kd.R_drew));exact Kd.R_mono (Kd.R_far (p:=⟨gb11,1,none⟩) (Kd.R_far (p:=⟨gb11,0,none⟩) (Kd.R_types HO15.out BK11.out (by decide)) (fun _ hk=>hk.2) (.int .i64 t12)) (fun _ hk=>hk.2) (.slice Ao9 t13.length co9)) (fun _ hk=>trivial),by exact bw⟩


def impl_within.f (a0:Int) (a1:Int) (a2:Int):Option (Bool):=if a0 ≥ a1 then (some (decide (a0 ≤ a2))) else (some false)
theorem impl_within.calls (a0:Int) (a1:Int) (a2:Int) (r:Bool) (w:World) (h:impl_within.f a0 a1 a2 = some r) :
  Calls Tryz.prog 72 #[.int .i64 a0,.int .i64 a1,.int .i64 a2] w fun e w'=>e = .returned (.bool r) ∧ Drawn0 w w':=by
 have H:(if a0 ≥ a1 then (some (decide (a0 ≤ a2))) else (some false)) = some r:=h;clear h;by_cases c4:a0 ≥ a1
 ·rw [if_pos c4] at H;have c4b0:decide (a1 ≤ a0) = true:=decide_eq_true c4;clear c4;obtain rfl:=Option.some.inj H;go_enter Tryz.func72,Tryz.ntmps72;go_wp2
  go_ret
  exact ⟨qrs,dR⟩
 ·rw [if_neg c4] at H;have c4b0:decide (a1 ≤ a0) = false:=decide_eq_false c4;clear c4;obtain rfl:=Option.some.inj H;go_enter Tryz.func72,Tryz.ntmps72;go_wp2
  go_ret
  exact ⟨qrs,dR⟩


def impl_sumOf.l0:Nat → Int → List Int → Int → Int → Option (Int)
 | 0,_,_,_,_=>none
 | k + 1,x3,x6,x7,x8=>if x8 < x7 then (if 0 ≤ x8 then (if x8 < (x6.length:Int) then (impl_sumOf.l0 k (wrap64 (x3 + (rd x6 x8))) x6 x7 (wrap64 (x8 + 1))) else (none)) else (none)) else (some x3)
def impl_sumOf.f (k:Nat) (l0:List Int):Option (Int):=impl_sumOf.l0 k 0 l0 (l0.length:Int) 0
theorem impl_sumOf.calls (k:Nat) (A0:Option Addr) (c0:Nat) (l0:List Int) (r:Int) (w:World) (hr0:Kd.C (Kd.int .i64) w A0 l0.length l0) (hc0:l0.length ≤ c0) (h:impl_sumOf.f k l0 = some r) :
  Calls Tryz.prog 59 #[.slice A0 l0.length c0] w fun e w'=>e = .returned (.int .i64 r) ∧ Drawn0 w w':=by
 have HR0:=aM hr0;have HC0:=aM hc0;clear hr0 hc0;have H:(impl_sumOf.l0 k 0 l0 (l0.length:Int) 0) = some r:=h;clear h;have H':=aM H;clear H;go_enter Tryz.func59,Tryz.ntmps59;go_wp2
 go_loopg [3,8] k (fun kq v3 v8 w'=>∃ (x3_1:Int) (x8_1:Int),v3 = .int .i64 x3_1 ∧ v8 = .int .i64 x8_1 ∧ Aside0 (impl_sumOf.l0 kq x3_1 l0 (l0.length:Int) x8_1 = some r) ∧ Aside0 (kq ≤ k) ∧ Drawn0 w w')
 case atStart=>exact ⟨(0),(0),qrs,qrs,H',⟨Nat.le_refl _⟩,by repeat (first|exact Drawn0.refl _|apply Drawn0.step)⟩
 case round =>
  clear H';obtain ⟨x3_1,x8_1,rfl,rfl,HA,HK1,⟨m1,rfl⟩⟩:=hrel
  cases gk with
  | zero=>exact absurd HA.out (by simp [impl_sumOf.l0])
  | succ k1 =>
   have H:=HA.out;clear HA;simp only [impl_sumOf.l0] at H;by_cases c2:x8_1 < (l0.length:Int)
   ·rw [if_pos c2] at H;have c2b0:=decide_eq_true c2;clear c2;replace H:=iN H;obtain ⟨c3,H⟩:=H;have c3b0:decide (0 ≤ x8_1) = true:=decide_eq_true c3;clear c3;replace H:=iN H;obtain ⟨c4,H⟩:=H;have c4b0:decide (x8_1 < (l0.length:Int)) = true:=decide_eq_true c4;clear c4;have H':=aM H;clear H;have p5:0 ≤ (x8_1:Int):=of_decide_eq_true ab;have q5:x8_1 < (l0.length:Int):=of_decide_eq_true ab;obtain ⟨ad5,e5,hx5_0⟩:=Kd.at_int HR0.out x8_1 p5 q5;cases e5
    replace p5:=eq_true p5;replace q5:=eq_true q5;go_wp2
    go_roundg k1
    case measure=>have:=HK1.out;omega
    case rel=>exact ⟨(wrap64 (x3_1 + (rd l0 x8_1))),(wrap64 (x8_1 + 1)),qrs,qrs,H',⟨by have:=HK1.out;omega⟩,by repeat (first|exact Drawn0.refl _|apply Drawn0.step)⟩
   ·rw [if_neg c2] at H;have c2b0:=decide_eq_false c2;clear c2;obtain rfl:=Option.some.inj H;go_wp2
    go_ret
    exact ⟨qrs,dR⟩


def slices_IndexFunc_int_int.l0:Nat → List Int → (Int → Option (Bool)) → Int → Int → Option (Int)
 | 0,_,_,_,_=>none
 | k + 1,x0,x1,x7,x8=>if x8 < x7 then (if 0 ≤ x8 then (if x8 < (x0.length:Int) then ((x1 (rd x0 x8)).bind fun t2=>(if t2 = true then (some x8) else (slices_IndexFunc_int_int.l0 k x0 x1 x7 (wrap64 (x8 + 1))))) else (none)) else (none)) else (some (-1))
def slices_IndexFunc_int_int.f (k:Nat) (l0:List Int) (a1:(Int → Option (Bool))):Option (Int):=slices_IndexFunc_int_int.l0 k l0 a1 (l0.length:Int) 0
theorem slices_IndexFunc_int_int.calls (k:Nat) (A0:Option Addr) (c0:Nat) (l0:List Int) (a1:(Int → Option (Bool))) (g1_:Nat) (lb1_:Array Value) (eg1_:∀ (args:Array Value) (w:World),(callFunc g1_ args).run Tryz.prog w = .ok (.enter g1_ args) w) (r:Int) (w:World) (hr0:Kd.C (Kd.int .i64) w A0 l0.length l0) (hc0:l0.length ≤ c0) (hp1:∀ (W:World) (b0_:Int) (r0_:Bool),a1 b0_ = some r0_ → Below w.heap.size w W → Calls Tryz.prog g1_ (#[.int .i64 b0_] ++ lb1_) W fun e w'=>e = .returned (.bool r0_) ∧ Below W.heap.size W w') (h:slices_IndexFunc_int_int.f k l0 a1 = some r) :
  Calls Tryz.prog 102 #[.slice A0 l0.length c0,.func (.func g1_) #[] lb1_] w fun e w'=>e = .returned (.int .i64 r) ∧ Below w.heap.size w w':=by
 have HR0:=aM hr0;have HC0:=aM hc0;clear hr0 hc0;have HP1:=aM hp1;clear hp1;have HB:=aM (Below.refl w.heap.size w);have H:(slices_IndexFunc_int_int.l0 k l0 a1 (l0.length:Int) 0) = some r:=h;clear h;have H':=aM H;clear H;go_enter Tryz.func102,Tryz.ntmps102;go_wp2
 go_loopg [8] k (fun kq v8 w'=>∃ (x8_1:Int),v8 = .int .i64 x8_1 ∧ Aside0 (slices_IndexFunc_int_int.l0 kq l0 a1 (l0.length:Int) x8_1 = some r) ∧ Aside0 (kq ≤ k) ∧ Aside0 (Below w.heap.size w w'))
 case atStart=>exact ⟨(0),qrs,H',⟨Nat.le_refl _⟩,⟨by exact bw⟩⟩
 case round =>
  clear H';obtain ⟨x8_1,rfl,HA,HK1,HB⟩:=hrel
  cases gk with
  | zero=>exact absurd HA.out (by simp [slices_IndexFunc_int_int.l0])
  | succ k1 =>
   have H:=HA.out;clear HA;simp only [slices_IndexFunc_int_int.l0] at H;by_cases c3:x8_1 < (l0.length:Int)
   ·rw [if_pos c3] at H;have c3b0:=decide_eq_true c3;clear c3;replace H:=iN H;obtain ⟨c4,H⟩:=H;have c4b0:decide (0 ≤ x8_1) = true:=decide_eq_true c4;clear c4;replace H:=iN H;obtain ⟨c5,H⟩:=H;have c5b0:decide (x8_1 < (l0.length:Int)) = true:=decide_eq_true c5;clear c5;replace H:=oB H;obtain ⟨t11,A6,H⟩:=H;(try dsimp only at H)
    by_cases c7:t11 = true
    ·subst c7;rw [if_pos rfl] at H;obtain rfl:=Option.some.inj H;have p10:0 ≤ (x8_1:Int):=of_decide_eq_true ab;have q10:x8_1 < (l0.length:Int):=of_decide_eq_true ab;obtain ⟨ad10,e10,hx10_0⟩:=Kd.at_int HR0.out x8_1 p10 q10;cases e10
     replace hx10_0:=(HB.out.cell (World.block_lt_of_cell? w _ hx10_0)).trans hx10_0;replace p10:=eq_true p10;replace q10:=eq_true q10;go_wp2_with (first|((with_reducible refine gate_fn (t:=11) rfl ?_);refine goesFL_ (some 16) rfl rfl eg1_ #[.int .i64 (rd l0 x8_1)] rfl rfl mq ?_;(with_reducible refine (HP1.out _ (rd l0 x8_1) true A6.out ?side1).mono ?_);(case side1=>exact bw);rintro e w8 ⟨rfl,hb⟩;refine ⟨_,rfl,?_⟩;replace HB:=aM (below_step bw hb);(try clear hb)))
     go_ret
     exact ⟨eE,by exact bw⟩
    ·replace c7:=Bool.eq_false_iff.mpr c7;subst c7;rw [if_neg (show ¬ (false = true) by decide)] at H;have H':=aM H;clear H;have p10:0 ≤ (x8_1:Int):=of_decide_eq_true ab;have q10:x8_1 < (l0.length:Int):=of_decide_eq_true ab;obtain ⟨ad10,e10,hx10_0⟩:=Kd.at_int HR0.out x8_1 p10 q10;cases e10
     replace hx10_0:=(HB.out.cell (World.block_lt_of_cell? w _ hx10_0)).trans hx10_0;replace p10:=eq_true p10;replace q10:=eq_true q10;go_wp2_with (first|((with_reducible refine gate_fn (t:=11) rfl ?_);refine goesFL_ (some 16) rfl rfl eg1_ #[.int .i64 (rd l0 x8_1)] rfl rfl mq ?_;(with_reducible refine (HP1.out _ (rd l0 x8_1) false A6.out ?side1).mono ?_);(case side1=>exact bw);rintro e w9 ⟨rfl,hb⟩;refine ⟨_,rfl,?_⟩;replace HB:=aM (below_step bw hb);(try clear hb)))
     go_roundg k1
     case measure=>have:=HK1.out;omega
     case rel=>exact ⟨(wrap64 (x8_1 + 1)),qrs,H',⟨by have:=HK1.out;omega⟩,⟨by exact bw⟩⟩
   ·rw [if_neg c3] at H;have c3b0:=decide_eq_false c3;clear c3;obtain rfl:=Option.some.inj H;go_wp2
    go_ret
    exact ⟨eE,by exact bw⟩


def slices_ContainsFunc_int_int.f (k:Nat) (l0:List Int) (a1:(Int → Option (Bool))):Option (Bool):=(slices_IndexFunc_int_int.f k l0 a1).bind fun t2=>(some (decide (t2 ≥ 0)))
theorem slices_ContainsFunc_int_int.calls (k:Nat) (A0:Option Addr) (c0:Nat) (l0:List Int) (a1:(Int → Option (Bool))) (g1_:Nat) (lb1_:Array Value) (eg1_:∀ (args:Array Value) (w:World),(callFunc g1_ args).run Tryz.prog w = .ok (.enter g1_ args) w) (r:Bool) (w:World) (hr0:Kd.C (Kd.int .i64) w A0 l0.length l0) (hc0:l0.length ≤ c0) (hp1:∀ (W:World) (b0_:Int) (r0_:Bool),a1 b0_ = some r0_ → Below w.heap.size w W → Calls Tryz.prog g1_ (#[.int .i64 b0_] ++ lb1_) W fun e w'=>e = .returned (.bool r0_) ∧ Below W.heap.size W w') (h:slices_ContainsFunc_int_int.f k l0 a1 = some r) :
  Calls Tryz.prog 90 #[.slice A0 l0.length c0,.func (.func g1_) #[] lb1_] w fun e w'=>e = .returned (.bool r) ∧ Below w.heap.size w w':=by
 have HR0:=aM hr0;have HC0:=aM hc0;clear hr0 hc0;have HP1:=aM hp1;clear hp1;have HB:=aM (Below.refl w.heap.size w);have H:((slices_IndexFunc_int_int.f k l0 a1).bind fun t5=>(some (decide (t5 ≥ 0)))) = some r:=h;clear h;replace H:=oB H;obtain ⟨t5,A3,H⟩:=H;(try dsimp only at H)
 obtain rfl:=Option.some.inj H;go_enter Tryz.func90,Tryz.ntmps90;go_wp2_with (first|((with_reducible refine gate_callee (f:=102) rfl ?_);refine gL 7 Tryz.func102 #[.slice A0 l0.length c0,.func (.func g1_) #[] lb1_] ?_;(with_reducible refine (slices_IndexFunc_int_int.calls k _ _ l0 a1 g1_ lb1_ eg1_ t5 _ ?side1 ?side2 ?side3 A3.out).mono ?_);(case side1=>exact qc HR0.out);(case side2=>exact HC0.out);(case side3=>exact (fun W_ a0_ r0_ hx_ hb_ =>HP1.out W_ a0_ r0_ hx_ (below_step bw hb_) ));rintro e w4 ⟨rfl,hb⟩;refine ⟨_,rfl,?_⟩;replace HB:=aM (below_step bw hb);(try clear hb)))
 go_ret
 exact ⟨eE,by exact bw⟩


def impl_areIn_1.f (a0:Int) (a1:Int) (a2:Int):Option (Bool):=(impl_within.f a0 a1 a2).bind fun t3=>(some (!t3))
theorem impl_areIn_1.calls (a0:Int) (gc1:Nat) (a1:Int) (gc2:Nat) (a2:Int) (r:Bool) (w:World) (hb1:w.heap[gc1]? = some (.cells #[.int .i64 a1] 3 (0,0))) (hb2:w.heap[gc2]? = some (.cells #[.int .i64 a2] 3 (0,0))) (hn1_2:gc1 ≠ gc2) (h:impl_areIn_1.f a0 a1 a2 = some r) :
  Calls Tryz.prog 91 #[.int .i64 a0,.pointer (some ⟨gc1,0,none⟩),.pointer (some ⟨gc2,0,none⟩)] w fun e w'=>e = .returned (.bool r) ∧ Drawn0 w w':=by
 have BK1:=aM hb1;clear hb1;have BK2:=aM hb2;clear hb2;have NB1_2:=aM hn1_2;have NB2_1:=aM (Ne.symm hn1_2);clear hn1_2;have H:((impl_within.f a0 a1 a2).bind fun t3=>(some (!t3))) = some r:=h;clear h;replace H:=oB H;obtain ⟨t3,A4,H⟩:=H;(try dsimp only at H)
 obtain rfl:=Option.some.inj H;have hnb5:=NB1_2.out;have hnc5:=NB2_1.out;have hcz6_0:=cz BK1.out 0;have hfz6_0:=blk_frozen BK1.out 0;have hcz7_0:=cz BK2.out 0;have hfz7_0:=blk_frozen BK2.out 0;go_enter Tryz.func91,Tryz.ntmps91;go_wp2_with (first|((with_reducible refine gate_callee (f:=72) rfl ?_);refine gL 8 Tryz.func72 #[.int .i64 a0,.int .i64 a1,.int .i64 a2] ?_;(with_reducible refine (impl_within.calls a0 a1 a2 t3 _ A4.out).mono ?_);rintro e w' ⟨rfl,⟨nd,rfl⟩⟩;refine ⟨_,rfl,?_⟩))
 go_ret
 exact ⟨qrs,dR⟩
theorem impl_areIn_1.enters:∀ (args:Array Value) (w:World),(callFunc 91 args).run Tryz.prog w = .ok (.enter 91 args) w:=enters_of Tryz.func91 kR rfl


def impl_areIn.f (k:Nat) (l0:List Int) (a1:Int) (a2:Int):Option (Bool):=(slices_ContainsFunc_int_int.f k l0 (fun y0_=>impl_areIn_1.f y0_ a1 a2)).bind fun t3=>(some (!t3))
theorem impl_areIn.calls (k:Nat) (A0:Option Addr) (c0:Nat) (l0:List Int) (a1:Int) (a2:Int) (r:Bool) (w:World) (hr0:Kd.C (Kd.int .i64) w A0 l0.length l0) (hc0:l0.length ≤ c0) (h:impl_areIn.f k l0 a1 a2 = some r) :
  Calls Tryz.prog 71 #[.slice A0 l0.length c0,.int .i64 a1,.int .i64 a2] w fun e w'=>e = .returned (.bool r) ∧ Below w.heap.size w w':=by
 have hmf:∀ (fn:Fn) (first cap:Array Value) (w:World),(Instr.makeFunc fn first cap).run Tryz.prog w = .ok (.func fn first cap) w:=fun _ _ _ _=>rfl
 have HR0:=aM hr0;have HC0:=aM hc0;clear hr0 hc0;have HB:=aM (Below.refl w.heap.size w);have H:((slices_ContainsFunc_int_int.f k l0 (fun y0_=>impl_areIn_1.f y0_ a1 a2)).bind fun t10=>(some (!t10))) = some r:=h;clear h;replace H:=oB H;obtain ⟨t10,A4,H⟩:=H;(try dsimp only at H)
 obtain rfl:=Option.some.inj H;go_enter Tryz.func71,Tryz.ntmps71;go_wp2_with (first|((with_reducible refine gate_dst (N:=4) rfl ?_);refine bE 4 #[.int .i64 a1] 3 ?_;intro gb8 hg w5 hbox hb;have BK8:=aM (hbox);have GW8:=aM (gS hg);have GE8:=aM (gS hg);replace HB:=aM (below_step bw hb);clear hb hbox hg)|((with_reducible refine gate_dst (N:=5) rfl ?_);refine bE 5 #[.int .i64 a2] 3 ?_;intro gb9 hg w6 hbox hb;have BK9:=aM (hbox);have GW9:=aM (gS hg);have GE9:=aM (gS hg);replace HB:=aM (below_step bw hb);have NB8_9:=aM (nL BK8.out hg);have NB9_8:=aM (nR BK8.out hg);replace BK8:=aM (bB BK8.out hb);clear hb hbox hg)|((with_reducible refine gate_callee (f:=90) rfl ?_);refine gL 9 Tryz.func90 #[.slice A0 l0.length c0,.func (.func 91) #[] #[.pointer (some ⟨gb8,0,none⟩),.pointer (some ⟨gb9,0,none⟩)]] ?_;(with_reducible refine (slices_ContainsFunc_int_int.calls k _ _ l0 (fun y0_=>impl_areIn_1.f y0_ a1 a2) 91 #[.pointer (some ⟨gb8,0,none⟩),.pointer (some ⟨gb9,0,none⟩)] impl_areIn_1.enters t10 _ ?side1 ?side2 ?side3 A4.out).mono ?_);(case side1=>exact qcs HR0.out HB.out);(case side2=>exact HC0.out);(case side3=>exact (fun W_ a0_ r0_ hx_ hb_ =>(impl_areIn_1.calls a0_ gb8 a1 gb9 a2 r0_ W_  (box_later (bk1 BK8.out) hb_) (box_later (bk1 BK9.out) hb_) NB8_9.out hx_).mono (fun _ _ h_=>⟨h_.1,h_.2.below⟩)));rintro e w7 ⟨rfl,hb⟩;refine ⟨_,rfl,?_⟩;replace BK8:=aM (bB BK8.out hb);replace BK9:=aM (bB BK9.out hb);replace HB:=aM (below_step bw hb);(try clear hb)))
 go_ret
 exact ⟨eE,by exact bw⟩


def impl_IsCommittee.f (k:Nat) (a0_0:Int) (l0_1:List Int):Option (Bool):=if (l0_1.length:Int) ≥ 1 then (if (l0_1.length:Int) ≤ 9 then ((impl_areIn.f k l0_1 0 1000).bind fun t2=>(if t2 = true then ((impl_sumOf.f k l0_1).bind fun t3=>((impl_within.f a0_0 1 t3).bind fun t4=>(some t4))) else (some false))) else (some false)) else (some false)
def impl_IsCommittee.T1:Bool × List (List Nat × List Nat):=(true,[([],[]),([0],[0]),([1],[1]),([2],[2]),([3],[3]),([4],[4]),([5,4],[4,5]),([6,4],[4,6]),([7,4],[4,7]),([4,8],[4,8]),([9,4],[9]),([10],[10]),([11,10],[10,11]),([12,10,10],[10,12]),([10,13],[10,13]),([14,13],[14]),([15],[15]),([16,15],[15,16]),([15],[15]),([18,15],[15,18]),([19,15,15],[15,19]),([17,20,20,15],[15,17,20]),([15,21],[15,21]),([22,21,0,1,2,3,4,5,6,7,8,9,10,11,12,13,14,15,16,17,18,19,20,21,22],[22])])
def impl_IsCommittee.B1:List Nat:=[0,1,3,7,15,31,63,127,255,511,1023,2047,4095,8191,16383,32767,65535,131071,65535,327679,851967,2097151,4194303,8388607]
theorem impl_IsCommittee.tab1:rtab .any (opsOf Tryz.f34 1) = impl_IsCommittee.T1:=by kernel_rfl
theorem impl_IsCommittee.bits1:waitsOk impl_IsCommittee.T1.2 impl_IsCommittee.B1 = true:=by kernel_rfl
theorem impl_IsCommittee.calls (k:Nat) (a0_0:Int) (A0_1:Option Addr) (c0_1:Nat) (l0_1:List Int) (r:Bool) (w:World) (hr0_1:Kd.C (Kd.int .i64) w A0_1 l0_1.length l0_1) (hc0_1:l0_1.length ≤ c0_1) (h:impl_IsCommittee.f k a0_0 l0_1 = some r) :
  Calls Tryz.prog 34 #[.agg #[.int .i64 a0_0,.slice A0_1 l0_1.length c0_1]] w fun e w'=>e = .returned (.bool r) ∧ Below w.heap.size w w':=by
 have hu24:=Tryz.underlying24;have HR0_1:=aM hr0_1;have HC0_1:=aM hc0_1;clear hr0_1 hc0_1;have HB:=aM (Below.refl w.heap.size w);have H:(if (l0_1.length:Int) ≥ 1 then (if (l0_1.length:Int) ≤ 9 then ((impl_areIn.f k l0_1 0 1000).bind fun t19=>(if t19 = true then ((impl_sumOf.f k l0_1).bind fun t20=>((impl_within.f a0_0 1 t20).bind fun t21=>(some t21))) else (some false))) else (some false)) else (some false)) = some r:=h;clear h;by_cases c2:(l0_1.length:Int) ≥ 1
 ·rw [if_pos c2] at H;have c2b0:decide (1 ≤ (l0_1.length:Int)) = true:=decide_eq_true c2;have c2b1:decide (1 ≤ l0_1.length) = true:=decide_eq_true (by omega);clear c2;by_cases c3:(l0_1.length:Int) ≤ 9
  ·rw [if_pos c3] at H;have c3b0:=decide_eq_true c3;have c3b1:decide (l0_1.length ≤ 9) = true:=decide_eq_true (by omega);clear c3;replace H:=oB H;obtain ⟨t19,A4,H⟩:=H;(try dsimp only at H)
   by_cases c5:t19 = true
   ·subst c5;rw [if_pos rfl] at H;replace H:=oB H;obtain ⟨t20,A6,H⟩:=H;(try dsimp only at H)
    replace H:=oB H;obtain ⟨t21,A7,H⟩:=H;(try dsimp only at H)
    obtain rfl:=Option.some.inj H;go_enter Tryz.func34,Tryz.ntmps34
    try go_wp2_with (first|((with_reducible refine gate_dst (N:=1) rfl ?_);(try (refine gate_guard (by rfl) ?_;dsimp only));refine bE 1 #[.int .i64 a0_0,.slice A0_1 l0_1.length c0_1] 24 ?_;intro gb18 hg w8 hbox hb;have BK18:=aM (hbox);have GW18:=aM (gS hg);have GE18:=aM (gS hg);replace HB:=aM (below_step bw hb);clear hb hbox hg))
    replace BK18:=aM (blk_drew BK18.out);replace HB:=aM (below_drew1 HB.out);refine start_ (n:=24) (S:=fun w'=>w'.cell? ⟨gb18,0,none⟩ = some (.int .i64 a0_0) ∧ w'.cell? ⟨gb18,1,none⟩ = some (.slice A0_1 l0_1.length c0_1)) (ds:=[]) (mA 24 0) kR rfl rfl ⟨(blk_cell BK18.out 0).trans rfl,(blk_cell BK18.out 1).trans rfl⟩ (fun hHeld=>?_);refine with_tabW impl_IsCommittee.tab1 impl_IsCommittee.bits1 (fun HT_ HW_=>?_)
    generalize w8.drew = w9 at BK18 HB hHeld ⊢
    refine pT 0 3 HT_.out ?_;refine pK 1 4 HT_.out HW_.out hHeld ?_;refine pT 2 5 HT_.out ?_;refine pT 3 6 HT_.out ?_;refine pT 4 7 HT_.out ?_;refine pT 5 8 HT_.out ?_;refine pK 6 9 HT_.out HW_.out hHeld ?_;refine pT 7 10 HT_.out ?_;refine pT 8 11 HT_.out ?_;refine pT 9 12 HT_.out ?_;refine pT 10 13 HT_.out ?_;refine pT 11 14 HT_.out ?_;refine pK 12 15 HT_.out HW_.out hHeld ?_;refine oN 13 (some 16) HT_.out fun K hK=>?_
    refine gC Tryz.func71 #[.slice A0_1 l0_1.length c0_1,.int .i64 0,.int .i64 1000] ?_
    with_reducible refine (impl_areIn.calls k _ _ l0_1 0 1000 true _ ?side1 ?side2 A4.out).mono ?_
    (case side1=>exact qcs HR0_1.out HB.out)
    (case side2=>exact HC0_1.out)
    rintro e w10 ⟨rfl,hb⟩
    refine ⟨_,rfl,?_⟩;replace BK18:=aM (bB BK18.out hb);replace HB:=aM (below_step bw hb);(try clear hb)
    refine hK.out _ _ ⟨(blk_cell BK18.out 0).trans rfl,(blk_cell BK18.out 1).trans rfl⟩ (fun hHeld=>?_);clear hK K;refine nM 16 ?_;refine pT 14 17 HT_.out ?_;refine pT 15 18 HT_.out ?_;refine pT 16 19 HT_.out ?_;refine pT 18 21 HT_.out ?_;refine pK 17 20 HT_.out HW_.out hHeld ?_;refine pK 19 22 HT_.out HW_.out hHeld ?_;refine oN 20 (some 23) HT_.out fun K hK=>?_
    refine gC Tryz.func59 #[.slice A0_1 l0_1.length c0_1] ?_
    with_reducible refine (impl_sumOf.calls k _ _ l0_1 t20 _ ?side1 ?side2 A6.out).mono ?_
    (case side1=>exact qcs HR0_1.out HB.out)
    (case side2=>exact HC0_1.out)
    rintro e w' ⟨rfl,⟨nd,rfl⟩⟩
    refine ⟨_,rfl,?_⟩;refine hK.out _ _ ⟨(blk_cell BK18.out 0).trans rfl,(blk_cell BK18.out 1).trans rfl⟩ (fun hHeld=>?_);clear hK K;refine nM 23 ?_;refine oN 21 (some 24) HT_.out fun K hK=>?_
    refine gC Tryz.func72 #[.int .i64 a0_0,.int .i64 1,.int .i64 t20] ?_
    with_reducible refine (impl_within.calls a0_0 1 t20 t21 _ A7.out).mono ?_
    rintro e w' ⟨rfl,⟨nd,rfl⟩⟩
    refine ⟨_,rfl,?_⟩;refine hK.out _ _ ⟨(blk_cell BK18.out 0).trans rfl,(blk_cell BK18.out 1).trans rfl⟩ (fun hHeld=>?_);clear hK K;refine nM 24 ?_;refine pT 22 25 HT_.out ?_;refine pT 23 2 HT_.out ?_;refine done_ (done_of HT_.out kR) ?_
    try go_wp2
    go_ret
    exact ⟨eE,by exact bw⟩
   ·replace c5:=Bool.eq_false_iff.mpr c5;subst c5;rw [if_neg (show ¬ (false = true) by decide)] at H;obtain rfl:=Option.some.inj H;go_enter Tryz.func34,Tryz.ntmps34
    try go_wp2_with (first|((with_reducible refine gate_dst (N:=1) rfl ?_);(try (refine gate_guard (by rfl) ?_;dsimp only));refine bE 1 #[.int .i64 a0_0,.slice A0_1 l0_1.length c0_1] 24 ?_;intro gb18 hg w11 hbox hb;have BK18:=aM (hbox);have GW18:=aM (gS hg);have GE18:=aM (gS hg);replace HB:=aM (below_step bw hb);clear hb hbox hg))
    replace BK18:=aM (blk_drew BK18.out);replace HB:=aM (below_drew1 HB.out);refine start_ (n:=24) (S:=fun w'=>w'.cell? ⟨gb18,0,none⟩ = some (.int .i64 a0_0) ∧ w'.cell? ⟨gb18,1,none⟩ = some (.slice A0_1 l0_1.length c0_1)) (ds:=[]) (mA 24 0) kR rfl rfl ⟨(blk_cell BK18.out 0).trans rfl,(blk_cell BK18.out 1).trans rfl⟩ (fun hHeld=>?_);refine with_tabW impl_IsCommittee.tab1 impl_IsCommittee.bits1 (fun HT_ HW_=>?_)
    generalize w11.drew = w12 at BK18 HB hHeld ⊢
    refine pT 0 3 HT_.out ?_;refine pK 1 4 HT_.out HW_.out hHeld ?_;refine pT 2 5 HT_.out ?_;refine pT 3 6 HT_.out ?_;refine pT 4 7 HT_.out ?_;refine pT 5 8 HT_.out ?_;refine pK 6 9 HT_.out HW_.out hHeld ?_;refine pT 7 10 HT_.out ?_;refine pT 8 11 HT_.out ?_;refine pT 9 12 HT_.out ?_;refine pT 10 13 HT_.out ?_;refine pT 11 14 HT_.out ?_;refine pK 12 15 HT_.out HW_.out hHeld ?_;refine oN 13 (some 16) HT_.out fun K hK=>?_
    refine gC Tryz.func71 #[.slice A0_1 l0_1.length c0_1,.int .i64 0,.int .i64 1000] ?_
    with_reducible refine (impl_areIn.calls k _ _ l0_1 0 1000 false _ ?side1 ?side2 A4.out).mono ?_
    (case side1=>exact qcs HR0_1.out HB.out)
    (case side2=>exact HC0_1.out)
    rintro e w13 ⟨rfl,hb⟩
    refine ⟨_,rfl,?_⟩;replace BK18:=aM (bB BK18.out hb);replace HB:=aM (below_step bw hb);(try clear hb)
    refine hK.out _ _ ⟨(blk_cell BK18.out 0).trans rfl,(blk_cell BK18.out 1).trans rfl⟩ (fun hHeld=>?_);clear hK K;refine nM 16 ?_;refine pT 14 17 HT_.out ?_;refine pT 15 18 HT_.out ?_;refine pU 16 19 HT_.out ?_;refine pU 17 20 HT_.out ?_;refine pU 18 21 HT_.out ?_;refine pU 19 22 HT_.out ?_;refine pU 20 23 HT_.out ?_;refine pU 21 24 HT_.out ?_;refine pT 22 25 HT_.out ?_;refine pT 23 2 HT_.out ?_;refine done_ (done_of HT_.out kR) ?_
    try go_wp2
    go_ret
    exact ⟨eE,by exact bw⟩
  ·rw [if_neg c3] at H;have c3b0:=decide_eq_false c3;have c3b1:decide (l0_1.length ≤ 9) = false:=decide_eq_false (by omega);clear c3;obtain rfl:=Option.some.inj H;go_enter Tryz.func34,Tryz.ntmps34
   try go_wp2_with (first|((with_reducible refine gate_dst (N:=1) rfl ?_);(try (refine gate_guard (by rfl) ?_;dsimp only));refine bE 1 #[.int .i64 a0_0,.slice A0_1 l0_1.length c0_1] 24 ?_;intro gb18 hg w14 hbox hb;have BK18:=aM (hbox);have GW18:=aM (gS hg);have GE18:=aM (gS hg);replace HB:=aM (below_step bw hb);clear hb hbox hg))
   replace BK18:=aM (blk_drew BK18.out);replace HB:=aM (below_drew1 HB.out);refine start_ (n:=24) (S:=fun w'=>w'.cell? ⟨gb18,0,none⟩ = some (.int .i64 a0_0) ∧ w'.cell? ⟨gb18,1,none⟩ = some (.slice A0_1 l0_1.length c0_1)) (ds:=[]) (mA 24 0) kR rfl rfl ⟨(blk_cell BK18.out 0).trans rfl,(blk_cell BK18.out 1).trans rfl⟩ (fun hHeld=>?_);refine with_tabW impl_IsCommittee.tab1 impl_IsCommittee.bits1 (fun HT_ HW_=>?_)
   generalize w14.drew = w15 at BK18 HB hHeld ⊢
   refine pT 0 3 HT_.out ?_;refine pK 1 4 HT_.out HW_.out hHeld ?_;refine pT 2 5 HT_.out ?_;refine pT 3 6 HT_.out ?_;refine pT 4 7 HT_.out ?_;refine pT 5 8 HT_.out ?_;refine pK 6 9 HT_.out HW_.out hHeld ?_;refine pT 7 10 HT_.out ?_;refine pT 8 11 HT_.out ?_;refine pT 9 12 HT_.out ?_;refine pT 10 13 HT_.out ?_;refine pU 11 14 HT_.out ?_;refine pU 12 15 HT_.out ?_;refine pU 13 16 HT_.out ?_;refine pT 14 17 HT_.out ?_;refine pT 15 18 HT_.out ?_;refine pU 16 19 HT_.out ?_;refine pU 17 20 HT_.out ?_;refine pU 18 21 HT_.out ?_;refine pU 19 22 HT_.out ?_;refine pU 20 23 HT_.out ?_;refine pU 21 24 HT_.out ?_;refine pT 22 25 HT_.out ?_;refine pT 23 2 HT_.out ?_;refine done_ (done_of HT_.out kR) ?_
   try go_wp2
   go_ret
   exact ⟨eE,by exact bw⟩
 ·rw [if_neg c2] at H;have c2b0:decide (1 ≤ (l0_1.length:Int)) = false:=decide_eq_false c2;have c2b1:decide (1 ≤ l0_1.length) = false:=decide_eq_false (by omega);clear c2;obtain rfl:=Option.some.inj H;go_enter Tryz.func34,Tryz.ntmps34
  try go_wp2_with (first|((with_reducible refine gate_dst (N:=1) rfl ?_);(try (refine gate_guard (by rfl) ?_;dsimp only));refine bE 1 #[.int .i64 a0_0,.slice A0_1 l0_1.length c0_1] 24 ?_;intro gb18 hg w16 hbox hb;have BK18:=aM (hbox);have GW18:=aM (gS hg);have GE18:=aM (gS hg);replace HB:=aM (below_step bw hb);clear hb hbox hg))
  replace BK18:=aM (blk_drew BK18.out);replace HB:=aM (below_drew1 HB.out);refine start_ (n:=24) (S:=fun w'=>w'.cell? ⟨gb18,0,none⟩ = some (.int .i64 a0_0) ∧ w'.cell? ⟨gb18,1,none⟩ = some (.slice A0_1 l0_1.length c0_1)) (ds:=[]) (mA 24 0) kR rfl rfl ⟨(blk_cell BK18.out 0).trans rfl,(blk_cell BK18.out 1).trans rfl⟩ (fun hHeld=>?_);refine with_tabW impl_IsCommittee.tab1 impl_IsCommittee.bits1 (fun HT_ HW_=>?_)
  generalize w16.drew = w17 at BK18 HB hHeld ⊢
  refine pT 0 3 HT_.out ?_;refine pK 1 4 HT_.out HW_.out hHeld ?_;refine pT 2 5 HT_.out ?_;refine pT 3 6 HT_.out ?_;refine pT 4 7 HT_.out ?_;refine pU 5 8 HT_.out ?_;refine pU 6 9 HT_.out ?_;refine pU 7 10 HT_.out ?_;refine pU 8 11 HT_.out ?_;refine pT 9 12 HT_.out ?_;refine pT 10 13 HT_.out ?_;refine pU 11 14 HT_.out ?_;refine pU 12 15 HT_.out ?_;refine pU 13 16 HT_.out ?_;refine pT 14 17 HT_.out ?_;refine pT 15 18 HT_.out ?_;refine pU 16 19 HT_.out ?_;refine pU 17 20 HT_.out ?_;refine pU 18 21 HT_.out ?_;refine pU 19 22 HT_.out ?_;refine pU 20 23 HT_.out ?_;refine pU 21 24 HT_.out ?_;refine pT 22 25 HT_.out ?_;refine pT 23 2 HT_.out ?_;refine done_ (done_of HT_.out kR) ?_
  try go_wp2
  go_ret
  exact ⟨eE,by exact bw⟩


def impl_isMember.f (k:Nat) (a0_0:Int) (l0_1:List Int) (a1:Int):Option (Bool):=(impl_IsCommittee.f k a0_0 l0_1).bind fun t2=>(if t2 = true then ((impl_within.f a1 0 (wrap64 ((l0_1.length:Int) - 1))).bind fun t3=>(some t3)) else (some false))
theorem impl_isMember.calls (k:Nat) (a0_0:Int) (A0_1:Option Addr) (c0_1:Nat) (l0_1:List Int) (a1:Int) (r:Bool) (w:World) (hr0_1:Kd.C (Kd.int .i64) w A0_1 l0_1.length l0_1) (hc0_1:l0_1.length ≤ c0_1) (h:impl_isMember.f k a0_0 l0_1 a1 = some r) :
  Calls Tryz.prog 38 #[.agg #[.int .i64 a0_0,.slice A0_1 l0_1.length c0_1],.int .i64 a1] w fun e w'=>e = .returned (.bool r) ∧ Below w.heap.size w w':=by
 have hu24:=Tryz.underlying24;have HR0_1:=aM hr0_1;have HC0_1:=aM hc0_1;clear hr0_1 hc0_1;have HB:=aM (Below.refl w.heap.size w);have H:((impl_IsCommittee.f k a0_0 l0_1).bind fun t14=>(if t14 = true then ((impl_within.f a1 0 (wrap64 ((l0_1.length:Int) - 1))).bind fun t15=>(some t15)) else (some false))) = some r:=h;clear h;replace H:=oB H;obtain ⟨t14,A3,H⟩:=H;(try dsimp only at H)
 by_cases c4:t14 = true
 ·subst c4;rw [if_pos rfl] at H;replace H:=oB H;obtain ⟨t15,A5,H⟩:=H;(try dsimp only at H)
  obtain rfl:=Option.some.inj H;go_enter Tryz.func38,Tryz.ntmps38;go_wp2_with (first|((with_reducible refine gate_dst (N:=2) rfl ?_);(try (refine gate_guard (by rfl) ?_;dsimp only));refine bE 2 #[.int .i64 a0_0,.slice A0_1 l0_1.length c0_1] 24 ?_;intro gb13 hg w6 hbox hb;have BK13:=aM (hbox);have GW13:=aM (gS hg);have GE13:=aM (gS hg);replace HB:=aM (below_step bw hb);clear hb hbox hg;have hcz7_0:=cz BK13.out 0;have hcz7_1:=cz BK13.out 1;have hfz7_0:=blk_frozen BK13.out 0;have hfz7_1:=blk_frozen BK13.out 1)|((with_reducible refine gate_callee (f:=34) rfl ?_);refine gL 6 Tryz.func34 #[.agg #[.int .i64 a0_0,.slice A0_1 l0_1.length c0_1]] ?_;(with_reducible refine (impl_IsCommittee.calls k a0_0 _ _ l0_1 true _ ?side1 ?side2 A3.out).mono ?_);(case side1=>exact qcs HR0_1.out HB.out);(case side2=>exact HC0_1.out);rintro e w8 ⟨rfl,hb⟩;refine ⟨_,rfl,?_⟩;replace BK13:=aM (bB BK13.out hb);replace HB:=aM (below_step bw hb);(try clear hb);have hcz9_0:=cz BK13.out 0;have hcz9_1:=cz BK13.out 1;have hfz9_0:=blk_frozen BK13.out 0;have hfz9_1:=blk_frozen BK13.out 1)|(go_at_call 72;(with_reducible refine (impl_within.calls a1 0 (wrap64 ((l0_1.length:Int) - 1)) t15 _ A5.out).mono ?_);rintro e w' ⟨rfl,⟨nd,rfl⟩⟩))
  go_ret
  exact ⟨eE,by exact bw⟩
 ·replace c4:=Bool.eq_false_iff.mpr c4;subst c4;rw [if_neg (show ¬ (false = true) by decide)] at H;obtain rfl:=Option.some.inj H;go_enter Tryz.func38,Tryz.ntmps38;go_wp2_with (first|((with_reducible refine gate_dst (N:=2) rfl ?_);(try (refine gate_guard (by rfl) ?_;dsimp only));refine bE 2 #[.int .i64 a0_0,.slice A0_1 l0_1.length c0_1] 24 ?_;intro gb13 hg w10 hbox hb;have BK13:=aM (hbox);have GW13:=aM (gS hg);have GE13:=aM (gS hg);replace HB:=aM (below_step bw hb);clear hb hbox hg;have hcz11_0:=cz BK13.out 0;have hcz11_1:=cz BK13.out 1;have hfz11_0:=blk_frozen BK13.out 0;have hfz11_1:=blk_frozen BK13.out 1)|((with_reducible refine gate_callee (f:=34) rfl ?_);refine gL 6 Tryz.func34 #[.agg #[.int .i64 a0_0,.slice A0_1 l0_1.length c0_1]] ?_;(with_reducible refine (impl_IsCommittee.calls k a0_0 _ _ l0_1 false _ ?side1 ?side2 A3.out).mono ?_);(case side1=>exact qcs HR0_1.out HB.out);(case side2=>exact HC0_1.out);rintro e w12 ⟨rfl,hb⟩;refine ⟨_,rfl,?_⟩;replace BK13:=aM (bB BK13.out hb);replace HB:=aM (below_step bw hb);(try clear hb)))
  go_ret
  exact ⟨eE,by exact bw⟩


def impl_quarrel_1.f (a0:Int) (a1_0:Int) (l1_1:List Bool) (a2:Int) (a3:Int):Option (Bool):=if 0 ≤ a0 then (if a0 < (l1_1.length:Int) then (if rdOf false l1_1 a0 = true then ((impl_has.f a0 a2).bind fun t4=>(if t4 = true then ((impl_has.f a0 a3).bind fun t5=>(some (!t5))) else (some (!false)))) else (some false)) else (none)) else (none)
theorem impl_quarrel_1.calls (a0:Int) (gc1:Nat) (a1_0:Int) (A1_1:Option Addr) (c1_1:Nat) (l1_1:List Bool) (gc2:Nat) (a2:Int) (gc3:Nat) (a3:Int) (r:Bool) (w:World) (hr1_1:Kd.C Kd.bool w A1_1 l1_1.length l1_1) (hc1_1:l1_1.length ≤ c1_1) (hb1:w.heap[gc1]? = some (.cells #[.int .i64 a1_0,.slice A1_1 l1_1.length c1_1] 40 (0,0))) (hb2:w.heap[gc2]? = some (.cells #[.int .i64 a2] 3 (0,0))) (hb3:w.heap[gc3]? = some (.cells #[.int .i64 a3] 3 (0,0))) (hn1_2:gc1 ≠ gc2) (hn1_3:gc1 ≠ gc3) (hn2_3:gc2 ≠ gc3) (h:impl_quarrel_1.f a0 a1_0 l1_1 a2 a3 = some r) :
  Calls Tryz.prog 64 #[.int .i64 a0,.pointer (some ⟨gc1,0,none⟩),.pointer (some ⟨gc2,0,none⟩),.pointer (some ⟨gc3,0,none⟩)] w fun e w'=>e = .returned (.bool r) ∧ Drawn0 w w':=by
 have HR1_1:=aM hr1_1;have HC1_1:=aM hc1_1;clear hr1_1 hc1_1;have BK1:=aM hb1;clear hb1;have BK2:=aM hb2;clear hb2;have BK3:=aM hb3;clear hb3;have NB1_2:=aM hn1_2;have NB2_1:=aM (Ne.symm hn1_2);clear hn1_2;have NB1_3:=aM hn1_3;have NB3_1:=aM (Ne.symm hn1_3);clear hn1_3;have NB2_3:=aM hn2_3;have NB3_2:=aM (Ne.symm hn2_3);clear hn2_3;have H:(if 0 ≤ a0 then (if a0 < (l1_1.length:Int) then (if rdOf false l1_1 a0 = true then ((impl_has.f a0 a2).bind fun t26=>(if t26 = true then ((impl_has.f a0 a3).bind fun t27=>(some (!t27))) else (some (!false)))) else (some false)) else (none)) else (none)) = some r:=h;clear h;replace H:=iN H;obtain ⟨c5,H⟩:=H;have c5b0:decide (0 ≤ a0) = true:=decide_eq_true c5;clear c5;replace H:=iN H;obtain ⟨c6,H⟩:=H;have c6b0:decide (a0 < (l1_1.length:Int)) = true:=decide_eq_true c6;clear c6;obtain ⟨bq7,hbq7⟩:∃ b_:Bool,b_ = (rdOf false l1_1 a0):=⟨_,rfl⟩;rw [← hbq7] at H;have Nbq7:=aM hbq7;clear hbq7;by_cases c8:bq7 = true
 ·subst c8;rw [if_pos rfl] at H;replace H:=oB H;obtain ⟨t26,A9,H⟩:=H;(try dsimp only at H)
  by_cases c10:t26 = true
  ·subst c10;rw [if_pos rfl] at H;replace H:=oB H;obtain ⟨t27,A11,H⟩:=H;(try dsimp only at H)
   obtain rfl:=Option.some.inj H;have hnb12:=NB1_2.out;have hnc12:=NB2_1.out;have hnb13:=NB1_3.out;have hnc13:=NB3_1.out;have hcz14_0:=cz BK1.out 0;have hcz14_1:=cz BK1.out 1;have hfz14_0:=blk_frozen BK1.out 0;have hfz14_1:=blk_frozen BK1.out 1;have p4:0 ≤ (a0:Int):=of_decide_eq_true ab;have q4:a0 < (l1_1.length:Int):=of_decide_eq_true ab;obtain ⟨ad4,e4,hx4_0⟩:=Kd.at_bool HR1_1.out a0 p4 q4;(try rw [← Nbq7.out] at hx4_0)
   cases e4
   replace p4:=eq_true p4;replace q4:=eq_true q4;have hnb15:=NB2_3.out;have hnc15:=NB3_2.out;have hcz16_0:=cz BK2.out 0;have hfz16_0:=blk_frozen BK2.out 0;go_enter Tryz.func64,Tryz.ntmps64;go_wp2_with (first|(go_at_call 65;(with_reducible refine (impl_has.calls a0 a2 true _ A9.out).mono ?_);rintro e w' ⟨rfl,⟨nd,rfl⟩⟩;have hcz17_0:=cz BK3.out 0;have hfz17_0:=blk_frozen BK3.out 0)|(go_at_call 65;(with_reducible refine (impl_has.calls a0 a3 t27 _ A11.out).mono ?_);rintro e w' ⟨rfl,⟨nd,rfl⟩⟩))
   go_ret
   exact ⟨qrs,dR⟩
  ·replace c10:=Bool.eq_false_iff.mpr c10;subst c10;rw [if_neg (show ¬ (false = true) by decide)] at H;obtain rfl:=Option.some.inj H;have hnb18:=NB1_2.out;have hnc18:=NB2_1.out;have hnb19:=NB1_3.out;have hnc19:=NB3_1.out;have hcz20_0:=cz BK1.out 0;have hcz20_1:=cz BK1.out 1;have hfz20_0:=blk_frozen BK1.out 0;have hfz20_1:=blk_frozen BK1.out 1;have p4:0 ≤ (a0:Int):=of_decide_eq_true ab;have q4:a0 < (l1_1.length:Int):=of_decide_eq_true ab;obtain ⟨ad4,e4,hx4_0⟩:=Kd.at_bool HR1_1.out a0 p4 q4;(try rw [← Nbq7.out] at hx4_0)
   cases e4
   replace p4:=eq_true p4;replace q4:=eq_true q4;have hnb21:=NB2_3.out;have hnc21:=NB3_2.out;have hcz22_0:=cz BK2.out 0;have hfz22_0:=blk_frozen BK2.out 0;go_enter Tryz.func64,Tryz.ntmps64;go_wp2_with (first|(go_at_call 65;(with_reducible refine (impl_has.calls a0 a2 false _ A9.out).mono ?_);rintro e w' ⟨rfl,⟨nd,rfl⟩⟩))
   go_ret
   exact ⟨qrs,dR⟩
 ·replace c8:=Bool.eq_false_iff.mpr c8;subst c8;rw [if_neg (show ¬ (false = true) by decide)] at H;obtain rfl:=Option.some.inj H;have hnb23:=NB1_2.out;have hnc23:=NB2_1.out;have hnb24:=NB1_3.out;have hnc24:=NB3_1.out;have hcz25_0:=cz BK1.out 0;have hcz25_1:=cz BK1.out 1;have hfz25_0:=blk_frozen BK1.out 0;have hfz25_1:=blk_frozen BK1.out 1;have p4:0 ≤ (a0:Int):=of_decide_eq_true ab;have q4:a0 < (l1_1.length:Int):=of_decide_eq_true ab;obtain ⟨ad4,e4,hx4_0⟩:=Kd.at_bool HR1_1.out a0 p4 q4;(try rw [← Nbq7.out] at hx4_0)
  cases e4
  replace p4:=eq_true p4;replace q4:=eq_true q4;go_enter Tryz.func64,Tryz.ntmps64;go_wp2
  go_ret
  exact ⟨qrs,dR⟩
theorem impl_quarrel_1.enters:∀ (args:Array Value) (w:World),(callFunc 64 args).run Tryz.prog w = .ok (.enter 64 args) w:=enters_of Tryz.func64 kR rfl


def impl_quarrel.j0:Nat → Bool → Int → List Int → Int → Int → Option (Int × List Bool × Bool)
 | 0,_,_,_,_,_=>none
 | k + 1,x23,x4,x5,x6,x7=>if x23 = true then (some (0,([]:List Bool),false)) else ((impl_Committee_votes.f k x4 x5).bind fun bt2=>((impl_votesOf.f k bt2.1 (fun y0_=>impl_quarrel_1.f y0_ bt2.1 bt2.2 x6 x7)).bind fun bt3=>(some (bt3.1,bt3.2,true))))
def impl_quarrel.f (k:Nat) (a0_0:Int) (l0_1:List Int) (a1:Int) (a2:Int):Option (Int × List Bool × Bool):=(impl_isMember.f k a0_0 l0_1 a1).bind fun t3=>(if t3 = true then ((impl_isMember.f k a0_0 l0_1 a2).bind fun t4=>(if t4 = true then (impl_quarrel.j0 k (a1 == a2) a0_0 l0_1 a1 a2) else (impl_quarrel.j0 k true a0_0 l0_1 a1 a2))) else (impl_quarrel.j0 k true a0_0 l0_1 a1 a2))
theorem impl_quarrel.calls (k:Nat) (a0_0:Int) (A0_1:Option Addr) (c0_1:Nat) (l0_1:List Int) (a1:Int) (a2:Int) (r1:Int) (r2:List Bool) (r3:Bool) (w:World) (hr0_1:Kd.C (Kd.int .i64) w A0_1 l0_1.length l0_1) (hc0_1:l0_1.length ≤ c0_1) (h:impl_quarrel.f k a0_0 l0_1 a1 a2 = some (r1,r2,r3)) :
  Calls Tryz.prog 23 #[.agg #[.int .i64 a0_0,.slice A0_1 l0_1.length c0_1],.int .i64 a1,.int .i64 a2] w fun e w'=>∃ v1_:Value,e = .returned (.tuple #[.agg #[.int .i64 r1,v1_],.bool r3]) ∧ Kd.R Kd.bool 4 w' w.heap.size (fun _=>True) v1_ r2 ∧ Below w.heap.size w w':=by
 have hmf:∀ (fn:Fn) (first cap:Array Value) (w:World),(Instr.makeFunc fn first cap).run Tryz.prog w = .ok (.func fn first cap) w:=fun _ _ _ _=>rfl
 have hu24:=Tryz.underlying24;have hu40:=Tryz.underlying40;have HR0_1:=aM hr0_1;have HC0_1:=aM hc0_1;clear hr0_1 hc0_1;have HB:=aM (Below.refl w.heap.size w);have H:((impl_isMember.f k a0_0 l0_1 a1).bind fun t75=>(if t75 = true then ((impl_isMember.f k a0_0 l0_1 a2).bind fun t76=>(if t76 = true then (impl_quarrel.j0 k (a1 == a2) a0_0 l0_1 a1 a2) else (impl_quarrel.j0 k true a0_0 l0_1 a1 a2))) else (impl_quarrel.j0 k true a0_0 l0_1 a1 a2))) = some (r1,r2,r3):=h;clear h;have HC4:=aM H;clear H;go_enter Tryz.func23,Tryz.ntmps23;go_upto_region 1 with (first|((with_reducible refine gate_dst (N:=3) rfl ?_);refine bE 3 #[.int .i64 a0_0,.slice A0_1 l0_1.length c0_1] 24 ?_;intro gb71 hg w5 hbox hb;have BK71:=aM (hbox);have GW71:=aM (gS hg);have GE71:=aM (gS hg);replace HB:=aM (below_step bw hb);clear hb hbox hg)|((with_reducible refine gate_dst (N:=4) rfl ?_);refine bE 4 #[.int .i64 a1] 3 ?_;intro gb72 hg w6 hbox hb;have BK72:=aM (hbox);have GW72:=aM (gS hg);have GE72:=aM (gS hg);replace HB:=aM (below_step bw hb);have NB71_72:=aM (nL BK71.out hg);have NB72_71:=aM (nR BK71.out hg);replace BK71:=aM (bB BK71.out hb);clear hb hbox hg)|((with_reducible refine gate_dst (N:=5) rfl ?_);refine bE 5 #[.int .i64 a2] 3 ?_;intro gb73 hg w7 hbox hb;have BK73:=aM (hbox);have GW73:=aM (gS hg);have GE73:=aM (gS hg);replace HB:=aM (below_step bw hb);have NB71_73:=aM (nL BK71.out hg);have NB73_71:=aM (nR BK71.out hg);replace BK71:=aM (bB BK71.out hb);have NB72_73:=aM (nL BK72.out hg);have NB73_72:=aM (nR BK72.out hg);replace BK72:=aM (bB BK72.out hb);clear hb hbox hg)|((with_reducible refine gate_dst (N:=6) rfl ?_);refine bE 6 #[.int .i64 0,.slice none 0 0] 40 ?_;intro gb74 hg w8 hbox hb;have BK74:=aM (hbox);have GW74:=aM (gS hg);have GE74:=aM (gS hg);replace HB:=aM (below_step bw hb);have NB71_74:=aM (nL BK71.out hg);have NB74_71:=aM (nR BK71.out hg);replace BK71:=aM (bB BK71.out hb);have NB72_74:=aM (nL BK72.out hg);have NB74_72:=aM (nR BK72.out hg);replace BK72:=aM (bB BK72.out hb);have NB73_74:=aM (nL BK73.out hg);have NB74_73:=aM (nR BK73.out hg);replace BK73:=aM (bB BK73.out hb);clear hb hbox hg))
 (try simp only [Act.put,sA,sZ,sS])
 go_cut [23] (fun v23 wc=>∃ (kq:Nat) (x23_3:Bool),v23 = .bool x23_3 ∧ Aside0 (impl_quarrel.j0 kq x23_3 a0_0 l0_1 a1 a2 = some (r1,r2,r3)) ∧ Aside0 (kq ≤ k) ∧ Aside0 (wc.heap[gb71]? = some (.cells #[.int .i64 a0_0,(.slice A0_1 l0_1.length c0_1)] 24 (0,0))) ∧ Aside0 (wc.heap[gb72]? = some (.cells #[.int .i64 a1] 3 (0,0))) ∧ Aside0 (wc.heap[gb73]? = some (.cells #[.int .i64 a2] 3 (0,0))) ∧ Aside0 (wc.heap[gb74]? = some (.cells #[.int .i64 0,(.slice none 0 0)] 40 (0,0))) ∧ Aside0 (Below w.heap.size w wc))
 case first =>
  have H:=HC4.out;clear HC4;replace H:=oB H;obtain ⟨t75,A9,H⟩:=H;(try dsimp only at H)
  by_cases c10:t75 = true
  ·subst c10;rw [if_pos rfl] at H;replace H:=oB H;obtain ⟨t76,A11,H⟩:=H;(try dsimp only at H)
   by_cases c12:t76 = true
   ·subst c12;rw [if_pos rfl] at H;have H':=aM H;clear H;have hnb13:=NB71_72.out;have hnc13:=NB72_71.out;have hnb14:=NB71_73.out;have hnc14:=NB73_71.out;have hnb15:=NB71_74.out;have hnc15:=NB74_71.out;have hcz16_0:=cz BK71.out 0;have hcz16_1:=cz BK71.out 1;have hfz16_0:=blk_frozen BK71.out 0;have hfz16_1:=blk_frozen BK71.out 1;have hnb17:=NB72_73.out;have hnc17:=NB73_72.out;have hnb18:=NB72_74.out;have hnc18:=NB74_72.out;have hcz19_0:=cz BK72.out 0;have hfz19_0:=blk_frozen BK72.out 0;go_wp2_with (first|((with_reducible refine gate_callee (f:=38) rfl ?_);refine gL 11 Tryz.func38 #[.agg #[.int .i64 a0_0,.slice A0_1 l0_1.length c0_1],.int .i64 a1] ?_;(with_reducible refine (impl_isMember.calls k a0_0 _ _ l0_1 a1 true _ ?side1 ?side2 A9.out).mono ?_);(case side1=>exact qcs HR0_1.out HB.out);(case side2=>exact HC0_1.out);rintro e w20 ⟨rfl,hb⟩;refine ⟨_,rfl,?_⟩;replace BK71:=aM (bB BK71.out hb);replace BK72:=aM (bB BK72.out hb);replace BK73:=aM (bB BK73.out hb);replace BK74:=aM (bB BK74.out hb);replace HB:=aM (below_step bw hb);(try clear hb);have hcz21_0:=cz BK71.out 0;have hcz21_1:=cz BK71.out 1;have hfz21_0:=blk_frozen BK71.out 0;have hfz21_1:=blk_frozen BK71.out 1;have hnb22:=NB73_74.out;have hnc22:=NB74_73.out;have hcz23_0:=cz BK73.out 0;have hfz23_0:=blk_frozen BK73.out 0)|(go_at_call 38;(with_reducible refine (impl_isMember.calls k a0_0 _ _ l0_1 a2 true _ ?side1 ?side2 A11.out).mono ?_);(case side1=>exact qcs HR0_1.out HB.out);(case side2=>exact HC0_1.out);rintro e w24 ⟨rfl,hb⟩;replace BK71:=aM (bB BK71.out hb);replace BK72:=aM (bB BK72.out hb);replace BK73:=aM (bB BK73.out hb);replace BK74:=aM (bB BK74.out hb);replace HB:=aM (below_step bw hb);(try clear hb);have hcz25_0:=cz BK72.out 0;have hfz25_0:=blk_frozen BK72.out 0;have hcz26_0:=cz BK73.out 0;have hfz26_0:=blk_frozen BK73.out 0))
    go_meet
    case rel=>exact ⟨_,((a1 == a2)),qrs,H',⟨by first|omega|exact Nat.le_refl _⟩,⟨bk1 BK71.out⟩,⟨bk1 BK72.out⟩,⟨bk1 BK73.out⟩,⟨bk1 BK74.out⟩,⟨by exact bw⟩⟩
   ·replace c12:=Bool.eq_false_iff.mpr c12;subst c12;rw [if_neg (show ¬ (false = true) by decide)] at H;have H':=aM H;clear H;have hnb27:=NB71_72.out;have hnc27:=NB72_71.out;have hnb28:=NB71_73.out;have hnc28:=NB73_71.out;have hnb29:=NB71_74.out;have hnc29:=NB74_71.out;have hcz30_0:=cz BK71.out 0;have hcz30_1:=cz BK71.out 1;have hfz30_0:=blk_frozen BK71.out 0;have hfz30_1:=blk_frozen BK71.out 1;have hnb31:=NB72_73.out;have hnc31:=NB73_72.out;have hnb32:=NB72_74.out;have hnc32:=NB74_72.out;have hcz33_0:=cz BK72.out 0;have hfz33_0:=blk_frozen BK72.out 0;go_wp2_with (first|((with_reducible refine gate_callee (f:=38) rfl ?_);refine gL 11 Tryz.func38 #[.agg #[.int .i64 a0_0,.slice A0_1 l0_1.length c0_1],.int .i64 a1] ?_;(with_reducible refine (impl_isMember.calls k a0_0 _ _ l0_1 a1 true _ ?side1 ?side2 A9.out).mono ?_);(case side1=>exact qcs HR0_1.out HB.out);(case side2=>exact HC0_1.out);rintro e w34 ⟨rfl,hb⟩;refine ⟨_,rfl,?_⟩;replace BK71:=aM (bB BK71.out hb);replace BK72:=aM (bB BK72.out hb);replace BK73:=aM (bB BK73.out hb);replace BK74:=aM (bB BK74.out hb);replace HB:=aM (below_step bw hb);(try clear hb);have hcz35_0:=cz BK71.out 0;have hcz35_1:=cz BK71.out 1;have hfz35_0:=blk_frozen BK71.out 0;have hfz35_1:=blk_frozen BK71.out 1;have hnb36:=NB73_74.out;have hnc36:=NB74_73.out;have hcz37_0:=cz BK73.out 0;have hfz37_0:=blk_frozen BK73.out 0)|(go_at_call 38;(with_reducible refine (impl_isMember.calls k a0_0 _ _ l0_1 a2 false _ ?side1 ?side2 A11.out).mono ?_);(case side1=>exact qcs HR0_1.out HB.out);(case side2=>exact HC0_1.out);rintro e w38 ⟨rfl,hb⟩;replace BK71:=aM (bB BK71.out hb);replace BK72:=aM (bB BK72.out hb);replace BK73:=aM (bB BK73.out hb);replace BK74:=aM (bB BK74.out hb);replace HB:=aM (below_step bw hb);(try clear hb)))
    go_meet
    case rel=>exact ⟨_,(true),qrs,H',⟨by first|omega|exact Nat.le_refl _⟩,⟨bk1 BK71.out⟩,⟨bk1 BK72.out⟩,⟨bk1 BK73.out⟩,⟨bk1 BK74.out⟩,⟨by exact bw⟩⟩
  ·replace c10:=Bool.eq_false_iff.mpr c10;subst c10;rw [if_neg (show ¬ (false = true) by decide)] at H;have H':=aM H;clear H;have hnb39:=NB71_72.out;have hnc39:=NB72_71.out;have hnb40:=NB71_73.out;have hnc40:=NB73_71.out;have hnb41:=NB71_74.out;have hnc41:=NB74_71.out;have hcz42_0:=cz BK71.out 0;have hcz42_1:=cz BK71.out 1;have hfz42_0:=blk_frozen BK71.out 0;have hfz42_1:=blk_frozen BK71.out 1;have hnb43:=NB72_73.out;have hnc43:=NB73_72.out;have hnb44:=NB72_74.out;have hnc44:=NB74_72.out;have hcz45_0:=cz BK72.out 0;have hfz45_0:=blk_frozen BK72.out 0;go_wp2_with (first|((with_reducible refine gate_callee (f:=38) rfl ?_);refine gL 11 Tryz.func38 #[.agg #[.int .i64 a0_0,.slice A0_1 l0_1.length c0_1],.int .i64 a1] ?_;(with_reducible refine (impl_isMember.calls k a0_0 _ _ l0_1 a1 false _ ?side1 ?side2 A9.out).mono ?_);(case side1=>exact qcs HR0_1.out HB.out);(case side2=>exact HC0_1.out);rintro e w46 ⟨rfl,hb⟩;refine ⟨_,rfl,?_⟩;replace BK71:=aM (bB BK71.out hb);replace BK72:=aM (bB BK72.out hb);replace BK73:=aM (bB BK73.out hb);replace BK74:=aM (bB BK74.out hb);replace HB:=aM (below_step bw hb);(try clear hb)))
   go_meet
   case rel=>exact ⟨_,(true),qrs,H',⟨by first|omega|exact Nat.le_refl _⟩,⟨bk1 BK71.out⟩,⟨bk1 BK72.out⟩,⟨bk1 BK73.out⟩,⟨bk1 BK74.out⟩,⟨by exact bw⟩⟩
 case rest =>
  clear HC4;(try clear c10);(try clear c12);(try clear hcz16_0);(try clear hcz16_1);(try clear hcz19_0);(try clear hcz21_0);(try clear hcz21_1);(try clear hcz23_0);(try clear hcz25_0);(try clear hcz26_0);(try clear hcz30_0);(try clear hcz30_1);(try clear hcz33_0);(try clear hcz35_0);(try clear hcz35_1);(try clear hcz37_0);(try clear hcz42_0);(try clear hcz42_1);(try clear hcz45_0);(try clear hfz16_0);(try clear hfz16_1);(try clear hfz19_0);(try clear hfz21_0);(try clear hfz21_1);(try clear hfz23_0);(try clear hfz25_0);(try clear hfz26_0);(try clear hfz30_0);(try clear hfz30_1);(try clear hfz33_0);(try clear hfz35_0);(try clear hfz35_1);(try clear hfz37_0);(try clear hfz42_0);(try clear hfz42_1);(try clear hfz45_0)
  obtain ⟨kq,x23_3,rfl,HA,HJ3,BK71,BK72,BK73,BK74,HB⟩:=hcut
  cases kq with
  | zero=>exact absurd HA.out (by simp [impl_quarrel.j0])
  | succ kj3 =>
   have H:=HA.out;clear HA;simp only [impl_quarrel.j0] at H;by_cases c47:x23_3 = true
   ·subst c47;rw [if_pos rfl] at H;simp only [Option.some.injEq,Prod.mk.injEq] at H;obtain ⟨rfl,rfl,rfl⟩:=H;have hnb48:=NB74_71.out;have hnc48:=NB71_74.out;have hnb49:=NB74_72.out;have hnc49:=NB72_74.out;have hnb50:=NB74_73.out;have hnc50:=NB73_74.out;have hcz51_0:=cz BK74.out 0;have hcz51_1:=cz BK74.out 1;have hfz51_0:=blk_frozen BK74.out 0;have hfz51_1:=blk_frozen BK74.out 1;go_wp2
    refine bodyPost_ret (results_ct rfl _ _ gb74 40 #[.int .i64 0,.slice none 0 0] (0,0) _ rfl (by (with_reducible repeat (first|refine blk_drewN ?_ _|refine blk_drew ?_|refine blk_alloc ?_ _));refine blk_put (cs:=#[.int .i64 0,.slice none 0 0]) ?_ 1 _ rfl;(with_reducible repeat (first|refine blk_drewN ?_ _|refine blk_drew ?_|refine blk_alloc ?_ _));refine blk_put (cs:=#[.int .i64 0,.slice none 0 0]) ?_ 0 _ rfl;(with_reducible repeat (first|refine blk_drewN ?_ _|refine blk_drew ?_|refine blk_alloc ?_ _));exact BK74.out) Tryz.underlying40 rfl kR) rfl ?_;exact ⟨_,eE,by first|exact Kd.R_nil _ _ _ _ _|exact Kd.N_nil _ _ _ _ _|exact Kd.V_nil _ _ _ _ _|exact Kd.Q_nil _ _ _ _ _|exact Kd.S_nil _ _ _ _ _,by exact bw⟩
   ·replace c47:=Bool.eq_false_iff.mpr c47;subst c47;rw [if_neg (show ¬ (false = true) by decide)] at H;replace H:=oB H;obtain ⟨⟨t77,t78⟩,A52,H⟩:=H;(try dsimp only at H)
    replace H:=oB H;obtain ⟨⟨t82,t83⟩,A53,H⟩:=H;(try dsimp only at H)
    simp only [Option.some.injEq,Prod.mk.injEq] at H;obtain ⟨rfl,rfl,rfl⟩:=H;have hnb54:=NB71_72.out;have hnc54:=NB72_71.out;have hnb55:=NB71_73.out;have hnc55:=NB73_71.out;have hnb56:=NB71_74.out;have hnc56:=NB74_71.out;have hcz57_0:=cz BK71.out 0;have hcz57_1:=cz BK71.out 1;have hfz57_0:=blk_frozen BK71.out 0;have hfz57_1:=blk_frozen BK71.out 1;go_wp2_with (first|((with_reducible refine gate_callee (f:=30) rfl ?_);refine gL 26 Tryz.func30 #[.agg #[.int .i64 a0_0,.slice A0_1 l0_1.length c0_1]] ?_;(with_reducible refine (impl_Committee_votes.calls kj3 a0_0 _ _ l0_1 t77 t78 _ ?side1 ?side2 A52.out).mono ?_);(case side1=>exact qcs HR0_1.out HB.out);(case side2=>exact HC0_1.out);rintro e w58 ⟨v79,rfl,ho0,hb⟩;refine ⟨_,rfl,?_⟩;have HO80:=aM (Kd.R_lower ho0 (below_size bw));replace BK71:=aM (bB BK71.out hb);replace BK72:=aM (bB BK72.out hb);replace BK73:=aM (bB BK73.out hb);replace BK74:=aM (bB BK74.out hb);replace HB:=aM (below_step bw hb);(try clear hb);(try clear ho0))|((with_reducible refine gate_dst (N:=8) rfl ?_);refine bE 8 #[.int .i64 0,.slice none 0 0] 40 ?_;intro gb81 hg w59 hbox hb;replace HO80:=aM (Kd.R_below (qra HO80.out) hb);have BK81:=aM (hbox);have GW81:=aM (gS hg);have GE81:=aM (gS hg);replace HB:=aM (below_step bw hb);have NB71_81:=aM (nL BK71.out hg);have NB81_71:=aM (nR BK71.out hg);replace BK71:=aM (bB BK71.out hb);have NB72_81:=aM (nL BK72.out hg);have NB81_72:=aM (nR BK72.out hg);replace BK72:=aM (bB BK72.out hb);have NB73_81:=aM (nL BK73.out hg);have NB81_73:=aM (nR BK73.out hg);replace BK73:=aM (bB BK73.out hb);have NB74_81:=aM (nL BK74.out hg);have NB81_74:=aM (nR BK74.out hg);replace BK74:=aM (bB BK74.out hb);clear hb hbox hg;have hnb60:=NB81_71.out;have hnc60:=NB71_81.out;have hnb61:=NB81_72.out;have hnc61:=NB72_81.out;have hnb62:=NB81_73.out;have hnc62:=NB73_81.out;have hnb63:=NB81_74.out;have hnc63:=NB74_81.out;have hcz64_0:=cz BK81.out 0;have hcz64_1:=cz BK81.out 1;have hfz64_0:=blk_frozen BK81.out 0;have hfz64_1:=blk_frozen BK81.out 1;obtain ⟨Ao65,co65,eo65⟩:=Kd.R_slice HO80.out;subst eo65)|((with_reducible refine gate_callee (f:=63) rfl ?_);refine gL 30 Tryz.func63 #[.int .i64 t77,.func (.func 64) #[] #[.pointer (some ⟨gb81,0,none⟩),.pointer (some ⟨gb72,0,none⟩),.pointer (some ⟨gb73,0,none⟩)]] ?_;(with_reducible refine (impl_votesOf.calls kj3 t77 (fun y0_=>impl_quarrel_1.f y0_ t77 t78 a1 a2) 64 #[.pointer (some ⟨gb81,0,none⟩),.pointer (some ⟨gb72,0,none⟩),.pointer (some ⟨gb73,0,none⟩)] impl_quarrel_1.enters t82 t83 _ ?side1 A53.out).mono ?_);(case side1=>exact (fun W_ a0_ r0_ hx_ hb_ =>(impl_quarrel_1.calls a0_ gb81 t77 _ _ t78 gb72 a1 gb73 a2 r0_ W_  (Kd.C_below (by refine (Kd.R_reads' (e:=4) (base:=w.heap.size) (ok:=fun k_=>True) (n:=t78.length) (c:=co65) ?_).2.2;exact (tR HO80.out BK81.out)) hb_) (by exact (Kd.R_reads' HO80.out).2.1) (box_later (by (with_reducible repeat (first|refine blk_drewN ?_ _|refine blk_drew ?_|refine blk_alloc ?_ _));refine blk_put (cs:=#[.int .i64 t77,.slice none 0 0]) ?_ 1 _ rfl;(with_reducible repeat (first|refine blk_drewN ?_ _|refine blk_drew ?_|refine blk_alloc ?_ _));refine blk_put (cs:=#[.int .i64 0,.slice none 0 0]) ?_ 0 _ rfl;(with_reducible repeat (first|refine blk_drewN ?_ _|refine blk_drew ?_|refine blk_alloc ?_ _));exact BK81.out) hb_) (box_later (bF BK72.out NB72_81.out) hb_) (box_later (bF BK73.out NB73_81.out) hb_) NB81_72.out NB81_73.out NB72_73.out hx_).mono (fun _ _ h_=>⟨h_.1,h_.2.below⟩)));rintro e w66 ⟨v84,rfl,ho0,hb⟩;refine ⟨_,rfl,?_⟩;have HO85:=aM (Kd.R_lower (Kd.R_new' ho0 (Kd.R_lt (tR HO80.out BK81.out))) (below_size bw));replace HO80:=aM (Kd.R_elder' (tR HO80.out BK81.out) (Kd.R_base ho0) hb);replace BK71:=aM (bG BK71.out NB71_81.out hb);replace BK72:=aM (bG BK72.out NB72_81.out hb);replace BK73:=aM (bG BK73.out NB73_81.out hb);replace BK74:=aM (bG BK74.out NB74_81.out hb);replace BK81:=aM (bP BK81.out hb);replace HB:=aM (below_step bw hb);(try clear hb);(try clear hk);(try clear ho0);have hnb67:=NB74_72.out;have hnc67:=NB72_74.out;have hnb68:=NB74_73.out;have hnc68:=NB73_74.out;have hcz69_0:=cz BK74.out 0;have hcz69_1:=cz BK74.out 1;have hfz69_0:=blk_frozen BK74.out 0;have hfz69_1:=blk_frozen BK74.out 1;obtain ⟨Ao70,co70,eo70⟩:=Kd.R_slice HO85.out;subst eo70))
    refine bodyPost_ret (results_ct rfl _ _ gb74 40 #[.int .i64 t82,.slice Ao70 t83.length co70] (0,0) _ rfl (by (with_reducible repeat (first|refine blk_drewN ?_ _|refine blk_drew ?_|refine blk_alloc ?_ _));refine blk_put (cs:=#[.int .i64 t82,.slice none 0 0]) ?_ 1 _ rfl;(with_reducible repeat (first|refine blk_drewN ?_ _|refine blk_drew ?_|refine blk_alloc ?_ _));refine blk_put (cs:=#[.int .i64 0,.slice none 0 0]) ?_ 0 _ rfl;(with_reducible repeat (first|refine blk_drewN ?_ _|refine blk_drew ?_|refine blk_alloc ?_ _));exact BK74.out) Tryz.underlying40 rfl kR) rfl ?_;exact ⟨_,eE,by (with_reducible repeat (first|apply Kd.R_alloc|apply Kd.R_drewN|apply Kd.R_drew));exact Kd.R_mono (Kd.R_far (p:=⟨gb74,1,none⟩) (Kd.R_far (p:=⟨gb74,0,none⟩) (Kd.R_types HO85.out BK74.out (by decide)) (fun _ hk=>hk.2) (.int .i64 t82)) (fun _ hk=>hk.2) (.slice Ao70 t83.length co70)) (fun _ hk=>trivial),by exact bw⟩


def impl_votes_countWins.l0:Nat → Int → List Bool → Int → Int → Option (Int)
 | 0,_,_,_,_=>none
 | k + 1,x3,x7,x8,x9=>if x9 < x8 then (if 0 ≤ x9 then (if x9 < (x7.length:Int) then (if rdOf false x7 x9 = true then (impl_votes_countWins.l0 k (wrap64 (x3 + 1)) x7 x8 (wrap64 (x9 + 1))) else (impl_votes_countWins.l0 k x3 x7 x8 (wrap64 (x9 + 1)))) else (none)) else (none)) else (some x3)
def impl_votes_countWins.f (k:Nat) (a0_0:Int) (l0_1:List Bool):Option (Int):=impl_votes_countWins.l0 k 0 l0_1 (l0_1.length:Int) 0
theorem impl_votes_countWins.calls (k:Nat) (a0_0:Int) (A0_1:Option Addr) (c0_1:Nat) (l0_1:List Bool) (r:Int) (w:World) (hr0_1:Kd.C Kd.bool w A0_1 l0_1.length l0_1) (hc0_1:l0_1.length ≤ c0_1) (h:impl_votes_countWins.f k a0_0 l0_1 = some r) :
  Calls Tryz.prog 24 #[.agg #[.int .i64 a0_0,.slice A0_1 l0_1.length c0_1]] w fun e w'=>e = .returned (.int .i64 r) ∧ Below w.heap.size w w':=by
 have hu40:=Tryz.underlying40;have HR0_1:=aM hr0_1;have HC0_1:=aM hc0_1;clear hr0_1 hc0_1;have HB:=aM (Below.refl w.heap.size w);have H:(impl_votes_countWins.l0 k 0 l0_1 (l0_1.length:Int) 0) = some r:=h;clear h;have H':=aM H;clear H;go_enter Tryz.func24,Tryz.ntmps24;go_wp2_with (first|((with_reducible refine gate_dst (N:=1) rfl ?_);refine bE 1 #[.int .i64 a0_0,.slice A0_1 l0_1.length c0_1] 40 ?_;intro gb10 hg w2 hbox hb;have BK10:=aM (hbox);have GW10:=aM (gS hg);have GE10:=aM (gS hg);replace HB:=aM (below_step bw hb);clear hb hbox hg;have hcz3_0:=cz BK10.out 0;have hcz3_1:=cz BK10.out 1;have hfz3_0:=blk_frozen BK10.out 0;have hfz3_1:=blk_frozen BK10.out 1))
 go_loopg [3,9] k (fun kq v3 v9 w'=>∃ (x3_1:Int) (x9_1:Int),v3 = .int .i64 x3_1 ∧ v9 = .int .i64 x9_1 ∧ Aside0 (impl_votes_countWins.l0 kq x3_1 l0_1 (l0_1.length:Int) x9_1 = some r) ∧ Aside0 (kq ≤ k) ∧ Aside0 (w'.heap[gb10]? = some (.cells #[.int .i64 a0_0,(.slice A0_1 l0_1.length c0_1)] 40 (0,0))) ∧ Aside0 (Below w.heap.size w w'))
 case atStart=>exact ⟨(0),(0),qrs,qrs,H',⟨Nat.le_refl _⟩,⟨bk1 BK10.out⟩,⟨by exact bw⟩⟩
 case round =>
  clear H';(try clear hcz3_0);(try clear hcz3_1);(try clear hfz3_0);(try clear hfz3_1)
  obtain ⟨x3_1,x9_1,rfl,rfl,HA,HK1,BK10,HB⟩:=hrel
  cases gk with
  | zero=>exact absurd HA.out (by simp [impl_votes_countWins.l0])
  | succ k1 =>
   have H:=HA.out;clear HA;simp only [impl_votes_countWins.l0] at H;by_cases c4:x9_1 < (l0_1.length:Int)
   ·rw [if_pos c4] at H;have c4b0:=decide_eq_true c4;clear c4;replace H:=iN H;obtain ⟨c5,H⟩:=H;have c5b0:decide (0 ≤ x9_1) = true:=decide_eq_true c5;clear c5;replace H:=iN H;obtain ⟨c6,H⟩:=H;have c6b0:decide (x9_1 < (l0_1.length:Int)) = true:=decide_eq_true c6;clear c6;obtain ⟨bq7,hbq7⟩:∃ b_:Bool,b_ = (rdOf false l0_1 x9_1):=⟨_,rfl⟩;rw [← hbq7] at H;have Nbq7:=aM hbq7;clear hbq7;by_cases c8:bq7 = true
    ·subst c8;rw [if_pos rfl] at H;have H':=aM H;clear H;have p11:0 ≤ (x9_1:Int):=of_decide_eq_true ab;have q11:x9_1 < (l0_1.length:Int):=of_decide_eq_true ab;obtain ⟨ad11,e11,hx11_0⟩:=Kd.at_bool HR0_1.out x9_1 p11 q11;(try rw [← Nbq7.out] at hx11_0)
     cases e11
     replace hx11_0:=(HB.out.cell (World.block_lt_of_cell? w _ hx11_0)).trans hx11_0;replace p11:=eq_true p11;replace q11:=eq_true q11;go_wp2
     go_roundg k1
     case measure=>have:=HK1.out;omega
     case rel=>exact ⟨(wrap64 (x3_1 + 1)),(wrap64 (x9_1 + 1)),qrs,qrs,H',⟨by have:=HK1.out;omega⟩,⟨bk1 BK10.out⟩,⟨by exact bw⟩⟩
    ·replace c8:=Bool.eq_false_iff.mpr c8;subst c8;rw [if_neg (show ¬ (false = true) by decide)] at H;have H':=aM H;clear H;have p11:0 ≤ (x9_1:Int):=of_decide_eq_true ab;have q11:x9_1 < (l0_1.length:Int):=of_decide_eq_true ab;obtain ⟨ad11,e11,hx11_0⟩:=Kd.at_bool HR0_1.out x9_1 p11 q11;(try rw [← Nbq7.out] at hx11_0)
     cases e11
     replace hx11_0:=(HB.out.cell (World.block_lt_of_cell? w _ hx11_0)).trans hx11_0;replace p11:=eq_true p11;replace q11:=eq_true q11;go_wp2
     go_roundg k1
     case measure=>have:=HK1.out;omega
     case rel=>exact ⟨(x3_1),(wrap64 (x9_1 + 1)),qrs,qrs,H',⟨by have:=HK1.out;omega⟩,⟨bk1 BK10.out⟩,⟨by exact bw⟩⟩
   ·rw [if_neg c4] at H;have c4b0:=decide_eq_false c4;clear c4;obtain rfl:=Option.some.inj H;go_wp2
    go_ret
    exact ⟨eE,by exact bw⟩


def impl_CountQuarrelWins.f (k:Nat) (a0_0:Int) (l0_1:List Int) (a1:Int) (a2:Int):Option (Int × Bool):=(impl_quarrel.f k a0_0 l0_1 a1 a2).bind fun bt3=>(if bt3.2.2 = true then ((impl_votes_countWins.f k bt3.1 bt3.2.1).bind fun t4=>(some (t4,true))) else (some (0,false)))
theorem impl_CountQuarrelWins.calls (k:Nat) (a0_0:Int) (A0_1:Option Addr) (c0_1:Nat) (l0_1:List Int) (a1:Int) (a2:Int) (r1:Int) (r2:Bool) (w:World) (hr0_1:Kd.C (Kd.int .i64) w A0_1 l0_1.length l0_1) (hc0_1:l0_1.length ≤ c0_1) (h:impl_CountQuarrelWins.f k a0_0 l0_1 a1 a2 = some (r1,r2)) :
  Calls Tryz.prog 4 #[.agg #[.int .i64 a0_0,.slice A0_1 l0_1.length c0_1],.int .i64 a1,.int .i64 a2] w fun e w'=>e = .returned (.tuple #[.int .i64 r1,.bool r2]) ∧ Below w.heap.size w w':=by
 have hu24:=Tryz.underlying24;have hu40:=Tryz.underlying40;have HR0_1:=aM hr0_1;have HC0_1:=aM hc0_1;clear hr0_1 hc0_1;have HB:=aM (Below.refl w.heap.size w);have H:((impl_quarrel.f k a0_0 l0_1 a1 a2).bind fun bt22=>(if bt22.2.2 = true then ((impl_votes_countWins.f k bt22.1 bt22.2.1).bind fun t30=>(some (t30,true))) else (some (0,false)))) = some (r1,r2):=h;clear h;replace H:=oB H;obtain ⟨⟨t22,t25,t28⟩,A4,H⟩:=H;(try dsimp only at H)
 by_cases c5:t28 = true
 ·subst c5;rw [if_pos rfl] at H;replace H:=oB H;obtain ⟨t30,A6,H⟩:=H;(try dsimp only at H)
  simp only [Option.some.injEq,Prod.mk.injEq] at H;obtain ⟨rfl,rfl⟩:=H;go_enter Tryz.func4,Tryz.ntmps4;go_wp2_with (first|((with_reducible refine gate_dst (N:=3) rfl ?_);refine bE 3 #[.int .i64 a0_0,.slice A0_1 l0_1.length c0_1] 24 ?_;intro gb3 hg w7 hbox hb;have BK3:=aM (hbox);have GW3:=aM (gS hg);have GE3:=aM (gS hg);replace HB:=aM (below_step bw hb);clear hb hbox hg;have hcz8_0:=cz BK3.out 0;have hcz8_1:=cz BK3.out 1;have hfz8_0:=blk_frozen BK3.out 0;have hfz8_1:=blk_frozen BK3.out 1)|((with_reducible refine gate_callee (f:=23) rfl ?_);refine gL 14 Tryz.func23 #[.agg #[.int .i64 a0_0,.slice A0_1 l0_1.length c0_1],.int .i64 a1,.int .i64 a2] ?_;(with_reducible refine (impl_quarrel.calls k a0_0 _ _ l0_1 a1 a2 t22 t25 true _ ?side1 ?side2 A4.out).mono ?_);(case side1=>exact qcs HR0_1.out HB.out);(case side2=>exact HC0_1.out);rintro e w9 ⟨v26,rfl,ho0,hb⟩;refine ⟨_,rfl,?_⟩;have HO27:=aM (Kd.R_lower ho0 (below_size bw));replace BK3:=aM (bB BK3.out hb);replace HB:=aM (below_step bw hb);(try clear hb);(try clear ho0))|((with_reducible refine gate_dst (N:=8) rfl ?_);refine bE 8 #[.int .i64 0,.slice none 0 0] 40 ?_;intro gb29 hg w10 hbox hb;replace HO27:=aM (Kd.R_below (qra HO27.out) hb);have BK29:=aM (hbox);have GW29:=aM (gS hg);have GE29:=aM (gS hg);replace HB:=aM (below_step bw hb);have NB3_29:=aM (nL BK3.out hg);have NB29_3:=aM (nR BK3.out hg);replace BK3:=aM (bB BK3.out hb);clear hb hbox hg;have hnb11:=NB29_3.out;have hnc11:=NB3_29.out;have hcz12_0:=cz BK29.out 0;have hcz12_1:=cz BK29.out 1;have hfz12_0:=blk_frozen BK29.out 0;have hfz12_1:=blk_frozen BK29.out 1;obtain ⟨Ao13,co13,eo13⟩:=Kd.R_slice HO27.out;subst eo13)|((with_reducible refine gate_callee (f:=24) rfl ?_);refine gL 20 Tryz.func24 #[.agg #[.int .i64 t22,.slice Ao13 t25.length co13]] ?_;(with_reducible refine (impl_votes_countWins.calls k t22 _ _ t25 t30 _ ?side1 ?side2 A6.out).mono ?_);(case side1=>refine (Kd.R_reads' (e:=4) (base:=w.heap.size) (ok:=fun k_=>True) (n:=t25.length) (c:=co13) ?_).2.2;exact (tR HO27.out BK29.out));(case side2=>exact (Kd.R_reads' HO27.out).2.1);rintro e w14 ⟨rfl,hb⟩;refine ⟨_,rfl,?_⟩;replace HO27:=aM (Kd.R_below (tR HO27.out BK29.out) hb);replace BK3:=aM (bG BK3.out NB3_29.out hb);replace BK29:=aM (bP BK29.out hb);replace HB:=aM (below_step bw hb);(try clear hb);(try clear hk)))
  go_ret2
  exact ⟨eE,by exact bw⟩
 ·replace c5:=Bool.eq_false_iff.mpr c5;subst c5;rw [if_neg (show ¬ (false = true) by decide)] at H;simp only [Option.some.injEq,Prod.mk.injEq] at H;obtain ⟨rfl,rfl⟩:=H;go_enter Tryz.func4,Tryz.ntmps4;go_wp2_with (first|((with_reducible refine gate_dst (N:=3) rfl ?_);refine bE 3 #[.int .i64 a0_0,.slice A0_1 l0_1.length c0_1] 24 ?_;intro gb3 hg w15 hbox hb;have BK3:=aM (hbox);have GW3:=aM (gS hg);have GE3:=aM (gS hg);replace HB:=aM (below_step bw hb);clear hb hbox hg;have hcz16_0:=cz BK3.out 0;have hcz16_1:=cz BK3.out 1;have hfz16_0:=blk_frozen BK3.out 0;have hfz16_1:=blk_frozen BK3.out 1)|((with_reducible refine gate_callee (f:=23) rfl ?_);refine gL 14 Tryz.func23 #[.agg #[.int .i64 a0_0,.slice A0_1 l0_1.length c0_1],.int .i64 a1,.int .i64 a2] ?_;(with_reducible refine (impl_quarrel.calls k a0_0 _ _ l0_1 a1 a2 t22 t25 false _ ?side1 ?side2 A4.out).mono ?_);(case side1=>exact qcs HR0_1.out HB.out);(case side2=>exact HC0_1.out);rintro e w17 ⟨v26,rfl,ho0,hb⟩;refine ⟨_,rfl,?_⟩;have HO27:=aM (Kd.R_lower ho0 (below_size bw));replace BK3:=aM (bB BK3.out hb);replace HB:=aM (below_step bw hb);(try clear hb);(try clear ho0))|((with_reducible refine gate_dst (N:=8) rfl ?_);refine bE 8 #[.int .i64 0,.slice none 0 0] 40 ?_;intro gb29 hg w18 hbox hb;replace HO27:=aM (Kd.R_below (qra HO27.out) hb);have BK29:=aM (hbox);have GW29:=aM (gS hg);have GE29:=aM (gS hg);replace HB:=aM (below_step bw hb);have NB3_29:=aM (nL BK3.out hg);have NB29_3:=aM (nR BK3.out hg);replace BK3:=aM (bB BK3.out hb);clear hb hbox hg;have hnb19:=NB29_3.out;have hnc19:=NB3_29.out;have hcz20_0:=cz BK29.out 0;have hcz20_1:=cz BK29.out 1;have hfz20_0:=blk_frozen BK29.out 0;have hfz20_1:=blk_frozen BK29.out 1;obtain ⟨Ao21,co21,eo21⟩:=Kd.R_slice HO27.out;subst eo21))
  go_ret2
  exact ⟨eE,by exact bw⟩


def spec_l1In.f (a0:Int) (a1:Int) (a2:Int):Option (Bool):=if a0 ≥ a1 then (some (decide (a0 ≤ a2))) else (some false)
theorem spec_l1In.calls (a0:Int) (a1:Int) (a2:Int) (r:Bool) (w:World) (h:spec_l1In.f a0 a1 a2 = some r) :
  Calls Tryz.prog 78 #[.int .i64 a0,.int .i64 a1,.int .i64 a2] w fun e w'=>e = .returned (.bool r) ∧ Drawn0 w w':=by
 have H:(if a0 ≥ a1 then (some (decide (a0 ≤ a2))) else (some false)) = some r:=h;clear h;by_cases c4:a0 ≥ a1
 ·rw [if_pos c4] at H;have c4b0:decide (a1 ≤ a0) = true:=decide_eq_true c4;clear c4;obtain rfl:=Option.some.inj H;go_enter Tryz.func78,Tryz.ntmps78;go_wp2
  go_ret
  exact ⟨qrs,dR⟩
 ·rw [if_neg c4] at H;have c4b0:decide (a1 ≤ a0) = false:=decide_eq_false c4;clear c4;obtain rfl:=Option.some.inj H;go_enter Tryz.func78,Tryz.ntmps78;go_wp2
  go_ret
  exact ⟨qrs,dR⟩


def spec_voSum.l0:Nat → Int → List Int → Int → Int → Option (Int)
 | 0,_,_,_,_=>none
 | k + 1,x3,x6,x7,x8=>if x8 < x7 then (if 0 ≤ x8 then (if x8 < (x6.length:Int) then (spec_voSum.l0 k (wrap64 (x3 + (rd x6 x8))) x6 x7 (wrap64 (x8 + 1))) else (none)) else (none)) else (some x3)
def spec_voSum.f (k:Nat) (l0:List Int):Option (Int):=spec_voSum.l0 k 0 l0 (l0.length:Int) 0
theorem spec_voSum.calls (k:Nat) (A0:Option Addr) (c0:Nat) (l0:List Int) (r:Int) (w:World) (hr0:Kd.C (Kd.int .i64) w A0 l0.length l0) (hc0:l0.length ≤ c0) (h:spec_voSum.f k l0 = some r) :
  Calls Tryz.prog 62 #[.slice A0 l0.length c0] w fun e w'=>e = .returned (.int .i64 r) ∧ Drawn0 w w':=by
 have HR0:=aM hr0;have HC0:=aM hc0;clear hr0 hc0;have H:(spec_voSum.l0 k 0 l0 (l0.length:Int) 0) = some r:=h;clear h;have H':=aM H;clear H;go_enter Tryz.func62,Tryz.ntmps62;go_wp2
 go_loopg [3,8] k (fun kq v3 v8 w'=>∃ (x3_1:Int) (x8_1:Int),v3 = .int .i64 x3_1 ∧ v8 = .int .i64 x8_1 ∧ Aside0 (spec_voSum.l0 kq x3_1 l0 (l0.length:Int) x8_1 = some r) ∧ Aside0 (kq ≤ k) ∧ Drawn0 w w')
 case atStart=>exact ⟨(0),(0),qrs,qrs,H',⟨Nat.le_refl _⟩,by repeat (first|exact Drawn0.refl _|apply Drawn0.step)⟩
 case round =>
  clear H';obtain ⟨x3_1,x8_1,rfl,rfl,HA,HK1,⟨m1,rfl⟩⟩:=hrel
  cases gk with
  | zero=>exact absurd HA.out (by simp [spec_voSum.l0])
  | succ k1 =>
   have H:=HA.out;clear HA;simp only [spec_voSum.l0] at H;by_cases c2:x8_1 < (l0.length:Int)
   ·rw [if_pos c2] at H;have c2b0:=decide_eq_true c2;clear c2;replace H:=iN H;obtain ⟨c3,H⟩:=H;have c3b0:decide (0 ≤ x8_1) = true:=decide_eq_true c3;clear c3;replace H:=iN H;obtain ⟨c4,H⟩:=H;have c4b0:decide (x8_1 < (l0.length:Int)) = true:=decide_eq_true c4;clear c4;have H':=aM H;clear H;have p5:0 ≤ (x8_1:Int):=of_decide_eq_true ab;have q5:x8_1 < (l0.length:Int):=of_decide_eq_true ab;obtain ⟨ad5,e5,hx5_0⟩:=Kd.at_int HR0.out x8_1 p5 q5;cases e5
    replace p5:=eq_true p5;replace q5:=eq_true q5;go_wp2
    go_roundg k1
    case measure=>have:=HK1.out;omega
    case rel=>exact ⟨(wrap64 (x3_1 + (rd l0 x8_1))),(wrap64 (x8_1 + 1)),qrs,qrs,H',⟨by have:=HK1.out;omega⟩,by repeat (first|exact Drawn0.refl _|apply Drawn0.step)⟩
   ·rw [if_neg c2] at H;have c2b0:=decide_eq_false c2;clear c2;obtain rfl:=Option.some.inj H;go_wp2
    go_ret
    exact ⟨qrs,dR⟩


def spec_l1All.l0:Nat → Int → Int → List Int → Int → Int → Option (Bool)
 | 0,_,_,_,_,_=>none
 | k + 1,x1,x2,x9,x10,x11=>if x11 < x10 then (if 0 ≤ x11 then (if x11 < (x9.length:Int) then ((spec_l1In.f (rd x9 x11) x1 x2).bind fun t3=>(if t3 = true then (spec_l1All.l0 k x1 x2 x9 x10 (wrap64 (x11 + 1))) else (some false))) else (none)) else (none)) else (some true)
def spec_l1All.f (k:Nat) (l0:List Int) (a1:Int) (a2:Int):Option (Bool):=spec_l1All.l0 k a1 a2 l0 (l0.length:Int) 0
theorem spec_l1All.calls (k:Nat) (A0:Option Addr) (c0:Nat) (l0:List Int) (a1:Int) (a2:Int) (r:Bool) (w:World) (hr0:Kd.C (Kd.int .i64) w A0 l0.length l0) (hc0:l0.length ≤ c0) (h:spec_l1All.f k l0 a1 a2 = some r) :
  Calls Tryz.prog 94 #[.slice A0 l0.length c0,.int .i64 a1,.int .i64 a2] w fun e w'=>e = .returned (.bool r) ∧ Drawn0 w w':=by
 have HR0:=aM hr0;have HC0:=aM hc0;clear hr0 hc0;have H:(spec_l1All.l0 k a1 a2 l0 (l0.length:Int) 0) = some r:=h;clear h;have H':=aM H;clear H;go_enter Tryz.func94,Tryz.ntmps94;go_wp2
 go_loopg [11] k (fun kq v11 w'=>∃ (x11_1:Int),v11 = .int .i64 x11_1 ∧ Aside0 (spec_l1All.l0 kq a1 a2 l0 (l0.length:Int) x11_1 = some r) ∧ Aside0 (kq ≤ k) ∧ Drawn0 w w')
 case atStart=>exact ⟨(0),qrs,H',⟨Nat.le_refl _⟩,by repeat (first|exact Drawn0.refl _|apply Drawn0.step)⟩
 case round =>
  clear H'
  try clear p2
  obtain ⟨x11_1,rfl,HA,HK1,⟨m1,rfl⟩⟩:=hrel
  cases gk with
  | zero=>exact absurd HA.out (by simp [spec_l1All.l0])
  | succ k1 =>
   have H:=HA.out;clear HA;simp only [spec_l1All.l0] at H;by_cases c4:x11_1 < (l0.length:Int)
   ·rw [if_pos c4] at H;have c4b0:=decide_eq_true c4;clear c4;replace H:=iN H;obtain ⟨c5,H⟩:=H;have c5b0:decide (0 ≤ x11_1) = true:=decide_eq_true c5;clear c5;replace H:=iN H;obtain ⟨c6,H⟩:=H;have c6b0:decide (x11_1 < (l0.length:Int)) = true:=decide_eq_true c6;clear c6;replace H:=oB H;obtain ⟨t9,A7,H⟩:=H;(try dsimp only at H)
    by_cases c8:t9 = true
    ·subst c8;rw [if_pos rfl] at H;have H':=aM H;clear H;have p3:0 ≤ (x11_1:Int):=of_decide_eq_true ab;have q3:x11_1 < (l0.length:Int):=of_decide_eq_true ab;obtain ⟨ad3,e3,hx3_0⟩:=Kd.at_int HR0.out x11_1 p3 q3;cases e3
     replace p3:=eq_true p3;replace q3:=eq_true q3;go_wp2_with (first|((with_reducible refine gate_callee (f:=78) rfl ?_);refine gL 18 Tryz.func78 #[.int .i64 (rd l0 x11_1),.int .i64 a1,.int .i64 a2] ?_;(with_reducible refine (spec_l1In.calls (rd l0 x11_1) a1 a2 true _ A7.out).mono ?_);rintro e w' ⟨rfl,⟨nd,rfl⟩⟩;refine ⟨_,rfl,?_⟩))
     go_roundg k1
     case measure=>have:=HK1.out;omega
     case rel=>exact ⟨(wrap64 (x11_1 + 1)),qrs,H',⟨by have:=HK1.out;omega⟩,by repeat (first|exact Drawn0.refl _|apply Drawn0.step)⟩
    ·replace c8:=Bool.eq_false_iff.mpr c8;subst c8;rw [if_neg (show ¬ (false = true) by decide)] at H;obtain rfl:=Option.some.inj H;have p3:0 ≤ (x11_1:Int):=of_decide_eq_true ab;have q3:x11_1 < (l0.length:Int):=of_decide_eq_true ab;obtain ⟨ad3,e3,hx3_0⟩:=Kd.at_int HR0.out x11_1 p3 q3;cases e3
     replace p3:=eq_true p3;replace q3:=eq_true q3;go_wp2_with (first|((with_reducible refine gate_callee (f:=78) rfl ?_);refine gL 18 Tryz.func78 #[.int .i64 (rd l0 x11_1),.int .i64 a1,.int .i64 a2] ?_;(with_reducible refine (spec_l1In.calls (rd l0 x11_1) a1 a2 false _ A7.out).mono ?_);rintro e w' ⟨rfl,⟨nd,rfl⟩⟩;refine ⟨_,rfl,?_⟩))
     go_ret
     exact ⟨qrs,dR⟩
   ·rw [if_neg c4] at H;have c4b0:=decide_eq_false c4;clear c4;obtain rfl:=Option.some.inj H;go_wp2
    go_ret
    exact ⟨qrs,dR⟩


def spec_voGood.j0:Nat → Bool → Int → List Int → Option (Bool)
 | 0,_,_,_=>none
 | k + 1,x13,x4,x5=>if x13 = true then (some false) else ((spec_voSum.f k x5).bind fun t2=>((spec_l1In.f x4 1 t2).bind fun t3=>(some t3)))
def spec_voGood.f (k:Nat) (a0_0:Int) (l0_1:List Int):Option (Bool):=(spec_l1In.f (l0_1.length:Int) 1 9).bind fun t2=>(if t2 = true then ((spec_l1All.f k l0_1 0 1000).bind fun t3=>(spec_voGood.j0 k (!t3) a0_0 l0_1)) else (spec_voGood.j0 k true a0_0 l0_1))
theorem spec_voGood.calls (k:Nat) (a0_0:Int) (A0_1:Option Addr) (c0_1:Nat) (l0_1:List Int) (r:Bool) (w:World) (hr0_1:Kd.C (Kd.int .i64) w A0_1 l0_1.length l0_1) (hc0_1:l0_1.length ≤ c0_1) (h:spec_voGood.f k a0_0 l0_1 = some r) :
  Calls Tryz.prog 77 #[.agg #[.int .i64 a0_0,.slice A0_1 l0_1.length c0_1]] w fun e w'=>e = .returned (.bool r) ∧ Below w.heap.size w w':=by
 have hu24:=Tryz.underlying24;have HR0_1:=aM hr0_1;have HC0_1:=aM hc0_1;clear hr0_1 hc0_1;have HB:=aM (Below.refl w.heap.size w);have H:((spec_l1In.f (l0_1.length:Int) 1 9).bind fun t15=>(if t15 = true then ((spec_l1All.f k l0_1 0 1000).bind fun t16=>(spec_voGood.j0 k (!t16) a0_0 l0_1)) else (spec_voGood.j0 k true a0_0 l0_1))) = some r:=h;clear h;have HC2:=aM H;clear H;go_enter Tryz.func77,Tryz.ntmps77;go_upto_region 1 with (first|((with_reducible refine gate_dst (N:=1) rfl ?_);refine bE 1 #[.int .i64 a0_0,.slice A0_1 l0_1.length c0_1] 24 ?_;intro gb14 hg w3 hbox hb;have BK14:=aM (hbox);have GW14:=aM (gS hg);have GE14:=aM (gS hg);replace HB:=aM (below_step bw hb);clear hb hbox hg))
 repeat (go_quiet (first|((with_reducible refine gate_dst (N:=1) rfl ?_);refine bE 1 #[.int .i64 a0_0,.slice A0_1 l0_1.length c0_1] 24 ?_;intro gb14 hg w3 hbox hb;have BK14:=aM (hbox);have GW14:=aM (gS hg);have GE14:=aM (gS hg);replace HB:=aM (below_step bw hb);clear hb hbox hg));go_upto_region 1 with (first|((with_reducible refine gate_dst (N:=1) rfl ?_);refine bE 1 #[.int .i64 a0_0,.slice A0_1 l0_1.length c0_1] 24 ?_;intro gb14 hg w3 hbox hb;have BK14:=aM (hbox);have GW14:=aM (gS hg);have GE14:=aM (gS hg);replace HB:=aM (below_step bw hb);clear hb hbox hg)))
 (try simp only [Act.put,sA,sZ,sS])
 go_cut [13] (fun v13 wc=>∃ (kq:Nat) (x13_1:Bool),v13 = .bool x13_1 ∧ Aside0 (spec_voGood.j0 kq x13_1 a0_0 l0_1 = some r) ∧ Aside0 (kq ≤ k) ∧ Aside0 (wc.heap[gb14]? = some (.cells #[.int .i64 a0_0,(.slice A0_1 l0_1.length c0_1)] 24 (0,0))) ∧ Aside0 (Below w.heap.size w wc))
 case first =>
  have H:=HC2.out;clear HC2;replace H:=oB H;obtain ⟨t15,A4,H⟩:=H;(try dsimp only at H)
  by_cases c5:t15 = true
  ·subst c5;rw [if_pos rfl] at H;replace H:=oB H;obtain ⟨t16,A6,H⟩:=H;(try dsimp only at H)
   have H':=aM H;clear H;have hcz7_0:=cz BK14.out 0;have hcz7_1:=cz BK14.out 1;have hfz7_0:=blk_frozen BK14.out 0;have hfz7_1:=blk_frozen BK14.out 1;go_wp2_with (first|(go_at_call 78;(with_reducible refine (spec_l1In.calls (l0_1.length:Int) 1 9 true _ A4.out).mono ?_);rintro e w' ⟨rfl,⟨nd,rfl⟩⟩;(try exact dW))|(go_at_call 94;(with_reducible refine (spec_l1All.calls k _ _ l0_1 0 1000 t16 _ ?side1 ?side2 A6.out).mono ?_);(case side1=>exact qc (Kd.C_below HR0_1.out bw));(case side2=>exact HC0_1.out);rintro e w' ⟨rfl,⟨nd,rfl⟩⟩;(try exact dW)))
   repeat (go_quiet (first|(go_at_call 78;(with_reducible refine (spec_l1In.calls (l0_1.length:Int) 1 9 true _ A4.out).mono ?_);rintro e w' ⟨rfl,⟨nd,rfl⟩⟩;(try exact dW))|(go_at_call 94;(with_reducible refine (spec_l1All.calls k _ _ l0_1 0 1000 t16 _ ?side1 ?side2 A6.out).mono ?_);(case side1=>exact qc (Kd.C_below HR0_1.out bw));(case side2=>exact HC0_1.out);rintro e w' ⟨rfl,⟨nd,rfl⟩⟩;(try exact dW)));try go_wp2_with (first|(go_at_call 78;(with_reducible refine (spec_l1In.calls (l0_1.length:Int) 1 9 true _ A4.out).mono ?_);rintro e w' ⟨rfl,⟨nd,rfl⟩⟩;(try exact dW))|(go_at_call 94;(with_reducible refine (spec_l1All.calls k _ _ l0_1 0 1000 t16 _ ?side1 ?side2 A6.out).mono ?_);(case side1=>exact qc (Kd.C_below HR0_1.out bw));(case side2=>exact HC0_1.out);rintro e w' ⟨rfl,⟨nd,rfl⟩⟩;(try exact dW))))
   go_meet
   case rel=>exact ⟨_,(!t16),qrs,H',⟨by first|omega|exact Nat.le_refl _⟩,⟨bk1 BK14.out⟩,⟨by exact bw⟩⟩
  ·replace c5:=Bool.eq_false_iff.mpr c5;subst c5;rw [if_neg (show ¬ (false = true) by decide)] at H;have H':=aM H;clear H;have hcz8_0:=cz BK14.out 0;have hcz8_1:=cz BK14.out 1;have hfz8_0:=blk_frozen BK14.out 0;have hfz8_1:=blk_frozen BK14.out 1;go_wp2_with (first|(go_at_call 78;(with_reducible refine (spec_l1In.calls (l0_1.length:Int) 1 9 false _ A4.out).mono ?_);rintro e w' ⟨rfl,⟨nd,rfl⟩⟩;(try exact dW)))
   repeat (go_quiet (first|(go_at_call 78;(with_reducible refine (spec_l1In.calls (l0_1.length:Int) 1 9 false _ A4.out).mono ?_);rintro e w' ⟨rfl,⟨nd,rfl⟩⟩;(try exact dW)));try go_wp2_with (first|(go_at_call 78;(with_reducible refine (spec_l1In.calls (l0_1.length:Int) 1 9 false _ A4.out).mono ?_);rintro e w' ⟨rfl,⟨nd,rfl⟩⟩;(try exact dW))))
   go_meet
   case rel=>exact ⟨_,(true),qrs,H',⟨by first|omega|exact Nat.le_refl _⟩,⟨bk1 BK14.out⟩,⟨by exact bw⟩⟩
 case rest =>
  clear HC2;(try clear c5);(try clear hcz7_0);(try clear hcz7_1);(try clear hcz8_0);(try clear hcz8_1);(try clear hfz7_0);(try clear hfz7_1);(try clear hfz8_0);(try clear hfz8_1)
  obtain ⟨kq,x13_1,rfl,HA,HJ1,BK14,HB⟩:=hcut
  cases kq with
  | zero=>exact absurd HA.out (by simp [spec_voGood.j0])
  | succ kj1 =>
   have H:=HA.out;clear HA;simp only [spec_voGood.j0] at H;by_cases c9:x13_1 = true
   ·subst c9;rw [if_pos rfl] at H;obtain rfl:=Option.some.inj H;go_wp2
    repeat (go_quiet (fail);try go_wp2)
    go_ret
    exact ⟨eE,by exact bw⟩
   ·replace c9:=Bool.eq_false_iff.mpr c9;subst c9;rw [if_neg (show ¬ (false = true) by decide)] at H;replace H:=oB H;obtain ⟨t17,A10,H⟩:=H;(try dsimp only at H)
    replace H:=oB H;obtain ⟨t18,A11,H⟩:=H;(try dsimp only at H)
    obtain rfl:=Option.some.inj H;have hcz12_0:=cz BK14.out 0;have hcz12_1:=cz BK14.out 1;have hfz12_0:=blk_frozen BK14.out 0;have hfz12_1:=blk_frozen BK14.out 1;go_wp2_with (first|(go_at_call 62;(with_reducible refine (spec_voSum.calls kj1 _ _ l0_1 t17 _ ?side1 ?side2 A10.out).mono ?_);(case side1=>exact qcs HR0_1.out HB.out);(case side2=>exact HC0_1.out);rintro e w' ⟨rfl,⟨nd,rfl⟩⟩;(try exact dW))|(go_at_call 78;(with_reducible refine (spec_l1In.calls a0_0 1 t17 t18 _ A11.out).mono ?_);rintro e w' ⟨rfl,⟨nd,rfl⟩⟩;(try exact dW)))
    repeat (go_quiet (first|(go_at_call 62;(with_reducible refine (spec_voSum.calls kj1 _ _ l0_1 t17 _ ?side1 ?side2 A10.out).mono ?_);(case side1=>exact qcs HR0_1.out HB.out);(case side2=>exact HC0_1.out);rintro e w' ⟨rfl,⟨nd,rfl⟩⟩;(try exact dW))|(go_at_call 78;(with_reducible refine (spec_l1In.calls a0_0 1 t17 t18 _ A11.out).mono ?_);rintro e w' ⟨rfl,⟨nd,rfl⟩⟩;(try exact dW)));try go_wp2_with (first|(go_at_call 62;(with_reducible refine (spec_voSum.calls kj1 _ _ l0_1 t17 _ ?side1 ?side2 A10.out).mono ?_);(case side1=>exact qcs HR0_1.out HB.out);(case side2=>exact HC0_1.out);rintro e w' ⟨rfl,⟨nd,rfl⟩⟩;(try exact dW))|(go_at_call 78;(with_reducible refine (spec_l1In.calls a0_0 1 t17 t18 _ A11.out).mono ?_);rintro e w' ⟨rfl,⟨nd,rfl⟩⟩;(try exact dW))))
    go_ret
    exact ⟨eE,by exact bw⟩


def spec_pwMember.f (k:Nat) (a0_0:Int) (l0_1:List Int) (a1:Int):Option (Bool):=(spec_voGood.f k a0_0 l0_1).bind fun t2=>(if t2 = true then ((spec_l1In.f a1 0 (wrap64 ((l0_1.length:Int) - 1))).bind fun t3=>(some t3)) else (some false))
theorem spec_pwMember.calls (k:Nat) (a0_0:Int) (A0_1:Option Addr) (c0_1:Nat) (l0_1:List Int) (a1:Int) (r:Bool) (w:World) (hr0_1:Kd.C (Kd.int .i64) w A0_1 l0_1.length l0_1) (hc0_1:l0_1.length ≤ c0_1) (h:spec_pwMember.f k a0_0 l0_1 a1 = some r) :
  Calls Tryz.prog 43 #[.agg #[.int .i64 a0_0,.slice A0_1 l0_1.length c0_1],.int .i64 a1] w fun e w'=>e = .returned (.bool r) ∧ Below w.heap.size w w':=by
 have hu24:=Tryz.underlying24;have HR0_1:=aM hr0_1;have HC0_1:=aM hc0_1;clear hr0_1 hc0_1;have HB:=aM (Below.refl w.heap.size w);have H:((spec_voGood.f k a0_0 l0_1).bind fun t14=>(if t14 = true then ((spec_l1In.f a1 0 (wrap64 ((l0_1.length:Int) - 1))).bind fun t15=>(some t15)) else (some false))) = some r:=h;clear h;replace H:=oB H;obtain ⟨t14,A3,H⟩:=H;(try dsimp only at H)
 by_cases c4:t14 = true
 ·subst c4;rw [if_pos rfl] at H;replace H:=oB H;obtain ⟨t15,A5,H⟩:=H;(try dsimp only at H)
  obtain rfl:=Option.some.inj H;go_enter Tryz.func43,Tryz.ntmps43;go_wp2_with (first|((with_reducible refine gate_dst (N:=2) rfl ?_);(try (refine gate_guard (by rfl) ?_;dsimp only));refine bE 2 #[.int .i64 a0_0,.slice A0_1 l0_1.length c0_1] 24 ?_;intro gb13 hg w6 hbox hb;have BK13:=aM (hbox);have GW13:=aM (gS hg);have GE13:=aM (gS hg);replace HB:=aM (below_step bw hb);clear hb hbox hg;have hcz7_0:=cz BK13.out 0;have hcz7_1:=cz BK13.out 1;have hfz7_0:=blk_frozen BK13.out 0;have hfz7_1:=blk_frozen BK13.out 1)|((with_reducible refine gate_callee (f:=77) rfl ?_);refine gL 6 Tryz.func77 #[.agg #[.int .i64 a0_0,.slice A0_1 l0_1.length c0_1]] ?_;(with_reducible refine (spec_voGood.calls k a0_0 _ _ l0_1 true _ ?side1 ?side2 A3.out).mono ?_);(case side1=>exact qcs HR0_1.out HB.out);(case side2=>exact HC0_1.out);rintro e w8 ⟨rfl,hb⟩;refine ⟨_,rfl,?_⟩;replace BK13:=aM (bB BK13.out hb);replace HB:=aM (below_step bw hb);(try clear hb);have hcz9_0:=cz BK13.out 0;have hcz9_1:=cz BK13.out 1;have hfz9_0:=blk_frozen BK13.out 0;have hfz9_1:=blk_frozen BK13.out 1)|(go_at_call 78;(with_reducible refine (spec_l1In.calls a1 0 (wrap64 ((l0_1.length:Int) - 1)) t15 _ A5.out).mono ?_);rintro e w' ⟨rfl,⟨nd,rfl⟩⟩))
  go_ret
  exact ⟨eE,by exact bw⟩
 ·replace c4:=Bool.eq_false_iff.mpr c4;subst c4;rw [if_neg (show ¬ (false = true) by decide)] at H;obtain rfl:=Option.some.inj H;go_enter Tryz.func43,Tryz.ntmps43;go_wp2_with (first|((with_reducible refine gate_dst (N:=2) rfl ?_);(try (refine gate_guard (by rfl) ?_;dsimp only));refine bE 2 #[.int .i64 a0_0,.slice A0_1 l0_1.length c0_1] 24 ?_;intro gb13 hg w10 hbox hb;have BK13:=aM (hbox);have GW13:=aM (gS hg);have GE13:=aM (gS hg);replace HB:=aM (below_step bw hb);clear hb hbox hg;have hcz11_0:=cz BK13.out 0;have hcz11_1:=cz BK13.out 1;have hfz11_0:=blk_frozen BK13.out 0;have hfz11_1:=blk_frozen BK13.out 1)|((with_reducible refine gate_callee (f:=77) rfl ?_);refine gL 6 Tryz.func77 #[.agg #[.int .i64 a0_0,.slice A0_1 l0_1.length c0_1]] ?_;(with_reducible refine (spec_voGood.calls k a0_0 _ _ l0_1 false _ ?side1 ?side2 A3.out).mono ?_);(case side1=>exact qcs HR0_1.out HB.out);(case side2=>exact HC0_1.out);rintro e w12 ⟨rfl,hb⟩;refine ⟨_,rfl,?_⟩;replace BK13:=aM (bB BK13.out hb);replace HB:=aM (below_step bw hb);(try clear hb)))
  go_ret
  exact ⟨eE,by exact bw⟩


def spec_unPair.f (k:Nat) (a0_0:Int) (l0_1:List Int) (a1:Int) (a2:Int):Option (Bool):=(spec_pwMember.f k a0_0 l0_1 a1).bind fun t3=>(if t3 = true then ((spec_pwMember.f k a0_0 l0_1 a2).bind fun t4=>(if t4 = true then (some (a1 != a2)) else (some false))) else (some false))
theorem spec_unPair.calls (k:Nat) (a0_0:Int) (A0_1:Option Addr) (c0_1:Nat) (l0_1:List Int) (a1:Int) (a2:Int) (r:Bool) (w:World) (hr0_1:Kd.C (Kd.int .i64) w A0_1 l0_1.length l0_1) (hc0_1:l0_1.length ≤ c0_1) (h:spec_unPair.f k a0_0 l0_1 a1 a2 = some r) :
  Calls Tryz.prog 25 #[.agg #[.int .i64 a0_0,.slice A0_1 l0_1.length c0_1],.int .i64 a1,.int .i64 a2] w fun e w'=>e = .returned (.bool r) ∧ Below w.heap.size w w':=by
 have hu24:=Tryz.underlying24;have HR0_1:=aM hr0_1;have HC0_1:=aM hc0_1;clear hr0_1 hc0_1;have HB:=aM (Below.refl w.heap.size w);have H:((spec_pwMember.f k a0_0 l0_1 a1).bind fun t21=>(if t21 = true then ((spec_pwMember.f k a0_0 l0_1 a2).bind fun t22=>(if t22 = true then (some (a1 != a2)) else (some false))) else (some false))) = some r:=h;clear h;replace H:=oB H;obtain ⟨t21,A4,H⟩:=H;(try dsimp only at H)
 by_cases c5:t21 = true
 ·subst c5;rw [if_pos rfl] at H;replace H:=oB H;obtain ⟨t22,A6,H⟩:=H;(try dsimp only at H)
  by_cases c7:t22 = true
  ·subst c7;rw [if_pos rfl] at H;obtain rfl:=Option.some.inj H;go_enter Tryz.func25,Tryz.ntmps25;go_wp2_with (first|((with_reducible refine gate_dst (N:=3) rfl ?_);refine bE 3 #[.int .i64 a0_0,.slice A0_1 l0_1.length c0_1] 24 ?_;intro gb3 hg w8 hbox hb;have BK3:=aM (hbox);have GW3:=aM (gS hg);have GE3:=aM (gS hg);replace HB:=aM (below_step bw hb);clear hb hbox hg;have hcz9_0:=cz BK3.out 0;have hcz9_1:=cz BK3.out 1;have hfz9_0:=blk_frozen BK3.out 0;have hfz9_1:=blk_frozen BK3.out 1)|((with_reducible refine gate_callee (f:=43) rfl ?_);refine gL 9 Tryz.func43 #[.agg #[.int .i64 a0_0,.slice A0_1 l0_1.length c0_1],.int .i64 a1] ?_;(with_reducible refine (spec_pwMember.calls k a0_0 _ _ l0_1 a1 true _ ?side1 ?side2 A4.out).mono ?_);(case side1=>exact qcs HR0_1.out HB.out);(case side2=>exact HC0_1.out);rintro e w10 ⟨rfl,hb⟩;refine ⟨_,rfl,?_⟩;replace BK3:=aM (bB BK3.out hb);replace HB:=aM (below_step bw hb);(try clear hb);have hcz11_0:=cz BK3.out 0;have hcz11_1:=cz BK3.out 1;have hfz11_0:=blk_frozen BK3.out 0;have hfz11_1:=blk_frozen BK3.out 1)|(go_at_call 43;(with_reducible refine (spec_pwMember.calls k a0_0 _ _ l0_1 a2 true _ ?side1 ?side2 A6.out).mono ?_);(case side1=>exact qcs HR0_1.out HB.out);(case side2=>exact HC0_1.out);rintro e w12 ⟨rfl,hb⟩;replace BK3:=aM (bB BK3.out hb);replace HB:=aM (below_step bw hb);(try clear hb)))
   go_ret
   exact ⟨eE,by exact bw⟩
  ·replace c7:=Bool.eq_false_iff.mpr c7;subst c7;rw [if_neg (show ¬ (false = true) by decide)] at H;obtain rfl:=Option.some.inj H;go_enter Tryz.func25,Tryz.ntmps25;go_wp2_with (first|((with_reducible refine gate_dst (N:=3) rfl ?_);refine bE 3 #[.int .i64 a0_0,.slice A0_1 l0_1.length c0_1] 24 ?_;intro gb3 hg w13 hbox hb;have BK3:=aM (hbox);have GW3:=aM (gS hg);have GE3:=aM (gS hg);replace HB:=aM (below_step bw hb);clear hb hbox hg;have hcz14_0:=cz BK3.out 0;have hcz14_1:=cz BK3.out 1;have hfz14_0:=blk_frozen BK3.out 0;have hfz14_1:=blk_frozen BK3.out 1)|((with_reducible refine gate_callee (f:=43) rfl ?_);refine gL 9 Tryz.func43 #[.agg #[.int .i64 a0_0,.slice A0_1 l0_1.length c0_1],.int .i64 a1] ?_;(with_reducible refine (spec_pwMember.calls k a0_0 _ _ l0_1 a1 true _ ?side1 ?side2 A4.out).mono ?_);(case side1=>exact qcs HR0_1.out HB.out);(case side2=>exact HC0_1.out);rintro e w15 ⟨rfl,hb⟩;refine ⟨_,rfl,?_⟩;replace BK3:=aM (bB BK3.out hb);replace HB:=aM (below_step bw hb);(try clear hb);have hcz16_0:=cz BK3.out 0;have hcz16_1:=cz BK3.out 1;have hfz16_0:=blk_frozen BK3.out 0;have hfz16_1:=blk_frozen BK3.out 1)|(go_at_call 43;(with_reducible refine (spec_pwMember.calls k a0_0 _ _ l0_1 a2 false _ ?side1 ?side2 A6.out).mono ?_);(case side1=>exact qcs HR0_1.out HB.out);(case side2=>exact HC0_1.out);rintro e w17 ⟨rfl,hb⟩;replace BK3:=aM (bB BK3.out hb);replace HB:=aM (below_step bw hb);(try clear hb)))
   go_ret
   exact ⟨eE,by exact bw⟩
 ·replace c5:=Bool.eq_false_iff.mpr c5;subst c5;rw [if_neg (show ¬ (false = true) by decide)] at H;obtain rfl:=Option.some.inj H;go_enter Tryz.func25,Tryz.ntmps25;go_wp2_with (first|((with_reducible refine gate_dst (N:=3) rfl ?_);refine bE 3 #[.int .i64 a0_0,.slice A0_1 l0_1.length c0_1] 24 ?_;intro gb3 hg w18 hbox hb;have BK3:=aM (hbox);have GW3:=aM (gS hg);have GE3:=aM (gS hg);replace HB:=aM (below_step bw hb);clear hb hbox hg;have hcz19_0:=cz BK3.out 0;have hcz19_1:=cz BK3.out 1;have hfz19_0:=blk_frozen BK3.out 0;have hfz19_1:=blk_frozen BK3.out 1)|((with_reducible refine gate_callee (f:=43) rfl ?_);refine gL 9 Tryz.func43 #[.agg #[.int .i64 a0_0,.slice A0_1 l0_1.length c0_1],.int .i64 a1] ?_;(with_reducible refine (spec_pwMember.calls k a0_0 _ _ l0_1 a1 false _ ?side1 ?side2 A4.out).mono ?_);(case side1=>exact qcs HR0_1.out HB.out);(case side2=>exact HC0_1.out);rintro e w20 ⟨rfl,hb⟩;refine ⟨_,rfl,?_⟩;replace BK3:=aM (bB BK3.out hb);replace HB:=aM (below_step bw hb);(try clear hb)))
  go_ret
  exact ⟨eE,by exact bw⟩


def spec_gmCount.l0:Nat → Int → List Bool → Int → Int → Option (Int)
 | 0,_,_,_,_=>none
 | k + 1,x3,x6,x7,x8=>if x8 < x7 then (if 0 ≤ x8 then (if x8 < (x6.length:Int) then (if rdOf false x6 x8 = true then (spec_gmCount.l0 k (wrap64 (x3 + 1)) x6 x7 (wrap64 (x8 + 1))) else (spec_gmCount.l0 k x3 x6 x7 (wrap64 (x8 + 1)))) else (none)) else (none)) else (some x3)
def spec_gmCount.f (k:Nat) (l0:List Bool):Option (Int):=spec_gmCount.l0 k 0 l0 (l0.length:Int) 0
theorem spec_gmCount.calls (k:Nat) (A0:Option Addr) (c0:Nat) (l0:List Bool) (r:Int) (w:World) (hr0:Kd.C Kd.bool w A0 l0.length l0) (hc0:l0.length ≤ c0) (h:spec_gmCount.f k l0 = some r) :
  Calls Tryz.prog 26 #[.slice A0 l0.length c0] w fun e w'=>e = .returned (.int .i64 r) ∧ Drawn0 w w':=by
 have HR0:=aM hr0;have HC0:=aM hc0;clear hr0 hc0;have H:(spec_gmCount.l0 k 0 l0 (l0.length:Int) 0) = some r:=h;clear h;have H':=aM H;clear H;go_enter Tryz.func26,Tryz.ntmps26;go_wp2
 go_loopg [3,8] k (fun kq v3 v8 w'=>∃ (x3_1:Int) (x8_1:Int),v3 = .int .i64 x3_1 ∧ v8 = .int .i64 x8_1 ∧ Aside0 (spec_gmCount.l0 kq x3_1 l0 (l0.length:Int) x8_1 = some r) ∧ Aside0 (kq ≤ k) ∧ Drawn0 w w')
 case atStart=>exact ⟨(0),(0),qrs,qrs,H',⟨Nat.le_refl _⟩,by repeat (first|exact Drawn0.refl _|apply Drawn0.step)⟩
 case round =>
  clear H';obtain ⟨x3_1,x8_1,rfl,rfl,HA,HK1,⟨m1,rfl⟩⟩:=hrel
  cases gk with
  | zero=>exact absurd HA.out (by simp [spec_gmCount.l0])
  | succ k1 =>
   have H:=HA.out;clear HA;simp only [spec_gmCount.l0] at H;by_cases c2:x8_1 < (l0.length:Int)
   ·rw [if_pos c2] at H;have c2b0:=decide_eq_true c2;clear c2;replace H:=iN H;obtain ⟨c3,H⟩:=H;have c3b0:decide (0 ≤ x8_1) = true:=decide_eq_true c3;clear c3;replace H:=iN H;obtain ⟨c4,H⟩:=H;have c4b0:decide (x8_1 < (l0.length:Int)) = true:=decide_eq_true c4;clear c4;obtain ⟨bq5,hbq5⟩:∃ b_:Bool,b_ = (rdOf false l0 x8_1):=⟨_,rfl⟩;rw [← hbq5] at H;have Nbq5:=aM hbq5;clear hbq5;by_cases c6:bq5 = true
    ·subst c6;rw [if_pos rfl] at H;have H':=aM H;clear H;have p7:0 ≤ (x8_1:Int):=of_decide_eq_true ab;have q7:x8_1 < (l0.length:Int):=of_decide_eq_true ab;obtain ⟨ad7,e7,hx7_0⟩:=Kd.at_bool HR0.out x8_1 p7 q7;(try rw [← Nbq5.out] at hx7_0)
     cases e7
     replace p7:=eq_true p7;replace q7:=eq_true q7;go_wp2
     go_roundg k1
     case measure=>have:=HK1.out;omega
     case rel=>exact ⟨(wrap64 (x3_1 + 1)),(wrap64 (x8_1 + 1)),qrs,qrs,H',⟨by have:=HK1.out;omega⟩,by repeat (first|exact Drawn0.refl _|apply Drawn0.step)⟩
    ·replace c6:=Bool.eq_false_iff.mpr c6;subst c6;rw [if_neg (show ¬ (false = true) by decide)] at H;have H':=aM H;clear H;have p7:0 ≤ (x8_1:Int):=of_decide_eq_true ab;have q7:x8_1 < (l0.length:Int):=of_decide_eq_true ab;obtain ⟨ad7,e7,hx7_0⟩:=Kd.at_bool HR0.out x8_1 p7 q7;(try rw [← Nbq5.out] at hx7_0)
     cases e7
     replace p7:=eq_true p7;replace q7:=eq_true q7;go_wp2
     go_roundg k1
     case measure=>have:=HK1.out;omega
     case rel=>exact ⟨(x3_1),(wrap64 (x8_1 + 1)),qrs,qrs,H',⟨by have:=HK1.out;omega⟩,by repeat (first|exact Drawn0.refl _|apply Drawn0.step)⟩
   ·rw [if_neg c2] at H;have c2b0:=decide_eq_false c2;clear c2;obtain rfl:=Option.some.inj H;go_wp2
    go_ret
    exact ⟨qrs,dR⟩


def spec_voAll.f (a0:Int):Option (Int):=if 0 ≤ a0 then (some (wrap64 ((shl .i64 1 a0) - 1))) else (none)
theorem spec_voAll.calls (a0:Int) (r:Int) (w:World) (h:spec_voAll.f a0 = some r) :
  Calls Tryz.prog 69 #[.int .i64 a0] w fun e w'=>e = .returned (.int .i64 r) ∧ Drawn0 w w':=by
 have H:(if 0 ≤ a0 then (some (wrap64 ((shl .i64 1 a0) - 1))) else (none)) = some r:=h;clear h;replace H:=iN H;obtain ⟨c2,H⟩:=H;have c2b0:=eq_true c2;have c2b1:decide (0 ≤ a0) = true:=decide_eq_true c2;clear c2;obtain ⟨ji3,hji3⟩:∃ j_:Int,(shl .i64 1 a0) = j_:=⟨_,rfl⟩;(first|rw [hji3] at H|simp only [hji3] at H)
 have hji3_:(IntKind.i64.wrap (1 * 2 ^ min a0.toNat 64)) = ji3:=hji3;have hji3z:a0 ≤ 64 → (IntKind.i64.wrap (1 * 2 ^ a0.toNat)) = ji3:=shl_small hji3;have hji3u:(IntKind.i64.wrap (2 ^ min a0.toNat 64)) = ji3:=by have h_:=hji3_;rw [Int.one_mul] at h_;exact h_
 have hji3v:a0 ≤ 64 → (IntKind.i64.wrap (2 ^ a0.toNat)) = ji3:=fun hle_=>by have h_:=hji3z hle_;rw [Int.one_mul] at h_;exact h_
 have hji3y:(wrap64 (1 * 2 ^ min a0.toNat 64)) = ji3:=(i64_w _).symm.trans hji3_;have hji3x:a0 ≤ 64 → (wrap64 (1 * 2 ^ a0.toNat)) = ji3:=fun h_=>(i64_w _).symm.trans (hji3z h_)
 obtain rfl:=Option.some.inj H;go_enter Tryz.func69,Tryz.ntmps69;go_wp2
 go_ret
 exact ⟨by first|rfl|(simp;done)|(simp only [← hji3] <;> (first|rfl|simp))|(simp [*];done),by repeat (first|exact Drawn0.refl _|apply Drawn0.step)⟩


def spec_voWeight.l0:Nat → Int → Int → List Int → Int → Int → Option (Int)
 | 0,_,_,_,_,_=>none
 | k + 1,x1,x5,x9,x10,x11=>if x11 < x10 then (if 0 ≤ x11 then (if x11 < (x9.length:Int) then (if (Int.tmod (shr .i64 x1 x11) 2) = 1 then (spec_voWeight.l0 k x1 (wrap64 (x5 + (rd x9 x11))) x9 x10 (wrap64 (x11 + 1))) else (spec_voWeight.l0 k x1 x5 x9 x10 (wrap64 (x11 + 1)))) else (none)) else (none)) else (some x5)
def spec_voWeight.f (k:Nat) (a0_0:Int) (l0_1:List Int) (a1:Int):Option (Int):=spec_voWeight.l0 k a1 0 l0_1 (l0_1.length:Int) 0
theorem spec_voWeight.calls (k:Nat) (a0_0:Int) (A0_1:Option Addr) (c0_1:Nat) (l0_1:List Int) (a1:Int) (r:Int) (w:World) (hr0_1:Kd.C (Kd.int .i64) w A0_1 l0_1.length l0_1) (hc0_1:l0_1.length ≤ c0_1) (h:spec_voWeight.f k a0_0 l0_1 a1 = some r) :
  Calls Tryz.prog 70 #[.agg #[.int .i64 a0_0,.slice A0_1 l0_1.length c0_1],.int .i64 a1] w fun e w'=>e = .returned (.int .i64 r) ∧ Below w.heap.size w w':=by
 have hu24:=Tryz.underlying24;have HR0_1:=aM hr0_1;have HC0_1:=aM hc0_1;clear hr0_1 hc0_1;have HB:=aM (Below.refl w.heap.size w);have H:(spec_voWeight.l0 k a1 0 l0_1 (l0_1.length:Int) 0) = some r:=h;clear h;have H':=aM H;clear H;go_enter Tryz.func70,Tryz.ntmps70;go_wp2_with (first|((with_reducible refine gate_dst (N:=2) rfl ?_);refine bE 2 #[.int .i64 a0_0,.slice A0_1 l0_1.length c0_1] 24 ?_;intro gb12 hg w3 hbox hb;have BK12:=aM (hbox);have GW12:=aM (gS hg);have GE12:=aM (gS hg);replace HB:=aM (below_step bw hb);clear hb hbox hg;have hcz4_0:=cz BK12.out 0;have hcz4_1:=cz BK12.out 1;have hfz4_0:=blk_frozen BK12.out 0;have hfz4_1:=blk_frozen BK12.out 1))
 go_loopg [5,11] k (fun kq v5 v11 w'=>∃ (x5_1:Int) (x11_1:Int),v5 = .int .i64 x5_1 ∧ v11 = .int .i64 x11_1 ∧ Aside0 (spec_voWeight.l0 kq a1 x5_1 l0_1 (l0_1.length:Int) x11_1 = some r) ∧ Aside0 (kq ≤ k) ∧ Aside0 (w'.heap[gb12]? = some (.cells #[.int .i64 a0_0,(.slice A0_1 l0_1.length c0_1)] 24 (0,0))) ∧ Aside0 (Below w.heap.size w w'))
 case atStart=>exact ⟨(0),(0),qrs,qrs,H',⟨Nat.le_refl _⟩,⟨bk1 BK12.out⟩,⟨by exact bw⟩⟩
 case round =>
  clear H';(try clear hcz4_0);(try clear hcz4_1);(try clear hfz4_0);(try clear hfz4_1)
  obtain ⟨x5_1,x11_1,rfl,rfl,HA,HK1,BK12,HB⟩:=hrel
  cases gk with
  | zero=>exact absurd HA.out (by simp [spec_voWeight.l0])
  | succ k1 =>
   have H:=HA.out;clear HA;simp only [spec_voWeight.l0] at H;by_cases c5:x11_1 < (l0_1.length:Int)
   ·rw [if_pos c5] at H;have c5b0:=decide_eq_true c5;clear c5;replace H:=iN H;obtain ⟨c6,H⟩:=H;have c6b0:decide (0 ≤ x11_1) = true:=decide_eq_true c6;clear c6;replace H:=iN H;obtain ⟨c7,H⟩:=H;have c7b0:decide (x11_1 < (l0_1.length:Int)) = true:=decide_eq_true c7;clear c7;have c8b0:=eq_true (of_decide_eq_true ab:0 ≤ x11_1);obtain ⟨ji9,hji9⟩:∃ j_:Int,(shr .i64 a1 x11_1) = j_:=⟨_,rfl⟩;(first|rw [hji9] at H|simp only [hji9] at H)
    have hji9_:(a1 / 2 ^ min x11_1.toNat 64) = ji9:=hji9;have hji9z:x11_1 ≤ 64 → (a1 / 2 ^ x11_1.toNat) = ji9:=shr_small hji9;by_cases c10:(Int.tmod (ji9) 2) = 1
    ·rw [if_pos c10] at H;have c10b0:((Int.tmod (ji9) 2) == 1) = true:=beq_iff_eq.mpr c10;have c10b1:((Int.tmod (ji9) 2) != 1) = false:=bne_eq_false_iff_eq.mpr c10;clear c10;have H':=aM H;clear H;have p13:0 ≤ (x11_1:Int):=of_decide_eq_true ab;have q13:x11_1 < (l0_1.length:Int):=of_decide_eq_true ab;obtain ⟨ad13,e13,hx13_0⟩:=Kd.at_int HR0_1.out x11_1 p13 q13;cases e13
     replace hx13_0:=(HB.out.cell (World.block_lt_of_cell? w _ hx13_0)).trans hx13_0;replace p13:=eq_true p13;replace q13:=eq_true q13;go_wp2
     go_roundg k1
     case measure=>have:=HK1.out;omega
     case rel=>exact ⟨(wrap64 (x5_1 + (rd l0_1 x11_1))),(wrap64 (x11_1 + 1)),qrs,qrs,H',⟨by have:=HK1.out;omega⟩,⟨bk1 BK12.out⟩,⟨by exact bw⟩⟩
    ·rw [if_neg c10] at H;have c10b0:((Int.tmod (ji9) 2) == 1) = false:=beq_eq_false_iff_ne.mpr c10;have c10b1:((Int.tmod (ji9) 2) != 1) = true:=bne_iff_ne.mpr c10;have H':=aM H;clear H;have p13:0 ≤ (x11_1:Int):=of_decide_eq_true ab;have q13:x11_1 < (l0_1.length:Int):=of_decide_eq_true ab;obtain ⟨ad13,e13,hx13_0⟩:=Kd.at_int HR0_1.out x11_1 p13 q13;cases e13
     replace hx13_0:=(HB.out.cell (World.block_lt_of_cell? w _ hx13_0)).trans hx13_0;replace p13:=eq_true p13;replace q13:=eq_true q13;go_wp2
     go_roundg k1
     case measure=>have:=HK1.out;omega
     case rel=>exact ⟨(x5_1),(wrap64 (x11_1 + 1)),qrs,qrs,H',⟨by have:=HK1.out;omega⟩,⟨bk1 BK12.out⟩,⟨by exact bw⟩⟩
   ·rw [if_neg c5] at H;have c5b0:=decide_eq_false c5;clear c5;obtain rfl:=Option.some.inj H;go_wp2
    go_ret
    exact ⟨eE,by exact bw⟩


def spec_voWins.l0:Nat → List Bool → Int → Int → List Int → Option (List Bool)
 | 0,_,_,_,_=>none
 | k + 1,x3,x4,x5,x6=>(spec_voAll.f (x6.length:Int)).bind fun t1=>(if x4 ≤ t1 then ((spec_voWeight.f k x5 x6 x4).bind fun t2=>(if x3.length < 140737488355328 then (spec_voWins.l0 k (x3 ++ [decide (t2 ≥ x5)]) (wrap64 (x4 + 1)) x5 x6) else (none))) else (some x3))
def spec_voWins.f (k:Nat) (a0_0:Int) (l0_1:List Int):Option (List Bool):=spec_voWins.l0 k ([]:List Bool) 0 a0_0 l0_1
def spec_voWins.T5:Bool × List (List Nat × List Nat):=(true,[([],[]),([],[]),([],[]),([1,2],[1,2]),([],[]),([4],[4]),([3,5],[3,5]),([6],[6]),([0,7,3],[0,7]),([8,8,0,1,2,3,4,5,6,7,8],[0,8])])
def spec_voWins.B5:List Nat:=[0,0,0,6,0,16,62,126,255,511]
theorem spec_voWins.tab5:rtab .any (opsOf Tryz.f33 5) = spec_voWins.T5:=by kernel_rfl
theorem spec_voWins.bits5:waitsOk spec_voWins.T5.2 spec_voWins.B5 = true:=by kernel_rfl
theorem spec_voWins.calls (k:Nat) (a0_0:Int) (A0_1:Option Addr) (c0_1:Nat) (l0_1:List Int) (r:List Bool) (w:World) (hr0_1:Kd.C (Kd.int .i64) w A0_1 l0_1.length l0_1) (hc0_1:l0_1.length ≤ c0_1) (h:spec_voWins.f k a0_0 l0_1 = some r) :
  Calls Tryz.prog 33 #[.agg #[.int .i64 a0_0,.slice A0_1 l0_1.length c0_1]] w fun e w'=>∃ v0_:Value,e = .returned (v0_) ∧ Kd.R Kd.bool 4 w' w.heap.size (fun _=>True) v0_ r ∧ Below w.heap.size w w':=by
 have hu24:=Tryz.underlying24;have HR0_1:=aM hr0_1;have HC0_1:=aM hc0_1;clear hr0_1 hc0_1;have HB:=aM (Below.refl w.heap.size w);have H:(spec_voWins.l0 k ([]:List Bool) 0 a0_0 l0_1) = some r:=h;clear h;have H':=aM H;clear H;go_enter Tryz.func33,Tryz.ntmps33;go_wp2_with (first|((with_reducible refine gate_dst (N:=1) rfl ?_);refine bE 1 #[.int .i64 a0_0,.slice A0_1 l0_1.length c0_1] 24 ?_;intro gb12 hg w2 hbox hb;have BK12:=aM (hbox);have GW12:=aM (gS hg);have GE12:=aM (gS hg);replace HB:=aM (below_step bw hb);clear hb hbox hg))
 go_loopg [3,4] k (fun kq v3 v4 w'=>∃ (x3_1:List Bool) (x4_1:Int),v4 = .int .i64 x4_1 ∧ Aside0 (spec_voWins.l0 kq x3_1 x4_1 a0_0 l0_1 = some r) ∧ Aside0 (kq ≤ k) ∧ Aside0 (Kd.R Kd.bool 4 w' w.heap.size (fun _=>True) v3 x3_1) ∧ Aside0 (w'.heap[gb12]? = some (.cells #[.int .i64 a0_0,(.slice A0_1 l0_1.length c0_1)] 24 (0,0))) ∧ Aside0 (Below w.heap.size w w'))
 case atStart=>exact ⟨(([]:List Bool)),(0),qrs,H',⟨Nat.le_refl _⟩,⟨by first|exact Kd.R_nil _ _ _ _ _|exact Kd.N_nil _ _ _ _ _|exact Kd.V_nil _ _ _ _ _|exact Kd.Q_nil _ _ _ _ _|exact Kd.S_nil _ _ _ _ _⟩,⟨bk1 BK12.out⟩,⟨by exact bw⟩⟩
 case round =>
  clear H'
  try clear p2
  obtain ⟨x3_1,x4_1,rfl,HA,HK1,HO_3,BK12,HB⟩:=hrel
  cases gk with
  | zero=>exact absurd HA.out (by simp [spec_voWins.l0])
  | succ k1 =>
   have H:=HA.out;clear HA;simp only [spec_voWins.l0] at H;replace H:=oB H;obtain ⟨t13,A3,H⟩:=H;(try dsimp only at H)
   by_cases c4:x4_1 ≤ t13
   ·rw [if_pos c4] at H;have c4b0:=decide_eq_true c4;clear c4;replace H:=oB H;obtain ⟨t14,A5,H⟩:=H;(try dsimp only at H)
    replace H:=iN H;obtain ⟨c6,H⟩:=H;have LMc6:=aM c6;clear c6;obtain ⟨y15,hy15⟩:∃ y_:List Bool,y_ = (x3_1 ++ [decide (t14 ≥ a0_0)]):=⟨_,rfl⟩;replace H:(spec_voWins.l0 k1 y15 (wrap64 (x4_1 + 1)) a0_0 l0_1) = some r:=yR hy15 H;have Ny15:=aM hy15;clear hy15;have H':=aM H;clear H;have hcz7_0:=cz BK12.out 0;have hcz7_1:=cz BK12.out 1;have hfz7_0:=blk_frozen BK12.out 0;have hfz7_1:=blk_frozen BK12.out 1
    try go_wp2_with (first|((with_reducible refine gate_callee (f:=69) rfl ?_);refine gL 9 Tryz.func69 #[.int .i64 (l0_1.length:Int)] ?_;(with_reducible refine (spec_voAll.calls (l0_1.length:Int) t13 _ A3.out).mono ?_);rintro e w' ⟨rfl,⟨nd,rfl⟩⟩;refine ⟨_,rfl,?_⟩))
    (try (rw [drewN_self wr];generalize hq_:World.drewN wr _ = wr;have n0_:Aside0 (Kd.R Kd.bool 4 wr w.heap.size (fun _=>True) u3 x3_1):=⟨by rw [← hq_];exact (qra HO_3.out)⟩;have n1_:Aside0 (wr.heap[gb12]? = some (.cells #[.int .i64 a0_0,.slice A0_1 l0_1.length c0_1] 24 (0,0))):=⟨by rw [← hq_];exact (bk1 BK12.out)⟩;have n2_:Aside0 (Below w.heap.size w wr):=⟨by rw [← hq_];exact bw⟩;clear HO_3 BK12 HB hq_;have HO_3:=n0_;have BK12:=n1_;have HB:=n2_;clear n0_ n1_ n2_))
    replace HO_3:=aM (Kd.R_drew HO_3.out);replace BK12:=aM (blk_drew BK12.out);replace HB:=aM (below_drew1 HB.out);refine start_ (n:=10) (S:=fun w'=>w'.cell? ⟨gb12,0,none⟩ = some (.int .i64 a0_0) ∧ w'.cell? ⟨gb12,1,none⟩ = some (.slice A0_1 l0_1.length c0_1)) (ds:=[]) (mA 10 0) kR rfl rfl ⟨(blk_cell BK12.out 0).trans rfl,(blk_cell BK12.out 1).trans rfl⟩ (fun hHeld=>?_);refine with_tabW spec_voWins.tab5 spec_voWins.bits5 (fun HT_ HW_=>?_)
    generalize wr.drew = w8 at HO_3 BK12 HB hHeld ⊢
    refine pT 0 13 HT_.out ?_;refine pT 2 15 HT_.out ?_;refine pT 4 17 HT_.out ?_;refine pK 1 14 HT_.out HW_.out hHeld ?_;refine pK 5 18 HT_.out HW_.out hHeld ?_;refine oN 3 (some 16) HT_.out fun K hK=>?_
    refine gC Tryz.func70 #[.agg #[.int .i64 a0_0,.slice A0_1 l0_1.length c0_1],.int .i64 x4_1] ?_
    with_reducible refine (spec_voWeight.calls k1 a0_0 _ _ l0_1 x4_1 t14 _ ?side1 ?side2 A5.out).mono ?_
    (case side1=>exact qcs HR0_1.out HB.out)
    (case side2=>exact HC0_1.out)
    rintro e w9 ⟨rfl,hb⟩
    refine ⟨_,rfl,?_⟩;replace HO_3:=aM (Kd.R_below (qra HO_3.out) hb);replace BK12:=aM (bB BK12.out hb);replace HB:=aM (below_step bw hb);(try clear hb)
    refine hK.out _ _ ⟨(blk_cell BK12.out 0).trans rfl,(blk_cell BK12.out 1).trans rfl⟩ (fun hHeld=>?_);clear hK K;refine nM 16 ?_;refine pT 6 19 HT_.out ?_;refine oN 7 (some 20) HT_.out fun K hK=>?_
    refine value_ (w1:=?_) (v:=?_) (by rfl) rfl ?_ ?_;rotate_left 2
    ·go_simp
     constructor
     ·rfl
     ·rfl
    refine hK.out _ _ ⟨(blk_cell (blk_alloc BK12.out _) 0).trans rfl,(blk_cell (blk_alloc BK12.out _) 1).trans rfl⟩ (fun hHeld=>?_);clear hK K;refine nM 20 ?_;refine oN 8 (some 21) HT_.out fun K hK=>?_
    refine Kd.R_append_step Kd.bool (w0:=w) w.heap.size (by rfl) (.tmp 13) (.tmp 20) 38 4 (.bool false) 1 rfl Tryz.underlying38 info4 rfl (by decide) (by omega) u3 x3_1 (decide (t14 ≥ a0_0)) [.bool (decide (t14 ≥ a0_0))] (fun _=>True) (fun _=>False) rfl rfl ?aP (fun _ hk=>hk.elim) ?aF ?aO ?aB ?aS ?aL ?_;(case aP=>exact rfl)
    (case aB=>exact bw)
    (case aF=>exact (fun _ _=>trivial))
    (case aO=>exact (qra HO_3.out))
    (case aS=>exact (below_size bw))
    (case aL=>have:=LMc6.out;omega)
    intro v16 w10 ho hb hg hat;rw [← Ny15.out] at ho;replace BK12:=aM (bH BK12.out hg (Kd.R_ne HO_3.out BK12.out (by decide)));replace HB:=aM (hb);have HO17:=aM (ho);clear HO_3;clear ho hb hg hat;refine hK.out _ _ ⟨(blk_cell BK12.out 0).trans rfl,(blk_cell BK12.out 1).trans rfl⟩ (fun hHeld=>?_);clear hK K;refine nM 21 ?_;refine pT 9 3 HT_.out ?_;refine done_ (done_of HT_.out kR) ?_
    try go_wp2
    go_roundg k1
    case measure=>have:=HK1.out;omega
    case rel=>exact ⟨(y15),(wrap64 (x4_1 + 1)),qrs,H',⟨by have:=HK1.out;omega⟩,⟨qra HO17.out⟩,⟨bk1 BK12.out⟩,⟨by exact bw⟩⟩
   ·rw [if_neg c4] at H;have c4b0:=decide_eq_false c4;clear c4;obtain rfl:=Option.some.inj H;have hcz11_0:=cz BK12.out 0;have hcz11_1:=cz BK12.out 1;have hfz11_0:=blk_frozen BK12.out 0;have hfz11_1:=blk_frozen BK12.out 1;go_wp2_with (first|((with_reducible refine gate_callee (f:=69) rfl ?_);refine gL 9 Tryz.func69 #[.int .i64 (l0_1.length:Int)] ?_;(with_reducible refine (spec_voAll.calls (l0_1.length:Int) t13 _ A3.out).mono ?_);rintro e w' ⟨rfl,⟨nd,rfl⟩⟩;refine ⟨_,rfl,?_⟩))
    go_ret
    exact ⟨_,eE,by (with_reducible repeat (first|apply Kd.R_alloc|apply Kd.R_drewN|apply Kd.R_drew));exact HO_3.out,by exact bw⟩


def spec_unQuarrel.l0:Nat → Int → Int → List Bool → Int → Int → Option (List Bool)
 | 0,_,_,_,_,_=>none
 | k + 1,x1,x2,x7,x12,x13=>if x13 < x12 then (if 0 ≤ x13 then (if x13 < (x7.length:Int) then (if rdOf false x7 x13 = true then (if 0 ≤ x1 then (if (Int.tmod (shr .i64 x13 x1) 2) = 0 then (spec_unQuarrel.l0 k x1 x2 (x7.set (x13:Int).toNat true) x12 (wrap64 (x13 + 1))) else (if 0 ≤ x2 then (spec_unQuarrel.l0 k x1 x2 (x7.set (x13:Int).toNat ((Int.tmod (shr .i64 x13 x2) 2) == 0)) x12 (wrap64 (x13 + 1))) else (none))) else (none)) else (spec_unQuarrel.l0 k x1 x2 (x7.set (x13:Int).toNat false) x12 (wrap64 (x13 + 1)))) else (none)) else (none)) else (some x7)
def spec_unQuarrel.f (k:Nat) (a0_0:Int) (l0_1:List Int) (a1:Int) (a2:Int):Option (List Bool):=(spec_voWins.f k a0_0 l0_1).bind fun t3=>(spec_unQuarrel.l0 k a1 a2 t3 (t3.length:Int) 0)
theorem spec_unQuarrel.calls (k:Nat) (a0_0:Int) (A0_1:Option Addr) (c0_1:Nat) (l0_1:List Int) (a1:Int) (a2:Int) (r:List Bool) (w:World) (hr0_1:Kd.C (Kd.int .i64) w A0_1 l0_1.length l0_1) (hc0_1:l0_1.length ≤ c0_1) (h:spec_unQuarrel.f k a0_0 l0_1 a1 a2 = some r) :
  Calls Tryz.prog 27 #[.agg #[.int .i64 a0_0,.slice A0_1 l0_1.length c0_1],.int .i64 a1,.int .i64 a2] w fun e w'=>∃ v0_:Value,e = .returned (v0_) ∧ Kd.R Kd.bool 4 w' w.heap.size (fun _=>True) v0_ r ∧ Below w.heap.size w w':=by
 have hu24:=Tryz.underlying24;have HR0_1:=aM hr0_1;have HC0_1:=aM hc0_1;clear hr0_1 hc0_1;have HB:=aM (Below.refl w.heap.size w);have H:((spec_voWins.f k a0_0 l0_1).bind fun t28=>(spec_unQuarrel.l0 k a1 a2 t28 (t28.length:Int) 0)) = some r:=h;clear h;replace H:=oB H;obtain ⟨t28,A4,H⟩:=H;(try dsimp only at H)
 have H':=aM H;clear H;go_enter Tryz.func27,Tryz.ntmps27;go_wp2_with (first|((with_reducible refine gate_dst (N:=3) rfl ?_);refine bE 3 #[.int .i64 a0_0,.slice A0_1 l0_1.length c0_1] 24 ?_;intro gb3 hg w5 hbox hb;have BK3:=aM (hbox);have GW3:=aM (gS hg);have GE3:=aM (gS hg);replace HB:=aM (below_step bw hb);clear hb hbox hg;have hcz6_0:=cz BK3.out 0;have hcz6_1:=cz BK3.out 1;have hfz6_0:=blk_frozen BK3.out 0;have hfz6_1:=blk_frozen BK3.out 1)|((with_reducible refine gate_callee (f:=33) rfl ?_);refine gL 10 Tryz.func33 #[.agg #[.int .i64 a0_0,.slice A0_1 l0_1.length c0_1]] ?_;(with_reducible refine (spec_voWins.calls k a0_0 _ _ l0_1 t28 _ ?side1 ?side2 A4.out).mono ?_);(case side1=>exact qcs HR0_1.out HB.out);(case side2=>exact HC0_1.out);rintro e w7 ⟨v29,rfl,ho0,hb⟩;refine ⟨_,rfl,?_⟩;have HO30:=aM (Kd.R_lower ho0 (below_size bw));replace BK3:=aM (bB BK3.out hb);replace HB:=aM (below_step bw hb);(try clear hb);(try clear ho0);obtain ⟨Ao8,co8,eo8⟩:=Kd.R_slice HO30.out;subst eo8))
 go_loopg [13] k (fun kq v13 w'=>∃ (x7_1:List Bool) (x13_1:Int),v13 = .int .i64 x13_1 ∧ Aside0 (spec_unQuarrel.l0 kq a1 a2 x7_1 (t28.length:Int) x13_1 = some r) ∧ Aside0 (kq ≤ k) ∧ Aside0 (Kd.R Kd.bool 4 w' w.heap.size (fun _=>True) (.slice Ao8 t28.length co8) x7_1) ∧ Aside0 (w'.heap[gb3]? = some (.cells #[.int .i64 a0_0,(.slice A0_1 l0_1.length c0_1)] 24 (0,0))) ∧ Aside0 (Below w.heap.size w w'))
 case atStart=>exact ⟨(t28),(0),qrs,H',⟨Nat.le_refl _⟩,⟨qra HO30.out⟩,⟨bk1 BK3.out⟩,⟨by exact bw⟩⟩
 case round =>
  clear H';(try clear hcz6_0);(try clear hcz6_1);(try clear hfz6_0);(try clear hfz6_1)
  obtain ⟨x7_1,x13_1,rfl,HA,HK1,HO_7,BK3,HB⟩:=hrel;have hl7_1:=(Kd.R_reads' HO_7.out).1;rw [hl7_1] at HO_7;(try simp only [hl7_1])
  (try simp only [hl7_1] at BK3)
  cases gk with
  | zero=>exact absurd HA.out (by simp [spec_unQuarrel.l0])
  | succ k1 =>
   have H:=HA.out;clear HA;simp only [spec_unQuarrel.l0] at H;by_cases c9:x13_1 < (t28.length:Int)
   ·rw [if_pos c9] at H;have c9b0:=decide_eq_true c9;(try simp only [hl7_1] at c9b0)
    clear c9;replace H:=iN H;obtain ⟨c10,H⟩:=H;have c10b0:decide (0 ≤ x13_1) = true:=decide_eq_true c10;clear c10;replace H:=iN H;obtain ⟨c11,H⟩:=H;have c11b0:decide (x13_1 < (x7_1.length:Int)) = true:=decide_eq_true c11;(try simp only [hl7_1] at c11b0)
    clear c11;obtain ⟨bq12,hbq12⟩:∃ b_:Bool,b_ = (rdOf false x7_1 x13_1):=⟨_,rfl⟩;rw [← hbq12] at H;have Nbq12:=aM hbq12;clear hbq12;by_cases c13:bq12 = true
    ·subst c13;rw [if_pos rfl] at H;replace H:=iN H;obtain ⟨c14,H⟩:=H;have c14b0:=eq_true c14;have c14b1:decide (0 ≤ a1) = true:=decide_eq_true c14;clear c14;obtain ⟨ji15,hji15⟩:∃ j_:Int,(shr .i64 x13_1 a1) = j_:=⟨_,rfl⟩;(first|rw [hji15] at H|simp only [hji15] at H)
     have hji15_:(x13_1 / 2 ^ min a1.toNat 64) = ji15:=hji15;have hji15z:a1 ≤ 64 → (x13_1 / 2 ^ a1.toNat) = ji15:=shr_small hji15;by_cases c16:(Int.tmod (ji15) 2) = 0
     ·rw [if_pos c16] at H;have c16b0:((Int.tmod (ji15) 2) == 0) = true:=beq_iff_eq.mpr c16;have c16b1:((Int.tmod (ji15) 2) != 0) = false:=bne_eq_false_iff_eq.mpr c16;clear c16;obtain ⟨y32,hy32⟩:∃ y_:List Bool,y_ = (x7_1.set (x13_1:Int).toNat true):=⟨_,rfl⟩;replace H:(spec_unQuarrel.l0 k1 a1 a2 y32 (t28.length:Int) (wrap64 (x13_1 + 1))) = some r:=yR hy32 H;have Ny32:=aM hy32;clear hy32;have H':=aM H;clear H;have p31:0 ≤ (x13_1:Int):=of_decide_eq_true ab;have q31:x13_1 < (x7_1.length:Int):=of_decide_eq_true ab;obtain ⟨ad31,e31,hx31_0⟩:=Kd.at_bool (Kd.R_reads' HO_7.out).2.2 x13_1 p31 q31;(try rw [← Nbq12.out] at hx31_0)
      cases e31
      replace p31:=eq_true p31;replace q31:=eq_true q31;have p17:0 ≤ (x13_1:Int):=of_decide_eq_true ab;have q17:(x13_1:Int) < ((x7_1.length:Int):Int):=of_decide_eq_true ab;obtain ⟨go17,co17,eo17,gb17,gl17,cl17,HG17⟩:=Kd.R_form HO_7.out (by omega);(first|cases eo17|(injection eo17 with ea_ en_ ec_;(first|subst ea_|(injection ea_ with ea_;subst ea_));subst ec_;clear en_))
      have GB17:=aM gb17;have GG17:=aM HG17;clear gb17 gl17 HG17;(first|simp only [add_plain] at hx31_0|skip)
      obtain ⟨hx17_0,hf17_0⟩:=Kd.R_celln false HO_7.out (x13_1:Int) p17 q17;replace p17:=eq_true p17;replace q17:=eq_true q17;have HP18:=Kd.R_putg HO_7.out (x13_1:Int) true;go_wp2_with (first|((with_reducible refine gate_store (t:=4) (p:=36) rfl ?_);refine store_event (t:=4) (p:=36) (v:=?vo_w19) (w1:=(wr.setCell ⟨go17,(x13_1:Int).toNat,none⟩ (.bool true))) ?hg ?ho ?hn ?hr ?_;(case ho=>rfl);(case hg=>rfl);(case hn=>rfl);(case hr=>first|(go_simp;done)|(go_simp;rfl));intro w19 hw;have hg:wr.grownBy w19 (some go17):=(by rw [hw];exact HP18.2);have hp_:Kd.R Kd.bool 4 w19 w.heap.size (fun _=>True) (.slice (some ⟨go17,0,none⟩) x7_1.length co8) y32:=(by rw [hw,Ny32.out];exact HP18.1);clear HP18;replace BK3:=aM (bH BK3.out hg (Kd.R_ne HO_7.out BK3.out (by decide)));replace HO_7:=aM (hp_);replace HB:=aM ((by rw [hw];exact below_set (HB.out) GB17.out:Below w.heap.size w w19));clear hg hw hp_))
      (try simp only [← hl7_1])
      go_roundg k1
      case measure=>have:=HK1.out;omega
      case rel=>exact ⟨(y32),(wrap64 (x13_1 + 1)),qrs,H',⟨by have:=HK1.out;omega⟩,⟨by (try simp only [hl7_1]);(with_reducible repeat (first|apply Kd.R_alloc|apply Kd.R_drewN|apply Kd.R_drew));exact HO_7.out⟩,⟨by (try simp only [hl7_1]);(with_reducible repeat (first|refine blk_drewN ?_ _|refine blk_drew ?_|refine blk_alloc ?_ _));exact BK3.out⟩,⟨by exact bw⟩⟩
     ·rw [if_neg c16] at H;have c16b0:((Int.tmod (ji15) 2) == 0) = false:=beq_eq_false_iff_ne.mpr c16;have c16b1:((Int.tmod (ji15) 2) != 0) = true:=bne_iff_ne.mpr c16;replace H:=iN H;obtain ⟨c20,H⟩:=H;have c20b0:=eq_true c20;have c20b1:decide (0 ≤ a2) = true:=decide_eq_true c20;clear c20;obtain ⟨ji21,hji21⟩:∃ j_:Int,(shr .i64 x13_1 a2) = j_:=⟨_,rfl⟩;(first|rw [hji21] at H|simp only [hji21] at H)
      have hji21_:(x13_1 / 2 ^ min a2.toNat 64) = ji21:=hji21;have hji21z:a2 ≤ 64 → (x13_1 / 2 ^ a2.toNat) = ji21:=shr_small hji21;obtain ⟨y34,hy34⟩:∃ y_:List Bool,y_ = (x7_1.set (x13_1:Int).toNat ((Int.tmod (ji21) 2) == 0)):=⟨_,rfl⟩;replace H:(spec_unQuarrel.l0 k1 a1 a2 y34 (t28.length:Int) (wrap64 (x13_1 + 1))) = some r:=yR hy34 H;have Ny34:=aM hy34;clear hy34;have H':=aM H;clear H;have p31:0 ≤ (x13_1:Int):=of_decide_eq_true ab;have q31:x13_1 < (x7_1.length:Int):=of_decide_eq_true ab;obtain ⟨ad31,e31,hx31_0⟩:=Kd.at_bool (Kd.R_reads' HO_7.out).2.2 x13_1 p31 q31;(try rw [← Nbq12.out] at hx31_0)
      cases e31
      replace p31:=eq_true p31;replace q31:=eq_true q31;have p22:0 ≤ (x13_1:Int):=of_decide_eq_true ab;have q22:(x13_1:Int) < ((x7_1.length:Int):Int):=of_decide_eq_true ab;obtain ⟨go22,co22,eo22,gb22,gl22,cl22,HG22⟩:=Kd.R_form HO_7.out (by omega);(first|cases eo22|(injection eo22 with ea_ en_ ec_;(first|subst ea_|(injection ea_ with ea_;subst ea_));subst ec_;clear en_))
      have GB22:=aM gb22;have GG22:=aM HG22;clear gb22 gl22 HG22;(first|simp only [add_plain] at hx31_0|skip)
      obtain ⟨hx22_0,hf22_0⟩:=Kd.R_celln false HO_7.out (x13_1:Int) p22 q22;replace p22:=eq_true p22;replace q22:=eq_true q22;have HP23:=Kd.R_putg HO_7.out (x13_1:Int) ((Int.tmod (ji21) 2) == 0);go_wp2_with (first|((with_reducible refine gate_store (t:=4) (p:=36) rfl ?_);refine store_event (t:=4) (p:=36) (v:=?vo_w24) (w1:=(wr.setCell ⟨go22,(x13_1:Int).toNat,none⟩ (.bool ((Int.tmod (ji21) 2) == 0)))) ?hg ?ho ?hn ?hr ?_;(case ho=>rfl);(case hg=>rfl);(case hn=>rfl);(case hr=>first|(go_simp;done)|(go_simp;rfl));intro w24 hw;have hg:wr.grownBy w24 (some go22):=(by rw [hw];exact HP23.2);have hp_:Kd.R Kd.bool 4 w24 w.heap.size (fun _=>True) (.slice (some ⟨go22,0,none⟩) x7_1.length co8) y34:=(by rw [hw,Ny34.out];exact HP23.1);clear HP23;replace BK3:=aM (bH BK3.out hg (Kd.R_ne HO_7.out BK3.out (by decide)));replace HO_7:=aM (hp_);replace HB:=aM ((by rw [hw];exact below_set (HB.out) GB22.out:Below w.heap.size w w24));clear hg hw hp_))
      (try simp only [← hl7_1])
      go_roundg k1
      case measure=>have:=HK1.out;omega
      case rel=>exact ⟨(y34),(wrap64 (x13_1 + 1)),qrs,H',⟨by have:=HK1.out;omega⟩,⟨by (try simp only [hl7_1]);(with_reducible repeat (first|apply Kd.R_alloc|apply Kd.R_drewN|apply Kd.R_drew));exact HO_7.out⟩,⟨by (try simp only [hl7_1]);(with_reducible repeat (first|refine blk_drewN ?_ _|refine blk_drew ?_|refine blk_alloc ?_ _));exact BK3.out⟩,⟨by exact bw⟩⟩
    ·replace c13:=Bool.eq_false_iff.mpr c13;subst c13;rw [if_neg (show ¬ (false = true) by decide)] at H;obtain ⟨y35,hy35⟩:∃ y_:List Bool,y_ = (x7_1.set (x13_1:Int).toNat false):=⟨_,rfl⟩;replace H:(spec_unQuarrel.l0 k1 a1 a2 y35 (t28.length:Int) (wrap64 (x13_1 + 1))) = some r:=yR hy35 H;have Ny35:=aM hy35;clear hy35;have H':=aM H;clear H;have p31:0 ≤ (x13_1:Int):=of_decide_eq_true ab;have q31:x13_1 < (x7_1.length:Int):=of_decide_eq_true ab;obtain ⟨ad31,e31,hx31_0⟩:=Kd.at_bool (Kd.R_reads' HO_7.out).2.2 x13_1 p31 q31;(try rw [← Nbq12.out] at hx31_0)
     cases e31
     replace p31:=eq_true p31;replace q31:=eq_true q31;have p25:0 ≤ (x13_1:Int):=of_decide_eq_true ab;have q25:(x13_1:Int) < ((x7_1.length:Int):Int):=of_decide_eq_true ab;obtain ⟨go25,co25,eo25,gb25,gl25,cl25,HG25⟩:=Kd.R_form HO_7.out (by omega);(first|cases eo25|(injection eo25 with ea_ en_ ec_;(first|subst ea_|(injection ea_ with ea_;subst ea_));subst ec_;clear en_))
     have GB25:=aM gb25;have GG25:=aM HG25;clear gb25 gl25 HG25;(first|simp only [add_plain] at hx31_0|skip)
     obtain ⟨hx25_0,hf25_0⟩:=Kd.R_celln false HO_7.out (x13_1:Int) p25 q25;replace p25:=eq_true p25;replace q25:=eq_true q25;have HP26:=Kd.R_putg HO_7.out (x13_1:Int) false;go_wp2_with (first|((with_reducible refine gate_store (t:=4) (p:=36) rfl ?_);refine store_event (t:=4) (p:=36) (v:=?vo_w27) (w1:=(wr.setCell ⟨go25,(x13_1:Int).toNat,none⟩ (.bool false))) ?hg ?ho ?hn ?hr ?_;(case ho=>rfl);(case hg=>rfl);(case hn=>rfl);(case hr=>first|(go_simp;done)|(go_simp;rfl));intro w27 hw;have hg:wr.grownBy w27 (some go25):=(by rw [hw];exact HP26.2);have hp_:Kd.R Kd.bool 4 w27 w.heap.size (fun _=>True) (.slice (some ⟨go25,0,none⟩) x7_1.length co8) y35:=(by rw [hw,Ny35.out];exact HP26.1);clear HP26;replace BK3:=aM (bH BK3.out hg (Kd.R_ne HO_7.out BK3.out (by decide)));replace HO_7:=aM (hp_);replace HB:=aM ((by rw [hw];exact below_set (HB.out) GB25.out:Below w.heap.size w w27));clear hg hw hp_))
     (try simp only [← hl7_1])
     go_roundg k1
     case measure=>have:=HK1.out;omega
     case rel=>exact ⟨(y35),(wrap64 (x13_1 + 1)),qrs,H',⟨by have:=HK1.out;omega⟩,⟨by (try simp only [hl7_1]);(with_reducible repeat (first|apply Kd.R_alloc|apply Kd.R_drewN|apply Kd.R_drew));exact HO_7.out⟩,⟨by (try simp only [hl7_1]);(with_reducible repeat (first|refine blk_drewN ?_ _|refine blk_drew ?_|refine blk_alloc ?_ _));exact BK3.out⟩,⟨by exact bw⟩⟩
   ·rw [if_neg c9] at H;have c9b0:=decide_eq_false c9;(try simp only [hl7_1] at c9b0)
    clear c9;obtain rfl:=Option.some.inj H;go_wp2
    go_ret
    exact ⟨_,eE,by (with_reducible repeat (first|apply Kd.R_alloc|apply Kd.R_drewN|apply Kd.R_drew));exact HO_7.out,by exact bw⟩


def spec_CountQuarrelWins.f (k:Nat) (a0_0:Int) (l0_1:List Int) (a1:Int) (a2:Int):Option (Int × Bool):=(spec_unPair.f k a0_0 l0_1 a1 a2).bind fun t3=>(if t3 = true then ((spec_unQuarrel.f k a0_0 l0_1 a1 a2).bind fun t4=>((spec_gmCount.f k t4).bind fun t5=>(some (t5,true)))) else (some (0,false)))
theorem spec_CountQuarrelWins.calls (k:Nat) (a0_0:Int) (A0_1:Option Addr) (c0_1:Nat) (l0_1:List Int) (a1:Int) (a2:Int) (r1:Int) (r2:Bool) (w:World) (hr0_1:Kd.C (Kd.int .i64) w A0_1 l0_1.length l0_1) (hc0_1:l0_1.length ≤ c0_1) (h:spec_CountQuarrelWins.f k a0_0 l0_1 a1 a2 = some (r1,r2)) :
  Calls Tryz.prog 5 #[.agg #[.int .i64 a0_0,.slice A0_1 l0_1.length c0_1],.int .i64 a1,.int .i64 a2] w fun e w'=>e = .returned (.tuple #[.int .i64 r1,.bool r2]) ∧ Below w.heap.size w w':=by
 have hu24:=Tryz.underlying24;have HR0_1:=aM hr0_1;have HC0_1:=aM hc0_1;clear hr0_1 hc0_1;have HB:=aM (Below.refl w.heap.size w);have H:((spec_unPair.f k a0_0 l0_1 a1 a2).bind fun t17=>(if t17 = true then ((spec_unQuarrel.f k a0_0 l0_1 a1 a2).bind fun t18=>((spec_gmCount.f k t18).bind fun t21=>(some (t21,true)))) else (some (0,false)))) = some (r1,r2):=h;clear h;replace H:=oB H;obtain ⟨t17,A4,H⟩:=H;(try dsimp only at H)
 by_cases c5:t17 = true
 ·subst c5;rw [if_pos rfl] at H;replace H:=oB H;obtain ⟨t18,A6,H⟩:=H;(try dsimp only at H)
  replace H:=oB H;obtain ⟨t21,A7,H⟩:=H;(try dsimp only at H)
  simp only [Option.some.injEq,Prod.mk.injEq] at H;obtain ⟨rfl,rfl⟩:=H;go_enter Tryz.func5,Tryz.ntmps5;go_wp2_with (first|((with_reducible refine gate_dst (N:=3) rfl ?_);refine bE 3 #[.int .i64 a0_0,.slice A0_1 l0_1.length c0_1] 24 ?_;intro gb3 hg w8 hbox hb;have BK3:=aM (hbox);have GW3:=aM (gS hg);have GE3:=aM (gS hg);replace HB:=aM (below_step bw hb);clear hb hbox hg;have hcz9_0:=cz BK3.out 0;have hcz9_1:=cz BK3.out 1;have hfz9_0:=blk_frozen BK3.out 0;have hfz9_1:=blk_frozen BK3.out 1)|((with_reducible refine gate_callee (f:=25) rfl ?_);refine gL 11 Tryz.func25 #[.agg #[.int .i64 a0_0,.slice A0_1 l0_1.length c0_1],.int .i64 a1,.int .i64 a2] ?_;(with_reducible refine (spec_unPair.calls k a0_0 _ _ l0_1 a1 a2 true _ ?side1 ?side2 A4.out).mono ?_);(case side1=>exact qcs HR0_1.out HB.out);(case side2=>exact HC0_1.out);rintro e w10 ⟨rfl,hb⟩;refine ⟨_,rfl,?_⟩;replace BK3:=aM (bB BK3.out hb);replace HB:=aM (below_step bw hb);(try clear hb);have hcz11_0:=cz BK3.out 0;have hcz11_1:=cz BK3.out 1;have hfz11_0:=blk_frozen BK3.out 0;have hfz11_1:=blk_frozen BK3.out 1)|((with_reducible refine gate_callee (f:=27) rfl ?_);refine gL 16 Tryz.func27 #[.agg #[.int .i64 a0_0,.slice A0_1 l0_1.length c0_1],.int .i64 a1,.int .i64 a2] ?_;(with_reducible refine (spec_unQuarrel.calls k a0_0 _ _ l0_1 a1 a2 t18 _ ?side1 ?side2 A6.out).mono ?_);(case side1=>exact qcs HR0_1.out HB.out);(case side2=>exact HC0_1.out);rintro e w12 ⟨v19,rfl,ho0,hb⟩;refine ⟨_,rfl,?_⟩;have HO20:=aM (Kd.R_lower ho0 (below_size bw));replace BK3:=aM (bB BK3.out hb);replace HB:=aM (below_step bw hb);(try clear hb);(try clear ho0);obtain ⟨Ao13,co13,eo13⟩:=Kd.R_slice HO20.out;subst eo13)|((with_reducible refine gate_callee (f:=26) rfl ?_);refine gL 17 Tryz.func26 #[.slice Ao13 t18.length co13] ?_;(with_reducible refine (spec_gmCount.calls k _ _ t18 t21 _ ?side1 ?side2 A7.out).mono ?_);(case side1=>exact qc (Kd.R_reads' HO20.out).2.2);(case side2=>exact (Kd.R_reads' HO20.out).2.1);rintro e w' ⟨rfl,⟨nd,rfl⟩⟩;refine ⟨_,rfl,?_⟩))
  go_ret2
  exact ⟨eE,by exact bw⟩
 ·replace c5:=Bool.eq_false_iff.mpr c5;subst c5;rw [if_neg (show ¬ (false = true) by decide)] at H;simp only [Option.some.injEq,Prod.mk.injEq] at H;obtain ⟨rfl,rfl⟩:=H;go_enter Tryz.func5,Tryz.ntmps5;go_wp2_with (first|((with_reducible refine gate_dst (N:=3) rfl ?_);refine bE 3 #[.int .i64 a0_0,.slice A0_1 l0_1.length c0_1] 24 ?_;intro gb3 hg w14 hbox hb;have BK3:=aM (hbox);have GW3:=aM (gS hg);have GE3:=aM (gS hg);replace HB:=aM (below_step bw hb);clear hb hbox hg;have hcz15_0:=cz BK3.out 0;have hcz15_1:=cz BK3.out 1;have hfz15_0:=blk_frozen BK3.out 0;have hfz15_1:=blk_frozen BK3.out 1)|((with_reducible refine gate_callee (f:=25) rfl ?_);refine gL 11 Tryz.func25 #[.agg #[.int .i64 a0_0,.slice A0_1 l0_1.length c0_1],.int .i64 a1,.int .i64 a2] ?_;(with_reducible refine (spec_unPair.calls k a0_0 _ _ l0_1 a1 a2 false _ ?side1 ?side2 A4.out).mono ?_);(case side1=>exact qcs HR0_1.out HB.out);(case side2=>exact HC0_1.out);rintro e w16 ⟨rfl,hb⟩;refine ⟨_,rfl,?_⟩;replace BK3:=aM (bB BK3.out hb);replace HB:=aM (below_step bw hb);(try clear hb)))
  go_ret2
  exact ⟨eE,by exact bw⟩


def impl_votes_isSwing.f (a0_0:Int) (l0_1:List Bool) (a1:Int) (a2:Int):Option (Bool):=(impl_has.f a1 a2).bind fun t3=>(if t3 = true then (some false) else (if 0 ≤ a1 then (if a1 < (l0_1.length:Int) then (if rdOf false l0_1 a1 = true then (some false) else (if 0 ≤ a2 then (if 0 ≤ (Go.bits .or .i64 a1 (shl .i64 1 a2)) then (if (Go.bits .or .i64 a1 (shl .i64 1 a2)) < (l0_1.length:Int) then (some (rdOf false l0_1 (Go.bits .or .i64 a1 (shl .i64 1 a2)))) else (none)) else (none)) else (none))) else (none)) else (none)))
theorem impl_votes_isSwing.calls (a0_0:Int) (A0_1:Option Addr) (c0_1:Nat) (l0_1:List Bool) (a1:Int) (a2:Int) (r:Bool) (w:World) (hr0_1:Kd.C Kd.bool w A0_1 l0_1.length l0_1) (hc0_1:l0_1.length ≤ c0_1) (h:impl_votes_isSwing.f a0_0 l0_1 a1 a2 = some r) :
  Calls Tryz.prog 66 #[.agg #[.int .i64 a0_0,.slice A0_1 l0_1.length c0_1],.int .i64 a1,.int .i64 a2] w fun e w'=>e = .returned (.bool r) ∧ Below w.heap.size w w':=by
 have hu40:=Tryz.underlying40;have HR0_1:=aM hr0_1;have HC0_1:=aM hc0_1;clear hr0_1 hc0_1;have HB:=aM (Below.refl w.heap.size w);have H:((impl_has.f a1 a2).bind fun t19=>(if t19 = true then (some false) else (if 0 ≤ a1 then (if a1 < (l0_1.length:Int) then (if rdOf false l0_1 a1 = true then (some false) else (if 0 ≤ a2 then (if 0 ≤ (Go.bits .or .i64 a1 (shl .i64 1 a2)) then (if (Go.bits .or .i64 a1 (shl .i64 1 a2)) < (l0_1.length:Int) then (some (rdOf false l0_1 (Go.bits .or .i64 a1 (shl .i64 1 a2)))) else (none)) else (none)) else (none))) else (none)) else (none)))) = some r:=h;clear h;replace H:=oB H;obtain ⟨t19,A4,H⟩:=H;(try dsimp only at H)
 by_cases c5:t19 = true
 ·subst c5;rw [if_pos rfl] at H;obtain rfl:=Option.some.inj H;go_enter Tryz.func66,Tryz.ntmps66;go_wp2_with (first|((with_reducible refine gate_dst (N:=3) rfl ?_);refine bE 3 #[.int .i64 a0_0,.slice A0_1 l0_1.length c0_1] 40 ?_;intro gb3 hg w6 hbox hb;have BK3:=aM (hbox);have GW3:=aM (gS hg);have GE3:=aM (gS hg);replace HB:=aM (below_step bw hb);clear hb hbox hg)|(go_at_call 65;(with_reducible refine (impl_has.calls a1 a2 true _ A4.out).mono ?_);rintro e w' ⟨rfl,⟨nd,rfl⟩⟩;(try exact dW)))
  repeat (go_quiet (first|((with_reducible refine gate_dst (N:=3) rfl ?_);refine bE 3 #[.int .i64 a0_0,.slice A0_1 l0_1.length c0_1] 40 ?_;intro gb3 hg w6 hbox hb;have BK3:=aM (hbox);have GW3:=aM (gS hg);have GE3:=aM (gS hg);replace HB:=aM (below_step bw hb);clear hb hbox hg)|(go_at_call 65;(with_reducible refine (impl_has.calls a1 a2 true _ A4.out).mono ?_);rintro e w' ⟨rfl,⟨nd,rfl⟩⟩;(try exact dW)));try go_wp2_with (first|((with_reducible refine gate_dst (N:=3) rfl ?_);refine bE 3 #[.int .i64 a0_0,.slice A0_1 l0_1.length c0_1] 40 ?_;intro gb3 hg w6 hbox hb;have BK3:=aM (hbox);have GW3:=aM (gS hg);have GE3:=aM (gS hg);replace HB:=aM (below_step bw hb);clear hb hbox hg)|(go_at_call 65;(with_reducible refine (impl_has.calls a1 a2 true _ A4.out).mono ?_);rintro e w' ⟨rfl,⟨nd,rfl⟩⟩;(try exact dW))))
  go_ret
  exact ⟨eE,by exact bw⟩
 ·replace c5:=Bool.eq_false_iff.mpr c5;subst c5;rw [if_neg (show ¬ (false = true) by decide)] at H;replace H:=iN H;obtain ⟨c7,H⟩:=H;have c7b0:decide (0 ≤ a1) = true:=decide_eq_true c7;clear c7;replace H:=iN H;obtain ⟨c8,H⟩:=H;have c8b0:decide (a1 < (l0_1.length:Int)) = true:=decide_eq_true c8;clear c8;obtain ⟨bq9,hbq9⟩:∃ b_:Bool,b_ = (rdOf false l0_1 a1):=⟨_,rfl⟩;rw [← hbq9] at H;have Nbq9:=aM hbq9;clear hbq9;by_cases c10:bq9 = true
  ·subst c10;rw [if_pos rfl] at H;obtain rfl:=Option.some.inj H;go_enter Tryz.func66,Tryz.ntmps66;go_wp2_with (first|((with_reducible refine gate_dst (N:=3) rfl ?_);refine bE 3 #[.int .i64 a0_0,.slice A0_1 l0_1.length c0_1] 40 ?_;intro gb3 hg w11 hbox hb;have BK3:=aM (hbox);have GW3:=aM (gS hg);have GE3:=aM (gS hg);replace HB:=aM (below_step bw hb);clear hb hbox hg)|(go_at_call 65;(with_reducible refine (impl_has.calls a1 a2 false _ A4.out).mono ?_);rintro e w' ⟨rfl,⟨nd,rfl⟩⟩;(try exact dW);have hcz12_0:=cz BK3.out 0;have hcz12_1:=cz BK3.out 1;have hfz12_0:=blk_frozen BK3.out 0;have hfz12_1:=blk_frozen BK3.out 1;have p20:0 ≤ (a1:Int):=of_decide_eq_true ab;have q20:a1 < (l0_1.length:Int):=of_decide_eq_true ab;obtain ⟨ad20,e20,hx20_0⟩:=Kd.at_bool HR0_1.out a1 p20 q20;(try rw [← Nbq9.out] at hx20_0);cases e20;replace hx20_0:=(HB.out.cell (World.block_lt_of_cell? w _ hx20_0)).trans hx20_0;replace p20:=eq_true p20;replace q20:=eq_true q20))
   repeat (go_quiet (first|((with_reducible refine gate_dst (N:=3) rfl ?_);refine bE 3 #[.int .i64 a0_0,.slice A0_1 l0_1.length c0_1] 40 ?_;intro gb3 hg w11 hbox hb;have BK3:=aM (hbox);have GW3:=aM (gS hg);have GE3:=aM (gS hg);replace HB:=aM (below_step bw hb);clear hb hbox hg)|(go_at_call 65;(with_reducible refine (impl_has.calls a1 a2 false _ A4.out).mono ?_);rintro e w' ⟨rfl,⟨nd,rfl⟩⟩;(try exact dW);have hcz12_0:=cz BK3.out 0;have hcz12_1:=cz BK3.out 1;have hfz12_0:=blk_frozen BK3.out 0;have hfz12_1:=blk_frozen BK3.out 1;have p20:0 ≤ (a1:Int):=of_decide_eq_true ab;have q20:a1 < (l0_1.length:Int):=of_decide_eq_true ab;obtain ⟨ad20,e20,hx20_0⟩:=Kd.at_bool HR0_1.out a1 p20 q20;(try rw [← Nbq9.out] at hx20_0);cases e20;replace hx20_0:=(HB.out.cell (World.block_lt_of_cell? w _ hx20_0)).trans hx20_0;replace p20:=eq_true p20;replace q20:=eq_true q20));try go_wp2_with (first|((with_reducible refine gate_dst (N:=3) rfl ?_);refine bE 3 #[.int .i64 a0_0,.slice A0_1 l0_1.length c0_1] 40 ?_;intro gb3 hg w11 hbox hb;have BK3:=aM (hbox);have GW3:=aM (gS hg);have GE3:=aM (gS hg);replace HB:=aM (below_step bw hb);clear hb hbox hg)|(go_at_call 65;(with_reducible refine (impl_has.calls a1 a2 false _ A4.out).mono ?_);rintro e w' ⟨rfl,⟨nd,rfl⟩⟩;(try exact dW);have hcz12_0:=cz BK3.out 0;have hcz12_1:=cz BK3.out 1;have hfz12_0:=blk_frozen BK3.out 0;have hfz12_1:=blk_frozen BK3.out 1;have p20:0 ≤ (a1:Int):=of_decide_eq_true ab;have q20:a1 < (l0_1.length:Int):=of_decide_eq_true ab;obtain ⟨ad20,e20,hx20_0⟩:=Kd.at_bool HR0_1.out a1 p20 q20;(try rw [← Nbq9.out] at hx20_0);cases e20;replace hx20_0:=(HB.out.cell (World.block_lt_of_cell? w _ hx20_0)).trans hx20_0;replace p20:=eq_true p20;replace q20:=eq_true q20)))
   go_ret
   exact ⟨eE,by exact bw⟩
  ·replace c10:=Bool.eq_false_iff.mpr c10;subst c10;rw [if_neg (show ¬ (false = true) by decide)] at H;replace H:=iN H;obtain ⟨c13,H⟩:=H;have c13b0:=eq_true c13;have c13b1:decide (0 ≤ a2) = true:=decide_eq_true c13;clear c13;obtain ⟨ji14,hji14⟩:∃ j_:Int,(shl .i64 1 a2) = j_:=⟨_,rfl⟩;(first|rw [hji14] at H|simp only [hji14] at H)
   (try rw [hji14] at A4)
   have hji14_:(IntKind.i64.wrap (1 * 2 ^ min a2.toNat 64)) = ji14:=hji14;have hji14z:a2 ≤ 64 → (IntKind.i64.wrap (1 * 2 ^ a2.toNat)) = ji14:=shl_small hji14;have hji14u:(IntKind.i64.wrap (2 ^ min a2.toNat 64)) = ji14:=by have h_:=hji14_;rw [Int.one_mul] at h_;exact h_
   have hji14v:a2 ≤ 64 → (IntKind.i64.wrap (2 ^ a2.toNat)) = ji14:=fun hle_=>by have h_:=hji14z hle_;rw [Int.one_mul] at h_;exact h_
   have hji14y:(wrap64 (1 * 2 ^ min a2.toNat 64)) = ji14:=(i64_w _).symm.trans hji14_;have hji14x:a2 ≤ 64 → (wrap64 (1 * 2 ^ a2.toNat)) = ji14:=fun h_=>(i64_w _).symm.trans (hji14z h_)
   replace H:=iN H;obtain ⟨c15,H⟩:=H;have c15b0:decide (0 ≤ (Go.bits .or .i64 a1 (ji14))) = true:=decide_eq_true c15;clear c15;replace H:=iN H;obtain ⟨c16,H⟩:=H;have c16b0:decide ((Go.bits .or .i64 a1 (ji14)) < (l0_1.length:Int)) = true:=decide_eq_true c16;clear c16;obtain rfl:=Option.some.inj H;go_enter Tryz.func66,Tryz.ntmps66;go_wp2_with (first|((with_reducible refine gate_dst (N:=3) rfl ?_);refine bE 3 #[.int .i64 a0_0,.slice A0_1 l0_1.length c0_1] 40 ?_;intro gb3 hg w17 hbox hb;have BK3:=aM (hbox);have GW3:=aM (gS hg);have GE3:=aM (gS hg);replace HB:=aM (below_step bw hb);clear hb hbox hg)|(go_at_call 65;(with_reducible refine (impl_has.calls a1 a2 false _ A4.out).mono ?_);rintro e w' ⟨rfl,⟨nd,rfl⟩⟩;(try exact dW);have hcz18_0:=cz BK3.out 0;have hcz18_1:=cz BK3.out 1;have hfz18_0:=blk_frozen BK3.out 0;have hfz18_1:=blk_frozen BK3.out 1;have p20:0 ≤ (a1:Int):=of_decide_eq_true ab;have q20:a1 < (l0_1.length:Int):=of_decide_eq_true ab;obtain ⟨ad20,e20,hx20_0⟩:=Kd.at_bool HR0_1.out a1 p20 q20;(try rw [← Nbq9.out] at hx20_0);cases e20;replace hx20_0:=(HB.out.cell (World.block_lt_of_cell? w _ hx20_0)).trans hx20_0;replace p20:=eq_true p20;replace q20:=eq_true q20;have p21:0 ≤ ((Go.bits .or .i64 a1 (ji14)):Int):=of_decide_eq_true ab;have q21:(Go.bits .or .i64 a1 (ji14)) < (l0_1.length:Int):=of_decide_eq_true ab;obtain ⟨ad21,e21,hx21_0⟩:=Kd.at_bool HR0_1.out (Go.bits .or .i64 a1 (ji14)) p21 q21;(try rw [← Nbq9.out] at hx21_0);obtain rfl:ad20 = ad21:=(by injection e21);replace hx21_0:=(HB.out.cell (World.block_lt_of_cell? w _ hx21_0)).trans hx21_0;replace p21:=eq_true p21;replace q21:=eq_true q21))
   repeat (go_quiet (first|((with_reducible refine gate_dst (N:=3) rfl ?_);refine bE 3 #[.int .i64 a0_0,.slice A0_1 l0_1.length c0_1] 40 ?_;intro gb3 hg w17 hbox hb;have BK3:=aM (hbox);have GW3:=aM (gS hg);have GE3:=aM (gS hg);replace HB:=aM (below_step bw hb);clear hb hbox hg)|(go_at_call 65;(with_reducible refine (impl_has.calls a1 a2 false _ A4.out).mono ?_);rintro e w' ⟨rfl,⟨nd,rfl⟩⟩;(try exact dW);have hcz18_0:=cz BK3.out 0;have hcz18_1:=cz BK3.out 1;have hfz18_0:=blk_frozen BK3.out 0;have hfz18_1:=blk_frozen BK3.out 1;have p20:0 ≤ (a1:Int):=of_decide_eq_true ab;have q20:a1 < (l0_1.length:Int):=of_decide_eq_true ab;obtain ⟨ad20,e20,hx20_0⟩:=Kd.at_bool HR0_1.out a1 p20 q20;(try rw [← Nbq9.out] at hx20_0);cases e20;replace hx20_0:=(HB.out.cell (World.block_lt_of_cell? w _ hx20_0)).trans hx20_0;replace p20:=eq_true p20;replace q20:=eq_true q20;have p21:0 ≤ ((Go.bits .or .i64 a1 (ji14)):Int):=of_decide_eq_true ab;have q21:(Go.bits .or .i64 a1 (ji14)) < (l0_1.length:Int):=of_decide_eq_true ab;obtain ⟨ad21,e21,hx21_0⟩:=Kd.at_bool HR0_1.out (Go.bits .or .i64 a1 (ji14)) p21 q21;(try rw [← Nbq9.out] at hx21_0);obtain rfl:ad20 = ad21:=(by injection e21);replace hx21_0:=(HB.out.cell (World.block_lt_of_cell? w _ hx21_0)).trans hx21_0;replace p21:=eq_true p21;replace q21:=eq_true q21));try go_wp2_with (first|((with_reducible refine gate_dst (N:=3) rfl ?_);refine bE 3 #[.int .i64 a0_0,.slice A0_1 l0_1.length c0_1] 40 ?_;intro gb3 hg w17 hbox hb;have BK3:=aM (hbox);have GW3:=aM (gS hg);have GE3:=aM (gS hg);replace HB:=aM (below_step bw hb);clear hb hbox hg)|(go_at_call 65;(with_reducible refine (impl_has.calls a1 a2 false _ A4.out).mono ?_);rintro e w' ⟨rfl,⟨nd,rfl⟩⟩;(try exact dW);have hcz18_0:=cz BK3.out 0;have hcz18_1:=cz BK3.out 1;have hfz18_0:=blk_frozen BK3.out 0;have hfz18_1:=blk_frozen BK3.out 1;have p20:0 ≤ (a1:Int):=of_decide_eq_true ab;have q20:a1 < (l0_1.length:Int):=of_decide_eq_true ab;obtain ⟨ad20,e20,hx20_0⟩:=Kd.at_bool HR0_1.out a1 p20 q20;(try rw [← Nbq9.out] at hx20_0);cases e20;replace hx20_0:=(HB.out.cell (World.block_lt_of_cell? w _ hx20_0)).trans hx20_0;replace p20:=eq_true p20;replace q20:=eq_true q20;have p21:0 ≤ ((Go.bits .or .i64 a1 (ji14)):Int):=of_decide_eq_true ab;have q21:(Go.bits .or .i64 a1 (ji14)) < (l0_1.length:Int):=of_decide_eq_true ab;obtain ⟨ad21,e21,hx21_0⟩:=Kd.at_bool HR0_1.out (Go.bits .or .i64 a1 (ji14)) p21 q21;(try rw [← Nbq9.out] at hx21_0);obtain rfl:ad20 = ad21:=(by injection e21);replace hx21_0:=(HB.out.cell (World.block_lt_of_cell? w _ hx21_0)).trans hx21_0;replace p21:=eq_true p21;replace q21:=eq_true q21)))
   go_ret
   exact ⟨by first|rfl|(simp [errW_none,errW_some] <;> rfl)|(simp only [← hji14];first|rfl|(simp [errW_none,errW_some] <;> rfl))|(simp [*,errW_none,errW_some] <;> rfl),by exact bw⟩


mutual
def impl_votes_swings.l0:Nat → List Int → Int → Int → Int → List Bool → Option (List Int)
 | 0,_,_,_,_,_=>none
 | k + 1,x3,x10,x11,x5,x6=>if x11 < x10 then (impl_votes_swings.l1 k x3 x11 x10 x11 (x6.length:Int) 0 x5 x6) else (some x3)
def impl_votes_swings.l1:Nat → List Int → Int → Int → Int → Int → Int → Int → List Bool → Option (List Int)
 | 0,_,_,_,_,_,_,_,_=>none
 | k + 1,x3,x4,x10,x11,x16,x17,x5,x6=>if x17 < x16 then ((impl_votes_isSwing.f x5 x6 x17 x4).bind fun t2=>(if t2 = true then (if 0 ≤ x4 then (if x4 < (x3.length:Int) then (impl_votes_swings.l1 k (x3.set (x4:Int).toNat (wrap64 ((rd x3 x4) + 1))) x4 x10 x11 x16 (wrap64 (x17 + 1)) x5 x6) else (none)) else (none)) else (impl_votes_swings.l1 k x3 x4 x10 x11 x16 (wrap64 (x17 + 1)) x5 x6))) else (impl_votes_swings.l0 k x3 x10 (wrap64 (x11 + 1)) x5 x6)
end
def impl_votes_swings.f (k:Nat) (a0_0:Int) (l0_1:List Bool):Option (List Int):=if 0 ≤ a0_0 then (if (a0_0:Int).toNat ≤ 35184372088832 then ((some (List.replicate (a0_0:Int).toNat 0:List Int)).bind fun y2=>(impl_votes_swings.l0 k y2 (y2.length:Int) 0 a0_0 l0_1)) else (none)) else (none)
theorem impl_votes_swings.calls (k:Nat) (a0_0:Int) (A0_1:Option Addr) (c0_1:Nat) (l0_1:List Bool) (r:List Int) (w:World) (hr0_1:Kd.C Kd.bool w A0_1 l0_1.length l0_1) (hc0_1:l0_1.length ≤ c0_1) (h:impl_votes_swings.f k a0_0 l0_1 = some r) :
  Calls Tryz.prog 28 #[.agg #[.int .i64 a0_0,.slice A0_1 l0_1.length c0_1]] w fun e w'=>∃ v0_:Value,e = .returned (v0_) ∧ Kd.R (Kd.int .i64) 3 w' w.heap.size (fun _=>True) v0_ r ∧ Below w.heap.size w w':=by
 have hu40:=Tryz.underlying40;have HR0_1:=aM hr0_1;have HC0_1:=aM hc0_1;clear hr0_1 hc0_1;have HB:=aM (Below.refl w.heap.size w);have H:(if 0 ≤ a0_0 then (if (a0_0:Int).toNat ≤ 35184372088832 then ((some (List.replicate (a0_0:Int).toNat 0:List Int)).bind fun y24=>(impl_votes_swings.l0 k y24 (y24.length:Int) 0 a0_0 l0_1)) else (none)) else (none)) = some r:=h;clear h;replace H:=iN H;obtain ⟨c2,H⟩:=H;have c2b0:=eq_true c2;have c2b1:decide (0 ≤ a0_0) = true:=decide_eq_true c2;clear c2;replace H:=iN H;obtain ⟨c3,H⟩:=H;have c3b0:=eq_true c3;have c3b1:decide ((a0_0:Int).toNat ≤ 35184372088832) = true:=decide_eq_true c3;clear c3;obtain ⟨y24,hy24⟩:∃ y_:List Int,y_ = (List.replicate (a0_0:Int).toNat 0):=⟨_,rfl⟩;replace H:(impl_votes_swings.l0 k y24 (y24.length:Int) 0 a0_0 l0_1) = some r:=yR hy24 H;have Ny24:=aM hy24;clear hy24;have H':=aM H;clear H;go_enter Tryz.func28,Tryz.ntmps28;go_wp2_with (first|((with_reducible refine gate_dst (N:=1) rfl ?_);refine bE 1 #[.int .i64 a0_0,.slice A0_1 l0_1.length c0_1] 40 ?_;intro gb23 hg w4 hbox hb;have BK23:=aM (hbox);have GW23:=aM (gS hg);have GE23:=aM (gS hg);replace HB:=aM (below_step bw hb);clear hb hbox hg;have hcz5_0:=cz BK23.out 0;have hcz5_1:=cz BK23.out 1;have hfz5_0:=blk_frozen BK23.out 0;have hfz5_1:=blk_frozen BK23.out 1)|((with_reducible refine gate_dst (N:=8) rfl ?_);refine Kd.R_make (Kd.int .i64) _ 3 rfl (N:=8) rfl 22 _ _ rfl a0_0 rfl rfl Tryz.underlying22 (.int .i64 0) 8 info3 rfl (by decide) (by omega) 0 (ok:=fun _=>True) (okp:=fun _=>True) rfl (fun _ hk=>hk) trivial (of_decide_eq_true ab) (Nat.le_trans (Nat.mul_le_mul_right _ (of_decide_eq_true ab:a0_0.toNat ≤ 35184372088832)) (by omega)) (Below.refl _ _) (Nat.le_refl _) ?_;intro v25 w6 ho7 hb hg_ hnew_;clear hg_ hnew_;(first|rw [← Ny24.out] at ho7|(simp only [Int.reduceToNat] at ho7;rw [← Ny24.out] at ho7));have HO26:=aM (Kd.R_lower ho7 (below_size bw));replace BK23:=aM (bB BK23.out hb);replace HB:=aM (below_step bw hb);clear hb ho7;obtain ⟨Ao8,co8,eo8⟩:=Kd.R_slice HO26.out;subst eo8))
 go_loopg [11] k (fun kq v11 w'=>∃ (x3_1:List Int) (x11_1:Int),v11 = .int .i64 x11_1 ∧ Aside0 (impl_votes_swings.l0 kq x3_1 (y24.length:Int) x11_1 a0_0 l0_1 = some r) ∧ Aside0 (kq ≤ k) ∧ Aside0 (Kd.R (Kd.int .i64) 3 w' w.heap.size (fun _=>True) (.slice Ao8 y24.length co8) x3_1) ∧ Aside0 (w'.heap[gb23]? = some (.cells #[.int .i64 a0_0,(.slice A0_1 l0_1.length c0_1)] 40 (0,0))) ∧ Aside0 (Below w.heap.size w w'))
 case atStart=>exact ⟨(y24),(0),qrs,H',⟨Nat.le_refl _⟩,⟨qra HO26.out⟩,⟨bk1 BK23.out⟩,⟨by exact bw⟩⟩
 case round =>
  clear H';(try clear c2);(try clear c2b0);(try clear c2b1);(try clear c3);(try clear c3b0);(try clear c3b1);(try clear hcz5_0);(try clear hcz5_1);(try clear hfz5_0);(try clear hfz5_1)
  obtain ⟨x3_1,x11_1,rfl,HA,HK1,HO_3,BK23,HB⟩:=hrel;have hl3_1:=(Kd.R_reads' HO_3.out).1;rw [hl3_1] at HO_3;(try simp only [hl3_1])
  (try simp only [hl3_1] at BK23)
  cases gk with
  | zero=>exact absurd HA.out (by simp [impl_votes_swings.l0])
  | succ k1 =>
   have H:=HA.out;clear HA;simp only [impl_votes_swings.l0] at H;by_cases c9:x11_1 < (y24.length:Int)
   ·rw [if_pos c9] at H;have c9b0:=decide_eq_true c9;(try simp only [hl3_1] at c9b0)
    clear c9;have H':=aM H;clear H;have hcz10_0:=cz BK23.out 0;have hcz10_1:=cz BK23.out 1;have hfz10_0:=blk_frozen BK23.out 0;have hfz10_1:=blk_frozen BK23.out 1;go_wp2
    go_loopg [17] k1 (fun kq v17 w'=>∃ (x3_2:List Int) (x17_2:Int),v17 = .int .i64 x17_2 ∧ Aside0 (impl_votes_swings.l1 kq x3_2 x11_1 (y24.length:Int) x11_1 (l0_1.length:Int) x17_2 a0_0 l0_1 = some r) ∧ Aside0 (kq ≤ k1) ∧ Aside0 (Kd.R (Kd.int .i64) 3 w' w.heap.size (fun _=>True) (.slice Ao8 x3_1.length co8) x3_2) ∧ Aside0 (w'.heap[gb23]? = some (.cells #[.int .i64 a0_0,(.slice A0_1 l0_1.length c0_1)] 40 (0,0))) ∧ Aside0 (Below w.heap.size w w'))
    case atStart=>exact ⟨(x3_1),(0),qrs,H',⟨Nat.le_refl _⟩,⟨by (try simp only [hl3_1]);(with_reducible repeat (first|apply Kd.R_alloc|apply Kd.R_drewN|apply Kd.R_drew));exact HO_3.out⟩,⟨by (try simp only [hl3_1]);(with_reducible repeat (first|refine blk_drewN ?_ _|refine blk_drew ?_|refine blk_alloc ?_ _));exact BK23.out⟩,⟨by exact bw⟩⟩
    case round =>
     clear H';(try clear c9);(try clear c9b0);(try clear hcz10_0);(try clear hcz10_1);(try clear hfz10_0);(try clear hfz10_1)
     obtain ⟨x3_2,x17_2,rfl,HA,HK2,HO_3,BK23,HB⟩:=hrel;have hl3_2:=(Kd.R_reads' HO_3.out).1;rw [hl3_2] at HO_3;(try simp only [hl3_2])
     (try simp only [hl3_2] at BK23)
     cases gk with
     | zero=>exact absurd HA.out (by simp [impl_votes_swings.l1])
     | succ k2 =>
      have H:=HA.out;clear HA;simp only [impl_votes_swings.l1] at H;by_cases c11:x17_2 < (l0_1.length:Int)
      ·rw [if_pos c11] at H;have c11b0:=decide_eq_true c11;(try simp only [hl3_1,hl3_2] at c11b0)
       clear c11;replace H:=oB H;obtain ⟨t27,A12,H⟩:=H;(try dsimp only at H)
       by_cases c13:t27 = true
       ·subst c13;rw [if_pos rfl] at H;replace H:=iN H;obtain ⟨c14,H⟩:=H;have c14b0:decide (0 ≤ x11_1) = true:=decide_eq_true c14;clear c14;replace H:=iN H;obtain ⟨c15,H⟩:=H;have c15b0:decide (x11_1 < (x3_2.length:Int)) = true:=decide_eq_true c15;(try simp only [hl3_1,hl3_2] at c15b0)
        clear c15;obtain ⟨y30,hy30⟩:∃ y_:List Int,y_ = (x3_2.set (x11_1:Int).toNat (wrap64 ((rd x3_2 x11_1) + 1))):=⟨_,rfl⟩;replace H:(impl_votes_swings.l1 k2 y30 x11_1 (y24.length:Int) x11_1 (l0_1.length:Int) (wrap64 (x17_2 + 1)) a0_0 l0_1) = some r:=yR hy30 H;have Ny30:=aM hy30;clear hy30;have H':=aM H;clear H;have hcz17_0:=cz BK23.out 0;have hcz17_1:=cz BK23.out 1;have hfz17_0:=blk_frozen BK23.out 0;have hfz17_1:=blk_frozen BK23.out 1;go_wp2_with (first|((with_reducible refine gate_callee (f:=66) rfl ?_);refine gL 23 Tryz.func66 #[.agg #[.int .i64 a0_0,.slice A0_1 l0_1.length c0_1],.int .i64 x17_2,.int .i64 x11_1] ?_;(with_reducible refine (impl_votes_isSwing.calls a0_0 _ _ l0_1 x17_2 x11_1 true _ ?side1 ?side2 A12.out).mono ?_);(case side1=>exact qcs HR0_1.out HB.out);(case side2=>exact HC0_1.out);rintro e w18 ⟨rfl,hb⟩;refine ⟨_,rfl,?_⟩;replace HO_3:=aM (Kd.R_below (qra HO_3.out) hb);replace BK23:=aM (bB BK23.out hb);replace HB:=aM (below_step bw hb);(try clear hb);(try clear hk);have p29:0 ≤ (x11_1:Int):=of_decide_eq_true ab;have q29:x11_1 < (x3_2.length:Int):=of_decide_eq_true ab;obtain ⟨ad29,e29,hx29_0⟩:=Kd.at_int (Kd.R_reads' HO_3.out).2.2 x11_1 p29 q29;cases e29;replace p29:=eq_true p29;replace q29:=eq_true q29;have p16:0 ≤ (x11_1:Int):=of_decide_eq_true ab;have q16:(x11_1:Int) < ((x3_2.length:Int):Int):=of_decide_eq_true ab;obtain ⟨go16,co16,eo16,gb16,gl16,cl16,HG16⟩:=Kd.R_form HO_3.out (by omega);(first|cases eo16|(injection eo16 with ea_ en_ ec_;(first|subst ea_|(injection ea_ with ea_;subst ea_));subst ec_;clear en_));have GB16:=aM gb16;have GG16:=aM HG16;clear gb16 gl16 HG16;(first|simp only [add_plain] at hx29_0|skip);obtain ⟨hx16_0,hf16_0⟩:=Kd.R_celln 0 HO_3.out (x11_1:Int) p16 q16;replace p16:=eq_true p16;replace q16:=eq_true q16;obtain ⟨hy19_,hz19_⟩:=Kd.R_celln 0 HO_3.out (x11_1:Int) (of_decide_eq_true ab) (of_decide_eq_true ab);have HP19:=Kd.R_putg HO_3.out (x11_1:Int) (wrap64 ((rd x3_2 x11_1) + 1)))|((with_reducible refine gate_store (t:=3) (p:=29) rfl ?_);refine store_event (t:=3) (p:=29) (v:=?vo_w20) (w1:=(w18.setCell ⟨go16,(x11_1:Int).toNat,none⟩ (.int .i64 (wrap64 ((rd x3_2 x11_1) + 1))))) ?hg ?ho ?hn ?hr ?_;(case ho=>rfl);(case hg=>rfl);(case hn=>rfl);(case hr=>first|(go_simp;done)|(go_simp;rfl));intro w20 hw;have hg:w18.grownBy w20 (some go16):=(by rw [hw];exact HP19.2);have hp_:Kd.R (Kd.int .i64) 3 w20 w.heap.size (fun _=>True) (.slice (some ⟨go16,0,none⟩) x3_2.length co8) y30:=(by rw [hw,Ny30.out];exact HP19.1);clear HP19;replace BK23:=aM (bH BK23.out hg (Kd.R_ne HO_3.out BK23.out (by decide)));replace HO_3:=aM (hp_);replace HB:=aM ((by rw [hw];exact below_set (HB.out) GB16.out:Below w.heap.size w w20));clear hg hw hp_))
        (try simp only [← hl3_2])
        go_roundg k2
        case measure=>have:=HK1.out;have:=HK2.out;omega
        case rel=>exact ⟨(y30),(wrap64 (x17_2 + 1)),qrs,H',⟨by have:=HK1.out;have:=HK2.out;omega⟩,⟨by (try simp only [hl3_1]);(try simp only [hl3_2]);(with_reducible repeat (first|apply Kd.R_alloc|apply Kd.R_drewN|apply Kd.R_drew));exact HO_3.out⟩,⟨by (try simp only [hl3_1]);(try simp only [hl3_2]);(with_reducible repeat (first|refine blk_drewN ?_ _|refine blk_drew ?_|refine blk_alloc ?_ _));exact BK23.out⟩,⟨by exact bw⟩⟩
       ·replace c13:=Bool.eq_false_iff.mpr c13;subst c13;rw [if_neg (show ¬ (false = true) by decide)] at H;have H':=aM H;clear H;have hcz21_0:=cz BK23.out 0;have hcz21_1:=cz BK23.out 1;have hfz21_0:=blk_frozen BK23.out 0;have hfz21_1:=blk_frozen BK23.out 1;go_wp2_with (first|((with_reducible refine gate_callee (f:=66) rfl ?_);refine gL 23 Tryz.func66 #[.agg #[.int .i64 a0_0,.slice A0_1 l0_1.length c0_1],.int .i64 x17_2,.int .i64 x11_1] ?_;(with_reducible refine (impl_votes_isSwing.calls a0_0 _ _ l0_1 x17_2 x11_1 false _ ?side1 ?side2 A12.out).mono ?_);(case side1=>exact qcs HR0_1.out HB.out);(case side2=>exact HC0_1.out);rintro e w22 ⟨rfl,hb⟩;refine ⟨_,rfl,?_⟩;replace HO_3:=aM (Kd.R_below (qra HO_3.out) hb);replace BK23:=aM (bB BK23.out hb);replace HB:=aM (below_step bw hb);(try clear hb)))
        (try simp only [← hl3_2])
        go_roundg k2
        case measure=>have:=HK1.out;have:=HK2.out;omega
        case rel=>exact ⟨(x3_2),(wrap64 (x17_2 + 1)),qrs,H',⟨by have:=HK1.out;have:=HK2.out;omega⟩,⟨by (try simp only [hl3_1]);(try simp only [hl3_2]);(with_reducible repeat (first|apply Kd.R_alloc|apply Kd.R_drewN|apply Kd.R_drew));exact HO_3.out⟩,⟨by (try simp only [hl3_1]);(try simp only [hl3_2]);(with_reducible repeat (first|refine blk_drewN ?_ _|refine blk_drew ?_|refine blk_alloc ?_ _));exact BK23.out⟩,⟨by exact bw⟩⟩
      ·rw [if_neg c11] at H;have c11b0:=decide_eq_false c11;(try simp only [hl3_1,hl3_2] at c11b0)
       clear c11;have H':=aM H;clear H;go_wp2
       (try simp only [← hl3_1,← hl3_2])
       go_roundg k2
       case measure=>have:=HK1.out;have:=HK2.out;omega
       case rel=>exact ⟨(x3_2),(wrap64 (x11_1 + 1)),qrs,H',⟨by have:=HK1.out;have:=HK2.out;omega⟩,⟨by (try simp only [hl3_1]);(try simp only [hl3_2]);(with_reducible repeat (first|apply Kd.R_alloc|apply Kd.R_drewN|apply Kd.R_drew));exact HO_3.out⟩,⟨by (try simp only [hl3_1]);(try simp only [hl3_2]);(with_reducible repeat (first|refine blk_drewN ?_ _|refine blk_drew ?_|refine blk_alloc ?_ _));exact BK23.out⟩,⟨by exact bw⟩⟩
   ·rw [if_neg c9] at H;have c9b0:=decide_eq_false c9;(try simp only [hl3_1] at c9b0)
    clear c9;obtain rfl:=Option.some.inj H;go_wp2
    go_ret
    exact ⟨_,eE,by (with_reducible repeat (first|apply Kd.R_alloc|apply Kd.R_drewN|apply Kd.R_drew));exact HO_3.out,by exact bw⟩


def impl_QuarrelSwings.f (k:Nat) (a0_0:Int) (l0_1:List Int) (a1:Int) (a2:Int):Option (List Int × Bool):=(impl_quarrel.f k a0_0 l0_1 a1 a2).bind fun bt3=>(if bt3.2.2 = true then ((impl_votes_swings.f k bt3.1 bt3.2.1).bind fun t4=>(some (t4,true))) else (some (([]:List Int),false)))
theorem impl_QuarrelSwings.calls (k:Nat) (a0_0:Int) (A0_1:Option Addr) (c0_1:Nat) (l0_1:List Int) (a1:Int) (a2:Int) (r1:List Int) (r2:Bool) (w:World) (hr0_1:Kd.C (Kd.int .i64) w A0_1 l0_1.length l0_1) (hc0_1:l0_1.length ≤ c0_1) (h:impl_QuarrelSwings.f k a0_0 l0_1 a1 a2 = some (r1,r2)) :
  Calls Tryz.prog 6 #[.agg #[.int .i64 a0_0,.slice A0_1 l0_1.length c0_1],.int .i64 a1,.int .i64 a2] w fun e w'=>∃ v0_:Value,e = .returned (.tuple #[v0_,.bool r2]) ∧ Kd.R (Kd.int .i64) 3 w' w.heap.size (fun _=>True) v0_ r1 ∧ Below w.heap.size w w':=by
 have hu24:=Tryz.underlying24;have hu40:=Tryz.underlying40;have HR0_1:=aM hr0_1;have HC0_1:=aM hc0_1;clear hr0_1 hc0_1;have HB:=aM (Below.refl w.heap.size w);have H:((impl_quarrel.f k a0_0 l0_1 a1 a2).bind fun bt22=>(if bt22.2.2 = true then ((impl_votes_swings.f k bt22.1 bt22.2.1).bind fun t31=>(some (t31,true))) else (some (([]:List Int),false)))) = some (r1,r2):=h;clear h;replace H:=oB H;obtain ⟨⟨t22,t25,t29⟩,A4,H⟩:=H;(try dsimp only at H)
 by_cases c5:t29 = true
 ·subst c5;rw [if_pos rfl] at H;replace H:=oB H;obtain ⟨t31,A6,H⟩:=H;(try dsimp only at H)
  simp only [Option.some.injEq,Prod.mk.injEq] at H;obtain ⟨rfl,rfl⟩:=H;go_enter Tryz.func6,Tryz.ntmps6;go_wp2_with (first|((with_reducible refine gate_dst (N:=3) rfl ?_);refine bE 3 #[.int .i64 a0_0,.slice A0_1 l0_1.length c0_1] 24 ?_;intro gb3 hg w7 hbox hb;have BK3:=aM (hbox);have GW3:=aM (gS hg);have GE3:=aM (gS hg);replace HB:=aM (below_step bw hb);clear hb hbox hg;have hcz8_0:=cz BK3.out 0;have hcz8_1:=cz BK3.out 1;have hfz8_0:=blk_frozen BK3.out 0;have hfz8_1:=blk_frozen BK3.out 1)|((with_reducible refine gate_callee (f:=23) rfl ?_);refine gL 14 Tryz.func23 #[.agg #[.int .i64 a0_0,.slice A0_1 l0_1.length c0_1],.int .i64 a1,.int .i64 a2] ?_;(with_reducible refine (impl_quarrel.calls k a0_0 _ _ l0_1 a1 a2 t22 t25 true _ ?side1 ?side2 A4.out).mono ?_);(case side1=>exact qcs HR0_1.out HB.out);(case side2=>exact HC0_1.out);rintro e w9 ⟨v26,rfl,ho0,hb⟩;refine ⟨_,rfl,?_⟩;have HO27:=aM (Kd.R_lower ho0 (below_size bw));replace BK3:=aM (bB BK3.out hb);replace HB:=aM (below_step bw hb);(try clear hb);(try clear ho0))|((with_reducible refine gate_dst (N:=8) rfl ?_);refine bE 8 #[.int .i64 0,.slice none 0 0] 40 ?_;intro gb30 hg w10 hbox hb;replace HO27:=aM (Kd.R_below (qra HO27.out) hb);have BK30:=aM (hbox);have GW30:=aM (gS hg);have GE30:=aM (gS hg);replace HB:=aM (below_step bw hb);have NB3_30:=aM (nL BK3.out hg);have NB30_3:=aM (nR BK3.out hg);replace BK3:=aM (bB BK3.out hb);clear hb hbox hg;have hnb11:=NB30_3.out;have hnc11:=NB3_30.out;have hcz12_0:=cz BK30.out 0;have hcz12_1:=cz BK30.out 1;have hfz12_0:=blk_frozen BK30.out 0;have hfz12_1:=blk_frozen BK30.out 1;obtain ⟨Ao13,co13,eo13⟩:=Kd.R_slice HO27.out;subst eo13)|((with_reducible refine gate_callee (f:=28) rfl ?_);refine gL 20 Tryz.func28 #[.agg #[.int .i64 t22,.slice Ao13 t25.length co13]] ?_;(with_reducible refine (impl_votes_swings.calls k t22 _ _ t25 t31 _ ?side1 ?side2 A6.out).mono ?_);(case side1=>refine (Kd.R_reads' (e:=4) (base:=w.heap.size) (ok:=fun k_=>True) (n:=t25.length) (c:=co13) ?_).2.2;exact (tR HO27.out BK30.out));(case side2=>exact (Kd.R_reads' HO27.out).2.1);rintro e w14 ⟨v32,rfl,ho0,hb⟩;refine ⟨_,rfl,?_⟩;replace HO27:=aM (Kd.R_below (tR HO27.out BK30.out) hb);have HO33:=aM (Kd.R_lower ho0 (below_size bw));replace BK3:=aM (bG BK3.out NB3_30.out hb);replace BK30:=aM (bP BK30.out hb);replace HB:=aM (below_step bw hb);(try clear hb);(try clear hk);(try clear ho0)))
  go_ret2
  exact ⟨_,eE,by (with_reducible repeat (first|apply Kd.R_alloc|apply Kd.R_drewN|apply Kd.R_drew));exact HO33.out,by exact bw⟩
 ·replace c5:=Bool.eq_false_iff.mpr c5;subst c5;rw [if_neg (show ¬ (false = true) by decide)] at H;simp only [Option.some.injEq,Prod.mk.injEq] at H;obtain ⟨rfl,rfl⟩:=H;go_enter Tryz.func6,Tryz.ntmps6;go_wp2_with (first|((with_reducible refine gate_dst (N:=3) rfl ?_);refine bE 3 #[.int .i64 a0_0,.slice A0_1 l0_1.length c0_1] 24 ?_;intro gb3 hg w15 hbox hb;have BK3:=aM (hbox);have GW3:=aM (gS hg);have GE3:=aM (gS hg);replace HB:=aM (below_step bw hb);clear hb hbox hg;have hcz16_0:=cz BK3.out 0;have hcz16_1:=cz BK3.out 1;have hfz16_0:=blk_frozen BK3.out 0;have hfz16_1:=blk_frozen BK3.out 1)|((with_reducible refine gate_callee (f:=23) rfl ?_);refine gL 14 Tryz.func23 #[.agg #[.int .i64 a0_0,.slice A0_1 l0_1.length c0_1],.int .i64 a1,.int .i64 a2] ?_;(with_reducible refine (impl_quarrel.calls k a0_0 _ _ l0_1 a1 a2 t22 t25 false _ ?side1 ?side2 A4.out).mono ?_);(case side1=>exact qcs HR0_1.out HB.out);(case side2=>exact HC0_1.out);rintro e w17 ⟨v26,rfl,ho0,hb⟩;refine ⟨_,rfl,?_⟩;have HO27:=aM (Kd.R_lower ho0 (below_size bw));replace BK3:=aM (bB BK3.out hb);replace HB:=aM (below_step bw hb);(try clear hb);(try clear ho0))|((with_reducible refine gate_dst (N:=8) rfl ?_);refine bE 8 #[.int .i64 0,.slice none 0 0] 40 ?_;intro gb30 hg w18 hbox hb;replace HO27:=aM (Kd.R_below (qra HO27.out) hb);have BK30:=aM (hbox);have GW30:=aM (gS hg);have GE30:=aM (gS hg);replace HB:=aM (below_step bw hb);have NB3_30:=aM (nL BK3.out hg);have NB30_3:=aM (nR BK3.out hg);replace BK3:=aM (bB BK3.out hb);clear hb hbox hg;have hnb19:=NB30_3.out;have hnc19:=NB3_30.out;have hcz20_0:=cz BK30.out 0;have hcz20_1:=cz BK30.out 1;have hfz20_0:=blk_frozen BK30.out 0;have hfz20_1:=blk_frozen BK30.out 1;obtain ⟨Ao21,co21,eo21⟩:=Kd.R_slice HO27.out;subst eo21))
  go_ret2
  exact ⟨_,eE,by first|exact Kd.R_nil _ _ _ _ _|exact Kd.N_nil _ _ _ _ _|exact Kd.V_nil _ _ _ _ _|exact Kd.Q_nil _ _ _ _ _|exact Kd.S_nil _ _ _ _ _,by exact bw⟩


def spec_pwSwings.l0:Nat → List Bool → Int → List Int → List Bool → Int → Int → Option (List Int)
 | 0,_,_,_,_,_,_=>none
 | k + 1,x0,x1,x5,x8,x9,x10=>if x10 < x9 then (if 0 ≤ x10 then (if x10 < (x8.length:Int) then (if 0 ≤ x1 then (if (Int.tmod (shr .i64 x10 x1) 2) = 0 then (if rdOf false x8 x10 = true then (spec_pwSwings.l0 k x0 x1 x5 x8 x9 (wrap64 (x10 + 1))) else (if 0 ≤ (wrap64 (x10 + (shl .i64 1 x1))) then (if (wrap64 (x10 + (shl .i64 1 x1))) < (x0.length:Int) then (if rdOf false x0 (wrap64 (x10 + (shl .i64 1 x1))) = true then (if x5.length < 17592186044416 then (spec_pwSwings.l0 k x0 x1 (x5 ++ [x10]) x8 x9 (wrap64 (x10 + 1))) else (none)) else (spec_pwSwings.l0 k x0 x1 x5 x8 x9 (wrap64 (x10 + 1)))) else (none)) else (none))) else (spec_pwSwings.l0 k x0 x1 x5 x8 x9 (wrap64 (x10 + 1)))) else (none)) else (none)) else (none)) else (some x5)
def spec_pwSwings.f (k:Nat) (l0:List Bool) (a1:Int):Option (List Int):=spec_pwSwings.l0 k l0 a1 ([]:List Int) l0 (l0.length:Int) 0
theorem spec_pwSwings.calls (k:Nat) (A0:Option Addr) (c0:Nat) (l0:List Bool) (a1:Int) (r:List Int) (w:World) (hr0:Kd.C Kd.bool w A0 l0.length l0) (hc0:l0.length ≤ c0) (h:spec_pwSwings.f k l0 a1 = some r) :
  Calls Tryz.prog 67 #[.slice A0 l0.length c0,.int .i64 a1] w fun e w'=>∃ v0_:Value,e = .returned (v0_) ∧ Kd.R (Kd.int .i64) 3 w' w.heap.size (fun _=>True) v0_ r ∧ Below w.heap.size w w':=by
 have HR0:=aM hr0;have HC0:=aM hc0;clear hr0 hc0;have HB:=aM (Below.refl w.heap.size w);have H:(spec_pwSwings.l0 k l0 a1 ([]:List Int) l0 (l0.length:Int) 0) = some r:=h;clear h;have H':=aM H;clear H;go_enter Tryz.func67,Tryz.ntmps67;go_wp2
 go_loopg [5,10] k (fun kq v5 v10 w'=>∃ (x5_1:List Int) (x10_1:Int),v10 = .int .i64 x10_1 ∧ Aside0 (spec_pwSwings.l0 kq l0 a1 x5_1 l0 (l0.length:Int) x10_1 = some r) ∧ Aside0 (kq ≤ k) ∧ Aside0 (Kd.R (Kd.int .i64) 3 w' w.heap.size (fun _=>True) v5 x5_1) ∧ Aside0 (Below w.heap.size w w'))
 case atStart=>exact ⟨(([]:List Int)),(0),qrs,H',⟨Nat.le_refl _⟩,⟨by first|exact Kd.R_nil _ _ _ _ _|exact Kd.N_nil _ _ _ _ _|exact Kd.V_nil _ _ _ _ _|exact Kd.Q_nil _ _ _ _ _|exact Kd.S_nil _ _ _ _ _⟩,⟨by exact bw⟩⟩
 case round =>
  clear H'
  try clear p2
  obtain ⟨x5_1,x10_1,rfl,HA,HK1,HO_5,HB⟩:=hrel
  cases gk with
  | zero=>exact absurd HA.out (by simp [spec_pwSwings.l0])
  | succ k1 =>
   have H:=HA.out;clear HA;simp only [spec_pwSwings.l0] at H;by_cases c3:x10_1 < (l0.length:Int)
   ·rw [if_pos c3] at H;have c3b0:=decide_eq_true c3;clear c3;replace H:=iN H;obtain ⟨c4,H⟩:=H;have c4b0:decide (0 ≤ x10_1) = true:=decide_eq_true c4;clear c4;replace H:=iN H;obtain ⟨c5,H⟩:=H;have c5b0:decide (x10_1 < (l0.length:Int)) = true:=decide_eq_true c5;clear c5;replace H:=iN H;obtain ⟨c6,H⟩:=H;have c6b0:=eq_true c6;have c6b1:decide (0 ≤ a1) = true:=decide_eq_true c6;clear c6;obtain ⟨ji7,hji7⟩:∃ j_:Int,(shr .i64 x10_1 a1) = j_:=⟨_,rfl⟩;(first|rw [hji7] at H|simp only [hji7] at H)
    have hji7_:(x10_1 / 2 ^ min a1.toNat 64) = ji7:=hji7;have hji7z:a1 ≤ 64 → (x10_1 / 2 ^ a1.toNat) = ji7:=shr_small hji7;by_cases c8:(Int.tmod (ji7) 2) = 0
    ·rw [if_pos c8] at H;have c8b0:((Int.tmod (ji7) 2) == 0) = true:=beq_iff_eq.mpr c8;have c8b1:((Int.tmod (ji7) 2) != 0) = false:=bne_eq_false_iff_eq.mpr c8;clear c8;obtain ⟨bq9,hbq9⟩:∃ b_:Bool,b_ = (rdOf false l0 x10_1):=⟨_,rfl⟩;rw [← hbq9] at H;have Nbq9:=aM hbq9;clear hbq9;by_cases c10:bq9 = true
     ·subst c10;rw [if_pos rfl] at H;have H':=aM H;clear H;have p20:0 ≤ (x10_1:Int):=of_decide_eq_true ab;have q20:x10_1 < (l0.length:Int):=of_decide_eq_true ab;obtain ⟨ad20,e20,hx20_0⟩:=Kd.at_bool HR0.out x10_1 p20 q20;(try rw [← Nbq9.out] at hx20_0)
      cases e20
      replace hx20_0:=(HB.out.cell (World.block_lt_of_cell? w _ hx20_0)).trans hx20_0;replace p20:=eq_true p20;replace q20:=eq_true q20;go_wp2
      go_roundg k1
      case measure=>have:=HK1.out;omega
      case rel=>exact ⟨(x5_1),(wrap64 (x10_1 + 1)),qrs,H',⟨by have:=HK1.out;omega⟩,⟨qra HO_5.out⟩,⟨by exact bw⟩⟩
     ·replace c10:=Bool.eq_false_iff.mpr c10;subst c10;rw [if_neg (show ¬ (false = true) by decide)] at H;have c11b0:=eq_true (of_decide_eq_true ab:0 ≤ a1);obtain ⟨ji12,hji12⟩:∃ j_:Int,(shl .i64 1 a1) = j_:=⟨_,rfl⟩;(first|rw [hji12] at H|simp only [hji12] at H)
      have hji12_:(IntKind.i64.wrap (1 * 2 ^ min a1.toNat 64)) = ji12:=hji12;have hji12z:a1 ≤ 64 → (IntKind.i64.wrap (1 * 2 ^ a1.toNat)) = ji12:=shl_small hji12;have hji12u:(IntKind.i64.wrap (2 ^ min a1.toNat 64)) = ji12:=by have h_:=hji12_;rw [Int.one_mul] at h_;exact h_
      have hji12v:a1 ≤ 64 → (IntKind.i64.wrap (2 ^ a1.toNat)) = ji12:=fun hle_=>by have h_:=hji12z hle_;rw [Int.one_mul] at h_;exact h_
      have hji12y:(wrap64 (1 * 2 ^ min a1.toNat 64)) = ji12:=(i64_w _).symm.trans hji12_;have hji12x:a1 ≤ 64 → (wrap64 (1 * 2 ^ a1.toNat)) = ji12:=fun h_=>(i64_w _).symm.trans (hji12z h_)
      obtain ⟨ji13,hji13⟩:∃ j_:Int,(wrap64 (x10_1 + (ji12))) = j_:=⟨_,rfl⟩;(first|rw [hji13] at H|simp only [hji13] at H)
      have hji13w:(IntKind.i64.wrap (x10_1 + (ji12))) = ji13:=(i64_w _).trans hji13;replace H:=iN H;obtain ⟨c14,H⟩:=H;have c14b0:decide (0 ≤ (ji13)) = true:=decide_eq_true c14;clear c14;replace H:=iN H;obtain ⟨c15,H⟩:=H;have c15b0:decide ((ji13) < (l0.length:Int)) = true:=decide_eq_true c15;clear c15;obtain ⟨bq16,hbq16⟩:∃ b_:Bool,b_ = (rdOf false l0 (ji13)):=⟨_,rfl⟩;rw [← hbq16] at H;have Nbq16:=aM hbq16;clear hbq16;by_cases c17:bq16 = true
      ·subst c17;rw [if_pos rfl] at H;replace H:=iN H;obtain ⟨c18,H⟩:=H;have LMc18:=aM c18;clear c18;obtain ⟨y23,hy23⟩:∃ y_:List Int,y_ = (x5_1 ++ [x10_1]):=⟨_,rfl⟩;replace H:(spec_pwSwings.l0 k1 l0 a1 y23 l0 (l0.length:Int) (wrap64 (x10_1 + 1))) = some r:=yR hy23 H;have Ny23:=aM hy23;clear hy23;have H':=aM H;clear H;have p20:0 ≤ (x10_1:Int):=of_decide_eq_true ab;have q20:x10_1 < (l0.length:Int):=of_decide_eq_true ab;obtain ⟨ad20,e20,hx20_0⟩:=Kd.at_bool HR0.out x10_1 p20 q20;(try rw [← Nbq9.out] at hx20_0)
       (try rw [← Nbq16.out] at hx20_0)
       cases e20
       replace hx20_0:=(HB.out.cell (World.block_lt_of_cell? w _ hx20_0)).trans hx20_0;replace p20:=eq_true p20;replace q20:=eq_true q20;have p21:0 ≤ ((ji13):Int):=of_decide_eq_true ab;have q21:(ji13) < (l0.length:Int):=of_decide_eq_true ab;obtain ⟨ad21,e21,hx21_0⟩:=Kd.at_bool HR0.out (ji13) p21 q21;(try rw [← Nbq9.out] at hx21_0)
       (try rw [← Nbq16.out] at hx21_0)
       obtain rfl:ad20 = ad21:=(by injection e21);replace hx21_0:=(HB.out.cell (World.block_lt_of_cell? w _ hx21_0)).trans hx21_0;replace p21:=eq_true p21;replace q21:=eq_true q21;go_wp2_with (first|((with_reducible refine gate_builtin (b:=.append) (xs:=#[.tmp 33,.tmp 35]) rfl ?_);at_builtin;refine Kd.R_append (Kd.int .i64) (w0:=w) w.heap.size rfl (.tmp 33) (.tmp 35) 22 3 (.int .i64 0) 8 rfl Tryz.underlying22 info3 rfl (by decide) (by omega) u5 x5_1 x10_1 [.int .i64 x10_1] (fun _=>True) (fun _=>False) rfl rfl ?aP (fun _ hk=>hk.elim) ?aF ?aO ?aB ?aS ?aL ?_;(case aP=>exact rfl);(case aB=>exact bw);(case aF=>exact (fun _ _=>trivial));(case aO=>exact (qra HO_5.out));(case aS=>exact (below_size bw));(case aL=>have:=LMc18.out;omega);intro v24 w19 ho hb hg hat;rw [← Ny23.out] at ho;replace HB:=aM (hb);have HO25:=aM (ho);clear HO_5;clear ho hb hg hat))
       go_roundg k1
       case measure=>have:=HK1.out;omega
       case rel=>exact ⟨(y23),(wrap64 (x10_1 + 1)),qrs,H',⟨by have:=HK1.out;omega⟩,⟨qra HO25.out⟩,⟨by exact bw⟩⟩
      ·replace c17:=Bool.eq_false_iff.mpr c17;subst c17;rw [if_neg (show ¬ (false = true) by decide)] at H;have H':=aM H;clear H;have p20:0 ≤ (x10_1:Int):=of_decide_eq_true ab;have q20:x10_1 < (l0.length:Int):=of_decide_eq_true ab;obtain ⟨ad20,e20,hx20_0⟩:=Kd.at_bool HR0.out x10_1 p20 q20;(try rw [← Nbq9.out] at hx20_0)
       (try rw [← Nbq16.out] at hx20_0)
       cases e20
       replace hx20_0:=(HB.out.cell (World.block_lt_of_cell? w _ hx20_0)).trans hx20_0;replace p20:=eq_true p20;replace q20:=eq_true q20;have p21:0 ≤ ((ji13):Int):=of_decide_eq_true ab;have q21:(ji13) < (l0.length:Int):=of_decide_eq_true ab;obtain ⟨ad21,e21,hx21_0⟩:=Kd.at_bool HR0.out (ji13) p21 q21;(try rw [← Nbq9.out] at hx21_0)
       (try rw [← Nbq16.out] at hx21_0)
       obtain rfl:ad20 = ad21:=(by injection e21);replace hx21_0:=(HB.out.cell (World.block_lt_of_cell? w _ hx21_0)).trans hx21_0;replace p21:=eq_true p21;replace q21:=eq_true q21;go_wp2
       go_roundg k1
       case measure=>have:=HK1.out;omega
       case rel=>exact ⟨(x5_1),(wrap64 (x10_1 + 1)),qrs,H',⟨by have:=HK1.out;omega⟩,⟨qra HO_5.out⟩,⟨by exact bw⟩⟩
    ·rw [if_neg c8] at H;have c8b0:((Int.tmod (ji7) 2) == 0) = false:=beq_eq_false_iff_ne.mpr c8;have c8b1:((Int.tmod (ji7) 2) != 0) = true:=bne_iff_ne.mpr c8;have H':=aM H;clear H;have p20:0 ≤ (x10_1:Int):=of_decide_eq_true ab;have q20:x10_1 < (l0.length:Int):=of_decide_eq_true ab;obtain ⟨ad20,e20,hx20_0⟩:=Kd.at_bool HR0.out x10_1 p20 q20;cases e20
     replace hx20_0:=(HB.out.cell (World.block_lt_of_cell? w _ hx20_0)).trans hx20_0;replace p20:=eq_true p20;replace q20:=eq_true q20;go_wp2
     go_roundg k1
     case measure=>have:=HK1.out;omega
     case rel=>exact ⟨(x5_1),(wrap64 (x10_1 + 1)),qrs,H',⟨by have:=HK1.out;omega⟩,⟨qra HO_5.out⟩,⟨by exact bw⟩⟩
   ·rw [if_neg c3] at H;have c3b0:=decide_eq_false c3;clear c3;obtain rfl:=Option.some.inj H;go_wp2
    go_ret
    exact ⟨_,eE,by (with_reducible repeat (first|apply Kd.R_alloc|apply Kd.R_drewN|apply Kd.R_drew));exact HO_5.out,by exact bw⟩


def spec_pwCounts.l0:Nat → List Bool → Int → List Int → Int → Option (List Int)
 | 0,_,_,_,_=>none
 | k + 1,x0,x1,x5,x6=>if x6 < x1 then ((spec_pwSwings.f k x0 x6).bind fun t2=>(if x5.length < 17592186044416 then (spec_pwCounts.l0 k x0 x1 (x5 ++ [(t2.length:Int)]) (wrap64 (x6 + 1))) else (none))) else (some x5)
def spec_pwCounts.f (k:Nat) (l0:List Bool) (a1:Int):Option (List Int):=spec_pwCounts.l0 k l0 a1 ([]:List Int) 0
theorem spec_pwCounts.calls (k:Nat) (A0:Option Addr) (c0:Nat) (l0:List Bool) (a1:Int) (r:List Int) (w:World) (hr0:Kd.C Kd.bool w A0 l0.length l0) (hc0:l0.length ≤ c0) (h:spec_pwCounts.f k l0 a1 = some r) :
  Calls Tryz.prog 29 #[.slice A0 l0.length c0,.int .i64 a1] w fun e w'=>∃ v0_:Value,e = .returned (v0_) ∧ Kd.R (Kd.int .i64) 3 w' w.heap.size (fun _=>True) v0_ r ∧ Below w.heap.size w w':=by
 have HR0:=aM hr0;have HC0:=aM hc0;clear hr0 hc0;have HB:=aM (Below.refl w.heap.size w);have H:(spec_pwCounts.l0 k l0 a1 ([]:List Int) 0) = some r:=h;clear h;have H':=aM H;clear H;go_enter Tryz.func29,Tryz.ntmps29;go_wp2
 go_loopg [5,6] k (fun kq v5 v6 w'=>∃ (x5_1:List Int) (x6_1:Int),v6 = .int .i64 x6_1 ∧ Aside0 (spec_pwCounts.l0 kq l0 a1 x5_1 x6_1 = some r) ∧ Aside0 (kq ≤ k) ∧ Aside0 (Kd.R (Kd.int .i64) 3 w' w.heap.size (fun _=>True) v5 x5_1) ∧ Aside0 (Below w.heap.size w w'))
 case atStart=>exact ⟨(([]:List Int)),(0),qrs,H',⟨Nat.le_refl _⟩,⟨by first|exact Kd.R_nil _ _ _ _ _|exact Kd.N_nil _ _ _ _ _|exact Kd.V_nil _ _ _ _ _|exact Kd.Q_nil _ _ _ _ _|exact Kd.S_nil _ _ _ _ _⟩,⟨by exact bw⟩⟩
 case round =>
  clear H';obtain ⟨x5_1,x6_1,rfl,HA,HK1,HO_5,HB⟩:=hrel
  cases gk with
  | zero=>exact absurd HA.out (by simp [spec_pwCounts.l0])
  | succ k1 =>
   have H:=HA.out;clear HA;simp only [spec_pwCounts.l0] at H;by_cases c3:x6_1 < a1
   ·rw [if_pos c3] at H;have c3b0:=decide_eq_true c3;clear c3;replace H:=oB H;obtain ⟨t9,A4,H⟩:=H;(try dsimp only at H)
    replace H:=iN H;obtain ⟨c5,H⟩:=H;have LMc5:=aM c5;clear c5;obtain ⟨y12,hy12⟩:∃ y_:List Int,y_ = (x5_1 ++ [(t9.length:Int)]):=⟨_,rfl⟩;replace H:(spec_pwCounts.l0 k1 l0 a1 y12 (wrap64 (x6_1 + 1))) = some r:=yR hy12 H;have Ny12:=aM hy12;clear hy12;have H':=aM H;clear H;go_wp2_with (first|((with_reducible refine gate_callee (f:=67) rfl ?_);refine gL 15 Tryz.func67 #[.slice A0 l0.length c0,.int .i64 x6_1] ?_;(with_reducible refine (spec_pwSwings.calls k1 _ _ l0 x6_1 t9 _ ?side1 ?side2 A4.out).mono ?_);(case side1=>exact qcs HR0.out HB.out);(case side2=>exact HC0.out);rintro e w6 ⟨v10,rfl,ho0,hb⟩;refine ⟨_,rfl,?_⟩;have HO11:=aM (Kd.R_lower (Kd.R_new' ho0 (Kd.R_lt (qra HO_5.out))) (below_size bw));replace HO_5:=aM (Kd.R_elder' (qra HO_5.out) (Kd.R_base ho0) hb);replace HB:=aM (below_step bw hb);(try clear hb);(try clear ho0);obtain ⟨Ao7,co7,eo7⟩:=Kd.R_slice HO11.out;subst eo7)|((with_reducible refine gate_builtin (b:=.append) (xs:=#[.tmp 12,.tmp 17]) rfl ?_);at_builtin;refine Kd.R_append (Kd.int .i64) (w0:=w) w.heap.size rfl (.tmp 12) (.tmp 17) 22 3 (.int .i64 0) 8 rfl Tryz.underlying22 info3 rfl (by decide) (by omega) u5 x5_1 (t9.length:Int) [.int .i64 (t9.length:Int)] (fun k_=>some k_ ≠ (.slice Ao7 t9.length co7:Value).ownBlock) (fun _=>False) rfl rfl ?aP (fun _ hk=>hk.elim) ?aF ?aO ?aB ?aS ?aL ?_;(case aP=>exact rfl);(case aB=>exact bw);(case aF=>exact (fun k_ hk=>Kd.fresh' (Kd.R_lt (qra HO11.out)) k_ hk));(case aO=>exact (by (with_reducible repeat (first|apply Kd.R_alloc|apply Kd.R_drewN|apply Kd.R_drew));exact Kd.R_mono HO_5.out (fun _ hk=>hk.2)));(case aS=>exact (below_size bw));(case aL=>have:=LMc5.out;omega);intro v13 w8 ho hb hg hat;rw [← Ny12.out] at ho;replace HO11:=aM (Kd.R_after (ok:=(fun _=>True)) (qra HO11.out) hg hat);replace HB:=aM (hb);have HO14:=aM (ho);clear HO_5;clear ho hb hg hat))
    go_roundg k1
    case measure=>have:=HK1.out;omega
    case rel=>exact ⟨(y12),(wrap64 (x6_1 + 1)),qrs,H',⟨by have:=HK1.out;omega⟩,⟨by (with_reducible repeat (first|apply Kd.R_alloc|apply Kd.R_drewN|apply Kd.R_drew));exact Kd.R_mono HO14.out (fun _ hk=>trivial)⟩,⟨by exact bw⟩⟩
   ·rw [if_neg c3] at H;have c3b0:=decide_eq_false c3;clear c3;obtain rfl:=Option.some.inj H;go_wp2
    go_ret
    exact ⟨_,eE,by (with_reducible repeat (first|apply Kd.R_alloc|apply Kd.R_drewN|apply Kd.R_drew));exact HO_5.out,by exact bw⟩


def spec_QuarrelSwings.f (k:Nat) (a0_0:Int) (l0_1:List Int) (a1:Int) (a2:Int):Option (List Int × Bool):=(spec_unPair.f k a0_0 l0_1 a1 a2).bind fun t3=>(if t3 = true then ((spec_unQuarrel.f k a0_0 l0_1 a1 a2).bind fun t4=>((spec_pwCounts.f k t4 (l0_1.length:Int)).bind fun t5=>(some (t5,true)))) else (some (([]:List Int),false)))
def spec_QuarrelSwings.T3:Bool × List (List Nat × List Nat):=(true,[([],[]),([],[]),([],[]),([0,1,2],[0,1,2]),([],[]),([4],[4]),([5],[5]),([3,6,3],[3,6]),([7,7,0,1,2,3,4,5,6,7],[7]),([8,0,1,2,3,4,5,6,7,8],[])])
def spec_QuarrelSwings.B3:List Nat:=[0,0,0,7,0,16,48,127,255,511]
theorem spec_QuarrelSwings.tab3:rtab .any (opsOf Tryz.f7 3) = spec_QuarrelSwings.T3:=by kernel_rfl
theorem spec_QuarrelSwings.bits3:waitsOk spec_QuarrelSwings.T3.2 spec_QuarrelSwings.B3 = true:=by kernel_rfl
theorem spec_QuarrelSwings.calls (k:Nat) (a0_0:Int) (A0_1:Option Addr) (c0_1:Nat) (l0_1:List Int) (a1:Int) (a2:Int) (r1:List Int) (r2:Bool) (w:World) (hr0_1:Kd.C (Kd.int .i64) w A0_1 l0_1.length l0_1) (hc0_1:l0_1.length ≤ c0_1) (h:spec_QuarrelSwings.f k a0_0 l0_1 a1 a2 = some (r1,r2)) :
  Calls Tryz.prog 7 #[.agg #[.int .i64 a0_0,.slice A0_1 l0_1.length c0_1],.int .i64 a1,.int .i64 a2] w fun e w'=>∃ v0_:Value,e = .returned (.tuple #[v0_,.bool r2]) ∧ Kd.R (Kd.int .i64) 3 w' w.heap.size (fun _=>True) v0_ r1 ∧ Below w.heap.size w w':=by
 have hu24:=Tryz.underlying24;have HR0_1:=aM hr0_1;have HC0_1:=aM hc0_1;clear hr0_1 hc0_1;have HB:=aM (Below.refl w.heap.size w);have H:((spec_unPair.f k a0_0 l0_1 a1 a2).bind fun t19=>(if t19 = true then ((spec_unQuarrel.f k a0_0 l0_1 a1 a2).bind fun t20=>((spec_pwCounts.f k t20 (l0_1.length:Int)).bind fun t23=>(some (t23,true)))) else (some (([]:List Int),false)))) = some (r1,r2):=h;clear h;replace H:=oB H;obtain ⟨t19,A4,H⟩:=H;(try dsimp only at H)
 by_cases c5:t19 = true
 ·subst c5;rw [if_pos rfl] at H;replace H:=oB H;obtain ⟨t20,A6,H⟩:=H;(try dsimp only at H)
  replace H:=oB H;obtain ⟨t23,A7,H⟩:=H;(try dsimp only at H)
  simp only [Option.some.injEq,Prod.mk.injEq] at H;obtain ⟨rfl,rfl⟩:=H;go_enter Tryz.func7,Tryz.ntmps7
  try go_wp2_with (first|((with_reducible refine gate_dst (N:=3) rfl ?_);refine bE 3 #[.int .i64 a0_0,.slice A0_1 l0_1.length c0_1] 24 ?_;intro gb18 hg w8 hbox hb;have BK18:=aM (hbox);have GW18:=aM (gS hg);have GE18:=aM (gS hg);replace HB:=aM (below_step bw hb);clear hb hbox hg;have hcz9_0:=cz BK18.out 0;have hcz9_1:=cz BK18.out 1;have hfz9_0:=blk_frozen BK18.out 0;have hfz9_1:=blk_frozen BK18.out 1)|((with_reducible refine gate_callee (f:=25) rfl ?_);refine gL 11 Tryz.func25 #[.agg #[.int .i64 a0_0,.slice A0_1 l0_1.length c0_1],.int .i64 a1,.int .i64 a2] ?_;(with_reducible refine (spec_unPair.calls k a0_0 _ _ l0_1 a1 a2 true _ ?side1 ?side2 A4.out).mono ?_);(case side1=>exact qcs HR0_1.out HB.out);(case side2=>exact HC0_1.out);rintro e w10 ⟨rfl,hb⟩;refine ⟨_,rfl,?_⟩;replace BK18:=aM (bB BK18.out hb);replace HB:=aM (below_step bw hb);(try clear hb)))
  replace BK18:=aM (blk_drew BK18.out);replace HB:=aM (below_drew1 HB.out);refine start_ (n:=10) (S:=fun w'=>w'.cell? ⟨gb18,0,none⟩ = some (.int .i64 a0_0) ∧ w'.cell? ⟨gb18,1,none⟩ = some (.slice A0_1 l0_1.length c0_1)) (ds:=[]) (mA 10 0) kR rfl rfl ⟨(blk_cell BK18.out 0).trans rfl,(blk_cell BK18.out 1).trans rfl⟩ (fun hHeld=>?_);refine with_tabW spec_QuarrelSwings.tab3 spec_QuarrelSwings.bits3 (fun HT_ HW_=>?_)
  generalize w10.drew = w11 at BK18 HB hHeld ⊢
  refine pT 1 14 HT_.out ?_;refine pT 2 15 HT_.out ?_;refine pT 4 17 HT_.out ?_;refine pK 0 13 HT_.out HW_.out hHeld ?_;refine pK 5 18 HT_.out HW_.out hHeld ?_;refine pT 6 19 HT_.out ?_;refine oN 3 (some 16) HT_.out fun K hK=>?_
  refine gC Tryz.func27 #[.agg #[.int .i64 a0_0,.slice A0_1 l0_1.length c0_1],.int .i64 a1,.int .i64 a2] ?_
  with_reducible refine (spec_unQuarrel.calls k a0_0 _ _ l0_1 a1 a2 t20 _ ?side1 ?side2 A6.out).mono ?_
  (case side1=>exact qcs HR0_1.out HB.out)
  (case side2=>exact HC0_1.out)
  rintro e w12 ⟨v21,rfl,ho0,hb⟩
  refine ⟨_,rfl,?_⟩;have HO22:=aM (Kd.R_lower ho0 (below_size bw));replace BK18:=aM (bB BK18.out hb);replace HB:=aM (below_step bw hb);(try clear hb)
  (try clear ho0)
  obtain ⟨Ao13,co13,eo13⟩:=Kd.R_slice HO22.out;(first|subst eo13|(injection eo13 with f1_ f2_ f3_;have f4_:=f1_.symm;have f5_:=f3_.symm;clear f1_ f2_ f3_;subst f4_;subst f5_))
  refine hK.out _ _ ⟨(blk_cell BK18.out 0).trans rfl,(blk_cell BK18.out 1).trans rfl⟩ (fun hHeld=>?_);clear hK K;refine nM 16 ?_;refine oN 7 (some 20) HT_.out fun K hK=>?_
  refine gC Tryz.func29 #[.slice Ao13 t20.length co13,.int .i64 (l0_1.length:Int)] ?_
  with_reducible refine (spec_pwCounts.calls k _ _ t20 (l0_1.length:Int) t23 _ ?side1 ?side2 A7.out).mono ?_
  (case side1=>exact qc (Kd.R_reads' HO22.out).2.2)
  (case side2=>exact (Kd.R_reads' HO22.out).2.1)
  rintro e w14 ⟨v26,rfl,ho0,hb⟩
  refine ⟨_,rfl,?_⟩;replace HO22:=aM (Kd.R_below (qra HO22.out) hb);have HO28:=aM (Kd.R_lower ho0 (below_size bw));replace BK18:=aM (bB BK18.out hb);replace HB:=aM (below_step bw hb);(try clear hb)
  (try clear ho0)
  refine hK.out _ _ ⟨(blk_cell BK18.out 0).trans rfl,(blk_cell BK18.out 1).trans rfl⟩ (fun hHeld=>?_);clear hK K;refine nM 20 ?_;refine pT 8 6 HT_.out ?_;refine pT 9 7 HT_.out ?_;refine done_ (done_of HT_.out kR) ?_
  try go_wp2
  go_ret2
  exact ⟨_,eE,by (with_reducible repeat (first|apply Kd.R_alloc|apply Kd.R_drewN|apply Kd.R_drew));exact HO28.out,by exact bw⟩
 ·replace c5:=Bool.eq_false_iff.mpr c5;subst c5;rw [if_neg (show ¬ (false = true) by decide)] at H;simp only [Option.some.injEq,Prod.mk.injEq] at H;obtain ⟨rfl,rfl⟩:=H;go_enter Tryz.func7,Tryz.ntmps7;go_wp2_with (first|((with_reducible refine gate_dst (N:=3) rfl ?_);refine bE 3 #[.int .i64 a0_0,.slice A0_1 l0_1.length c0_1] 24 ?_;intro gb18 hg w15 hbox hb;have BK18:=aM (hbox);have GW18:=aM (gS hg);have GE18:=aM (gS hg);replace HB:=aM (below_step bw hb);clear hb hbox hg;have hcz16_0:=cz BK18.out 0;have hcz16_1:=cz BK18.out 1;have hfz16_0:=blk_frozen BK18.out 0;have hfz16_1:=blk_frozen BK18.out 1)|((with_reducible refine gate_callee (f:=25) rfl ?_);refine gL 11 Tryz.func25 #[.agg #[.int .i64 a0_0,.slice A0_1 l0_1.length c0_1],.int .i64 a1,.int .i64 a2] ?_;(with_reducible refine (spec_unPair.calls k a0_0 _ _ l0_1 a1 a2 false _ ?side1 ?side2 A4.out).mono ?_);(case side1=>exact qcs HR0_1.out HB.out);(case side2=>exact HC0_1.out);rintro e w17 ⟨rfl,hb⟩;refine ⟨_,rfl,?_⟩;replace BK18:=aM (bB BK18.out hb);replace HB:=aM (below_step bw hb);(try clear hb)))
  go_ret2
  exact ⟨_,eE,by first|exact Kd.R_nil _ _ _ _ _|exact Kd.N_nil _ _ _ _ _|exact Kd.V_nil _ _ _ _ _|exact Kd.Q_nil _ _ _ _ _|exact Kd.S_nil _ _ _ _ _,by exact bw⟩


def impl_members.l0:Nat → (Int → Option (Bool)) → List Int → Int → Int → Option (List Int)
 | 0,_,_,_,_=>none
 | k + 1,x1,x5,x8,x9=>if x9 < x8 then ((x1 x9).bind fun t2=>(if t2 = true then (if x5.length < 17592186044416 then (impl_members.l0 k x1 (x5 ++ [x9]) x8 (wrap64 (x9 + 1))) else (none)) else (impl_members.l0 k x1 x5 x8 (wrap64 (x9 + 1))))) else (some x5)
def impl_members.f (k:Nat) (a0:Int) (a1:(Int → Option (Bool))):Option (List Int):=impl_members.l0 k a1 (([]:List Int)) a0 0
theorem impl_members.calls (k:Nat) (a0:Int) (a1:(Int → Option (Bool))) (g1_:Nat) (lb1_:Array Value) (eg1_:∀ (args:Array Value) (w:World),(callFunc g1_ args).run Tryz.prog w = .ok (.enter g1_ args) w) (r:List Int) (w:World) (hp1:∀ (W:World) (b0_:Int) (r0_:Bool),a1 b0_ = some r0_ → Below w.heap.size w W → Calls Tryz.prog g1_ (#[.int .i64 b0_] ++ lb1_) W fun e w'=>e = .returned (.bool r0_) ∧ Below W.heap.size W w') (h:impl_members.f k a0 a1 = some r) :
  Calls Tryz.prog 31 #[.int .i64 a0,.func (.func g1_) #[] lb1_] w fun e w'=>∃ v0_:Value,e = .returned (v0_) ∧ Kd.R (Kd.int .i64) 3 w' w.heap.size (fun _=>True) v0_ r ∧ Below w.heap.size w w':=by
 have HP1:=aM hp1;clear hp1;have HB:=aM (Below.refl w.heap.size w);have H:(impl_members.l0 k a1 (([]:List Int)) a0 0) = some r:=h;clear h;obtain ⟨y12,hy12⟩:∃ y_:List Int,y_ = (([]:List Int)):=⟨_,rfl⟩;replace H:(impl_members.l0 k a1 y12 a0 0) = some r:=yR hy12 H;have Ny12:=aM hy12;clear hy12;have H':=aM H;clear H;go_enter Tryz.func31,Tryz.ntmps31;go_wp2_with (first|((with_reducible refine gate_dst (N:=7) rfl ?_);refine Kd.R_lit (Kd.int .i64) _ 3 ?hg (N:=7) ?hd (xs:=([]:List Int)) (inner:=[]) (ok:=fun _=>True) (okp:=fun _=>True) ?hr ?hp (fun _ hk=>hk) trivial (Below.refl _ _) (Nat.le_refl _) (by simp) ?_;(case hd=>rfl);(case hg=>rfl);(case hr=>first|(go_simp;done)|(go_simp;rfl));(case hp=>exact (Reps.none _ _));intro v13 w3 ho4 hb hg_ hnew_;clear hg_ hnew_;(first|rw [← Ny12.out] at ho4|(simp only [Int.reduceToNat] at ho4;rw [← Ny12.out] at ho4));have HO14:=aM (Kd.R_lower ho4 (below_size bw));replace HB:=aM (below_step bw hb);clear hb ho4))
 go_loopg [5,9] k (fun kq v5 v9 w'=>∃ (x5_1:List Int) (x9_1:Int),v9 = .int .i64 x9_1 ∧ Aside0 (impl_members.l0 kq a1 x5_1 a0 x9_1 = some r) ∧ Aside0 (kq ≤ k) ∧ Aside0 (Kd.R (Kd.int .i64) 3 w' w.heap.size (fun _=>True) v5 x5_1) ∧ Aside0 (Below w.heap.size w w'))
 case atStart=>exact ⟨(y12),(0),qrs,H',⟨Nat.le_refl _⟩,⟨qra HO14.out⟩,⟨by exact bw⟩⟩
 case round =>
  clear H';obtain ⟨x5_1,x9_1,rfl,HA,HK1,HO_5,HB⟩:=hrel
  cases gk with
  | zero=>exact absurd HA.out (by simp [impl_members.l0])
  | succ k1 =>
   have H:=HA.out;clear HA;simp only [impl_members.l0] at H;by_cases c5:x9_1 < a0
   ·rw [if_pos c5] at H;have c5b0:=decide_eq_true c5;clear c5;replace H:=oB H;obtain ⟨t15,A6,H⟩:=H;(try dsimp only at H)
    by_cases c7:t15 = true
    ·subst c7;rw [if_pos rfl] at H;replace H:=iN H;obtain ⟨c8,H⟩:=H;have LMc8:=aM c8;clear c8;obtain ⟨y16,hy16⟩:∃ y_:List Int,y_ = (x5_1 ++ [x9_1]):=⟨_,rfl⟩;replace H:(impl_members.l0 k1 a1 y16 a0 (wrap64 (x9_1 + 1))) = some r:=yR hy16 H;have Ny16:=aM hy16;clear hy16;have H':=aM H;clear H;go_wp2_with (first|((with_reducible refine gate_fn (t:=12) rfl ?_);refine goesFL_ (some 14) rfl rfl eg1_ #[.int .i64 x9_1] rfl rfl mq ?_;(with_reducible refine (HP1.out _ x9_1 true A6.out ?side1).mono ?_);(case side1=>exact bw);rintro e w9 ⟨rfl,hb⟩;refine ⟨_,rfl,?_⟩;replace HO_5:=aM (Kd.R_below (qra HO_5.out) hb);replace HB:=aM (below_step bw hb);(try clear hb);(try clear hk))|((with_reducible refine gate_builtin (b:=.append) (xs:=#[.tmp 15,.tmp 17]) rfl ?_);at_builtin;refine Kd.R_append (Kd.int .i64) (w0:=w) w.heap.size rfl (.tmp 15) (.tmp 17) 22 3 (.int .i64 0) 8 rfl Tryz.underlying22 info3 rfl (by decide) (by omega) u5 x5_1 x9_1 [.int .i64 x9_1] (fun _=>True) (fun _=>False) rfl rfl ?aP (fun _ hk=>hk.elim) ?aF ?aO ?aB ?aS ?aL ?_;(case aP=>exact rfl);(case aB=>exact bw);(case aF=>exact (fun _ _=>trivial));(case aO=>exact (qra HO_5.out));(case aS=>exact (below_size bw));(case aL=>have:=LMc8.out;omega);intro v17 w10 ho hb hg hat;rw [← Ny16.out] at ho;replace HB:=aM (hb);have HO18:=aM (ho);clear HO_5;clear ho hb hg hat))
     go_roundg k1
     case measure=>have:=HK1.out;omega
     case rel=>exact ⟨(y16),(wrap64 (x9_1 + 1)),qrs,H',⟨by have:=HK1.out;omega⟩,⟨qra HO18.out⟩,⟨by exact bw⟩⟩
    ·replace c7:=Bool.eq_false_iff.mpr c7;subst c7;rw [if_neg (show ¬ (false = true) by decide)] at H;have H':=aM H;clear H;go_wp2_with (first|((with_reducible refine gate_fn (t:=12) rfl ?_);refine goesFL_ (some 14) rfl rfl eg1_ #[.int .i64 x9_1] rfl rfl mq ?_;(with_reducible refine (HP1.out _ x9_1 false A6.out ?side1).mono ?_);(case side1=>exact bw);rintro e w11 ⟨rfl,hb⟩;refine ⟨_,rfl,?_⟩;replace HO_5:=aM (Kd.R_below (qra HO_5.out) hb);replace HB:=aM (below_step bw hb);(try clear hb);(try clear hk)))
     go_roundg k1
     case measure=>have:=HK1.out;omega
     case rel=>exact ⟨(x5_1),(wrap64 (x9_1 + 1)),qrs,H',⟨by have:=HK1.out;omega⟩,⟨qra HO_5.out⟩,⟨by exact bw⟩⟩
   ·rw [if_neg c5] at H;have c5b0:=decide_eq_false c5;clear c5;obtain rfl:=Option.some.inj H;go_wp2
    go_ret
    exact ⟨_,eE,by (with_reducible repeat (first|apply Kd.R_alloc|apply Kd.R_drewN|apply Kd.R_drew));exact HO_5.out,by exact bw⟩


def impl_QuarrelHelps_1.f (a0:Int) (l1:List Int) (l2:List Int):Option (Bool):=if 0 ≤ a0 then (if a0 < (l1.length:Int) then (if a0 < (l2.length:Int) then (some (decide ((rd l1 a0) > (rd l2 a0)))) else (none)) else (none)) else (none)
theorem impl_QuarrelHelps_1.calls (a0:Int) (gc1:Nat) (A1:Option Addr) (c1:Nat) (l1:List Int) (gc2:Nat) (A2:Option Addr) (c2:Nat) (l2:List Int) (r:Bool) (w:World) (hr1:Kd.C (Kd.int .i64) w A1 l1.length l1) (hc1:l1.length ≤ c1) (hr2:Kd.C (Kd.int .i64) w A2 l2.length l2) (hc2:l2.length ≤ c2) (hb1:w.heap[gc1]? = some (.cells #[.slice A1 l1.length c1] 22 (0,0))) (hb2:w.heap[gc2]? = some (.cells #[.slice A2 l2.length c2] 22 (0,0))) (hn1_2:gc1 ≠ gc2) (h:impl_QuarrelHelps_1.f a0 l1 l2 = some r) :
  Calls Tryz.prog 32 #[.int .i64 a0,.pointer (some ⟨gc1,0,none⟩),.pointer (some ⟨gc2,0,none⟩)] w fun e w'=>e = .returned (.bool r) ∧ Drawn0 w w':=by
 have HR1:=aM hr1;have HC1:=aM hc1;clear hr1 hc1;have HR2:=aM hr2;have HC2:=aM hc2;clear hr2 hc2;have BK1:=aM hb1;clear hb1;have BK2:=aM hb2;clear hb2;have NB1_2:=aM hn1_2;have NB2_1:=aM (Ne.symm hn1_2);clear hn1_2;have H:(if 0 ≤ a0 then (if a0 < (l1.length:Int) then (if a0 < (l2.length:Int) then (some (decide ((rd l1 a0) > (rd l2 a0)))) else (none)) else (none)) else (none)) = some r:=h;clear h;replace H:=iN H;obtain ⟨c4,H⟩:=H;have c4b0:decide (0 ≤ a0) = true:=decide_eq_true c4;clear c4;replace H:=iN H;obtain ⟨c5,H⟩:=H;have c5b0:decide (a0 < (l1.length:Int)) = true:=decide_eq_true c5;clear c5;replace H:=iN H;obtain ⟨c6,H⟩:=H;have c6b0:decide (a0 < (l2.length:Int)) = true:=decide_eq_true c6;clear c6;obtain rfl:=Option.some.inj H;have hnb7:=NB1_2.out;have hnc7:=NB2_1.out;have hcz8_0:=cz BK1.out 0;have hfz8_0:=blk_frozen BK1.out 0;have p3:0 ≤ (a0:Int):=of_decide_eq_true ab;have q3:a0 < (l1.length:Int):=of_decide_eq_true ab;obtain ⟨ad3,e3,hx3_0⟩:=Kd.at_int HR1.out a0 p3 q3;cases e3
 replace p3:=eq_true p3;replace q3:=eq_true q3;have hcz9_0:=cz BK2.out 0;have hfz9_0:=blk_frozen BK2.out 0;have p10:0 ≤ (a0:Int):=of_decide_eq_true ab;have q10:a0 < (l2.length:Int):=of_decide_eq_true ab;obtain ⟨ad10,e10,hx10_0⟩:=Kd.at_int HR2.out a0 p10 q10;cases e10
 replace p10:=eq_true p10;replace q10:=eq_true q10;go_enter Tryz.func32,Tryz.ntmps32;go_wp2
 repeat (go_quiet (fail);try go_wp2)
 go_ret
 exact ⟨qrs,dR⟩
theorem impl_QuarrelHelps_1.enters:∀ (args:Array Value) (w:World),(callFunc 32 args).run Tryz.prog w = .ok (.enter 32 args) w:=enters_of Tryz.func32 kR rfl


def impl_QuarrelHelps.f (k:Nat) (a0_0:Int) (l0_1:List Int) (a1:Int) (a2:Int):Option (List Int × Bool):=(impl_QuarrelSwings.f k a0_0 l0_1 a1 a2).bind fun bt3=>(if bt3.2 = true then ((impl_Committee_votes.f k a0_0 l0_1).bind fun bt4=>((impl_votes_swings.f k bt4.1 bt4.2).bind fun t5=>((impl_members.f k (t5.length:Int) (fun y0_=>impl_QuarrelHelps_1.f y0_ bt3.1 t5)).bind fun t6=>(some (t6,true))))) else (some (([]:List Int),false)))
theorem impl_QuarrelHelps.calls (k:Nat) (a0_0:Int) (A0_1:Option Addr) (c0_1:Nat) (l0_1:List Int) (a1:Int) (a2:Int) (r1:List Int) (r2:Bool) (w:World) (hr0_1:Kd.C (Kd.int .i64) w A0_1 l0_1.length l0_1) (hc0_1:l0_1.length ≤ c0_1) (h:impl_QuarrelHelps.f k a0_0 l0_1 a1 a2 = some (r1,r2)) :
  Calls Tryz.prog 8 #[.agg #[.int .i64 a0_0,.slice A0_1 l0_1.length c0_1],.int .i64 a1,.int .i64 a2] w fun e w'=>∃ v0_:Value,e = .returned (.tuple #[v0_,.bool r2]) ∧ Kd.R (Kd.int .i64) 3 w' w.heap.size (fun _=>True) v0_ r1 ∧ Below w.heap.size w w':=by
 have hmf:∀ (fn:Fn) (first cap:Array Value) (w:World),(Instr.makeFunc fn first cap).run Tryz.prog w = .ok (.func fn first cap) w:=fun _ _ _ _=>rfl
 have hu24:=Tryz.underlying24;have HR0_1:=aM hr0_1;have HC0_1:=aM hc0_1;clear hr0_1 hc0_1;have HB:=aM (Below.refl w.heap.size w);have H:((impl_QuarrelSwings.f k a0_0 l0_1 a1 a2).bind fun bt33=>(if bt33.2 = true then ((impl_Committee_votes.f k a0_0 l0_1).bind fun bt38=>((impl_votes_swings.f k bt38.1 bt38.2).bind fun t42=>((impl_members.f k (t42.length:Int) (fun y0_=>impl_QuarrelHelps_1.f y0_ bt33.1 t42)).bind fun t46=>(some (t46,true))))) else (some (([]:List Int),false)))) = some (r1,r2):=h;clear h;replace H:=oB H;obtain ⟨⟨t33,t36⟩,A4,H⟩:=H;(try dsimp only at H)
 by_cases c5:t36 = true
 ·subst c5;rw [if_pos rfl] at H;replace H:=oB H;obtain ⟨⟨t38,t39⟩,A6,H⟩:=H;(try dsimp only at H)
  replace H:=oB H;obtain ⟨t42,A7,H⟩:=H;(try dsimp only at H)
  replace H:=oB H;obtain ⟨t46,A8,H⟩:=H;(try dsimp only at H)
  simp only [Option.some.injEq,Prod.mk.injEq] at H;obtain ⟨rfl,rfl⟩:=H;go_enter Tryz.func8,Tryz.ntmps8;go_wp2_with (first|((with_reducible refine gate_dst (N:=3) rfl ?_);refine bE 3 #[.int .i64 a0_0,.slice A0_1 l0_1.length c0_1] 24 ?_;intro gb3 hg w9 hbox hb;have BK3:=aM (hbox);have GW3:=aM (gS hg);have GE3:=aM (gS hg);replace HB:=aM (below_step bw hb);clear hb hbox hg;have hcz10_0:=cz BK3.out 0;have hcz10_1:=cz BK3.out 1;have hfz10_0:=blk_frozen BK3.out 0;have hfz10_1:=blk_frozen BK3.out 1)|((with_reducible refine gate_callee (f:=6) rfl ?_);refine gL 15 Tryz.func6 #[.agg #[.int .i64 a0_0,.slice A0_1 l0_1.length c0_1],.int .i64 a1,.int .i64 a2] ?_;(with_reducible refine (impl_QuarrelSwings.calls k a0_0 _ _ l0_1 a1 a2 t33 true _ ?side1 ?side2 A4.out).mono ?_);(case side1=>exact qcs HR0_1.out HB.out);(case side2=>exact HC0_1.out);rintro e w11 ⟨v34,rfl,ho0,hb⟩;refine ⟨_,rfl,?_⟩;have HO35:=aM (Kd.R_lower ho0 (below_size bw));replace BK3:=aM (bB BK3.out hb);replace HB:=aM (below_step bw hb);(try clear hb);(try clear ho0))|((with_reducible refine gate_dst (N:=8) rfl ?_);refine bE 8 #[.slice none 0 0] 22 ?_;intro gb37 hg w12 hbox hb;replace HO35:=aM (Kd.R_below (qra HO35.out) hb);have BK37:=aM (hbox);have GW37:=aM (gS hg);have GE37:=aM (gS hg);replace HB:=aM (below_step bw hb);have NB3_37:=aM (nL BK3.out hg);have NB37_3:=aM (nR BK3.out hg);replace BK3:=aM (bB BK3.out hb);clear hb hbox hg;obtain ⟨Ao13,co13,eo13⟩:=Kd.R_slice HO35.out;subst eo13;have hnb14:=NB37_3.out;have hnc14:=NB3_37.out;have hcz15_0:=cz BK37.out 0;have hfz15_0:=blk_frozen BK37.out 0;have hcz16_0:=cz BK3.out 0;have hcz16_1:=cz BK3.out 1;have hfz16_0:=blk_frozen BK3.out 0;have hfz16_1:=blk_frozen BK3.out 1)|((with_reducible refine gate_callee (f:=30) rfl ?_);refine gL 21 Tryz.func30 #[.agg #[.int .i64 a0_0,.slice A0_1 l0_1.length c0_1]] ?_;(with_reducible refine (impl_Committee_votes.calls k a0_0 _ _ l0_1 t38 t39 _ ?side1 ?side2 A6.out).mono ?_);(case side1=>exact Kd.C_below HR0_1.out bw);(case side2=>exact HC0_1.out);rintro e w17 ⟨v40,rfl,ho0,hb⟩;refine ⟨_,rfl,?_⟩;replace HO35:=aM (Kd.R_below (by (with_reducible repeat (first|apply Kd.R_alloc|apply Kd.R_drewN|apply Kd.R_drew));exact (Kd.R_mono (Kd.R_far (p:=⟨gb37,0,none⟩) (Kd.R_types HO35.out BK37.out (by decide)) (fun _ hk=>hk.2) (.slice Ao13 t33.length co13)) (fun _ h_=>h_.1))) hb);have HO41:=aM (Kd.R_lower ho0 (below_size bw));replace BK3:=aM (bG BK3.out NB3_37.out hb);replace BK37:=aM (blk_below (g:=gb37) (o:=.cells #[.slice Ao13 t33.length co13] 22 (0,0)) (by (with_reducible repeat (first|refine blk_drewN ?_ _|refine blk_drew ?_|refine blk_alloc ?_ _));refine blk_put (cs:=#[.slice none 0 0]) ?_ 0 _ rfl;(with_reducible repeat (first|refine blk_drewN ?_ _|refine blk_drew ?_|refine blk_alloc ?_ _));exact BK37.out) hb);replace HB:=aM (below_step bw hb);(try clear hb);(try clear hk);(try clear ho0);obtain ⟨Ao18,co18,eo18⟩:=Kd.R_slice HO41.out;subst eo18)|((with_reducible refine gate_callee (f:=28) rfl ?_);refine gL 22 Tryz.func28 #[.agg #[.int .i64 t38,.slice Ao18 t39.length co18]] ?_;(with_reducible refine (impl_votes_swings.calls k t38 _ _ t39 t42 _ ?side1 ?side2 A7.out).mono ?_);(case side1=>exact qc (Kd.R_reads' HO41.out).2.2);(case side2=>exact (Kd.R_reads' HO41.out).2.1);rintro e w19 ⟨v43,rfl,ho0,hb⟩;refine ⟨_,rfl,?_⟩;replace HO41:=aM (Kd.R_below (qra HO41.out) hb);have HO44:=aM (Kd.R_lower (Kd.R_new' ho0 (Kd.R_lt (qra HO35.out))) (below_size bw));replace HO35:=aM (Kd.R_elder' (qra HO35.out) (Kd.R_base ho0) hb);replace BK3:=aM (bB BK3.out hb);replace BK37:=aM (bB BK37.out hb);replace HB:=aM (below_step bw hb);(try clear hb);(try clear ho0))|((with_reducible refine gate_dst (N:=10) rfl ?_);refine bE 10 #[.slice none 0 0] 22 ?_;intro gb45 hg w20 hbox hb;replace HO35:=aM (Kd.R_below (qra HO35.out) hb);replace HO41:=aM (Kd.R_below (qra HO41.out) hb);replace HO44:=aM (Kd.R_below (qra HO44.out) hb);have BK45:=aM (hbox);have GW45:=aM (gS hg);have GE45:=aM (gS hg);replace HB:=aM (below_step bw hb);have NB3_45:=aM (nL BK3.out hg);have NB45_3:=aM (nR BK3.out hg);replace BK3:=aM (bB BK3.out hb);have NB37_45:=aM (nL BK37.out hg);have NB45_37:=aM (nR BK37.out hg);replace BK37:=aM (bB BK37.out hb);clear hb hbox hg;obtain ⟨Ao21,co21,eo21⟩:=Kd.R_slice HO44.out;subst eo21;have hnb22:=NB45_3.out;have hnc22:=NB3_45.out;have hnb23:=NB45_37.out;have hnc23:=NB37_45.out;have hcz24_0:=cz BK45.out 0;have hfz24_0:=blk_frozen BK45.out 0)|((with_reducible refine gate_callee (f:=31) rfl ?_);refine gL 26 Tryz.func31 #[.int .i64 (t42.length:Int),.func (.func 32) #[] #[.pointer (some ⟨gb37,0,none⟩),.pointer (some ⟨gb45,0,none⟩)]] ?_;(with_reducible refine (impl_members.calls k (t42.length:Int) (fun y0_=>impl_QuarrelHelps_1.f y0_ t33 t42) 32 #[.pointer (some ⟨gb37,0,none⟩),.pointer (some ⟨gb45,0,none⟩)] impl_QuarrelHelps_1.enters t46 _ ?side1 A8.out).mono ?_);(case side1=>exact (fun W_ a0_ r0_ hx_ hb_ =>(impl_QuarrelHelps_1.calls a0_ gb37 _ _ t33 gb45 _ _ t42 r0_ W_  (Kd.C_below (by refine (Kd.R_reads' (e:=3) (base:=w.heap.size) (ok:=fun k_=>(True ∧ some k_ ≠ (.slice Ao21 t42.length co21:Value).ownBlock)) (n:=t33.length) (c:=co13) ?_).2.2;exact (by (with_reducible repeat (first|apply Kd.R_alloc|apply Kd.R_drewN|apply Kd.R_drew));exact (Kd.R_mono (Kd.R_far (p:=⟨gb45,0,none⟩) (Kd.R_types HO35.out BK45.out (by decide)) (fun _ hk=>hk.2) (.slice Ao21 t42.length co21)) (fun _ h_=>h_.1)))) hb_) (by exact (Kd.R_reads' HO35.out).2.1) (Kd.C_below (by refine (Kd.R_reads' (e:=3) (base:=w.heap.size) (ok:=fun k_=>(True ∧ some k_ ≠ (.slice Ao13 t33.length co13:Value).ownBlock)) (n:=t42.length) (c:=co21) ?_).2.2;exact (by (with_reducible repeat (first|apply Kd.R_alloc|apply Kd.R_drewN|apply Kd.R_drew));exact (Kd.R_mono (Kd.R_far (p:=⟨gb45,0,none⟩) (Kd.R_types HO44.out BK45.out (by decide)) (fun _ hk=>hk.2) (.slice Ao21 t42.length co21)) (fun _ h_=>h_.1)))) hb_) (by exact (Kd.R_reads' HO44.out).2.1) (box_later (bF BK37.out NB37_45.out) hb_) (box_later (by (with_reducible repeat (first|refine blk_drewN ?_ _|refine blk_drew ?_|refine blk_alloc ?_ _));refine blk_put (cs:=#[.slice none 0 0]) ?_ 0 _ rfl;(with_reducible repeat (first|refine blk_drewN ?_ _|refine blk_drew ?_|refine blk_alloc ?_ _));exact BK45.out) hb_) NB37_45.out hx_).mono (fun _ _ h_=>⟨h_.1,h_.2.below⟩)));rintro e w25 ⟨v47,rfl,ho0,hb⟩;refine ⟨_,rfl,?_⟩;replace HO41:=aM (Kd.R_below (by (with_reducible repeat (first|apply Kd.R_alloc|apply Kd.R_drewN|apply Kd.R_drew));exact (Kd.R_mono (Kd.R_far (p:=⟨gb45,0,none⟩) (Kd.R_types HO41.out BK45.out (by decide)) (fun _ hk=>hk.2) (.slice Ao21 t42.length co21)) (fun _ h_=>h_.1))) hb);have HO48:=aM (Kd.R_lower (Kd.R_new' (Kd.R_new' ho0 (Kd.R_lt (by (with_reducible repeat (first|apply Kd.R_alloc|apply Kd.R_drewN|apply Kd.R_drew));exact (Kd.R_mono (Kd.R_far (p:=⟨gb45,0,none⟩) (Kd.R_types HO35.out BK45.out (by decide)) (fun _ hk=>hk.2) (.slice Ao21 t42.length co21)) (fun _ h_=>h_.1))))) (Kd.R_lt (by (with_reducible repeat (first|apply Kd.R_alloc|apply Kd.R_drewN|apply Kd.R_drew));exact (Kd.R_mono (Kd.R_far (p:=⟨gb45,0,none⟩) (Kd.R_types HO44.out BK45.out (by decide)) (fun _ hk=>hk.2) (.slice Ao21 t42.length co21)) (fun _ h_=>h_.1))))) (below_size bw));replace HO35:=aM (Kd.R_elder' (by (with_reducible repeat (first|apply Kd.R_alloc|apply Kd.R_drewN|apply Kd.R_drew));exact (Kd.R_mono (Kd.R_far (p:=⟨gb45,0,none⟩) (Kd.R_types HO35.out BK45.out (by decide)) (fun _ hk=>hk.2) (.slice Ao21 t42.length co21)) (fun _ h_=>h_.1))) (Kd.R_base ho0) hb);replace HO44:=aM (Kd.R_elder' (by (with_reducible repeat (first|apply Kd.R_alloc|apply Kd.R_drewN|apply Kd.R_drew));exact (Kd.R_mono (Kd.R_far (p:=⟨gb45,0,none⟩) (Kd.R_types HO44.out BK45.out (by decide)) (fun _ hk=>hk.2) (.slice Ao21 t42.length co21)) (fun _ h_=>h_.1))) (Kd.R_base ho0) hb);replace BK3:=aM (bG BK3.out NB3_45.out hb);replace BK37:=aM (bG BK37.out NB37_45.out hb);replace BK45:=aM (blk_below (g:=gb45) (o:=.cells #[.slice Ao21 t42.length co21] 22 (0,0)) (by (with_reducible repeat (first|refine blk_drewN ?_ _|refine blk_drew ?_|refine blk_alloc ?_ _));refine blk_put (cs:=#[.slice none 0 0]) ?_ 0 _ rfl;(with_reducible repeat (first|refine blk_drewN ?_ _|refine blk_drew ?_|refine blk_alloc ?_ _));exact BK45.out) hb);replace HB:=aM (below_step bw hb);(try clear hb);(try clear hk);(try clear ho0)))
  go_ret2
  exact ⟨_,eE,by (with_reducible repeat (first|apply Kd.R_alloc|apply Kd.R_drewN|apply Kd.R_drew));exact Kd.R_mono HO48.out (fun _ hk=>trivial),by exact bw⟩
 ·replace c5:=Bool.eq_false_iff.mpr c5;subst c5;rw [if_neg (show ¬ (false = true) by decide)] at H;simp only [Option.some.injEq,Prod.mk.injEq] at H;obtain ⟨rfl,rfl⟩:=H;go_enter Tryz.func8,Tryz.ntmps8;go_wp2_with (first|((with_reducible refine gate_dst (N:=3) rfl ?_);refine bE 3 #[.int .i64 a0_0,.slice A0_1 l0_1.length c0_1] 24 ?_;intro gb3 hg w26 hbox hb;have BK3:=aM (hbox);have GW3:=aM (gS hg);have GE3:=aM (gS hg);replace HB:=aM (below_step bw hb);clear hb hbox hg;have hcz27_0:=cz BK3.out 0;have hcz27_1:=cz BK3.out 1;have hfz27_0:=blk_frozen BK3.out 0;have hfz27_1:=blk_frozen BK3.out 1)|((with_reducible refine gate_callee (f:=6) rfl ?_);refine gL 15 Tryz.func6 #[.agg #[.int .i64 a0_0,.slice A0_1 l0_1.length c0_1],.int .i64 a1,.int .i64 a2] ?_;(with_reducible refine (impl_QuarrelSwings.calls k a0_0 _ _ l0_1 a1 a2 t33 false _ ?side1 ?side2 A4.out).mono ?_);(case side1=>exact qcs HR0_1.out HB.out);(case side2=>exact HC0_1.out);rintro e w28 ⟨v34,rfl,ho0,hb⟩;refine ⟨_,rfl,?_⟩;have HO35:=aM (Kd.R_lower ho0 (below_size bw));replace BK3:=aM (bB BK3.out hb);replace HB:=aM (below_step bw hb);(try clear hb);(try clear hk);(try clear ho0))|((with_reducible refine gate_dst (N:=8) rfl ?_);refine bE 8 #[.slice none 0 0] 22 ?_;intro gb37 hg w29 hbox hb;replace HO35:=aM (Kd.R_below (qra HO35.out) hb);have BK37:=aM (hbox);have GW37:=aM (gS hg);have GE37:=aM (gS hg);replace HB:=aM (below_step bw hb);have NB3_37:=aM (nL BK3.out hg);have NB37_3:=aM (nR BK3.out hg);replace BK3:=aM (bB BK3.out hb);clear hb hbox hg;obtain ⟨Ao30,co30,eo30⟩:=Kd.R_slice HO35.out;subst eo30;have hnb31:=NB37_3.out;have hnc31:=NB3_37.out;have hcz32_0:=cz BK37.out 0;have hfz32_0:=blk_frozen BK37.out 0))
  go_ret2
  exact ⟨_,eE,by first|exact Kd.R_nil _ _ _ _ _|exact Kd.N_nil _ _ _ _ _|exact Kd.V_nil _ _ _ _ _|exact Kd.Q_nil _ _ _ _ _|exact Kd.S_nil _ _ _ _ _,by exact bw⟩


def spec_QuarrelHelps.l0:Nat → List Int → List Int → List Int → Int → Int → Option (List Int × Bool)
 | 0,_,_,_,_,_=>none
 | k + 1,x8,x9,x10,x33,x34=>if x34 < x33 then (if 0 ≤ x34 then (if x34 < (x9.length:Int) then (if x34 < (x8.length:Int) then (if (rd x9 x34) > (rd x8 x34) then (if x10.length < 17592186044416 then (spec_QuarrelHelps.l0 k x8 x9 (x10 ++ [x34]) x33 (wrap64 (x34 + 1))) else (none)) else (spec_QuarrelHelps.l0 k x8 x9 x10 x33 (wrap64 (x34 + 1)))) else (none)) else (none)) else (none)) else (some (x10,true))
def spec_QuarrelHelps.f (k:Nat) (a0_0:Int) (l0_1:List Int) (a1:Int) (a2:Int):Option (List Int × Bool):=(spec_unPair.f k a0_0 l0_1 a1 a2).bind fun t3=>(if t3 = true then ((spec_voWins.f k a0_0 l0_1).bind fun t4=>((spec_pwCounts.f k t4 (l0_1.length:Int)).bind fun t5=>((spec_unQuarrel.f k a0_0 l0_1 a1 a2).bind fun t6=>((spec_pwCounts.f k t6 (l0_1.length:Int)).bind fun t7=>(spec_QuarrelHelps.l0 k t5 t7 ([]:List Int) (l0_1.length:Int) 0))))) else (some (([]:List Int),false)))
def spec_QuarrelHelps.T3:Bool × List (List Nat × List Nat):=(true,[([],[]),([0],[0]),([],[]),([2],[2]),([3],[3]),([1,4,1],[1,4]),([],[]),([],[]),([],[]),([6,7,8,5],[6,7,8]),([],[]),([10],[10]),([11],[11]),([9,12,9],[9,12]),([5,13,0,1,2,3,4,5],[5]),([13,14,0,1,2,3,4,5,6,7,8,9,10,11,12,13,14],[13])])
def spec_QuarrelHelps.B3:List Nat:=[0,1,0,4,12,31,0,0,0,511,0,1024,3072,8191,16383,32767]
theorem spec_QuarrelHelps.tab3:rtab .any (opsOf Tryz.f9 3) = spec_QuarrelHelps.T3:=by kernel_rfl
theorem spec_QuarrelHelps.bits3:waitsOk spec_QuarrelHelps.T3.2 spec_QuarrelHelps.B3 = true:=by kernel_rfl
def spec_QuarrelHelps.T8:Bool × List (List Nat × List Nat):=(true,[([],[]),([],[]),([0,1],[0,1]),([2],[2]),([],[]),([],[]),([4,5],[4,5]),([6],[6]),([3,7],[3,7])])
def spec_QuarrelHelps.B8:List Nat:=[0,0,3,7,0,0,48,112,255]
theorem spec_QuarrelHelps.tab8:rtab .any (opsOf Tryz.f9 8) = spec_QuarrelHelps.T8:=by kernel_rfl
theorem spec_QuarrelHelps.bits8:waitsOk spec_QuarrelHelps.T8.2 spec_QuarrelHelps.B8 = true:=by kernel_rfl
theorem spec_QuarrelHelps.calls (k:Nat) (a0_0:Int) (A0_1:Option Addr) (c0_1:Nat) (l0_1:List Int) (a1:Int) (a2:Int) (r1:List Int) (r2:Bool) (w:World) (hr0_1:Kd.C (Kd.int .i64) w A0_1 l0_1.length l0_1) (hc0_1:l0_1.length ≤ c0_1) (h:spec_QuarrelHelps.f k a0_0 l0_1 a1 a2 = some (r1,r2)) :
  Calls Tryz.prog 9 #[.agg #[.int .i64 a0_0,.slice A0_1 l0_1.length c0_1],.int .i64 a1,.int .i64 a2] w fun e w'=>∃ v0_:Value,e = .returned (.tuple #[v0_,.bool r2]) ∧ Kd.R (Kd.int .i64) 3 w' w.heap.size (fun _=>True) v0_ r1 ∧ Below w.heap.size w w':=by
 have hu24:=Tryz.underlying24;have HR0_1:=aM hr0_1;have HC0_1:=aM hc0_1;clear hr0_1 hc0_1;have HB:=aM (Below.refl w.heap.size w);have H:((spec_unPair.f k a0_0 l0_1 a1 a2).bind fun t38=>(if t38 = true then ((spec_voWins.f k a0_0 l0_1).bind fun t39=>((spec_pwCounts.f k t39 (l0_1.length:Int)).bind fun t42=>((spec_unQuarrel.f k a0_0 l0_1 a1 a2).bind fun t45=>((spec_pwCounts.f k t45 (l0_1.length:Int)).bind fun t48=>(spec_QuarrelHelps.l0 k t42 t48 ([]:List Int) (l0_1.length:Int) 0))))) else (some (([]:List Int),false)))) = some (r1,r2):=h;clear h;replace H:=oB H;obtain ⟨t38,A4,H⟩:=H;(try dsimp only at H)
 by_cases c5:t38 = true
 ·subst c5;rw [if_pos rfl] at H;replace H:=oB H;obtain ⟨t39,A6,H⟩:=H;(try dsimp only at H)
  replace H:=oB H;obtain ⟨t42,A7,H⟩:=H;(try dsimp only at H)
  replace H:=oB H;obtain ⟨t45,A8,H⟩:=H;(try dsimp only at H)
  replace H:=oB H;obtain ⟨t48,A9,H⟩:=H;(try dsimp only at H)
  have H':=aM H;clear H;go_enter Tryz.func9,Tryz.ntmps9
  try go_wp2_with (first|((with_reducible refine gate_dst (N:=3) rfl ?_);refine bE 3 #[.int .i64 a0_0,.slice A0_1 l0_1.length c0_1] 24 ?_;intro gb37 hg w10 hbox hb;have BK37:=aM (hbox);have GW37:=aM (gS hg);have GE37:=aM (gS hg);replace HB:=aM (below_step bw hb);clear hb hbox hg;have hcz11_0:=cz BK37.out 0;have hcz11_1:=cz BK37.out 1;have hfz11_0:=blk_frozen BK37.out 0;have hfz11_1:=blk_frozen BK37.out 1)|((with_reducible refine gate_callee (f:=25) rfl ?_);refine gL 15 Tryz.func25 #[.agg #[.int .i64 a0_0,.slice A0_1 l0_1.length c0_1],.int .i64 a1,.int .i64 a2] ?_;(with_reducible refine (spec_unPair.calls k a0_0 _ _ l0_1 a1 a2 true _ ?side1 ?side2 A4.out).mono ?_);(case side1=>exact qcs HR0_1.out HB.out);(case side2=>exact HC0_1.out);rintro e w12 ⟨rfl,hb⟩;refine ⟨_,rfl,?_⟩;replace BK37:=aM (bB BK37.out hb);replace HB:=aM (below_step bw hb);(try clear hb)))
  replace BK37:=aM (blk_drew BK37.out);replace HB:=aM (below_drew1 HB.out);refine start_ (n:=16) (S:=fun w'=>w'.cell? ⟨gb37,0,none⟩ = some (.int .i64 a0_0) ∧ w'.cell? ⟨gb37,1,none⟩ = some (.slice A0_1 l0_1.length c0_1)) (ds:=[]) (mA 16 0) kR rfl rfl ⟨(blk_cell BK37.out 0).trans rfl,(blk_cell BK37.out 1).trans rfl⟩ (fun hHeld=>?_);refine with_tabW spec_QuarrelHelps.tab3 spec_QuarrelHelps.bits3 (fun HT_ HW_=>?_)
  generalize w12.drew = w13 at BK37 HB hHeld ⊢
  refine pT 2 19 HT_.out ?_;refine pT 7 24 HT_.out ?_;refine pT 8 25 HT_.out ?_;refine pT 10 27 HT_.out ?_;refine pK 0 17 HT_.out HW_.out hHeld ?_;refine pK 3 20 HT_.out HW_.out hHeld ?_;refine pT 4 21 HT_.out ?_;refine pK 6 23 HT_.out HW_.out hHeld ?_;refine pK 11 28 HT_.out HW_.out hHeld ?_;refine pT 12 29 HT_.out ?_;refine oN 1 (some 18) HT_.out fun K hK=>?_
  refine gC Tryz.func33 #[.agg #[.int .i64 a0_0,.slice A0_1 l0_1.length c0_1]] ?_
  with_reducible refine (spec_voWins.calls k a0_0 _ _ l0_1 t39 _ ?side1 ?side2 A6.out).mono ?_
  (case side1=>exact qcs HR0_1.out HB.out)
  (case side2=>exact HC0_1.out)
  rintro e w14 ⟨v40,rfl,ho0,hb⟩
  refine ⟨_,rfl,?_⟩;have HO41:=aM (Kd.R_lower ho0 (below_size bw));replace BK37:=aM (bB BK37.out hb);replace HB:=aM (below_step bw hb);(try clear hb)
  (try clear ho0)
  obtain ⟨Ao15,co15,eo15⟩:=Kd.R_slice HO41.out;(first|subst eo15|(injection eo15 with f1_ f2_ f3_;have f4_:=f1_.symm;have f5_:=f3_.symm;clear f1_ f2_ f3_;subst f4_;subst f5_))
  refine hK.out _ _ ⟨(blk_cell BK37.out 0).trans rfl,(blk_cell BK37.out 1).trans rfl⟩ (fun hHeld=>?_);clear hK K;refine nM 18 ?_;refine oN 5 (some 22) HT_.out fun K hK=>?_
  refine gC Tryz.func29 #[.slice Ao15 t39.length co15,.int .i64 (l0_1.length:Int)] ?_
  with_reducible refine (spec_pwCounts.calls k _ _ t39 (l0_1.length:Int) t42 _ ?side1 ?side2 A7.out).mono ?_
  (case side1=>exact qc (Kd.R_reads' HO41.out).2.2)
  (case side2=>exact (Kd.R_reads' HO41.out).2.1)
  rintro e w16 ⟨v43,rfl,ho0,hb⟩
  refine ⟨_,rfl,?_⟩;replace HO41:=aM (Kd.R_below (qra HO41.out) hb);have HO44:=aM (Kd.R_lower ho0 (below_size bw));replace BK37:=aM (bB BK37.out hb);replace HB:=aM (below_step bw hb);(try clear hb)
  (try clear ho0)
  refine hK.out _ _ ⟨(blk_cell BK37.out 0).trans rfl,(blk_cell BK37.out 1).trans rfl⟩ (fun hHeld=>?_);clear hK K;refine nM 22 ?_;refine oN 9 (some 26) HT_.out fun K hK=>?_
  refine gC Tryz.func27 #[.agg #[.int .i64 a0_0,.slice A0_1 l0_1.length c0_1],.int .i64 a1,.int .i64 a2] ?_
  with_reducible refine (spec_unQuarrel.calls k a0_0 _ _ l0_1 a1 a2 t45 _ ?side1 ?side2 A8.out).mono ?_
  (case side1=>exact qcs HR0_1.out HB.out)
  (case side2=>exact HC0_1.out)
  rintro e w17 ⟨v46,rfl,ho0,hb⟩
  refine ⟨_,rfl,?_⟩;replace HO44:=aM (Kd.R_below (qra HO44.out) hb);have HO47:=aM (Kd.R_lower (Kd.R_new' ho0 (Kd.R_lt (qra HO41.out))) (below_size bw));replace HO41:=aM (Kd.R_elder' (qra HO41.out) (Kd.R_base ho0) hb);replace BK37:=aM (bB BK37.out hb);replace HB:=aM (below_step bw hb);(try clear hb)
  (try clear ho0)
  obtain ⟨Ao18,co18,eo18⟩:=Kd.R_slice HO47.out;(first|subst eo18|(injection eo18 with f1_ f2_ f3_;have f4_:=f1_.symm;have f5_:=f3_.symm;clear f1_ f2_ f3_;subst f4_;subst f5_))
  refine hK.out _ _ ⟨(blk_cell BK37.out 0).trans rfl,(blk_cell BK37.out 1).trans rfl⟩ (fun hHeld=>?_);clear hK K;refine nM 26 ?_;refine oN 13 (some 30) HT_.out fun K hK=>?_
  refine gC Tryz.func29 #[.slice Ao18 t45.length co18,.int .i64 (l0_1.length:Int)] ?_
  with_reducible refine (spec_pwCounts.calls k _ _ t45 (l0_1.length:Int) t48 _ ?side1 ?side2 A9.out).mono ?_
  (case side1=>exact qc (Kd.R_reads' HO47.out).2.2)
  (case side2=>exact (Kd.R_reads' HO47.out).2.1)
  rintro e w19 ⟨v49,rfl,ho0,hb⟩
  refine ⟨_,rfl,?_⟩;replace HO41:=aM (Kd.R_below (qra HO41.out) hb);replace HO47:=aM (Kd.R_below (qra HO47.out) hb);have HO50:=aM (Kd.R_lower (Kd.R_new' ho0 (Kd.R_lt (qra HO44.out))) (below_size bw));replace HO44:=aM (Kd.R_elder' (qra HO44.out) (Kd.R_base ho0) hb);replace BK37:=aM (bB BK37.out hb);replace HB:=aM (below_step bw hb);(try clear hb)
  (try clear ho0)
  refine hK.out _ _ ⟨(blk_cell BK37.out 0).trans rfl,(blk_cell BK37.out 1).trans rfl⟩ (fun hHeld=>?_);clear hK K;refine nM 30 ?_;refine pT 14 8 HT_.out ?_;refine pT 15 9 HT_.out ?_;refine done_ (done_of HT_.out kR) ?_;have hcz20_0:=cz BK37.out 0;have hcz20_1:=cz BK37.out 1;have hfz20_0:=blk_frozen BK37.out 0;have hfz20_1:=blk_frozen BK37.out 1
  try go_wp2
  go_loopg [10,34] k (fun kq v10 v34 w'=>∃ (x10_1:List Int) (x34_1:Int),v34 = .int .i64 x34_1 ∧ Aside0 (spec_QuarrelHelps.l0 kq t42 t48 x10_1 (l0_1.length:Int) x34_1 = some (r1,r2)) ∧ Aside0 (kq ≤ k) ∧ Aside0 (Kd.R (Kd.int .i64) 3 w' w.heap.size (fun k_=>some k_ ≠ (v49:Value).ownBlock ∧ some k_ ≠ (v10:Value).ownBlock) v43 t42) ∧ Aside0 (Kd.R (Kd.int .i64) 3 w' w.heap.size (fun k_=>some k_ ≠ (v43:Value).ownBlock ∧ some k_ ≠ (v10:Value).ownBlock) v49 t48) ∧ Aside0 (Kd.R (Kd.int .i64) 3 w' w.heap.size (fun k_=>some k_ ≠ (v43:Value).ownBlock ∧ some k_ ≠ (v49:Value).ownBlock) v10 x10_1) ∧ Aside0 (w'.heap[gb37]? = some (.cells #[.int .i64 a0_0,(.slice A0_1 l0_1.length c0_1)] 24 (0,0))) ∧ Aside0 (Below w.heap.size w w'))
  case atStart=>exact ⟨(([]:List Int)),(0),qrs,H',⟨Nat.le_refl _⟩,⟨by (with_reducible repeat (first|apply Kd.R_alloc|apply Kd.R_drewN|apply Kd.R_drew));exact Kd.R_mono HO44.out (fun _ hk=>⟨hk.2,(by simp [Value.ownBlock])⟩)⟩,⟨by (with_reducible repeat (first|apply Kd.R_alloc|apply Kd.R_drewN|apply Kd.R_drew));exact Kd.R_mono HO50.out (fun _ hk=>⟨hk.2,(by simp [Value.ownBlock])⟩)⟩,⟨by first|exact Kd.R_nil _ _ _ _ _|exact Kd.N_nil _ _ _ _ _|exact Kd.V_nil _ _ _ _ _|exact Kd.Q_nil _ _ _ _ _|exact Kd.S_nil _ _ _ _ _⟩,⟨bk1 BK37.out⟩,⟨by exact bw⟩⟩
  case round =>
   clear H';(try clear c5);(try clear hcz11_0);(try clear hcz11_1);(try clear hcz20_0);(try clear hcz20_1);(try clear hfz11_0);(try clear hfz11_1);(try clear hfz20_0);(try clear hfz20_1)
   obtain ⟨x10_1,x34_1,rfl,HA,HK1,HO_8,HO_9,HO_10,BK37,HB⟩:=hrel
   cases gk with
   | zero=>exact absurd HA.out (by simp [spec_QuarrelHelps.l0])
   | succ k1 =>
    have H:=HA.out;clear HA;simp only [spec_QuarrelHelps.l0] at H;by_cases c21:x34_1 < (l0_1.length:Int)
    ·rw [if_pos c21] at H;have c21b0:=decide_eq_true c21;clear c21;replace H:=iN H;obtain ⟨c22,H⟩:=H;have c22b0:decide (0 ≤ x34_1) = true:=decide_eq_true c22;clear c22;replace H:=iN H;obtain ⟨c23,H⟩:=H;have c23b0:decide (x34_1 < (t48.length:Int)) = true:=decide_eq_true c23;clear c23;replace H:=iN H;obtain ⟨c24,H⟩:=H;have c24b0:decide (x34_1 < (t42.length:Int)) = true:=decide_eq_true c24;clear c24;by_cases c25:(rd t48 x34_1) > (rd t42 x34_1)
     ·rw [if_pos c25] at H;have c25b0:decide ((rd t42 x34_1) < (rd t48 x34_1)) = true:=decide_eq_true c25;clear c25;replace H:=iN H;obtain ⟨c26,H⟩:=H;have LMc26:=aM c26;clear c26;obtain ⟨y53,hy53⟩:∃ y_:List Int,y_ = (x10_1 ++ [x34_1]):=⟨_,rfl⟩;replace H:(spec_QuarrelHelps.l0 k1 t42 t48 y53 (l0_1.length:Int) (wrap64 (x34_1 + 1))) = some (r1,r2):=yR hy53 H;have Ny53:=aM hy53;clear hy53;have H':=aM H;clear H
      try go_wp2
      replace HO_8:=aM (Kd.R_drew HO_8.out);replace HO_9:=aM (Kd.R_drew HO_9.out);replace HO_10:=aM (Kd.R_drew HO_10.out);replace BK37:=aM (blk_drew BK37.out);replace HB:=aM (below_drew1 HB.out);obtain ⟨Ao28,co28,eo28⟩:=Kd.R_slice HO_9.out;(first|subst eo28|(injection eo28 with f1_ f2_ f3_;have f4_:=f1_.symm;have f5_:=f3_.symm;clear f1_ f2_ f3_;subst f4_;subst f5_))
      have p51:0 ≤ (x34_1:Int):=of_decide_eq_true ab;have q51:x34_1 < (t48.length:Int):=of_decide_eq_true ab;obtain ⟨ad51,e51,hx51_0⟩:=Kd.at_int (Kd.R_reads' HO_9.out).2.2 x34_1 p51 q51;cases e51
      replace p51:=eq_true p51;replace q51:=eq_true q51;obtain ⟨Ao29,co29,eo29⟩:=Kd.R_slice HO_8.out;(first|subst eo29|(injection eo29 with f1_ f2_ f3_;have f4_:=f1_.symm;have f5_:=f3_.symm;clear f1_ f2_ f3_;subst f4_;subst f5_))
      have p52:0 ≤ (x34_1:Int):=of_decide_eq_true ab;have q52:x34_1 < (t42.length:Int):=of_decide_eq_true ab;obtain ⟨ad52,e52,hx52_0⟩:=Kd.at_int (Kd.R_reads' HO_8.out).2.2 x34_1 p52 q52;cases e52
      replace p52:=eq_true p52;replace q52:=eq_true q52;refine start_ (n:=9) (S:=fun w'=>w'.cell? (ad51.add (x34_1).toNat) = some (.int .i64 (rd t48 x34_1)) ∧ w'.cell? (ad52.add (x34_1).toNat) = some (.int .i64 (rd t42 x34_1))) (ds:=[]) (mA 9 0) kR rfl rfl ⟨hx51_0,hx52_0⟩ (fun hHeld=>?_);refine with_tabW spec_QuarrelHelps.tab8 spec_QuarrelHelps.bits8 (fun HT_ HW_=>?_)
      generalize wr.drew = w27 at HO_8 HO_9 HO_10 BK37 HB hx51_0 hx52_0 hHeld ⊢
      refine pT 0 37 HT_.out ?_;refine pT 1 38 HT_.out ?_;refine pT 2 39 HT_.out ?_;refine pT 4 41 HT_.out ?_;refine pT 5 42 HT_.out ?_;refine pT 6 43 HT_.out ?_;refine pK 3 40 HT_.out HW_.out hHeld ?_;refine pK 7 44 HT_.out HW_.out hHeld ?_;refine pT 8 45 HT_.out ?_;refine done_ (done_of HT_.out kR) ?_
      try go_wp2_with (first|((with_reducible refine gate_builtin (b:=.append) (xs:=#[.tmp 46,.tmp 48]) rfl ?_);at_builtin;refine Kd.R_append (Kd.int .i64) (w0:=w) w.heap.size rfl (.tmp 46) (.tmp 48) 22 3 (.int .i64 0) 8 rfl Tryz.underlying22 info3 rfl (by decide) (by omega) u10 x10_1 x34_1 [.int .i64 x34_1] (fun k_=>some k_ ≠ (.slice (some ad52) t42.length co29:Value).ownBlock ∧ some k_ ≠ (.slice (some ad51) t48.length co28:Value).ownBlock) (fun _=>False) rfl rfl ?aP (fun _ hk=>hk.elim) ?aF ?aO ?aB ?aS ?aL ?_;(case aP=>exact rfl);(case aB=>exact bw);(case aF=>exact (fun k_ hk=>⟨Kd.fresh' (Kd.R_lt (qra HO_8.out)) k_ hk,Kd.fresh' (Kd.R_lt (qra HO_9.out)) k_ hk⟩));(case aO=>exact (qra HO_10.out));(case aS=>exact (below_size bw));(case aL=>have:=LMc26.out;omega);intro v54 w30 ho hb hg hat;rw [← Ny53.out] at ho;replace HO_8:=aM (Kd.R_after (ok:=(fun k_=>some k_ ≠ (.slice (some ad51) t48.length co28:Value).ownBlock)) (qra HO_8.out) hg hat);replace HO_9:=aM (Kd.R_after (ok:=(fun k_=>some k_ ≠ (.slice (some ad52) t42.length co29:Value).ownBlock)) (qra HO_9.out) hg hat);replace BK37:=aM (bH BK37.out hg (Kd.R_ne HO_10.out BK37.out (by decide)));replace HB:=aM (hb);have HO55:=aM (ho);clear HO_10;clear ho hb hg hat))
      go_roundg k1
      case measure=>have:=HK1.out;omega
      case rel=>exact ⟨(y53),(wrap64 (x34_1 + 1)),qrs,H',⟨by have:=HK1.out;omega⟩,⟨qra HO_8.out⟩,⟨qra HO_9.out⟩,⟨qra HO55.out⟩,⟨bk1 BK37.out⟩,⟨by exact bw⟩⟩
     ·rw [if_neg c25] at H;have c25b0:decide ((rd t42 x34_1) < (rd t48 x34_1)) = false:=decide_eq_false c25;clear c25;have H':=aM H;clear H
      try go_wp2
      replace HO_8:=aM (Kd.R_drew HO_8.out);replace HO_9:=aM (Kd.R_drew HO_9.out);replace HO_10:=aM (Kd.R_drew HO_10.out);replace BK37:=aM (blk_drew BK37.out);replace HB:=aM (below_drew1 HB.out);obtain ⟨Ao32,co32,eo32⟩:=Kd.R_slice HO_9.out;(first|subst eo32|(injection eo32 with f1_ f2_ f3_;have f4_:=f1_.symm;have f5_:=f3_.symm;clear f1_ f2_ f3_;subst f4_;subst f5_))
      have p51:0 ≤ (x34_1:Int):=of_decide_eq_true ab;have q51:x34_1 < (t48.length:Int):=of_decide_eq_true ab;obtain ⟨ad51,e51,hx51_0⟩:=Kd.at_int (Kd.R_reads' HO_9.out).2.2 x34_1 p51 q51;cases e51
      replace p51:=eq_true p51;replace q51:=eq_true q51;obtain ⟨Ao33,co33,eo33⟩:=Kd.R_slice HO_8.out;(first|subst eo33|(injection eo33 with f1_ f2_ f3_;have f4_:=f1_.symm;have f5_:=f3_.symm;clear f1_ f2_ f3_;subst f4_;subst f5_))
      have p52:0 ≤ (x34_1:Int):=of_decide_eq_true ab;have q52:x34_1 < (t42.length:Int):=of_decide_eq_true ab;obtain ⟨ad52,e52,hx52_0⟩:=Kd.at_int (Kd.R_reads' HO_8.out).2.2 x34_1 p52 q52;cases e52
      replace p52:=eq_true p52;replace q52:=eq_true q52;refine start_ (n:=9) (S:=fun w'=>w'.cell? (ad51.add (x34_1).toNat) = some (.int .i64 (rd t48 x34_1)) ∧ w'.cell? (ad52.add (x34_1).toNat) = some (.int .i64 (rd t42 x34_1))) (ds:=[]) (mA 9 0) kR rfl rfl ⟨hx51_0,hx52_0⟩ (fun hHeld=>?_);refine with_tabW spec_QuarrelHelps.tab8 spec_QuarrelHelps.bits8 (fun HT_ HW_=>?_)
      generalize wr.drew = w31 at HO_8 HO_9 HO_10 BK37 HB hx51_0 hx52_0 hHeld ⊢
      refine pT 0 37 HT_.out ?_;refine pT 1 38 HT_.out ?_;refine pT 2 39 HT_.out ?_;refine pT 4 41 HT_.out ?_;refine pT 5 42 HT_.out ?_;refine pT 6 43 HT_.out ?_;refine pK 3 40 HT_.out HW_.out hHeld ?_;refine pK 7 44 HT_.out HW_.out hHeld ?_;refine pT 8 45 HT_.out ?_;refine done_ (done_of HT_.out kR) ?_
      try go_wp2
      go_roundg k1
      case measure=>have:=HK1.out;omega
      case rel=>exact ⟨(x10_1),(wrap64 (x34_1 + 1)),qrs,H',⟨by have:=HK1.out;omega⟩,⟨qra HO_8.out⟩,⟨qra HO_9.out⟩,⟨qra HO_10.out⟩,⟨bk1 BK37.out⟩,⟨by exact bw⟩⟩
    ·rw [if_neg c21] at H;have c21b0:=decide_eq_false c21;clear c21;simp only [Option.some.injEq,Prod.mk.injEq] at H;obtain ⟨rfl,rfl⟩:=H;go_wp2
     go_ret2
     exact ⟨_,eE,by (with_reducible repeat (first|apply Kd.R_alloc|apply Kd.R_drewN|apply Kd.R_drew));exact Kd.R_mono HO_10.out (fun _ hk=>trivial),by exact bw⟩
 ·replace c5:=Bool.eq_false_iff.mpr c5;subst c5;rw [if_neg (show ¬ (false = true) by decide)] at H;simp only [Option.some.injEq,Prod.mk.injEq] at H;obtain ⟨rfl,rfl⟩:=H;go_enter Tryz.func9,Tryz.ntmps9;go_wp2_with (first|((with_reducible refine gate_dst (N:=3) rfl ?_);refine bE 3 #[.int .i64 a0_0,.slice A0_1 l0_1.length c0_1] 24 ?_;intro gb37 hg w34 hbox hb;have BK37:=aM (hbox);have GW37:=aM (gS hg);have GE37:=aM (gS hg);replace HB:=aM (below_step bw hb);clear hb hbox hg;have hcz35_0:=cz BK37.out 0;have hcz35_1:=cz BK37.out 1;have hfz35_0:=blk_frozen BK37.out 0;have hfz35_1:=blk_frozen BK37.out 1)|((with_reducible refine gate_callee (f:=25) rfl ?_);refine gL 15 Tryz.func25 #[.agg #[.int .i64 a0_0,.slice A0_1 l0_1.length c0_1],.int .i64 a1,.int .i64 a2] ?_;(with_reducible refine (spec_unPair.calls k a0_0 _ _ l0_1 a1 a2 false _ ?side1 ?side2 A4.out).mono ?_);(case side1=>exact qcs HR0_1.out HB.out);(case side2=>exact HC0_1.out);rintro e w36 ⟨rfl,hb⟩;refine ⟨_,rfl,?_⟩;replace BK37:=aM (bB BK37.out hb);replace HB:=aM (below_step bw hb);(try clear hb);(try clear hk)))
  go_ret2
  exact ⟨_,eE,by first|exact Kd.R_nil _ _ _ _ _|exact Kd.N_nil _ _ _ _ _|exact Kd.V_nil _ _ _ _ _|exact Kd.Q_nil _ _ _ _ _|exact Kd.S_nil _ _ _ _ _,by exact bw⟩


def laws_zSame.l0:Nat → List Int → List Int → Int → Int → Option (Bool)
 | 0,_,_,_,_=>none
 | k + 1,x0,x1,x12,x13=>if x13 < x12 then (if 0 ≤ x13 then (if x13 < (x0.length:Int) then (if x13 < (x1.length:Int) then (if (rd x0 x13) = (rd x1 x13) then (laws_zSame.l0 k x0 x1 x12 (wrap64 (x13 + 1))) else (some false)) else (none)) else (none)) else (none)) else (some true)
def laws_zSame.f (k:Nat) (l0:List Int) (l1:List Int):Option (Bool):=if (l0.length:Int) = (l1.length:Int) then (laws_zSame.l0 k l0 l1 (l0.length:Int) 0) else (some false)
theorem laws_zSame.calls (k:Nat) (A0:Option Addr) (c0:Nat) (l0:List Int) (A1:Option Addr) (c1:Nat) (l1:List Int) (r:Bool) (w:World) (hr0:Kd.C (Kd.int .i64) w A0 l0.length l0) (hc0:l0.length ≤ c0) (hr1:Kd.C (Kd.int .i64) w A1 l1.length l1) (hc1:l1.length ≤ c1) (h:laws_zSame.f k l0 l1 = some r) :
  Calls Tryz.prog 10 #[.slice A0 l0.length c0,.slice A1 l1.length c1] w fun e w'=>e = .returned (.bool r) ∧ Drawn0 w w':=by
 have HR0:=aM hr0;have HC0:=aM hc0;clear hr0 hc0;have HR1:=aM hr1;have HC1:=aM hc1;clear hr1 hc1;have H:(if (l0.length:Int) = (l1.length:Int) then (laws_zSame.l0 k l0 l1 (l0.length:Int) 0) else (some false)) = some r:=h;clear h;by_cases c3:(l0.length:Int) = (l1.length:Int)
 ·rw [if_pos c3] at H;have c3b0:((l0.length:Int) == (l1.length:Int)) = true:=beq_iff_eq.mpr c3;have c3b1:((l0.length:Int) != (l1.length:Int)) = false:=bne_eq_false_iff_eq.mpr c3;have c3b2:(l0.length == l1.length) = true:=by first|simpa using c3|(simp at c3 ⊢;omega)
  clear c3;have H':=aM H;clear H;go_enter Tryz.func10,Tryz.ntmps10;go_wp2
  repeat (go_quiet (fail);try go_wp2)
  go_loopg [13] k (fun kq v13 w'=>∃ (x13_1:Int),v13 = .int .i64 x13_1 ∧ Aside0 (laws_zSame.l0 kq l0 l1 (l0.length:Int) x13_1 = some r) ∧ Aside0 (kq ≤ k) ∧ Drawn0 w w')
  case atStart=>exact ⟨(0),qrs,H',⟨Nat.le_refl _⟩,by repeat (first|exact Drawn0.refl _|apply Drawn0.step)⟩
  case round =>
   clear H';(try clear c1);(try clear c3);(try clear c3b0);(try clear c3b1);(try clear c3b2)
   obtain ⟨x13_1,rfl,HA,HK1,⟨m1,rfl⟩⟩:=hrel
   cases gk with
   | zero=>exact absurd HA.out (by simp [laws_zSame.l0])
   | succ k1 =>
    have H:=HA.out;clear HA;simp only [laws_zSame.l0] at H;by_cases c4:x13_1 < (l0.length:Int)
    ·rw [if_pos c4] at H;have c4b0:=decide_eq_true c4;clear c4;replace H:=iN H;obtain ⟨c5,H⟩:=H;have c5b0:decide (0 ≤ x13_1) = true:=decide_eq_true c5;clear c5;replace H:=iN H;obtain ⟨c6,H⟩:=H;have c6b0:decide (x13_1 < (l0.length:Int)) = true:=decide_eq_true c6;clear c6;replace H:=iN H;obtain ⟨c7,H⟩:=H;have c7b0:decide (x13_1 < (l1.length:Int)) = true:=decide_eq_true c7;clear c7;by_cases c8:(rd l0 x13_1) = (rd l1 x13_1)
     ·rw [if_pos c8] at H;have c8b0:((rd l0 x13_1) == (rd l1 x13_1)) = true:=beq_iff_eq.mpr c8;have c8b1:((rd l0 x13_1) != (rd l1 x13_1)) = false:=bne_eq_false_iff_eq.mpr c8;clear c8;have H':=aM H;clear H;have p9:0 ≤ (x13_1:Int):=of_decide_eq_true ab;have q9:x13_1 < (l0.length:Int):=of_decide_eq_true ab;obtain ⟨ad9,e9,hx9_0⟩:=Kd.at_int HR0.out x13_1 p9 q9;cases e9
      replace p9:=eq_true p9;replace q9:=eq_true q9;have p11:0 ≤ (x13_1:Int):=of_decide_eq_true ab;have q11:x13_1 < (l1.length:Int):=of_decide_eq_true ab;obtain ⟨ad11,e11,hx11_0⟩:=Kd.at_int HR1.out x13_1 p11 q11;cases e11
      replace p11:=eq_true p11;replace q11:=eq_true q11;go_wp2
      repeat (go_quiet (fail);try go_wp2)
      go_roundg k1
      case measure=>have:=HK1.out;omega
      case rel=>exact ⟨(wrap64 (x13_1 + 1)),qrs,H',⟨by have:=HK1.out;omega⟩,by repeat (first|exact Drawn0.refl _|apply Drawn0.step)⟩
     ·rw [if_neg c8] at H;have c8b0:((rd l0 x13_1) == (rd l1 x13_1)) = false:=beq_eq_false_iff_ne.mpr c8;have c8b1:((rd l0 x13_1) != (rd l1 x13_1)) = true:=bne_iff_ne.mpr c8;obtain rfl:=Option.some.inj H;have p9:0 ≤ (x13_1:Int):=of_decide_eq_true ab;have q9:x13_1 < (l0.length:Int):=of_decide_eq_true ab;obtain ⟨ad9,e9,hx9_0⟩:=Kd.at_int HR0.out x13_1 p9 q9;cases e9
      replace p9:=eq_true p9;replace q9:=eq_true q9;have p11:0 ≤ (x13_1:Int):=of_decide_eq_true ab;have q11:x13_1 < (l1.length:Int):=of_decide_eq_true ab;obtain ⟨ad11,e11,hx11_0⟩:=Kd.at_int HR1.out x13_1 p11 q11;cases e11
      replace p11:=eq_true p11;replace q11:=eq_true q11;go_wp2
      repeat (go_quiet (fail);try go_wp2)
      go_ret
      exact ⟨qrs,dR⟩
    ·rw [if_neg c4] at H;have c4b0:=decide_eq_false c4;clear c4;obtain rfl:=Option.some.inj H;go_wp2
     repeat (go_quiet (fail);try go_wp2)
     go_ret
     exact ⟨qrs,dR⟩
 ·rw [if_neg c3] at H;have c3b0:((l0.length:Int) == (l1.length:Int)) = false:=beq_eq_false_iff_ne.mpr c3;have c3b1:((l0.length:Int) != (l1.length:Int)) = true:=bne_iff_ne.mpr c3;have c3b2:(l0.length == l1.length) = false:=by first|simpa using c3|(simp at c3 ⊢;omega)
  obtain rfl:=Option.some.inj H;go_enter Tryz.func10,Tryz.ntmps10;go_wp2
  repeat (go_quiet (fail);try go_wp2)
  go_ret
  exact ⟨qrs,dR⟩

end Go.Proofs.YtflkfbjmlacgcaaGreat.P
