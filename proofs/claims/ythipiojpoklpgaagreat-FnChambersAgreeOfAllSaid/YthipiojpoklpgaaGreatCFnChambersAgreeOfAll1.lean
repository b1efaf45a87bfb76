/- Part 1 of the texts below the law FnChambersAgreeOfAll. Printed by this session's driver over the kit's printer, but for the hand contracts and the plain laws. -/
import Derived.Below
import Derived.Tactics
import Derived.WalkKit
import Derived.KernelRfl
import Derived.Deep.LoopGhost
import Derived.Shelf.Abstract
import Derived.Lib.SliceRun
import Derived.Test.YthipiojpoklpgaaGreatProg
import Derived.Deep.Draws
import Derived.Deep.AppendLies
import Derived.Maps.AppendAt
import Derived.OwnWalk
import Derived.Laws.BytesArg
import Derived.Laws.MakeOwn
import Derived.Laws.OwnMore
import Derived.Deep.OwnRows
import Derived.Lib.ConvBytes
import Derived.Laws.Slices
import Derived.RowKit3
import Derived.Deep.QuietTactic
import Derived.BigQuiet
import Derived.WideLaws
import Derived.Deep.DeepCutAuto
import Derived.Deep.CutBlock
import Derived.Deep.RegionHeld3
import Derived.Laws.Rows
import Derived.Lib.AppendStr
import Derived.ArgAppend
import Derived.Laws.IdiomCopy
import Derived.OrdersHeld
import Derived.Laws.BitsLemmas
import Derived.RowKit
import Derived.Test.YthipiojpoklpgaaGreatCFnChambersAgreeOfAll0
set_option linter.unusedVariables false
set_option linter.unusedSimpArgs false
set_option maxHeartbeats 8000000
set_option maxRecDepth 100000
namespace Go.Proofs.YthipiojpoklpgaaGreat.P
open Go.RowKit Go.Proofs.YthipiojpoklpgaaGreatW.PrintWords Go.Proofs.YthipiojpoklpgaaGreatW.PrintLast Go.Proofs.YthipiojpoklpgaaGreatW.PrintMore

theorem l5 {α : Type} (p : α → Bool) (l : List α) : l.all p = !(l.any fun x => !p x) := by
  induction l with
  | nil => rfl
  | cons x l ih => rw [List.all_cons, List.any_cons, ih]; cases p x <;> simp

theorem box_new (w : World) (v : Value) (t : TypeId) : (w.alloc (.cells #[v] t (0, 0))).heap[w.heap.size]? = some (.cells #[v] t (0, 0)) := nJ w _
theorem box_old {w : World} {g : Nat} {o : Obj} (h : w.heap[g]? = some o) (o' : Obj) : (w.alloc o').heap[g]? = some o := by
  exact (Below.heap_alloc w o' g (gB h)).trans h
theorem ej {w W : World} {g : Nat} {o : Obj} (h : w.heap[g]? = some o) (hb : Below w.heap.size w W) : W.heap[g]? = some o := (hb.block g (gB h)).trans h
theorem box_cell {w : World} {g : Nat} {t : TypeId} {v : Value} (h : w.heap[g]? = some (.cells #[v] t (0, 0))) : w.cell? ⟨g, 0, none⟩ = some v := (aE h 0).trans rfl

section
variable {P : Program} {ops : Array Oper} {Q : Exit → Act → World → Prop}
theorem gu {o : Oper} {rest : List Oper} {a : Act} {W : World} {t : Tmp} {ao : Array Operand} {ts : Array TypeId} (_ho : o.op = .call { callee := .value (.tmp t), args := ao, argTypes := ts }) (h : wpList P ops Q (o :: rest) a W) : wpList P ops Q (o :: rest) a W := h
theorem run_fn {oi : Oper} {a : Act} {w : World} {g : FuncId} {lb : Array Value} {t : Tmp} {ao : Array Operand} {ts : Array TypeId} (eg : ∀ (args : Array Value) (w : World), (callFunc g args).run P w = .ok (.enter g args) w) (args : Array Value)
    (hop : oi.op = .call { callee := .value (.tmp t), args := ao, argTypes := ts }) (hfn : a.eval (.tmp t) = .func (.func g) #[] lb) (hargs : ao.map a.eval = args) : (execOp a.eval oi).run P w = .ok (.enter g (args ++ lb)) w := by
  unfold execOp
  simp [hop, resolve, Deferred.ofValue, invoke, hfn, hargs, eg]
theorem gJ {rest : List Oper} {oi : Oper} {a : Act} {w : World} (N : Option Tmp) (hd : oi.dst = N) (hg : oi.guard = none) {g : FuncId} {lb : Array Value} {t : Tmp} {ao : Array Operand} {ts : Array TypeId} (eg : ∀ (args : Array Value) (w : World), (callFunc g args).run P w = .ok (.enter g args) w) (args : Array Value)
    (hop : oi.op = .call { callee := .value (.tmp t), args := ao, argTypes := ts }) (hfn : a.eval (.tmp t) = .func (.func g) #[] lb) (hargs : ao.map a.eval = args)
    (h : Calls P g (args ++ lb) w fun e w' => ∃ v, e = .returned v ∧ wpList P ops Q rest (a.put N v) w') : wpList P ops Q (oi :: rest) a w := by
  refine wpList_plain hg fun K hK => ?_
  have hrun := run_fn (w := w) eg args hop hfn hargs
  unfold Oper.wp
  rw [hrun, Oper.upon_enter]
  refine h.mono fun e w'' hh => ?_
  obtain ⟨v, rfl, hk⟩ := hh
  subst hd
  exact hK _ _ hk
theorem goesFr_ {oi : Oper} {N : Option Tmp} {a : Act} {w : World} {K : Act → World → Prop} {g : FuncId} {lb : Array Value} {t : Tmp} {ao : Array Operand} {ts : Array TypeId} (eg : ∀ (args : Array Value) (w : World), (callFunc g args).run P w = .ok (.enter g args) w) (args : Array Value)
    (hw : Region.wanted oi (yielded ops a.tmps) = true) (hN : oi.dst = N) (hop : oi.op = .call { callee := .value (.tmp t), args := ao, argTypes := ts }) (hfn : a.eval (.tmp t) = .func (.func g) #[] lb) (hargs : ao.map a.eval = args)
    (h : Calls P g (args ++ lb) w fun e w' => ∃ v, e = .returned v ∧ K (a.put N v) w') : if Region.wanted oi (yielded ops a.tmps) = true then Oper.wp P oi a w K Q else K (a.put N undef) w :=
  call_ g (args ++ lb) hw hN (run_fn eg args hop hfn hargs) h
end
theorem S_split {α : Type} {d : Kd α} {e : Nat} {W w1 : World} {v : Value} {xs : List α} (h : Kd.S d e w1 W.heap.size (fun _ => True) v xs) : ∃ n, n = W.heap.size ∧ Kd.S d e w1 W.heap.size (fun k_ => n ≤ k_) v xs := ⟨_, rfl, Kd.eT (Kd.fC h) (fun _ hk => hk.2.1)⟩
theorem S_elderN {α : Type} {d : Kd α} {e base n : Nat} {ok : Nat → Prop} {W w1 : World} {u : Value} {xs : List α} (h : Kd.S d e W base ok u xs) (hb : Below W.heap.size W w1) (hn : n = W.heap.size) : Kd.S d e w1 base (fun k_ => ok k_ ∧ k_ < n) u xs := by subst hn; exact Kd.S_old h hb
theorem drop_cons {α : Type} (l : List α) (d : α) (i : Nat) (h : i < l.length) : l.drop i = l.getD i d :: l.drop (i + 1) := by
  rw [List.drop_eq_getElem_cons h, List.getD_eq_getElem?_getD, List.getElem?_eq_getElem h]; rfl

theorem iN {p : Prop} [Decidable p] {α : Type} {x : Option α} {r : α} (H : (if p then x else none) = some r) : p ∧ x = some r := by
  by_cases h : p
  · rw [if_pos h] at H; exact ⟨h, H⟩
  · rw [if_neg h] at H; cases H
theorem iM {p : Prop} [Decidable p] {α : Type} {x : Option α} {r : α} (H : (if p then none else x) = some r) : ¬ p ∧ x = some r := by
  by_cases h : p
  · rw [if_pos h] at H; cases H
  · rw [if_neg h] at H; exact ⟨h, H⟩
theorem dN {p : Prop} [Decidable p] {x y : Option Bool} {r : Bool} (H : (if p then x else y) = some r) (hr : r = true) (hy : ¬ y = some true := by simp) : p ∧ x = some r := by
  subst hr
  by_cases h : p
  · rw [if_pos h] at H; exact ⟨h, H⟩
  · rw [if_neg h] at H; exact absurd H hy
theorem dM {p : Prop} [Decidable p] {x y : Option Bool} {r : Bool} (H : (if p then y else x) = some r) (hr : r = true) (hy : ¬ y = some true := by simp) : ¬ p ∧ x = some r := by
  subst hr
  by_cases h : p
  · rw [if_pos h] at H; exact absurd H hy
  · rw [if_neg h] at H; exact ⟨h, H⟩

/-- Short names of the printed walks' own searches: each is proved by its own default. -/
theorem bw {p : Prop} (h : p := by repeat (first | (with_reducible first | exact aj.out (by assumption) | apply cg | apply bN | apply bg | refine cY ?_ (aj.out (by assumption))) | exact aj.out (by assumption))) : p := h
theorem bk {p : Prop} (h : p := by (with_reducible repeat (first | refine ax ?_ _ | refine an ?_ | refine au ?_ _)); exact aj.out (by assumption)) : p := h
theorem mq {p : Prop} (h : p := by (try simp only [List.map_toArray, List.map_cons, List.map_nil]); first | done | rfl | (simp only [List.length_drop, List.length_take]; rfl)) : p := h
theorem ab {p : Prop} (h : p := by first | (with_reducible assumption) | assumption) : p := h
theorem sA {α : Type _} (l : List α) (i : Nat) (a : α) : l.toArray.setIfInBounds i a = (l.set i a).toArray := List.setIfInBounds_toArray ..
theorem sZ {α : Type _} {x : α} {xs : List α} {a : α} : (x :: xs).set 0 a = a :: xs := rfl
theorem sS {α : Type _} {x : α} {xs : List α} {i : Nat} {a : α} : (x :: xs).set (i + 1) a = x :: xs.set i a := rfl
theorem qra {p q : Prop} (h : p) (hh : p → q := by intro h; (with_reducible repeat (first | apply Kd.ca | apply Kd.b7 | apply Kd.cu)); exact h) : q := hh h
theorem qsa {p q : Prop} (h : p) (hh : p → q := by intro h; (with_reducible repeat (first | apply Kd.ez | apply Kd.eh | apply Kd.fb)); exact h) : q := hh h
theorem qcs {p r q : Prop} (h : p) (b : r) (hh : p → r → q := by intro h b; repeat (first | exact (Kd.cA h b) | (with_reducible refine Kd.eI ?_ _) | (with_reducible refine Kd.eJ ?_ _) | (with_reducible refine Kd.fB ?_))) : q := hh h b
theorem qrs {p : Prop} (h : p := by first | rfl | (simp; done) | (simp [*]; done)) : p := h
/-- What has come up in a region, by a number's bits. -/
def mbits : Nat → Nat → List Bool
  | 0, _ => []
  | n + 1, k => (k % 2 == 1) :: mbits n (k / 2)
def mA (n k : Nat) : Array Bool := (mbits n k).toArray
theorem aM {p : Prop} (h : p) : aj p := ⟨h⟩
theorem kR {p : Prop} (h : p := by kernel_rfl) : p := h
section
variable {P : Program} {md : Region.Mode} {ops : Array Oper} {Q : Exit → Act → World → Prop} {S : World → Prop} {ds : List Nat} {T : Bool × List (List Nat × List Nat)} {n k fuel : Nat} {oi : Oper} {v : Value} {a a' : Act} {w : World}
/-- A step of a drawing region that yields in every world. -/
theorem pT (i N : Nat) (hT : il md ops = T) (h : bJ P md ops Q S ds fuel (mA n (k + 2 ^ i)) a' w) (hi : ops[i]? = some oi := by rfl) (hN : oi.dst = some N := by rfl) (hc : anyT T (mA n k).toList (mA n (k + 2 ^ i)).toList i = true := by kernel_rfl)
    (hQ : ∀ c a w, Q (.panic c) (a.put oi.dst v) w → Q (.panic c) a w := by intro _ _ _ h; exact h) (hy : Yields P ops oi v a := by refine Or.inl ⟨by rfl, ?_⟩; intro w'; go_simp; with_reducible rfl)
    (ha : a.put (some N) v = a' := by simp only [Act.put, sA, sZ, sS, cS, dH]; rfl) : bJ P md ops Q S ds (fuel + 1) (mA n k) a w := fy (mA n (k + 2 ^ i)) hi hN (eY hT hc) hQ hy ha h
theorem pU (i N : Nat) (hT : il md ops = T) (h : bJ P md ops Q S ds fuel (mA n (k + 2 ^ i)) a' w) (hi : ops[i]? = some oi := by rfl) (hN : oi.dst = some N := by rfl) (hc : anyT T (mA n k).toList (mA n (k + 2 ^ i)).toList i = true := by kernel_rfl)
    (hQ : ∀ c a w, Q (.panic c) (a.put oi.dst undef) w → Q (.panic c) a w := by intro _ _ _ h; exact h) (hy : Yields P ops oi undef a := by exact Or.inr ⟨by rfl, rfl⟩)
    (ha : a.put (some N) undef = a' := by simp only [Act.put, sA, sZ, sS, cS, dH]; rfl) : bJ P md ops Q S ds (fuel + 1) (mA n k) a w := fy (mA n (k + 2 ^ i)) hi hN (eY hT hc) hQ hy ha h
end
theorem cz {w : World} {g : Nat} {cs : Array Value} {t : TypeId} {v : Value} (h : w.heap[g]? = some (.cells cs t (0, 0))) (i : Nat) (hv : cs[i]? = some v := by rfl) : w.cell? ⟨g, i, none⟩ = some v := (aE h i).trans hv
theorem bB {w0 w w1 : World} {g : Nat} {o : Obj} (h : w0.heap[g]? = some o) (hb : Below w.heap.size w w1) (e : w0.heap[g]? = some o → w.heap[g]? = some o := by intro h; (with_reducible repeat (first | refine ax ?_ _ | refine an ?_ | refine au ?_ _)); exact h) : w1.heap[g]? = some o := fv (e h) hb
theorem gS {w W : World} {g : Nat} (hg : g = W.heap.size) (h : Below w.heap.size w W := by repeat (first | (with_reducible first | exact aj.out (by assumption) | apply cg | apply bN | apply bg | refine cY ?_ (aj.out (by assumption))) | exact aj.out (by assumption))) : w.heap.size ≤ g := by rw [hg]; exact av h
theorem qc {p q : Prop} (h : p) (hh : p → q := by intro h; repeat (first | exact h | (with_reducible refine Kd.eI ?_ _) | (with_reducible refine Kd.eJ ?_ _) | (with_reducible refine Kd.fB ?_))) : q := hh h
theorem eE {p : Prop} (h : p := by first | rfl | (simp [cV, cX] <;> rfl) | (simp [*, cV, cX] <;> rfl)) : p := h
section
variable {P : Program} {ops : Array Oper} {rest : List Oper} {o : Oper} {a : Act} {Q : Exit → Act → World → Prop}
theorem bE {W : World} (N : Nat) (cs : Array Value) (t : TypeId) (h : ∀ g, g = W.heap.size → ∀ w1, w1.heap[g]? = some (.cells cs t (0, 0)) → Below W.heap.size W w1 → wpList P ops Q rest (a.put o.dst (.pointer (some ⟨g, 0, none⟩))) w1) (hgd : o.guard = none := by rfl) (hd : o.dst = some N := by rfl)
    (hrun : (execOp a.eval o).run P W = .ok (.value (.pointer (some ⟨W.heap.size, 0, none⟩))) (W.alloc (.cells cs t (0, 0))) := by first | (go_simp; done) | (go_simp; rfl)) : wpList P ops Q (o :: rest) a W := lB hgd hd hrun h
end
theorem yR {p q r : Prop} (hy : p) (H : q) (h : p → q → r := by intro hy_ H; first | (rw [hy_]; with_reducible exact H) | (have H2_ := (Option.bind_some _ _).symm.trans H; rw [hy_]; with_reducible exact H2_) | (have H2_ := (Option.bind_some _ _).symm.trans H; with_reducible exact H2_) | with_reducible exact H | (rw [hy_]; exact H) | exact H) : r := h hy H
theorem nL {w W : World} {g gb : Nat} {o : Obj} (h : w.heap[g]? = some o) (hg : gb = W.heap.size) (e : w.heap[g]? = some o → W.heap[g]? = some o := by intro h; (with_reducible repeat (first | refine ax ?_ _ | refine an ?_ | refine au ?_ _)); exact h) : g ≠ gb := by rw [hg]; exact Nat.ne_of_lt (gB (e h))
theorem nR {w W : World} {g gb : Nat} {o : Obj} (h : w.heap[g]? = some o) (hg : gb = W.heap.size) (e : w.heap[g]? = some o → W.heap[g]? = some o := by intro h; (with_reducible repeat (first | refine ax ?_ _ | refine an ?_ | refine au ?_ _)); exact h) : gb ≠ g := by rw [hg]; exact Nat.ne_of_gt (gB (e h))
theorem dR {p : Prop} (h : p := by repeat (first | exact bi.refl _ | apply bi.step)) : p := h
theorem dW {p : Prop} (h : p := by first | exact ⟨rfl, _, World.drewN_drewN _ _ _⟩ | exact ⟨rfl, _, Eq.trans (World.drewN_drewN _ _ _) (congrArg (World.drewN _) (Nat.add_assoc _ _ _))⟩) : p := h
theorem oB {α β : Type} {x : Option α} {f : α → Option β} {r : β} (H : x.bind f = some r) : ∃ a, aj (x = some a) ∧ f a = some r := by
  obtain ⟨a, h, H⟩ := Option.bind_eq_some_iff.mp H
  exact ⟨a, ⟨h⟩, H⟩
theorem bk1 {p q : Prop} (h : p) (e : p → q := by intro h; (with_reducible repeat (first | refine ax ?_ _ | refine an ?_ | refine au ?_ _)); exact h) : q := e h
section
variable {P : Program} {md : Region.Mode} {ops : Array Oper} {Q : Exit → Act → World → Prop} {S : World → Prop} {ds B : List Nat} {T : Bool × List (List Nat × List Nat)} {n k fuel : Nat} {oi : Oper} {v : Value} {a a' : Act} {w : World} {N : Option Tmp} {f : FuncId} {fn : Func} {ao : Array Operand} {ts : Array TypeId}
theorem pK (i N : Nat) (hT : il md ops = T) (hB : eZ T.2 B = true) (hS : S w) (h : bJ P md ops Q S ds fuel (mA n (k + 2 ^ i)) a' w) (hi : ops[i]? = some oi := by rfl) (hN : oi.dst = some N := by rfl) (hc : takeW T B ds (mA n k).toList (mA n (k + 2 ^ i)).toList i = true := by kernel_rfl)
    (hQ : ∀ c a w, Q (.panic c) (a.put oi.dst v) w → Q (.panic c) a w := by intro _ _ _ h; exact h) (hy : YieldsIf P ops S oi v a := by refine Or.inl ⟨by rfl, ?_⟩; intro w' s0; go_simp; with_reducible rfl)
    (ha : a.put (some N) v = a' := by simp only [Act.put, sA, sZ, sS, cS, dH]; rfl) : bJ P md ops Q S ds (fuel + 1) (mA n k) a w := iO (mA n (k + 2 ^ i)) hi hN (iZ hT hB hc) hQ hy hS ha h
theorem oN (i : Nat) (N : Option Tmp) (hT : il md ops = T) (h : ∀ K : Act → World → Prop, Shut (∀ a' w', S w' → (S w' → bJ P md ops Q S ds fuel (mA n (k + 2 ^ i)) a' w') → K a' w') → if Region.wanted oi (yielded ops a.tmps) = true then Oper.wp P oi a w K Q else K (a.put N undef) w) (hi : ops[i]? = some oi := by rfl) (hN : oi.dst = N := by rfl)
    (hc : (kE T.2 (mA n k).toList == [i] && (mA n k).toList.set i true == (mA n (k + 2 ^ i)).toList) = true := by kernel_rfl) (hd : i ∉ ds := by decide) : bJ P md ops Q S ds (fuel + 1) (mA n k) a w := mf (mA n (k + 2 ^ i)) hi hN (kM hT hc) hd h
theorem gC {K : Act → World → Prop} (hf : P.funcs[f]? = some fn) (args : Array Value) (h : Calls P f args w fun e w' => ∃ v, e = .returned v ∧ K (a.put N v) w') (hop : oi.op = .call { callee := .value (.func f), args := ao, argTypes := ts } := by rfl) (hname : (fn.name == "runtime.NumGoroutine") = false := by kernel_rfl) (hb : fn.body.isSome = true := by rfl) (hw : Region.wanted oi (yielded ops a.tmps) = true := by rfl) (hN : oi.dst = N := by rfl)
    (hargs : ao.map a.eval = args := by (try simp only [List.map_toArray, List.map_cons, List.map_nil]); first | done | rfl | (simp only [List.length_drop, List.length_take]; rfl)) : if Region.wanted oi (yielded ops a.tmps) = true then Oper.wp P oi a w K Q else K (a.put N undef) w := nG hf hname hb args hw hN hop hargs h
theorem gL (N : Nat) {rest : List Oper} (hf : P.funcs[f]? = some fn) (args : Array Value) (h : Calls P f args w fun e w' => ∃ v, e = .returned v ∧ wpList P ops Q rest (a.put (some N) v) w') (hd : oi.dst = some N := by rfl) (hg : oi.guard = none := by rfl) (hop : oi.op = .call { callee := .value (.func f), args := ao, argTypes := ts } := by rfl) (hname : (fn.name == "runtime.NumGoroutine") = false := by kernel_rfl) (hb : fn.body.isSome = true := by rfl)
    (hargs : ao.map a.eval = args := by (try simp only [List.map_toArray, List.map_cons, List.map_nil]); first | done | rfl | (simp only [List.length_drop, List.length_take]; rfl)) : wpList P ops Q (oi :: rest) a w := goesL_ (some N) hd hg hf hname hb args hop hargs h
end
section
variable {w W : World} {n k g i j l : Nat} {t : TypeId} {cs ds cs' : Array Value} {a b c : Value}
theorem sF1 (hW : w.setCell ⟨k, i, none⟩ a = W) (h : w.heap[g]? = some (.cells cs t (0, 0))) (hn : g ≠ k) : W.heap[g]? = some (.cells cs t (0, 0)) := hW ▸ iU h hn _
theorem sF2 (hW : (w.setCell ⟨k, i, none⟩ a).setCell ⟨k, j, none⟩ b = W) (h : w.heap[g]? = some (.cells cs t (0, 0))) (hn : g ≠ k) : W.heap[g]? = some (.cells cs t (0, 0)) := hW ▸ iU (iU h hn _) hn _
theorem sP1 (hW : w.setCell ⟨k, i, none⟩ a = W) (h : w.heap[k]? = some (.cells cs t (0, 0))) (e : cs.setIfInBounds i a = cs' := by simp only [sA, sZ, sS]; rfl) : W.heap[k]? = some (.cells cs' t (0, 0)) := hW ▸ bI h i a e
theorem sP2 (hW : (w.setCell ⟨k, i, none⟩ a).setCell ⟨k, j, none⟩ b = W) (h : w.heap[k]? = some (.cells cs t (0, 0))) (e : (cs.setIfInBounds i a).setIfInBounds j b = cs' := by simp only [sA, sZ, sS]; rfl) : W.heap[k]? = some (.cells cs' t (0, 0)) := hW ▸ bI (bI h i a rfl) j b e
theorem sB1 (hW : w.setCell ⟨k, i, none⟩ a = W) {v : World} (h : Below v.heap.size v w) (hg : v.heap.size ≤ k := by exact aj.out (by assumption)) : Below v.heap.size v W := hW ▸ cY h hg
theorem sB2 (hW : (w.setCell ⟨k, i, none⟩ a).setCell ⟨k, j, none⟩ b = W) {v : World} (h : Below v.heap.size v w) (hg : v.heap.size ≤ k := by exact aj.out (by assumption)) : Below v.heap.size v W := hW ▸ cY (cY h hg) hg
end
section
variable {P : Program} {md : Region.Mode} {ops : Array Oper} {Q : Exit → Act → World → Prop} {S : World → Prop} {ds : List Nat} {fuel : Nat} {l : Array Bool} {a a' : Act} {w : World} {v : Value}
theorem nM (N : Nat) (h : bJ P md ops Q S ds fuel l a' w) (ha : a.put (some N) v = a' := by simp only [Act.put, sA, sZ, sS, cS, dH]; rfl) : bJ P md ops Q S ds fuel l (a.put (some N) v) w := nY ha h
end
theorem bF {p q r : Prop} (h : p) (n : r) (e : p → r → q := by intro h n; repeat (first | exact h | refine iU ?_ n _ | (with_reducible first | refine ax ?_ _ | refine an ?_ | refine au ?_ _))) : q := e h n
theorem qna {p q : Prop} (h : p) (hh : p → q := by intro h; (with_reducible repeat (first | apply Kd.bR | apply Kd.bO | apply Kd.cf)); exact h) : q := hh h
theorem qva {p q : Prop} (h : p) (hh : p → q := by intro h; (with_reducible repeat (first | apply Kd.iB | apply Kd.iv | apply Kd.iu)); exact h) : q := hh h
section
variable {α : Type} {d : Kd α} {e base g t : Nat} {W w w1 w0 : World} {ok : Nat → Prop} {v u0 u1 : Value} {xs : List α} {cs : Array Value} {q : Prop} {o : Obj} {row : Option Nat}
/-- A row behind two stores into a box that is none of its blocks. -/
theorem fN (h : Kd.N d e W base ok v xs) (hn : ∀ k, ok k → k ≠ g) (E : Kd.N d e ((W.setCell ⟨g, 0, none⟩ u0).setCell ⟨g, 1, none⟩ u1) base ok v xs → q := by intro h; (with_reducible repeat (first | apply Kd.bR | apply Kd.bO | apply Kd.cf)); exact h) : q := E (Kd.gR (p := ⟨g, 1, none⟩) (Kd.gR (p := ⟨g, 0, none⟩) h hn u0) hn u1)
theorem fR (h : d.R e W base ok v xs) (hn : ∀ k, ok k → k ≠ g) (E : d.R e ((W.setCell ⟨g, 0, none⟩ u0).setCell ⟨g, 1, none⟩ u1) base ok v xs → q := by intro h; (with_reducible repeat (first | apply Kd.ca | apply Kd.b7 | apply Kd.cu)); exact h) : q := E (Kd.gm (p := ⟨g, 1, none⟩) (Kd.gm (p := ⟨g, 0, none⟩) h hn u0) hn u1)
theorem fS (h : Kd.S d e W base ok v xs) (hn : ∀ k, ok k → k ≠ g) (E : Kd.S d e ((W.setCell ⟨g, 0, none⟩ u0).setCell ⟨g, 1, none⟩ u1) base ok v xs → q := by intro h; (with_reducible repeat (first | apply Kd.ez | apply Kd.eh | apply Kd.fb)); exact h) : q := E (Kd.gh (p := ⟨g, 1, none⟩) (Kd.gh (p := ⟨g, 0, none⟩) h hn u0) hn u1)
theorem tR (h : d.R e W base ok v xs) (hb : W.heap[g]? = some (.cells cs t (0, 0))) (E : d.R e ((W.setCell ⟨g, 0, none⟩ u0).setCell ⟨g, 1, none⟩ u1) base ok v xs → q := by intro h; (with_reducible repeat (first | apply Kd.ca | apply Kd.b7 | apply Kd.cu)); exact h) (ht : ∀ q, q ∈ e :: d.E → q ≠ t := by decide) : q := E (Kd.cG (Kd.gm (p := ⟨g, 1, none⟩) (Kd.gm (p := ⟨g, 0, none⟩) (Kd.dL h hb ht) (fun _ hk => hk.2) u0) (fun _ hk => hk.2) u1) (fun _ h_ => h_.1))
theorem tS (h : Kd.S d e W base ok v xs) (hb : W.heap[g]? = some (.cells cs t (0, 0))) (E : Kd.S d e ((W.setCell ⟨g, 0, none⟩ u0).setCell ⟨g, 1, none⟩ u1) base ok v xs → q := by intro h; (with_reducible repeat (first | apply Kd.ez | apply Kd.eh | apply Kd.fb)); exact h) (ht : ∀ q, q ∈ e :: d.E → q ≠ t := by decide) : q := E (Kd.eT (Kd.gh (p := ⟨g, 1, none⟩) (Kd.gh (p := ⟨g, 0, none⟩) (Kd.fL h hb ht) (fun _ hk => hk.2) u0) (fun _ hk => hk.2) u1) (fun _ h_ => h_.1))
theorem cj {p q : Prop} (h : p) (e : p → q := by intro hk; simp only [hk, ne_eq, not_false_eq_true, and_self]) : q := e h
theorem bG {r : Prop} (h : w0.heap[g]? = some o) (n : r) (hb : Below w.heap.size w w1) (E : w0.heap[g]? = some o → r → w.heap[g]? = some o := by intro h n; repeat (first | exact h | refine iU ?_ n _ | (with_reducible first | refine ax ?_ _ | refine an ?_ | refine au ?_ _))) : w1.heap[g]? = some o := fv (E h n) hb
theorem bH (h : w0.heap[g]? = some o) (hg : w.grownBy w1 row) (hne : some g ≠ row) (E : w0.heap[g]? = some o → w.heap[g]? = some o := by intro h; (with_reducible repeat (first | refine ax ?_ _ | refine an ?_ | refine au ?_ _)); exact h) : w1.heap[g]? = some o := od (E h) hg hne
theorem bPp {x y : Value} (h : W.heap[g]? = some (.cells #[x, y] t (0, 0))) : ((W.setCell ⟨g, 0, none⟩ u0).setCell ⟨g, 1, none⟩ u1).heap[g]? = some (.cells #[u0, u1] t (0, 0)) := bI (cs' := #[u0, u1]) (bI (cs' := #[u0, y]) h 0 u0 rfl) 1 u1 rfl
theorem bP {x y : Value} (h : w0.heap[g]? = some (.cells #[x, y] t (0, 0))) (hb : Below w.heap.size w w1) (E : w0.heap[g]? = some (.cells #[x, y] t (0, 0)) → w.heap[g]? = some (.cells #[u0, u1] t (0, 0)) := by intro h; (with_reducible repeat (first | refine ax ?_ _ | refine an ?_ | refine au ?_ _)); exact bPp h) : w1.heap[g]? = some (.cells #[u0, u1] t (0, 0)) := fv (E h) hb
end
end Go.Proofs.YthipiojpoklpgaaGreat.P

namespace Go.Proofs.YthipiojpoklpgaaGreat.P
open Go.RowKit Go.Proofs.YthipiojpoklpgaaGreatW.PrintWords Go.Proofs.YthipiojpoklpgaaGreatW.PrintLast Go.Proofs.YthipiojpoklpgaaGreatW.PrintMore
attribute [local go_sem] ja jg jS jQ iy iC jq ji   -- for this text's walks alone
set_option linter.unusedVariables false
set_option linter.unusedSimpArgs false



def errW : Option Int → Value
  | none => .nilIface
  | some c => .iface 0 (.int .i64 c)
theorem cV : errW none = .nilIface := rfl
theorem cX (c : Int) : errW (some c) = .iface 0 (.int .i64 c) := rfl

theorem kQ : (Tryz.prog.info? 3).map (fun i => (i.zero, i.size, i.bytes)) = some (some (.int .i64 0), 1, 8) := by kernel_rfl
theorem info4 : (Tryz.prog.info? 4).map (fun i => (i.zero, i.size, i.bytes)) = some (some (.bool false), 1, 1) := by kernel_rfl
theorem ik : (Tryz.prog.info? 23).map (fun i => (i.zero, i.size, i.bytes)) = some (some (.slice none 0 0), 1, 24) := by kernel_rfl
theorem fh : (Tryz.prog.info? 25).map (fun i => (i.zero, i.size, i.bytes)) = some (some (.agg #[(.int .i64 0), (.slice none 0 0)]), 2, 32) := by kernel_rfl
theorem info56 : (Tryz.prog.info? 56).map (fun i => (i.zero, i.size, i.bytes)) = some (some (.agg #[(.int .i64 0), (.slice none 0 0)]), 2, 32) := by kernel_rfl
-- the values' own types
def eR (xs : List (List Int)) (i : Int) : (List Int) := xs.getD i.toNat ([] : List Int)
theorem jH {w : World} {A : Option Addr} {n : Nat} {xs : List (List Int)} (h : Kd.C (Kd.slice 3 (Kd.int .i64)) w A n xs) (i : Int) (h0 : 0 ≤ i) (h1 : i < n) : ∃ ad A0 c0, A = some ad ∧ w.cell? (ad.add i.toNat) = some (.slice A0 (eR xs i).length c0) ∧ (eR xs i).length ≤ c0 ∧ (Kd.int .i64).C w A0 (eR xs i).length (eR xs i) := by
  obtain ⟨ad, c, e, _, hK, hc0⟩ := Kd.lf h ([] : List Int) i h0 h1
  have hc : ∀ j u, c[j]? = some u → w.cell? (ad.add (i.toNat * 1 + j)) = some u := hc0
  obtain ⟨A0, c0, rfl, l0, g0⟩ := hK
  exact ⟨ad, A0, c0, e, by have hq := hc 0 _ rfl; rwa [Nat.mul_one, Nat.add_zero] at hq, l0, g0⟩

structure aa where
  f0 : Int
  f1 : (List Int)
def aG : aa := ⟨(0 : Int), ([] : List Int)⟩
def ak : Kd aa := Kd.iso (Kd.pair (Kd.int .i64) (Kd.slice 3 (Kd.int .i64))) (fun x : aa => (x.f0, x.f1))
theorem ef : Kd.ml ak := Kd.mo _ (Kd.lS (Kd.ll .i64) (Kd.kG 3 (Kd.ll .i64)))
theorem eP {w : World} {x : aa} {cs : List Value} (h : ak.K w x cs) : ∃ A1 c1, cs = [.int .i64 x.f0, .slice A1 x.f1.length c1] ∧ x.f1.length ≤ c1 ∧ (Kd.int .i64).C w A1 x.f1.length x.f1 := by
  obtain ⟨_, _, rfl, rfl, ⟨A1, c1, rfl, l1, g1⟩⟩ := h
  exact ⟨A1, c1, rfl, l1, g1⟩
theorem ln {w : World} {base : Nat} {ok : Nat → Prop} {x : aa} {cs : List Value} (h : ak.M w base ok x cs) : ∃ v1, cs = [.int .i64 x.f0, v1] ∧ (Kd.int .i64).R 3 w base ok v1 x.f1 := by
  obtain ⟨_, _, rfl, rfl, ⟨v1, rfl, g1⟩⟩ := h
  exact ⟨v1, rfl, g1⟩
theorem iT (w : World) (x : aa) {A1 : Option Addr} {c1 : Nat} (l1 : x.f1.length ≤ c1) (g1 : (Kd.int .i64).C w A1 x.f1.length x.f1) : ak.K w x [.int .i64 x.f0, .slice A1 x.f1.length c1] := ⟨[.int .i64 x.f0], [.slice A1 x.f1.length c1], rfl, rfl, ⟨A1, c1, rfl, l1, g1⟩⟩
theorem lX (w : World) (base : Nat) (ok : Nat → Prop) (x : aa) {v1 : Value} (g1 : (Kd.int .i64).R 3 w base ok v1 x.f1) : ak.M w base ok x [.int .i64 x.f0, v1] := ⟨[.int .i64 x.f0], [v1], rfl, rfl, ⟨v1, rfl, g1⟩⟩
theorem lq {W : World} {ok : Nat → Prop} {x : aa} {cs : List Value} (h : Kd.FK ak W ok x cs) : ∃ A1 c1, cs = [.int .i64 x.f0, .slice A1 x.f1.length c1] ∧ x.f1.length ≤ c1 ∧ Kd.F (Kd.int .i64) W ok A1 x.f1.length x.f1 := by
  obtain ⟨A1, c1, rfl, l1, _⟩ := eP (Kd.jm h)
  exact ⟨A1, c1, rfl, l1, (fun W' hW => by obtain ⟨A1_, c1_, he, l1_, g1_⟩ := eP (h W' hW); injection (Option.some.inj (show some (Value.slice A1 x.f1.length c1) = some (Value.slice A1_ x.f1.length c1_) from congrArg (fun l => l[1]?) he)) with ha_ _ _; rw [ha_]; exact g1_)⟩
theorem iP (W : World) (ok : Nat → Prop) (x : aa) {A1 : Option Addr} {c1 : Nat} (l1 : x.f1.length ≤ c1) (g1 : Kd.F (Kd.int .i64) W ok A1 x.f1.length x.f1) : Kd.FK ak W ok x [.int .i64 x.f0, .slice A1 x.f1.length c1] := fun W2 hW => iT W2 x l1 (g1 W2 hW)
def ae (xs : List aa) (i : Int) : aa := xs.getD i.toNat aG
theorem bD {w : World} {A : Option Addr} {n : Nat} {xs : List aa} (h : Kd.C ak w A n xs) (i : Int) (h0 : 0 ≤ i) (h1 : i < n) : ∃ ad A1 c1, A = some ad ∧ w.cell? (ad.add (i.toNat * 2)) = some (.int .i64 (ae xs i).f0) ∧ w.cell? ⟨(ad.add (i.toNat * 2)).block, (ad.add (i.toNat * 2)).off + 1, none⟩ = some (.slice A1 (ae xs i).f1.length c1) ∧ (ae xs i).f1.length ≤ c1 ∧ (Kd.int .i64).C w A1 (ae xs i).f1.length (ae xs i).f1 := by
  obtain ⟨ad, c, e, _, hK, hc0⟩ := Kd.lf h aG i h0 h1
  have hc : ∀ j u, c[j]? = some u → w.cell? (ad.add (i.toNat * 2 + j)) = some u := hc0
  obtain ⟨A1, c1, rfl, l1, g1⟩ := eP hK
  exact ⟨ad, A1, c1, e, hc 0 _ rfl, by rw [← km _ _ 1 (by omega)]; exact hc 1 _ rfl, l1, g1⟩

def rd_LB (xs : List (List Bool)) (i : Int) : (List Bool) := xs.getD i.toNat ([] : List Bool)
theorem at_LB {w : World} {A : Option Addr} {n : Nat} {xs : List (List Bool)} (h : Kd.C (Kd.slice 4 Kd.bool) w A n xs) (i : Int) (h0 : 0 ≤ i) (h1 : i < n) : ∃ ad A0 c0, A = some ad ∧ w.cell? (ad.add i.toNat) = some (.slice A0 (rd_LB xs i).length c0) ∧ (rd_LB xs i).length ≤ c0 ∧ Kd.bool.C w A0 (rd_LB xs i).length (rd_LB xs i) := by
  obtain ⟨ad, c, e, _, hK, hc0⟩ := Kd.lf h ([] : List Bool) i h0 h1
  have hc : ∀ j u, c[j]? = some u → w.cell? (ad.add (i.toNat * 1 + j)) = some u := hc0
  obtain ⟨A0, c0, rfl, l0, g0⟩ := hK
  exact ⟨ad, A0, c0, e, by have hq := hc 0 _ rfl; rwa [Nat.mul_one, Nat.add_zero] at hq, l0, g0⟩

structure bp where
  f0 : Int
  f1 : (List Bool)
def fw : bp := ⟨(0 : Int), ([] : List Bool)⟩
def dz : Kd bp := Kd.iso (Kd.pair (Kd.int .i64) (Kd.slice 4 Kd.bool)) (fun x : bp => (x.f0, x.f1))
theorem mS : Kd.ml dz := Kd.mo _ (Kd.lS (Kd.ll .i64) (Kd.kG 4 Kd.oG))
theorem fX {w : World} {x : bp} {cs : List Value} (h : dz.K w x cs) : ∃ A1 c1, cs = [.int .i64 x.f0, .slice A1 x.f1.length c1] ∧ x.f1.length ≤ c1 ∧ Kd.bool.C w A1 x.f1.length x.f1 := by
  obtain ⟨_, _, rfl, rfl, ⟨A1, c1, rfl, l1, g1⟩⟩ := h
  exact ⟨A1, c1, rfl, l1, g1⟩
theorem jc {w : World} {base : Nat} {ok : Nat → Prop} {x : bp} {cs : List Value} (h : dz.M w base ok x cs) : ∃ v1, cs = [.int .i64 x.f0, v1] ∧ Kd.bool.R 4 w base ok v1 x.f1 := by
  obtain ⟨_, _, rfl, rfl, ⟨v1, rfl, g1⟩⟩ := h
  exact ⟨v1, rfl, g1⟩
theorem ko (w : World) (x : bp) {A1 : Option Addr} {c1 : Nat} (l1 : x.f1.length ≤ c1) (g1 : Kd.bool.C w A1 x.f1.length x.f1) : dz.K w x [.int .i64 x.f0, .slice A1 x.f1.length c1] := ⟨[.int .i64 x.f0], [.slice A1 x.f1.length c1], rfl, rfl, ⟨A1, c1, rfl, l1, g1⟩⟩
theorem jI (w : World) (base : Nat) (ok : Nat → Prop) (x : bp) {v1 : Value} (g1 : Kd.bool.R 4 w base ok v1 x.f1) : dz.M w base ok x [.int .i64 x.f0, v1] := ⟨[.int .i64 x.f0], [v1], rfl, rfl, ⟨v1, rfl, g1⟩⟩
theorem mC {W : World} {ok : Nat → Prop} {x : bp} {cs : List Value} (h : Kd.FK dz W ok x cs) : ∃ A1 c1, cs = [.int .i64 x.f0, .slice A1 x.f1.length c1] ∧ x.f1.length ≤ c1 ∧ Kd.F Kd.bool W ok A1 x.f1.length x.f1 := by
  obtain ⟨A1, c1, rfl, l1, _⟩ := fX (Kd.jm h)
  exact ⟨A1, c1, rfl, l1, (fun W' hW => by obtain ⟨A1_, c1_, he, l1_, g1_⟩ := fX (h W' hW); injection (Option.some.inj (show some (Value.slice A1 x.f1.length c1) = some (Value.slice A1_ x.f1.length c1_) from congrArg (fun l => l[1]?) he)) with ha_ _ _; rw [ha_]; exact g1_)⟩
theorem mW (W : World) (ok : Nat → Prop) (x : bp) {A1 : Option Addr} {c1 : Nat} (l1 : x.f1.length ≤ c1) (g1 : Kd.F Kd.bool W ok A1 x.f1.length x.f1) : Kd.FK dz W ok x [.int .i64 x.f0, .slice A1 x.f1.length c1] := fun W2 hW => ko W2 x l1 (g1 W2 hW)
def cm (xs : List bp) (i : Int) : bp := xs.getD i.toNat fw
theorem hL {w : World} {A : Option Addr} {n : Nat} {xs : List bp} (h : Kd.C dz w A n xs) (i : Int) (h0 : 0 ≤ i) (h1 : i < n) : ∃ ad A1 c1, A = some ad ∧ w.cell? (ad.add (i.toNat * 2)) = some (.int .i64 (cm xs i).f0) ∧ w.cell? ⟨(ad.add (i.toNat * 2)).block, (ad.add (i.toNat * 2)).off + 1, none⟩ = some (.slice A1 (cm xs i).f1.length c1) ∧ (cm xs i).f1.length ≤ c1 ∧ Kd.bool.C w A1 (cm xs i).f1.length (cm xs i).f1 := by
  obtain ⟨ad, c, e, _, hK, hc0⟩ := Kd.lf h fw i h0 h1
  have hc : ∀ j u, c[j]? = some u → w.cell? (ad.add (i.toNat * 2 + j)) = some u := hc0
  obtain ⟨A1, c1, rfl, l1, g1⟩ := fX hK
  exact ⟨ad, A1, c1, e, hc 0 _ rfl, by rw [← km _ _ 1 (by omega)]; exact hc 1 _ rfl, l1, g1⟩

def mD (xs : List (List (List Int))) (i : Int) : (List (List Int)) := xs.getD i.toNat ([] : List (List Int))
theorem at_LLI {w : World} {A : Option Addr} {n : Nat} {xs : List (List (List Int))} (h : Kd.C (Kd.slice 23 (Kd.slice 3 (Kd.int .i64))) w A n xs) (i : Int) (h0 : 0 ≤ i) (h1 : i < n) : ∃ ad A0 c0, A = some ad ∧ w.cell? (ad.add i.toNat) = some (.slice A0 (mD xs i).length c0) ∧ (mD xs i).length ≤ c0 ∧ (Kd.slice 3 (Kd.int .i64)).C w A0 (mD xs i).length (mD xs i) := by
  obtain ⟨ad, c, e, _, hK, hc0⟩ := Kd.lf h ([] : List (List Int)) i h0 h1
  have hc : ∀ j u, c[j]? = some u → w.cell? (ad.add (i.toNat * 1 + j)) = some u := hc0
  obtain ⟨A0, c0, rfl, l0, g0⟩ := hK
  exact ⟨ad, A0, c0, e, by have hq := hc 0 _ rfl; rwa [Nat.mul_one, Nat.add_zero] at hq, l0, g0⟩

def fj (xs : List (List aa)) (i : Int) : (List aa) := xs.getD i.toNat ([] : List aa)
theorem mg {w : World} {A : Option Addr} {n : Nat} {xs : List (List aa)} (h : Kd.C (Kd.slice 25 ak) w A n xs) (i : Int) (h0 : 0 ≤ i) (h1 : i < n) : ∃ ad A0 c0, A = some ad ∧ w.cell? (ad.add i.toNat) = some (.slice A0 (fj xs i).length c0) ∧ (fj xs i).length ≤ c0 ∧ ak.C w A0 (fj xs i).length (fj xs i) := by
  obtain ⟨ad, c, e, _, hK, hc0⟩ := Kd.lf h ([] : List aa) i h0 h1
  have hc : ∀ j u, c[j]? = some u → w.cell? (ad.add (i.toNat * 1 + j)) = some u := hc0
  obtain ⟨A0, c0, rfl, l0, g0⟩ := hK
  exact ⟨ad, A0, c0, e, by have hq := hc 0 _ rfl; rwa [Nat.mul_one, Nat.add_zero] at hq, l0, g0⟩


def b4.f (a0:Int) (a1:Int) (a2:Int):Option (Bool):=if a0 ≥ a1 then (some (decide (a0 ≤ a2))) else (some false)
theorem b4.calls (a0:Int) (a1:Int) (a2:Int) (r:Bool) (w:World) (h:b4.f a0 a1 a2 = some r) :
  Calls Tryz.prog 47 #[.int .i64 a0,.int .i64 a1,.int .i64 a2] w fun e w'=>e = .returned (.bool r) ∧ bi w w':=by
 have H:(if a0 ≥ a1 then (some (decide (a0 ≤ a2))) else (some false)) = some r:=h;clear h;by_cases c4:a0 ≥ a1
 ·rw [if_pos c4] at H;have c4b0:decide (a1 ≤ a0) = true:=decide_eq_true c4;clear c4;obtain rfl:=Option.some.inj H;go_enter Tryz.func47,Tryz.ntmps47;go_wp2
  go_ret
  exact ⟨qrs,dR⟩
 ·rw [if_neg c4] at H;have c4b0:decide (a1 ≤ a0) = false:=decide_eq_false c4;clear c4;obtain rfl:=Option.some.inj H;go_enter Tryz.func47,Tryz.ntmps47;go_wp2
  go_ret
  exact ⟨qrs,dR⟩


def ar.l0:Nat → List (aa) → (Int → List Int → Option (Bool)) → Int → Int → Option (Int)
 | 0,_,_,_,_=>none
 | k + 1,x0,x1,x7,x8=>if x8 < x7 then (if 0 ≤ x8 then (if x8 < (x0.length:Int) then ((x1 ((ae x0 x8).f0) ((ae x0 x8).f1)).bind fun t2=>(if t2 = true then (some x8) else (ar.l0 k x0 x1 x7 (wrap64 (x8 + 1))))) else (none)) else (none)) else (some (-1))
def ar.f (k:Nat) (l0:List (aa)) (a1:(Int → List Int → Option (Bool))):Option (Int):=ar.l0 k l0 a1 (l0.length:Int) 0
theorem ar.calls (k:Nat) (A0:Option Addr) (c0:Nat) (l0:List (aa)) (a1:(Int → List Int → Option (Bool))) (g1_:Nat) (lb1_:Array Value) (eg1_:∀ (args:Array Value) (w:World),(callFunc g1_ args).run Tryz.prog w = .ok (.enter g1_ args) w) (r:Int) (w:World) (hr0:Kd.C ak w A0 l0.length l0) (hc0:l0.length ≤ c0) (hp1:∀ (W:World) (b0_:Int) (A1_:Option Addr) (c1_:Nat) (l1_:List Int) (r0_:Bool),a1 b0_ l1_ = some r0_ → Below w.heap.size w W → Kd.C (Kd.int .i64) W A1_ l1_.length l1_ → l1_.length ≤ c1_ → Calls Tryz.prog g1_ (#[.agg #[.int .i64 b0_,.slice A1_ l1_.length c1_]] ++ lb1_) W fun e w'=>e = .returned (.bool r0_) ∧ Below W.heap.size W w') (h:ar.f k l0 a1 = some r) :
  Calls Tryz.prog 79 #[.slice A0 l0.length c0,.func (.func g1_) #[] lb1_] w fun e w'=>e = .returned (.int .i64 r) ∧ Below w.heap.size w w':=by
 have hu25:=Tryz.underlying25;have HR0:=aM hr0;have HC0:=aM hc0;clear hr0 hc0;have HP1:=aM hp1;clear hp1;have HB:=aM (Below.refl w.heap.size w);have H:(ar.l0 k l0 a1 (l0.length:Int) 0) = some r:=h;clear h;have H':=aM H;clear H;go_enter Tryz.func79,Tryz.ntmps79;go_wp2
 go_loopg [8] k (fun kq v8 w'=>∃ (x8_1:Int),v8 = .int .i64 x8_1 ∧ aj (ar.l0 kq l0 a1 (l0.length:Int) x8_1 = some r) ∧ aj (kq ≤ k) ∧ aj (Below w.heap.size w w'))
 case atStart=>exact ⟨(0),qrs,H',⟨Nat.le_refl _⟩,⟨by exact bw⟩⟩
 case round =>
  clear H';obtain ⟨x8_1,rfl,HA,HK1,HB⟩:=hrel
  cases gk with
  | zero=>exact absurd HA.out (by simp [ar.l0])
  | succ k1 =>
   have H:=HA.out;clear HA;simp only [ar.l0] at H;by_cases c3:x8_1 < (l0.length:Int)
   ·rw [if_pos c3] at H;have c3b0:=decide_eq_true c3;clear c3;replace H:=iN H;obtain ⟨c4,H⟩:=H;have c4b0:decide (0 ≤ x8_1) = true:=decide_eq_true c4;clear c4;replace H:=iN H;obtain ⟨c5,H⟩:=H;have c5b0:decide (x8_1 < (l0.length:Int)) = true:=decide_eq_true c5;clear c5;replace H:=oB H;obtain ⟨t11,A6,H⟩:=H;(try dsimp only at H)
    by_cases c7:t11 = true
    ·subst c7;rw [if_pos rfl] at H;obtain rfl:=Option.some.inj H;have p10:0 ≤ (x8_1:Int):=of_decide_eq_true ab;have q10:x8_1 < (l0.length:Int):=of_decide_eq_true ab;obtain ⟨ad10,A10_1,c101_1,e10,hx10_0,hx10_1,hl10_1,hi10_1⟩:=bD HR0.out x8_1 p10 q10;cases e10
     replace hx10_0:=(HB.out.cell (World.block_lt_of_cell? w _ hx10_0)).trans hx10_0;replace hx10_1:=(HB.out.cell (World.block_lt_of_cell? w _ hx10_1)).trans hx10_1;have HR10_1:=aM hi10_1;have HC10_1:=aM hl10_1;clear hi10_1 hl10_1;replace p10:=eq_true p10;replace q10:=eq_true q10;go_wp2_with (first|((with_reducible refine gu (t:=11) rfl ?_);refine gJ (some 16) rfl rfl eg1_ #[.agg #[.int .i64 ((ae l0 x8_1).f0),.slice A10_1 ((ae l0 x8_1).f1).length c101_1]] rfl rfl mq ?_;(with_reducible refine (HP1.out _ ((ae l0 x8_1).f0) _ _ ((ae l0 x8_1).f1) true A6.out ?side1 ?side2 ?side3).mono ?_);(case side1=>exact bw);(case side2=>exact qcs HR10_1.out HB.out);(case side3=>exact HC10_1.out);rintro e w8 ⟨rfl,hb⟩;refine ⟨_,rfl,?_⟩;replace HB:=aM (ag bw hb);(try clear hb)))
     go_ret
     exact ⟨eE,by exact bw⟩
    ·replace c7:=Bool.eq_false_iff.mpr c7;subst c7;rw [if_neg (show ¬ (false = true) by decide)] at H;have H':=aM H;clear H;have p10:0 ≤ (x8_1:Int):=of_decide_eq_true ab;have q10:x8_1 < (l0.length:Int):=of_decide_eq_true ab;obtain ⟨ad10,A10_1,c101_1,e10,hx10_0,hx10_1,hl10_1,hi10_1⟩:=bD HR0.out x8_1 p10 q10;cases e10
     replace hx10_0:=(HB.out.cell (World.block_lt_of_cell? w _ hx10_0)).trans hx10_0;replace hx10_1:=(HB.out.cell (World.block_lt_of_cell? w _ hx10_1)).trans hx10_1;have HR10_1:=aM hi10_1;have HC10_1:=aM hl10_1;clear hi10_1 hl10_1;replace p10:=eq_true p10;replace q10:=eq_true q10;go_wp2_with (first|((with_reducible refine gu (t:=11) rfl ?_);refine gJ (some 16) rfl rfl eg1_ #[.agg #[.int .i64 ((ae l0 x8_1).f0),.slice A10_1 ((ae l0 x8_1).f1).length c101_1]] rfl rfl mq ?_;(with_reducible refine (HP1.out _ ((ae l0 x8_1).f0) _ _ ((ae l0 x8_1).f1) false A6.out ?side1 ?side2 ?side3).mono ?_);(case side1=>exact bw);(case side2=>exact qcs HR10_1.out HB.out);(case side3=>exact HC10_1.out);rintro e w9 ⟨rfl,hb⟩;refine ⟨_,rfl,?_⟩;replace HB:=aM (ag bw hb);(try clear hb)))
     go_roundg k1
     case measure=>have:=HK1.out;omega
     case rel=>exact ⟨(wrap64 (x8_1 + 1)),qrs,H',⟨by have:=HK1.out;omega⟩,⟨by exact bw⟩⟩
   ·rw [if_neg c3] at H;have c3b0:=decide_eq_false c3;clear c3;obtain rfl:=Option.some.inj H;go_wp2
    go_ret
    exact ⟨eE,by exact bw⟩


def aZ.f (k:Nat) (l0:List (aa)) (a1:(Int → List Int → Option (Bool))):Option (Bool):=(ar.f k l0 a1).bind fun t2=>(some (decide (t2 ≥ 0)))
theorem aZ.calls (k:Nat) (A0:Option Addr) (c0:Nat) (l0:List (aa)) (a1:(Int → List Int → Option (Bool))) (g1_:Nat) (lb1_:Array Value) (eg1_:∀ (args:Array Value) (w:World),(callFunc g1_ args).run Tryz.prog w = .ok (.enter g1_ args) w) (r:Bool) (w:World) (hr0:Kd.C ak w A0 l0.length l0) (hc0:l0.length ≤ c0) (hp1:∀ (W:World) (b0_:Int) (A1_:Option Addr) (c1_:Nat) (l1_:List Int) (r0_:Bool),a1 b0_ l1_ = some r0_ → Below w.heap.size w W → Kd.C (Kd.int .i64) W A1_ l1_.length l1_ → l1_.length ≤ c1_ → Calls Tryz.prog g1_ (#[.agg #[.int .i64 b0_,.slice A1_ l1_.length c1_]] ++ lb1_) W fun e w'=>e = .returned (.bool r0_) ∧ Below W.heap.size W w') (h:aZ.f k l0 a1 = some r) :
  Calls Tryz.prog 48 #[.slice A0 l0.length c0,.func (.func g1_) #[] lb1_] w fun e w'=>e = .returned (.bool r) ∧ Below w.heap.size w w':=by
 have HR0:=aM hr0;have HC0:=aM hc0;clear hr0 hc0;have HP1:=aM hp1;clear hp1;have HB:=aM (Below.refl w.heap.size w);have H:((ar.f k l0 a1).bind fun t5=>(some (decide (t5 ≥ 0)))) = some r:=h;clear h;replace H:=oB H;obtain ⟨t5,A3,H⟩:=H;(try dsimp only at H)
 obtain rfl:=Option.some.inj H;go_enter Tryz.func48,Tryz.ntmps48;go_wp2_with (first|((with_reducible refine ai (f:=79) rfl ?_);refine gL 7 Tryz.func79 #[.slice A0 l0.length c0,.func (.func g1_) #[] lb1_] ?_;(with_reducible refine (ar.calls k _ _ l0 a1 g1_ lb1_ eg1_ t5 _ ?side1 ?side2 ?side3 A3.out).mono ?_);(case side1=>exact qc HR0.out);(case side2=>exact HC0.out);(case side3=>exact (fun W_ a0_ A1_ c1_ l1_ r0_ hx_ hb_ hr1_ hc1_=>HP1.out W_ a0_ A1_ c1_ l1_ r0_ hx_ (ag bw hb_) hr1_ hc1_));rintro e w4 ⟨rfl,hb⟩;refine ⟨_,rfl,?_⟩;replace HB:=aM (ag bw hb);(try clear hb)))
 go_ret
 exact ⟨eE,by exact bw⟩


def dl.l0:Nat → Int → List Int → Int → Int → Option (Int)
 | 0,_,_,_,_=>none
 | k + 1,x3,x6,x7,x8=>if x8 < x7 then (if 0 ≤ x8 then (if x8 < (x6.length:Int) then (dl.l0 k (wrap64 (x3 + (rd x6 x8))) x6 x7 (wrap64 (x8 + 1))) else (none)) else (none)) else (some x3)
def dl.f (k:Nat) (l0:List Int):Option (Int):=dl.l0 k 0 l0 (l0.length:Int) 0
theorem dl.calls (k:Nat) (A0:Option Addr) (c0:Nat) (l0:List Int) (r:Int) (w:World) (hr0:Kd.C (Kd.int .i64) w A0 l0.length l0) (hc0:l0.length ≤ c0) (h:dl.f k l0 = some r) :
  Calls Tryz.prog 58 #[.slice A0 l0.length c0] w fun e w'=>e = .returned (.int .i64 r) ∧ bi w w':=by
 have HR0:=aM hr0;have HC0:=aM hc0;clear hr0 hc0;have H:(dl.l0 k 0 l0 (l0.length:Int) 0) = some r:=h;clear h;have H':=aM H;clear H;go_enter Tryz.func58,Tryz.ntmps58;go_wp2
 go_loopg [3,8] k (fun kq v3 v8 w'=>∃ (x3_1:Int) (x8_1:Int),v3 = .int .i64 x3_1 ∧ v8 = .int .i64 x8_1 ∧ aj (dl.l0 kq x3_1 l0 (l0.length:Int) x8_1 = some r) ∧ aj (kq ≤ k) ∧ bi w w')
 case atStart=>exact ⟨(0),(0),qrs,qrs,H',⟨Nat.le_refl _⟩,by repeat (first|exact bi.refl _|apply bi.step)⟩
 case round =>
  clear H';obtain ⟨x3_1,x8_1,rfl,rfl,HA,HK1,⟨m1,rfl⟩⟩:=hrel
  cases gk with
  | zero=>exact absurd HA.out (by simp [dl.l0])
  | succ k1 =>
   have H:=HA.out;clear HA;simp only [dl.l0] at H;by_cases c2:x8_1 < (l0.length:Int)
   ·rw [if_pos c2] at H;have c2b0:=decide_eq_true c2;clear c2;replace H:=iN H;obtain ⟨c3,H⟩:=H;have c3b0:decide (0 ≤ x8_1) = true:=decide_eq_true c3;clear c3;replace H:=iN H;obtain ⟨c4,H⟩:=H;have c4b0:decide (x8_1 < (l0.length:Int)) = true:=decide_eq_true c4;clear c4;have H':=aM H;clear H;have p5:0 ≤ (x8_1:Int):=of_decide_eq_true ab;have q5:x8_1 < (l0.length:Int):=of_decide_eq_true ab;obtain ⟨ad5,e5,hx5_0⟩:=Kd.dI HR0.out x8_1 p5 q5;cases e5
    replace p5:=eq_true p5;replace q5:=eq_true q5;go_wp2
    go_roundg k1
    case measure=>have:=HK1.out;omega
    case rel=>exact ⟨(wrap64 (x3_1 + (rd l0 x8_1))),(wrap64 (x8_1 + 1)),qrs,qrs,H',⟨by have:=HK1.out;omega⟩,by repeat (first|exact bi.refl _|apply bi.step)⟩
   ·rw [if_neg c2] at H;have c2b0:=decide_eq_false c2;clear c2;obtain rfl:=Option.some.inj H;go_wp2
    go_ret
    exact ⟨qrs,dR⟩


def a8.l0:Nat → List Int → (Int → Option (Bool)) → Int → Int → Option (Int)
 | 0,_,_,_,_=>none
 | k + 1,x0,x1,x7,x8=>if x8 < x7 then (if 0 ≤ x8 then (if x8 < (x0.length:Int) then ((x1 (rd x0 x8)).bind fun t2=>(if t2 = true then (some x8) else (a8.l0 k x0 x1 x7 (wrap64 (x8 + 1))))) else (none)) else (none)) else (some (-1))
def a8.f (k:Nat) (l0:List Int) (a1:(Int → Option (Bool))):Option (Int):=a8.l0 k l0 a1 (l0.length:Int) 0
theorem a8.calls (k:Nat) (A0:Option Addr) (c0:Nat) (l0:List Int) (a1:(Int → Option (Bool))) (g1_:Nat) (lb1_:Array Value) (eg1_:∀ (args:Array Value) (w:World),(callFunc g1_ args).run Tryz.prog w = .ok (.enter g1_ args) w) (r:Int) (w:World) (hr0:Kd.C (Kd.int .i64) w A0 l0.length l0) (hc0:l0.length ≤ c0) (hp1:∀ (W:World) (b0_:Int) (r0_:Bool),a1 b0_ = some r0_ → Below w.heap.size w W → Calls Tryz.prog g1_ (#[.int .i64 b0_] ++ lb1_) W fun e w'=>e = .returned (.bool r0_) ∧ Below W.heap.size W w') (h:a8.f k l0 a1 = some r) :
  Calls Tryz.prog 111 #[.slice A0 l0.length c0,.func (.func g1_) #[] lb1_] w fun e w'=>e = .returned (.int .i64 r) ∧ Below w.heap.size w w':=by
 have HR0:=aM hr0;have HC0:=aM hc0;clear hr0 hc0;have HP1:=aM hp1;clear hp1;have HB:=aM (Below.refl w.heap.size w);have H:(a8.l0 k l0 a1 (l0.length:Int) 0) = some r:=h;clear h;have H':=aM H;clear H;go_enter Tryz.func111,Tryz.ntmps111;go_wp2
 go_loopg [8] k (fun kq v8 w'=>∃ (x8_1:Int),v8 = .int .i64 x8_1 ∧ aj (a8.l0 kq l0 a1 (l0.length:Int) x8_1 = some r) ∧ aj (kq ≤ k) ∧ aj (Below w.heap.size w w'))
 case atStart=>exact ⟨(0),qrs,H',⟨Nat.le_refl _⟩,⟨by exact bw⟩⟩
 case round =>
  clear H';obtain ⟨x8_1,rfl,HA,HK1,HB⟩:=hrel
  cases gk with
  | zero=>exact absurd HA.out (by simp [a8.l0])
  | succ k1 =>
   have H:=HA.out;clear HA;simp only [a8.l0] at H;by_cases c3:x8_1 < (l0.length:Int)
   ·rw [if_pos c3] at H;have c3b0:=decide_eq_true c3;clear c3;replace H:=iN H;obtain ⟨c4,H⟩:=H;have c4b0:decide (0 ≤ x8_1) = true:=decide_eq_true c4;clear c4;replace H:=iN H;obtain ⟨c5,H⟩:=H;have c5b0:decide (x8_1 < (l0.length:Int)) = true:=decide_eq_true c5;clear c5;replace H:=oB H;obtain ⟨t11,A6,H⟩:=H;(try dsimp only at H)
    by_cases c7:t11 = true
    ·subst c7;rw [if_pos rfl] at H;obtain rfl:=Option.some.inj H;have p10:0 ≤ (x8_1:Int):=of_decide_eq_true ab;have q10:x8_1 < (l0.length:Int):=of_decide_eq_true ab;obtain ⟨ad10,e10,hx10_0⟩:=Kd.dI HR0.out x8_1 p10 q10;cases e10
     replace hx10_0:=(HB.out.cell (World.block_lt_of_cell? w _ hx10_0)).trans hx10_0;replace p10:=eq_true p10;replace q10:=eq_true q10;go_wp2_with (first|((with_reducible refine gu (t:=11) rfl ?_);refine gJ (some 16) rfl rfl eg1_ #[.int .i64 (rd l0 x8_1)] rfl rfl mq ?_;(with_reducible refine (HP1.out _ (rd l0 x8_1) true A6.out ?side1).mono ?_);(case side1=>exact bw);rintro e w8 ⟨rfl,hb⟩;refine ⟨_,rfl,?_⟩;replace HB:=aM (ag bw hb);(try clear hb)))
     go_ret
     exact ⟨eE,by exact bw⟩
    ·replace c7:=Bool.eq_false_iff.mpr c7;subst c7;rw [if_neg (show ¬ (false = true) by decide)] at H;have H':=aM H;clear H;have p10:0 ≤ (x8_1:Int):=of_decide_eq_true ab;have q10:x8_1 < (l0.length:Int):=of_decide_eq_true ab;obtain ⟨ad10,e10,hx10_0⟩:=Kd.dI HR0.out x8_1 p10 q10;cases e10
     replace hx10_0:=(HB.out.cell (World.block_lt_of_cell? w _ hx10_0)).trans hx10_0;replace p10:=eq_true p10;replace q10:=eq_true q10;go_wp2_with (first|((with_reducible refine gu (t:=11) rfl ?_);refine gJ (some 16) rfl rfl eg1_ #[.int .i64 (rd l0 x8_1)] rfl rfl mq ?_;(with_reducible refine (HP1.out _ (rd l0 x8_1) false A6.out ?side1).mono ?_);(case side1=>exact bw);rintro e w9 ⟨rfl,hb⟩;refine ⟨_,rfl,?_⟩;replace HB:=aM (ag bw hb);(try clear hb)))
     go_roundg k1
     case measure=>have:=HK1.out;omega
     case rel=>exact ⟨(wrap64 (x8_1 + 1)),qrs,H',⟨by have:=HK1.out;omega⟩,⟨by exact bw⟩⟩
   ·rw [if_neg c3] at H;have c3b0:=decide_eq_false c3;clear c3;obtain rfl:=Option.some.inj H;go_wp2
    go_ret
    exact ⟨eE,by exact bw⟩


def bu.f (k:Nat) (l0:List Int) (a1:(Int → Option (Bool))):Option (Bool):=(a8.f k l0 a1).bind fun t2=>(some (decide (t2 ≥ 0)))
theorem bu.calls (k:Nat) (A0:Option Addr) (c0:Nat) (l0:List Int) (a1:(Int → Option (Bool))) (g1_:Nat) (lb1_:Array Value) (eg1_:∀ (args:Array Value) (w:World),(callFunc g1_ args).run Tryz.prog w = .ok (.enter g1_ args) w) (r:Bool) (w:World) (hr0:Kd.C (Kd.int .i64) w A0 l0.length l0) (hc0:l0.length ≤ c0) (hp1:∀ (W:World) (b0_:Int) (r0_:Bool),a1 b0_ = some r0_ → Below w.heap.size w W → Calls Tryz.prog g1_ (#[.int .i64 b0_] ++ lb1_) W fun e w'=>e = .returned (.bool r0_) ∧ Below W.heap.size W w') (h:bu.f k l0 a1 = some r) :
  Calls Tryz.prog 100 #[.slice A0 l0.length c0,.func (.func g1_) #[] lb1_] w fun e w'=>e = .returned (.bool r) ∧ Below w.heap.size w w':=by
 have HR0:=aM hr0;have HC0:=aM hc0;clear hr0 hc0;have HP1:=aM hp1;clear hp1;have HB:=aM (Below.refl w.heap.size w);have H:((a8.f k l0 a1).bind fun t5=>(some (decide (t5 ≥ 0)))) = some r:=h;clear h;replace H:=oB H;obtain ⟨t5,A3,H⟩:=H;(try dsimp only at H)
 obtain rfl:=Option.some.inj H;go_enter Tryz.func100,Tryz.ntmps100;go_wp2_with (first|((with_reducible refine ai (f:=111) rfl ?_);refine gL 7 Tryz.func111 #[.slice A0 l0.length c0,.func (.func g1_) #[] lb1_] ?_;(with_reducible refine (a8.calls k _ _ l0 a1 g1_ lb1_ eg1_ t5 _ ?side1 ?side2 ?side3 A3.out).mono ?_);(case side1=>exact qc HR0.out);(case side2=>exact HC0.out);(case side3=>exact (fun W_ a0_ r0_ hx_ hb_ =>HP1.out W_ a0_ r0_ hx_ (ag bw hb_) ));rintro e w4 ⟨rfl,hb⟩;refine ⟨_,rfl,?_⟩;replace HB:=aM (ag bw hb);(try clear hb)))
 go_ret
 exact ⟨eE,by exact bw⟩


def eG.f (a0:Int) (a1:Int) (a2:Int):Option (Bool):=(b4.f a0 a1 a2).bind fun t3=>(some (!t3))
theorem eG.calls (a0:Int) (gc1:Nat) (a1:Int) (gc2:Nat) (a2:Int) (r:Bool) (w:World) (hb1:w.heap[gc1]? = some (.cells #[.int .i64 a1] 3 (0,0))) (hb2:w.heap[gc2]? = some (.cells #[.int .i64 a2] 3 (0,0))) (hn1_2:gc1 ≠ gc2) (h:eG.f a0 a1 a2 = some r) :
  Calls Tryz.prog 101 #[.int .i64 a0,.pointer (some ⟨gc1,0,none⟩),.pointer (some ⟨gc2,0,none⟩)] w fun e w'=>e = .returned (.bool r) ∧ bi w w':=by
 have BK1:=aM hb1;clear hb1;have BK2:=aM hb2;clear hb2;have NB1_2:=aM hn1_2;have NB2_1:=aM (Ne.symm hn1_2);clear hn1_2;have H:((b4.f a0 a1 a2).bind fun t3=>(some (!t3))) = some r:=h;clear h;replace H:=oB H;obtain ⟨t3,A4,H⟩:=H;(try dsimp only at H)
 obtain rfl:=Option.some.inj H;have hnb5:=NB1_2.out;have hnc5:=NB2_1.out;have hcz6_0:=cz BK1.out 0;have hfz6_0:=af BK1.out 0;have hcz7_0:=cz BK2.out 0;have hfz7_0:=af BK2.out 0;go_enter Tryz.func101,Tryz.ntmps101;go_wp2_with (first|((with_reducible refine ai (f:=47) rfl ?_);refine gL 8 Tryz.func47 #[.int .i64 a0,.int .i64 a1,.int .i64 a2] ?_;(with_reducible refine (b4.calls a0 a1 a2 t3 _ A4.out).mono ?_);rintro e w' ⟨rfl,⟨nd,rfl⟩⟩;refine ⟨_,rfl,?_⟩))
 go_ret
 exact ⟨qrs,dR⟩
theorem eG.enters:∀ (args:Array Value) (w:World),(callFunc 101 args).run Tryz.prog w = .ok (.enter 101 args) w:=enters_of Tryz.func101 kR rfl


def dZ.f (k:Nat) (l0:List Int) (a1:Int) (a2:Int):Option (Bool):=(bu.f k l0 (fun y0_=>eG.f y0_ a1 a2)).bind fun t3=>(some (!t3))
theorem dZ.calls (k:Nat) (A0:Option Addr) (c0:Nat) (l0:List Int) (a1:Int) (a2:Int) (r:Bool) (w:World) (hr0:Kd.C (Kd.int .i64) w A0 l0.length l0) (hc0:l0.length ≤ c0) (h:dZ.f k l0 a1 a2 = some r) :
  Calls Tryz.prog 80 #[.slice A0 l0.length c0,.int .i64 a1,.int .i64 a2] w fun e w'=>e = .returned (.bool r) ∧ Below w.heap.size w w':=by
 have hmf:∀ (fn:Fn) (first cap:Array Value) (w:World),(Instr.makeFunc fn first cap).run Tryz.prog w = .ok (.func fn first cap) w:=fun _ _ _ _=>rfl
 have HR0:=aM hr0;have HC0:=aM hc0;clear hr0 hc0;have HB:=aM (Below.refl w.heap.size w);have H:((bu.f k l0 (fun y0_=>eG.f y0_ a1 a2)).bind fun t10=>(some (!t10))) = some r:=h;clear h;replace H:=oB H;obtain ⟨t10,A4,H⟩:=H;(try dsimp only at H)
 obtain rfl:=Option.some.inj H;go_enter Tryz.func80,Tryz.ntmps80;go_wp2_with (first|((with_reducible refine aC (N:=4) rfl ?_);refine bE 4 #[.int .i64 a1] 3 ?_;intro gb8 hg w5 hbox hb;have BK8:=aM (hbox);have GW8:=aM (gS hg);have GE8:=aM (gS hg);replace HB:=aM (ag bw hb);clear hb hbox hg)|((with_reducible refine aC (N:=5) rfl ?_);refine bE 5 #[.int .i64 a2] 3 ?_;intro gb9 hg w6 hbox hb;have BK9:=aM (hbox);have GW9:=aM (gS hg);have GE9:=aM (gS hg);replace HB:=aM (ag bw hb);have NB8_9:=aM (nL BK8.out hg);have NB9_8:=aM (nR BK8.out hg);replace BK8:=aM (bB BK8.out hb);clear hb hbox hg)|((with_reducible refine ai (f:=100) rfl ?_);refine gL 9 Tryz.func100 #[.slice A0 l0.length c0,.func (.func 101) #[] #[.pointer (some ⟨gb8,0,none⟩),.pointer (some ⟨gb9,0,none⟩)]] ?_;(with_reducible refine (bu.calls k _ _ l0 (fun y0_=>eG.f y0_ a1 a2) 101 #[.pointer (some ⟨gb8,0,none⟩),.pointer (some ⟨gb9,0,none⟩)] eG.enters t10 _ ?side1 ?side2 ?side3 A4.out).mono ?_);(case side1=>exact qcs HR0.out HB.out);(case side2=>exact HC0.out);(case side3=>exact (fun W_ a0_ r0_ hx_ hb_ =>(eG.calls a0_ gb8 a1 gb9 a2 r0_ W_  (ej (bk1 BK8.out) hb_) (ej (bk1 BK9.out) hb_) NB8_9.out hx_).mono (fun _ _ h_=>⟨h_.1,h_.2.below⟩)));rintro e w7 ⟨rfl,hb⟩;refine ⟨_,rfl,?_⟩;replace BK8:=aM (bB BK8.out hb);replace BK9:=aM (bB BK9.out hb);replace HB:=aM (ag bw hb);(try clear hb)))
 go_ret
 exact ⟨eE,by exact bw⟩


def aH.f (k:Nat) (a0_0:Int) (l0_1:List Int):Option (Bool):=if (l0_1.length:Int) ≥ 1 then (if (l0_1.length:Int) ≤ 9 then ((dZ.f k l0_1 0 1000).bind fun t2=>(if t2 = true then ((dl.f k l0_1).bind fun t3=>((b4.f a0_0 1 t3).bind fun t4=>(some t4))) else (some false))) else (some false)) else (some false)
def aH.T1:Bool × List (List Nat × List Nat):=(true,[([],[]),([0],[0]),([1],[1]),([2],[2]),([3],[3]),([4],[4]),([5,4],[4,5]),([6,4],[4,6]),([7,4],[4,7]),([4,8],[4,8]),([9,4],[9]),([10],[10]),([11,10],[10,11]),([12,10,10],[10,12]),([10,13],[10,13]),([14,13],[14]),([15],[15]),([16,15],[15,16]),([15],[15]),([18,15],[15,18]),([19,15,15],[15,19]),([17,20,20,15],[15,17,20]),([15,21],[15,21]),([22,21,0,1,2,3,4,5,6,7,8,9,10,11,12,13,14,15,16,17,18,19,20,21,22],[22])])
def aH.B1:List Nat:=[0,1,3,7,15,31,63,127,255,511,1023,2047,4095,8191,16383,32767,65535,131071,65535,327679,851967,2097151,4194303,8388607]
theorem aH.mV:il .any (opsOf Tryz.f50 1) = aH.T1:=by kernel_rfl
theorem aH.jJ:eZ aH.T1.2 aH.B1 = true:=by kernel_rfl
theorem aH.calls (k:Nat) (a0_0:Int) (A0_1:Option Addr) (c0_1:Nat) (l0_1:List Int) (r:Bool) (w:World) (hr0_1:Kd.C (Kd.int .i64) w A0_1 l0_1.length l0_1) (hc0_1:l0_1.length ≤ c0_1) (h:aH.f k a0_0 l0_1 = some r) :
  Calls Tryz.prog 50 #[.agg #[.int .i64 a0_0,.slice A0_1 l0_1.length c0_1]] w fun e w'=>e = .returned (.bool r) ∧ Below w.heap.size w w':=by
 have hu25:=Tryz.underlying25;have HR0_1:=aM hr0_1;have HC0_1:=aM hc0_1;clear hr0_1 hc0_1;have HB:=aM (Below.refl w.heap.size w);have H:(if (l0_1.length:Int) ≥ 1 then (if (l0_1.length:Int) ≤ 9 then ((dZ.f k l0_1 0 1000).bind fun t19=>(if t19 = true then ((dl.f k l0_1).bind fun t20=>((b4.f a0_0 1 t20).bind fun t21=>(some t21))) else (some false))) else (some false)) else (some false)) = some r:=h;clear h;by_cases c2:(l0_1.length:Int) ≥ 1
 ·rw [if_pos c2] at H;have c2b0:decide (1 ≤ (l0_1.length:Int)) = true:=decide_eq_true c2;have c2b1:decide (1 ≤ l0_1.length) = true:=decide_eq_true (by omega);clear c2;by_cases c3:(l0_1.length:Int) ≤ 9
  ·rw [if_pos c3] at H;have c3b0:=decide_eq_true c3;have c3b1:decide (l0_1.length ≤ 9) = true:=decide_eq_true (by omega);clear c3;replace H:=oB H;obtain ⟨t19,A4,H⟩:=H;(try dsimp only at H)
   by_cases c5:t19 = true
   ·subst c5;rw [if_pos rfl] at H;replace H:=oB H;obtain ⟨t20,A6,H⟩:=H;(try dsimp only at H)
    replace H:=oB H;obtain ⟨t21,A7,H⟩:=H;(try dsimp only at H)
    obtain rfl:=Option.some.inj H;go_enter Tryz.func50,Tryz.ntmps50
    try go_wp2_with (first|((with_reducible refine aC (N:=1) rfl ?_);(try (refine bQ (by rfl) ?_;dsimp only));refine bE 1 #[.int .i64 a0_0,.slice A0_1 l0_1.length c0_1] 25 ?_;intro gb18 hg w8 hbox hb;have BK18:=aM (hbox);have GW18:=aM (gS hg);have GE18:=aM (gS hg);replace HB:=aM (ag bw hb);clear hb hbox hg))
    replace BK18:=aM (an BK18.out);replace HB:=aM (bg HB.out);refine eQ (n:=24) (S:=fun w'=>w'.cell? ⟨gb18,0,none⟩ = some (.int .i64 a0_0) ∧ w'.cell? ⟨gb18,1,none⟩ = some (.slice A0_1 l0_1.length c0_1)) (ds:=[]) (mA 24 0) kR rfl rfl ⟨(aE BK18.out 0).trans rfl,(aE BK18.out 1).trans rfl⟩ (fun hHeld=>?_);refine dx aH.mV aH.jJ (fun HT_ HW_=>?_)
    generalize w8.drew = w9 at BK18 HB hHeld ⊢
    refine pT 0 3 HT_.out ?_;refine pK 1 4 HT_.out HW_.out hHeld ?_;refine pT 2 5 HT_.out ?_;refine pT 3 6 HT_.out ?_;refine pT 4 7 HT_.out ?_;refine pT 5 8 HT_.out ?_;refine pK 6 9 HT_.out HW_.out hHeld ?_;refine pT 7 10 HT_.out ?_;refine pT 8 11 HT_.out ?_;refine pT 9 12 HT_.out ?_;refine pT 10 13 HT_.out ?_;refine pT 11 14 HT_.out ?_;refine pK 12 15 HT_.out HW_.out hHeld ?_;refine oN 13 (some 16) HT_.out fun K hK=>?_
    refine gC Tryz.func80 #[.slice A0_1 l0_1.length c0_1,.int .i64 0,.int .i64 1000] ?_
    with_reducible refine (dZ.calls k _ _ l0_1 0 1000 true _ ?side1 ?side2 A4.out).mono ?_
    (case side1=>exact qcs HR0_1.out HB.out)
    (case side2=>exact HC0_1.out)
    rintro e w10 ⟨rfl,hb⟩
    refine ⟨_,rfl,?_⟩;replace BK18:=aM (bB BK18.out hb);replace HB:=aM (ag bw hb);(try clear hb)
    refine hK.out _ _ ⟨(aE BK18.out 0).trans rfl,(aE BK18.out 1).trans rfl⟩ (fun hHeld=>?_);clear hK K;refine nM 16 ?_;refine pT 14 17 HT_.out ?_;refine pT 15 18 HT_.out ?_;refine pT 16 19 HT_.out ?_;refine pT 18 21 HT_.out ?_;refine pK 17 20 HT_.out HW_.out hHeld ?_;refine pK 19 22 HT_.out HW_.out hHeld ?_;refine oN 20 (some 23) HT_.out fun K hK=>?_
    refine gC Tryz.func58 #[.slice A0_1 l0_1.length c0_1] ?_
    with_reducible refine (dl.calls k _ _ l0_1 t20 _ ?side1 ?side2 A6.out).mono ?_
    (case side1=>exact qcs HR0_1.out HB.out)
    (case side2=>exact HC0_1.out)
    rintro e w' ⟨rfl,⟨nd,rfl⟩⟩
    refine ⟨_,rfl,?_⟩;refine hK.out _ _ ⟨(aE BK18.out 0).trans rfl,(aE BK18.out 1).trans rfl⟩ (fun hHeld=>?_);clear hK K;refine nM 23 ?_;refine oN 21 (some 24) HT_.out fun K hK=>?_
    refine gC Tryz.func47 #[.int .i64 a0_0,.int .i64 1,.int .i64 t20] ?_
    with_reducible refine (b4.calls a0_0 1 t20 t21 _ A7.out).mono ?_
    rintro e w' ⟨rfl,⟨nd,rfl⟩⟩
    refine ⟨_,rfl,?_⟩;refine hK.out _ _ ⟨(aE BK18.out 0).trans rfl,(aE BK18.out 1).trans rfl⟩ (fun hHeld=>?_);clear hK K;refine nM 24 ?_;refine pT 22 25 HT_.out ?_;refine pT 23 2 HT_.out ?_;refine fK (eA HT_.out kR) ?_
    try go_wp2
    go_ret
    exact ⟨eE,by exact bw⟩
   ·replace c5:=Bool.eq_false_iff.mpr c5;subst c5;rw [if_neg (show ¬ (false = true) by decide)] at H;obtain rfl:=Option.some.inj H;go_enter Tryz.func50,Tryz.ntmps50
    try go_wp2_with (first|((with_reducible refine aC (N:=1) rfl ?_);(try (refine bQ (by rfl) ?_;dsimp only));refine bE 1 #[.int .i64 a0_0,.slice A0_1 l0_1.length c0_1] 25 ?_;intro gb18 hg w11 hbox hb;have BK18:=aM (hbox);have GW18:=aM (gS hg);have GE18:=aM (gS hg);replace HB:=aM (ag bw hb);clear hb hbox hg))
    replace BK18:=aM (an BK18.out);replace HB:=aM (bg HB.out);refine eQ (n:=24) (S:=fun w'=>w'.cell? ⟨gb18,0,none⟩ = some (.int .i64 a0_0) ∧ w'.cell? ⟨gb18,1,none⟩ = some (.slice A0_1 l0_1.length c0_1)) (ds:=[]) (mA 24 0) kR rfl rfl ⟨(aE BK18.out 0).trans rfl,(aE BK18.out 1).trans rfl⟩ (fun hHeld=>?_);refine dx aH.mV aH.jJ (fun HT_ HW_=>?_)
    generalize w11.drew = w12 at BK18 HB hHeld ⊢
    refine pT 0 3 HT_.out ?_;refine pK 1 4 HT_.out HW_.out hHeld ?_;refine pT 2 5 HT_.out ?_;refine pT 3 6 HT_.out ?_;refine pT 4 7 HT_.out ?_;refine pT 5 8 HT_.out ?_;refine pK 6 9 HT_.out HW_.out hHeld ?_;refine pT 7 10 HT_.out ?_;refine pT 8 11 HT_.out ?_;refine pT 9 12 HT_.out ?_;refine pT 10 13 HT_.out ?_;refine pT 11 14 HT_.out ?_;refine pK 12 15 HT_.out HW_.out hHeld ?_;refine oN 13 (some 16) HT_.out fun K hK=>?_
    refine gC Tryz.func80 #[.slice A0_1 l0_1.length c0_1,.int .i64 0,.int .i64 1000] ?_
    with_reducible refine (dZ.calls k _ _ l0_1 0 1000 false _ ?side1 ?side2 A4.out).mono ?_
    (case side1=>exact qcs HR0_1.out HB.out)
    (case side2=>exact HC0_1.out)
    rintro e w13 ⟨rfl,hb⟩
    refine ⟨_,rfl,?_⟩;replace BK18:=aM (bB BK18.out hb);replace HB:=aM (ag bw hb);(try clear hb)
    refine hK.out _ _ ⟨(aE BK18.out 0).trans rfl,(aE BK18.out 1).trans rfl⟩ (fun hHeld=>?_);clear hK K;refine nM 16 ?_;refine pT 14 17 HT_.out ?_;refine pT 15 18 HT_.out ?_;refine pU 16 19 HT_.out ?_;refine pU 17 20 HT_.out ?_;refine pU 18 21 HT_.out ?_;refine pU 19 22 HT_.out ?_;refine pU 20 23 HT_.out ?_;refine pU 21 24 HT_.out ?_;refine pT 22 25 HT_.out ?_;refine pT 23 2 HT_.out ?_;refine fK (eA HT_.out kR) ?_
    try go_wp2
    go_ret
    exact ⟨eE,by exact bw⟩
  ·rw [if_neg c3] at H;have c3b0:=decide_eq_false c3;have c3b1:decide (l0_1.length ≤ 9) = false:=decide_eq_false (by omega);clear c3;obtain rfl:=Option.some.inj H;go_enter Tryz.func50,Tryz.ntmps50
   try go_wp2_with (first|((with_reducible refine aC (N:=1) rfl ?_);(try (refine bQ (by rfl) ?_;dsimp only));refine bE 1 #[.int .i64 a0_0,.slice A0_1 l0_1.length c0_1] 25 ?_;intro gb18 hg w14 hbox hb;have BK18:=aM (hbox);have GW18:=aM (gS hg);have GE18:=aM (gS hg);replace HB:=aM (ag bw hb);clear hb hbox hg))
   replace BK18:=aM (an BK18.out);replace HB:=aM (bg HB.out);refine eQ (n:=24) (S:=fun w'=>w'.cell? ⟨gb18,0,none⟩ = some (.int .i64 a0_0) ∧ w'.cell? ⟨gb18,1,none⟩ = some (.slice A0_1 l0_1.length c0_1)) (ds:=[]) (mA 24 0) kR rfl rfl ⟨(aE BK18.out 0).trans rfl,(aE BK18.out 1).trans rfl⟩ (fun hHeld=>?_);refine dx aH.mV aH.jJ (fun HT_ HW_=>?_)
   generalize w14.drew = w15 at BK18 HB hHeld ⊢
   refine pT 0 3 HT_.out ?_;refine pK 1 4 HT_.out HW_.out hHeld ?_;refine pT 2 5 HT_.out ?_;refine pT 3 6 HT_.out ?_;refine pT 4 7 HT_.out ?_;refine pT 5 8 HT_.out ?_;refine pK 6 9 HT_.out HW_.out hHeld ?_;refine pT 7 10 HT_.out ?_;refine pT 8 11 HT_.out ?_;refine pT 9 12 HT_.out ?_;refine pT 10 13 HT_.out ?_;refine pU 11 14 HT_.out ?_;refine pU 12 15 HT_.out ?_;refine pU 13 16 HT_.out ?_;refine pT 14 17 HT_.out ?_;refine pT 15 18 HT_.out ?_;refine pU 16 19 HT_.out ?_;refine pU 17 20 HT_.out ?_;refine pU 18 21 HT_.out ?_;refine pU 19 22 HT_.out ?_;refine pU 20 23 HT_.out ?_;refine pU 21 24 HT_.out ?_;refine pT 22 25 HT_.out ?_;refine pT 23 2 HT_.out ?_;refine fK (eA HT_.out kR) ?_
   try go_wp2
   go_ret
   exact ⟨eE,by exact bw⟩
 ·rw [if_neg c2] at H;have c2b0:decide (1 ≤ (l0_1.length:Int)) = false:=decide_eq_false c2;have c2b1:decide (1 ≤ l0_1.length) = false:=decide_eq_false (by omega);clear c2;obtain rfl:=Option.some.inj H;go_enter Tryz.func50,Tryz.ntmps50
  try go_wp2_with (first|((with_reducible refine aC (N:=1) rfl ?_);(try (refine bQ (by rfl) ?_;dsimp only));refine bE 1 #[.int .i64 a0_0,.slice A0_1 l0_1.length c0_1] 25 ?_;intro gb18 hg w16 hbox hb;have BK18:=aM (hbox);have GW18:=aM (gS hg);have GE18:=aM (gS hg);replace HB:=aM (ag bw hb);clear hb hbox hg))
  replace BK18:=aM (an BK18.out);replace HB:=aM (bg HB.out);refine eQ (n:=24) (S:=fun w'=>w'.cell? ⟨gb18,0,none⟩ = some (.int .i64 a0_0) ∧ w'.cell? ⟨gb18,1,none⟩ = some (.slice A0_1 l0_1.length c0_1)) (ds:=[]) (mA 24 0) kR rfl rfl ⟨(aE BK18.out 0).trans rfl,(aE BK18.out 1).trans rfl⟩ (fun hHeld=>?_);refine dx aH.mV aH.jJ (fun HT_ HW_=>?_)
  generalize w16.drew = w17 at BK18 HB hHeld ⊢
  refine pT 0 3 HT_.out ?_;refine pK 1 4 HT_.out HW_.out hHeld ?_;refine pT 2 5 HT_.out ?_;refine pT 3 6 HT_.out ?_;refine pT 4 7 HT_.out ?_;refine pU 5 8 HT_.out ?_;refine pU 6 9 HT_.out ?_;refine pU 7 10 HT_.out ?_;refine pU 8 11 HT_.out ?_;refine pT 9 12 HT_.out ?_;refine pT 10 13 HT_.out ?_;refine pU 11 14 HT_.out ?_;refine pU 12 15 HT_.out ?_;refine pU 13 16 HT_.out ?_;refine pT 14 17 HT_.out ?_;refine pT 15 18 HT_.out ?_;refine pU 16 19 HT_.out ?_;refine pU 17 20 HT_.out ?_;refine pU 18 21 HT_.out ?_;refine pU 19 22 HT_.out ?_;refine pU 20 23 HT_.out ?_;refine pU 21 24 HT_.out ?_;refine pT 22 25 HT_.out ?_;refine pT 23 2 HT_.out ?_;refine fK (eA HT_.out kR) ?_
  try go_wp2
  go_ret
  exact ⟨eE,by exact bw⟩


def bz.f (k:Nat) (a0_0:Int) (l0_1:List Int) (l1:List (aa)):Option (Bool):=(aH.f k a0_0 l0_1).bind fun t2=>(if t2 = true then (if 0 < (l1.length:Int) then (some ((l0_1.length:Int) != (((ae l1 0).f1).length:Int))) else (none)) else (some true))
def bz.T1:Bool × List (List Nat × List Nat):=(true,[([],[]),([0],[0]),([1],[1]),([2,1],[2]),([3],[3]),([4,3],[3,4]),([5,3],[3,5]),([3],[3]),([7,3],[3,7]),([8,3],[3,8]),([9,3],[3,9]),([10,3],[3,10]),([6,11,3],[3,6,11]),([3,12],[3,12]),([13,3,0,1,2,3,4,5,6,7,8,9,10,11,12,13],[13])])
def bz.B1:List Nat:=[0,1,3,7,15,31,63,15,143,399,911,1935,4095,8191,16383]
theorem bz.mV:il .any (opsOf Tryz.f49 1) = bz.T1:=by kernel_rfl
theorem bz.jJ:eZ bz.T1.2 bz.B1 = true:=by kernel_rfl
theorem bz.calls (k:Nat) (a0_0:Int) (A0_1:Option Addr) (c0_1:Nat) (l0_1:List Int) (gc1:Nat) (A1:Option Addr) (c1:Nat) (l1:List (aa)) (r:Bool) (w:World) (hr0_1:Kd.C (Kd.int .i64) w A0_1 l0_1.length l0_1) (hc0_1:l0_1.length ≤ c0_1) (hr1:Kd.C ak w A1 l1.length l1) (hc1:l1.length ≤ c1) (hb1:w.heap[gc1]? = some (.cells #[.slice A1 l1.length c1] 22 (0,0))) (h:bz.f k a0_0 l0_1 l1 = some r) :
  Calls Tryz.prog 49 #[.agg #[.int .i64 a0_0,.slice A0_1 l0_1.length c0_1],.pointer (some ⟨gc1,0,none⟩)] w fun e w'=>e = .returned (.bool r) ∧ Below w.heap.size w w':=by
 have hu25:=Tryz.underlying25;have HR0_1:=aM hr0_1;have HC0_1:=aM hc0_1;clear hr0_1 hc0_1;have HR1:=aM hr1;have HC1:=aM hc1;clear hr1 hc1;have BK1:=aM hb1;clear hb1;have HB:=aM (Below.refl w.heap.size w);have H:((aH.f k a0_0 l0_1).bind fun t13=>(if t13 = true then (if 0 < (l1.length:Int) then (some ((l0_1.length:Int) != (((ae l1 0).f1).length:Int))) else (none)) else (some true))) = some r:=h;clear h;replace H:=oB H;obtain ⟨t13,A3,H⟩:=H;(try dsimp only at H)
 by_cases c4:t13 = true
 ·subst c4;rw [if_pos rfl] at H;replace H:=iN H;obtain ⟨c5,H⟩:=H;have c5b0:decide (0 < (l1.length:Int)) = true:=decide_eq_true c5;have c5b1:decide (0 < l1.length) = true:=decide_eq_true (by omega);clear c5;obtain rfl:=Option.some.inj H;go_enter Tryz.func49,Tryz.ntmps49
  try go_wp2_with (first|((with_reducible refine aC (N:=2) rfl ?_);(try (refine bQ (by rfl) ?_;dsimp only));refine bE 2 #[.int .i64 a0_0,.slice A0_1 l0_1.length c0_1] 25 ?_;intro gb12 hg w6 hbox hb;have BK12:=aM (hbox);have GW12:=aM (gS hg);have GE12:=aM (gS hg);replace HB:=aM (ag bw hb);have NB1_116:=aM (nL BK1.out hg);have NB12_1:=aM (nR BK1.out hg);replace BK1:=aM (bB BK1.out hb);clear hb hbox hg))
  replace BK1:=aM (an BK1.out);replace BK12:=aM (an BK12.out);replace HB:=aM (bg HB.out);have p14:0 ≤ (0:Int):=(by omega);have q14:0 < (l1.length:Int):=of_decide_eq_true ab;obtain ⟨ad14,A14_1,c118_1,e14,hx14_0,hx14_1,hl14_1,hi14_1⟩:=bD HR1.out 0 p14 q14;have hw14_1:=hx14_1;(try rw [show ((0:Int)).toNat = 0 from rfl] at hw14_1)
  (try rw [show 0 * 2 = 0 from rfl] at hw14_1)
  (try rw [Addr.add_zero'] at hw14_1)
  have hw14_0:=hx14_0;(try rw [show ((0:Int)).toNat = 0 from rfl] at hw14_0)
  (try rw [show 0 * 2 = 0 from rfl] at hw14_0)
  (try rw [Addr.add_zero'] at hw14_0)
  cases e14
  have qi118:(0 < l1.length) = True:=eq_true (by omega);(try rw [show ((0:Int)).toNat = 0 from rfl] at hx14_0)
  (try rw [show 0 * 2 = 0 from rfl] at hx14_0)
  (try rw [Addr.add_zero'] at hx14_0)
  (try rw [show ((0:Int)).toNat = 0 from rfl] at hx14_1)
  (try rw [show 0 * 2 = 0 from rfl] at hx14_1)
  (try rw [Addr.add_zero'] at hx14_1)
  replace hx14_0:=(HB.out.cell (World.block_lt_of_cell? w _ hx14_0)).trans hx14_0;replace hx14_1:=(HB.out.cell (World.block_lt_of_cell? w _ hx14_1)).trans hx14_1;have HR14_1:=aM hi14_1;have HC14_1:=aM hl14_1;clear hi14_1 hl14_1;replace p14:=eq_true p14;replace q14:=eq_true q14;refine eQ (n:=15) (S:=fun w'=>w'.cell? ⟨gb12,0,none⟩ = some (.int .i64 a0_0) ∧ w'.cell? ⟨gb12,1,none⟩ = some (.slice A0_1 l0_1.length c0_1) ∧ w'.cell? ⟨gc1,0,none⟩ = some (.slice (some ad14) l1.length c1) ∧ w'.cell? ad14 = some (.int .i64 ((ae l1 0).f0)) ∧ w'.cell? ⟨ad14.block,ad14.off + 1,none⟩ = some (.slice A14_1 ((ae l1 0).f1).length c118_1)) (ds:=[]) (mA 15 0) kR rfl rfl ⟨(aE BK12.out 0).trans rfl,(aE BK12.out 1).trans rfl,(aE BK1.out 0).trans rfl,((HB.out.cell (World.block_lt_of_cell? w _ hw14_0)).trans hw14_0),((HB.out.cell (World.block_lt_of_cell? w _ hw14_1)).trans hw14_1)⟩ (fun hHeld=>?_);refine dx bz.mV bz.jJ (fun HT_ HW_=>?_)
  generalize w6.drew = w7 at BK1 BK12 HB HR14_1 hx14_0 hx14_1 hHeld ⊢
  refine pK 0 4 HT_.out HW_.out hHeld ?_;refine oN 1 (some 5) HT_.out fun K hK=>?_
  refine gC Tryz.func50 #[.agg #[.int .i64 a0_0,.slice A0_1 l0_1.length c0_1]] ?_
  with_reducible refine (aH.calls k a0_0 _ _ l0_1 true _ ?side1 ?side2 A3.out).mono ?_
  (case side1=>exact qcs HR0_1.out HB.out)
  (case side2=>exact HC0_1.out)
  rintro e w8 ⟨rfl,hb⟩
  refine ⟨_,rfl,?_⟩;replace BK1:=aM (bB BK1.out hb);replace BK12:=aM (bB BK12.out hb);replace HB:=aM (ag bw hb);(try clear hb)
  refine hK.out _ _ ⟨(aE BK12.out 0).trans rfl,(aE BK12.out 1).trans rfl,(aE BK1.out 0).trans rfl,((HB.out.cell (World.block_lt_of_cell? w _ hw14_0)).trans hw14_0),((HB.out.cell (World.block_lt_of_cell? w _ hw14_1)).trans hw14_1)⟩ (fun hHeld=>?_);clear hK K;refine nM 5 ?_;refine pT 2 6 HT_.out ?_;refine pT 3 7 HT_.out ?_;refine pT 4 8 HT_.out ?_;refine pK 5 9 HT_.out HW_.out hHeld ?_;refine pT 6 10 HT_.out ?_;refine pK 7 11 HT_.out HW_.out hHeld ?_;refine pT 8 12 HT_.out ?_;refine pT 9 13 HT_.out ?_;refine pK 10 14 HT_.out HW_.out hHeld ?_;refine pT 11 15 HT_.out ?_;refine pT 12 16 HT_.out ?_;refine pT 13 17 HT_.out ?_;refine pT 14 3 HT_.out ?_;refine fK (eA HT_.out kR) ?_
  try go_wp2
  go_ret
  exact ⟨eE,by exact bw⟩
 ·replace c4:=Bool.eq_false_iff.mpr c4;subst c4;rw [if_neg (show ¬ (false = true) by decide)] at H;obtain rfl:=Option.some.inj H;go_enter Tryz.func49,Tryz.ntmps49
  try go_wp2_with (first|((with_reducible refine aC (N:=2) rfl ?_);(try (refine bQ (by rfl) ?_;dsimp only));refine bE 2 #[.int .i64 a0_0,.slice A0_1 l0_1.length c0_1] 25 ?_;intro gb12 hg w9 hbox hb;have BK12:=aM (hbox);have GW12:=aM (gS hg);have GE12:=aM (gS hg);replace HB:=aM (ag bw hb);have NB1_116:=aM (nL BK1.out hg);have NB12_1:=aM (nR BK1.out hg);replace BK1:=aM (bB BK1.out hb);clear hb hbox hg))
  replace BK1:=aM (an BK1.out);replace BK12:=aM (an BK12.out);replace HB:=aM (bg HB.out);refine eQ (n:=15) (S:=fun w'=>w'.cell? ⟨gb12,0,none⟩ = some (.int .i64 a0_0) ∧ w'.cell? ⟨gb12,1,none⟩ = some (.slice A0_1 l0_1.length c0_1)) (ds:=[]) (mA 15 0) kR rfl rfl ⟨(aE BK12.out 0).trans rfl,(aE BK12.out 1).trans rfl⟩ (fun hHeld=>?_);refine dx bz.mV bz.jJ (fun HT_ HW_=>?_)
  generalize w9.drew = w10 at BK1 BK12 HB hHeld ⊢
  refine pK 0 4 HT_.out HW_.out hHeld ?_;refine oN 1 (some 5) HT_.out fun K hK=>?_
  refine gC Tryz.func50 #[.agg #[.int .i64 a0_0,.slice A0_1 l0_1.length c0_1]] ?_
  with_reducible refine (aH.calls k a0_0 _ _ l0_1 false _ ?side1 ?side2 A3.out).mono ?_
  (case side1=>exact qcs HR0_1.out HB.out)
  (case side2=>exact HC0_1.out)
  rintro e w11 ⟨rfl,hb⟩
  refine ⟨_,rfl,?_⟩;replace BK1:=aM (bB BK1.out hb);replace BK12:=aM (bB BK12.out hb);replace HB:=aM (ag bw hb);(try clear hb)
  refine hK.out _ _ ⟨(aE BK12.out 0).trans rfl,(aE BK12.out 1).trans rfl⟩ (fun hHeld=>?_);clear hK K;refine nM 5 ?_;refine pT 2 6 HT_.out ?_;refine pT 3 7 HT_.out ?_;refine pU 4 8 HT_.out ?_;refine pU 5 9 HT_.out ?_;refine pU 6 10 HT_.out ?_;refine pU 7 11 HT_.out ?_;refine pU 8 12 HT_.out ?_;refine pU 9 13 HT_.out ?_;refine pU 10 14 HT_.out ?_;refine pU 11 15 HT_.out ?_;refine pU 12 16 HT_.out ?_;refine pT 13 17 HT_.out ?_;refine pT 14 3 HT_.out ?_;refine fK (eA HT_.out kR) ?_
  try go_wp2
  go_ret
  exact ⟨eE,by exact bw⟩
theorem bz.enters:∀ (args:Array Value) (w:World),(callFunc 49 args).run Tryz.prog w = .ok (.enter 49 args) w:=enters_of Tryz.func49 kR rfl


def aQ.f (k:Nat) (l0:List (aa)):Option (Bool):=(b4.f (l0.length:Int) 1 4).bind fun t2=>(if t2 = true then ((aZ.f k l0 (fun y0_ y1_=>bz.f k y0_ y1_ l0)).bind fun t3=>(some (!t3))) else (some false))
theorem aQ.calls (k:Nat) (A0:Option Addr) (c0:Nat) (l0:List (aa)) (r:Bool) (w:World) (hr0:Kd.C ak w A0 l0.length l0) (hc0:l0.length ≤ c0) (h:aQ.f k l0 = some r) :
  Calls Tryz.prog 18 #[.slice A0 l0.length c0] w fun e w'=>e = .returned (.bool r) ∧ Below w.heap.size w w':=by
 have hmf:∀ (fn:Fn) (first cap:Array Value) (w:World),(Instr.makeFunc fn first cap).run Tryz.prog w = .ok (.func fn first cap) w:=fun _ _ _ _=>rfl
 have HR0:=aM hr0;have HC0:=aM hc0;clear hr0 hc0;have HB:=aM (Below.refl w.heap.size w);have H:((b4.f (l0.length:Int) 1 4).bind fun t11=>(if t11 = true then ((aZ.f k l0 (fun y0_ y1_=>bz.f k y0_ y1_ l0)).bind fun t12=>(some (!t12))) else (some false))) = some r:=h;clear h;replace H:=oB H;obtain ⟨t11,A2,H⟩:=H;(try dsimp only at H)
 by_cases c3:t11 = true
 ·subst c3;rw [if_pos rfl] at H;replace H:=oB H;obtain ⟨t12,A4,H⟩:=H;(try dsimp only at H)
  obtain rfl:=Option.some.inj H;go_enter Tryz.func18,Tryz.ntmps18;go_wp2_with (first|((with_reducible refine aC (N:=1) rfl ?_);refine bE 1 #[.slice A0 l0.length c0] 22 ?_;intro gb10 hg w5 hbox hb;have BK10:=aM (hbox);have GW10:=aM (gS hg);have GE10:=aM (gS hg);replace HB:=aM (ag bw hb);clear hb hbox hg;have hcz6_0:=cz BK10.out 0;have hfz6_0:=af BK10.out 0)|((with_reducible refine ai (f:=47) rfl ?_);refine gL 5 Tryz.func47 #[.int .i64 (l0.length:Int),.int .i64 1,.int .i64 4] ?_;(with_reducible refine (b4.calls (l0.length:Int) 1 4 true _ A2.out).mono ?_);rintro e w' ⟨rfl,⟨nd,rfl⟩⟩;refine ⟨_,rfl,?_⟩)|(go_at_call 48;(with_reducible refine (aZ.calls k _ _ l0 (fun y0_ y1_=>bz.f k y0_ y1_ l0) 49 #[.pointer (some ⟨gb10,0,none⟩)] bz.enters t12 _ ?side1 ?side2 ?side3 A4.out).mono ?_);(case side1=>exact qc (Kd.cA HR0.out bw));(case side2=>exact HC0.out);(case side3=>exact (fun W_ a0_ A1_ c1_ l1_ r0_ hx_ hb_ hr1_ hc1_=>(bz.calls k a0_ A1_ c1_ l1_ gb10 _ _ l0 r0_ W_ hr1_ hc1_ (Kd.cA (by repeat (first|exact (Kd.cA HR0.out bw)|(with_reducible refine Kd.eI ?_ _)|(with_reducible refine Kd.eJ ?_ _)|(with_reducible refine Kd.fB ?_))) hb_) (by exact HC0.out) (ej (bk1 BK10.out) hb_) hx_).mono (fun _ _ h_=>h_)));rintro e w7 ⟨rfl,hb⟩;replace BK10:=aM (bB BK10.out hb);replace HB:=aM (ag bw hb);(try clear hb)))
  go_ret
  exact ⟨eE,by exact bw⟩
 ·replace c3:=Bool.eq_false_iff.mpr c3;subst c3;rw [if_neg (show ¬ (false = true) by decide)] at H;obtain rfl:=Option.some.inj H;go_enter Tryz.func18,Tryz.ntmps18;go_wp2_with (first|((with_reducible refine aC (N:=1) rfl ?_);refine bE 1 #[.slice A0 l0.length c0] 22 ?_;intro gb10 hg w8 hbox hb;have BK10:=aM (hbox);have GW10:=aM (gS hg);have GE10:=aM (gS hg);replace HB:=aM (ag bw hb);clear hb hbox hg;have hcz9_0:=cz BK10.out 0;have hfz9_0:=af BK10.out 0)|((with_reducible refine ai (f:=47) rfl ?_);refine gL 5 Tryz.func47 #[.int .i64 (l0.length:Int),.int .i64 1,.int .i64 4] ?_;(with_reducible refine (b4.calls (l0.length:Int) 1 4 false _ A2.out).mono ?_);rintro e w' ⟨rfl,⟨nd,rfl⟩⟩;refine ⟨_,rfl,?_⟩))
  go_ret
  exact ⟨eE,by exact bw⟩


def bc.l0:Nat → (Int → Option (Bool)) → Int → Int → Int → List Bool → Option (Int × List Bool)
 | 0,_,_,_,_,_=>none
 | k + 1,x1,x14,x15,x3,x4=>if x15 < x14 then ((x1 x15).bind fun t2=>(if 0 ≤ x15 then (if x15 < (x4.length:Int) then (bc.l0 k x1 x14 (wrap64 (x15 + 1)) x3 (x4.set (x15:Int).toNat t2)) else (none)) else (none))) else (some (x3,x4))
def bc.f (k:Nat) (a0:Int) (a1:(Int → Option (Bool))):Option (Int × List Bool):=if 0 ≤ a0 then (if 0 ≤ (shl .i64 1 a0) then (if (shl .i64 1 a0:Int).toNat ≤ 281474976710656 then ((some (List.replicate (shl .i64 1 a0:Int).toNat false:List Bool)).bind fun y2=>(bc.l0 k a1 (y2.length:Int) 0 a0 y2)) else (none)) else (none)) else (none)
def bc.T5:Bool × List (List Nat × List Nat):=(true,[([],[]),([0],[0]),([],[]),([],[]),([],[]),([3,4],[3,4]),([1,2,0,1,2,3,4,5],[1,2]),([6,5,5,0,1,2,3,4,5],[5,6])])
def bc.B5:List Nat:=[0,1,0,0,0,24,63,127]
theorem bc.tab5:il .any (opsOf Tryz.f62 5) = bc.T5:=by kernel_rfl
theorem bc.bits5:eZ bc.T5.2 bc.B5 = true:=by kernel_rfl
theorem bc.calls (k:Nat) (a0:Int) (a1:(Int → Option (Bool))) (g1_:Nat) (lb1_:Array Value) (eg1_:∀ (args:Array Value) (w:World),(callFunc g1_ args).run Tryz.prog w = .ok (.enter g1_ args) w) (r1:Int) (r2:List Bool) (w:World) (hp1:∀ (W:World) (b0_:Int) (r0_:Bool),a1 b0_ = some r0_ → Below w.heap.size w W → Calls Tryz.prog g1_ (#[.int .i64 b0_] ++ lb1_) W fun e w'=>e = .returned (.bool r0_) ∧ Below W.heap.size W w') (h:bc.f k a0 a1 = some (r1,r2)) :
  Calls Tryz.prog 62 #[.int .i64 a0,.func (.func g1_) #[] lb1_] w fun e w'=>∃ v1_:Value,e = .returned (.agg #[.int .i64 r1,v1_]) ∧ Kd.R Kd.bool 4 w' w.heap.size (fun _=>True) v1_ r2 ∧ Below w.heap.size w w':=by
 have hu56:=Tryz.underlying56;have HP1:=aM hp1;clear hp1;have HB:=aM (Below.refl w.heap.size w);have H:(if 0 ≤ a0 then (if 0 ≤ (shl .i64 1 a0) then (if (shl .i64 1 a0:Int).toNat ≤ 281474976710656 then ((some (List.replicate (shl .i64 1 a0:Int).toNat false:List Bool)).bind fun y27=>(bc.l0 k a1 (y27.length:Int) 0 a0 y27)) else (none)) else (none)) else (none)) = some (r1,r2):=h;clear h;replace H:=iN H;obtain ⟨c3,H⟩:=H;have c3b0:=eq_true c3;have c3b1:decide (0 ≤ a0) = true:=decide_eq_true c3;clear c3;obtain ⟨ji4,hji4⟩:∃ j_:Int,(shl .i64 1 a0) = j_:=⟨_,rfl⟩;(first|rw [hji4] at H|simp only [hji4] at H)
 have hji4_:(IntKind.i64.wrap (1 * 2 ^ min a0.toNat 64)) = ji4:=hji4;have hji4z:a0 ≤ 64 → (IntKind.i64.wrap (1 * 2 ^ a0.toNat)) = ji4:=fM hji4;have hji4u:(IntKind.i64.wrap (2 ^ min a0.toNat 64)) = ji4:=by have h_:=hji4_;rw [Int.one_mul] at h_;exact h_
 have hji4v:a0 ≤ 64 → (IntKind.i64.wrap (2 ^ a0.toNat)) = ji4:=fun hle_=>by have h_:=hji4z hle_;rw [Int.one_mul] at h_;exact h_
 have hji4y:(wrap64 (1 * 2 ^ min a0.toNat 64)) = ji4:=(cS _).symm.trans hji4_;have hji4x:a0 ≤ 64 → (wrap64 (1 * 2 ^ a0.toNat)) = ji4:=fun h_=>(cS _).symm.trans (hji4z h_)
 replace H:=iN H;obtain ⟨c5,H⟩:=H;have c5b0:=eq_true c5;have c5b1:decide (0 ≤ (ji4)) = true:=decide_eq_true c5;clear c5;replace H:=iN H;obtain ⟨c6,H⟩:=H;have c6b0:=eq_true c6;have c6b1:decide ((ji4:Int).toNat ≤ 281474976710656) = true:=decide_eq_true c6;clear c6;obtain ⟨y27,hy27⟩:∃ y_:List Bool,y_ = (List.replicate (ji4:Int).toNat false):=⟨_,rfl⟩;replace H:(bc.l0 k a1 (y27.length:Int) 0 a0 y27) = some (r1,r2):=yR hy27 H;have Ny27:=aM hy27;clear hy27;have H':=aM H;clear H;go_enter Tryz.func62,Tryz.ntmps62;go_wp2_with (first|((with_reducible refine aC (N:=4) rfl ?_);refine bE 4 #[.int .i64 0,.slice none 0 0] 56 ?_;intro gb26 hg w7 hbox hb;have BK26:=aM (hbox);have GW26:=aM (gS hg);have GE26:=aM (gS hg);replace HB:=aM (ag bw hb);clear hb hbox hg)|((with_reducible refine aC (N:=10) rfl ?_);refine Kd.R_make Kd.bool _ 4 rfl (N:=10) rfl 52 _ _ rfl ji4 rfl rfl Tryz.underlying52 (.bool false) 1 info4 rfl (by decide) (by omega) false (ok:=fun _=>True) (okp:=fun _=>True) rfl (fun _ hk=>hk) trivial (of_decide_eq_true ab) (Nat.le_trans (Nat.mul_le_mul_right _ (of_decide_eq_true ab:ji4.toNat ≤ 281474976710656)) (by omega)) (Below.refl _ _) (Nat.le_refl _) ?_;intro v28 w8 ho9 hb hg_ hnew_;clear hg_ hnew_;(first|rw [← Ny27.out] at ho9|(simp only [Int.reduceToNat] at ho9;rw [← Ny27.out] at ho9));have HO29:=aM (Kd.cr ho9 (av bw));replace BK26:=aM (bB BK26.out hb);replace HB:=aM (ag bw hb);clear hb ho9;obtain ⟨Ao10,co10,eo10⟩:=Kd.b5 HO29.out;subst eo10)|((with_reducible refine aC (N:=5) rfl ?_);refine bE 5 #[.int .i64 0,.slice none 0 0] 56 ?_;intro gb30 hg w11 hbox hb;replace HO29:=aM (Kd.ba (qra HO29.out) hb);have BK30:=aM (hbox);have GW30:=aM (gS hg);have GE30:=aM (gS hg);replace HB:=aM (ag bw hb);have NB26_30:=aM (nL BK26.out hg);have NB30_26:=aM (nR BK26.out hg);replace BK26:=aM (bB BK26.out hb);clear hb hbox hg;have hnb12:=NB30_26.out;have hnc12:=NB26_30.out;have hcz13_0:=cz BK30.out 0;have hcz13_1:=cz BK30.out 1;have hfz13_0:=af BK30.out 0;have hfz13_1:=af BK30.out 1))
 go_loopg [15] k (fun kq v15 w'=>∃ (x15_1:Int) (x33_1:List Bool) (u33:Value),v15 = .int .i64 x15_1 ∧ aj (bc.l0 kq a1 (y27.length:Int) x15_1 a0 x33_1 = some (r1,r2)) ∧ aj (kq ≤ k) ∧ aj (Kd.R Kd.bool 4 w' w.heap.size (fun _=>True) u33 x33_1) ∧ aj (w'.heap[gb26]? = some (.cells #[.int .i64 0,(.slice none 0 0)] 56 (0,0))) ∧ aj (w'.heap[gb30]? = some (.cells #[.int .i64 a0,u33] 56 (0,0))) ∧ aj (Below w.heap.size w w'))
 case atStart=>exact ⟨(0),(y27),(.slice Ao10 y27.length co10),qrs,H',⟨Nat.le_refl _⟩,⟨by (with_reducible repeat (first|apply Kd.ca|apply Kd.b7|apply Kd.cu));exact Kd.cG (Kd.gm (p:=⟨gb30,1,none⟩) (Kd.gm (p:=⟨gb30,0,none⟩) (Kd.dL HO29.out BK30.out (by decide)) (fun _ hk=>hk.2) (.int .i64 a0)) (fun _ hk=>hk.2) (.slice Ao10 y27.length co10)) (fun _ hk=>trivial)⟩,⟨bF BK26.out NB26_30.out⟩,⟨by (with_reducible repeat (first|refine ax ?_ _|refine an ?_|refine au ?_ _));refine bI (cs:=#[.int .i64 a0,.slice none 0 0]) ?_ 1 _ rfl;(with_reducible repeat (first|refine ax ?_ _|refine an ?_|refine au ?_ _));refine bI (cs:=#[.int .i64 0,.slice none 0 0]) ?_ 0 _ rfl;(with_reducible repeat (first|refine ax ?_ _|refine an ?_|refine au ?_ _));exact BK30.out⟩,⟨by exact bw⟩⟩
 case round =>
  clear H';(try clear c3);(try clear c3b0);(try clear c3b1);(try clear c5);(try clear c5b0);(try clear c5b1);(try clear c6);(try clear c6b0);(try clear c6b1);(try clear hcz13_0);(try clear hcz13_1);(try clear hfz13_0);(try clear hfz13_1)
  obtain ⟨x15_1,x33_1,u33,rfl,HA,HK1,HO_33,BK26,BK30,HB⟩:=hrel
  cases gk with
  | zero=>exact absurd HA.out (by simp [bc.l0])
  | succ k1 =>
   have H:=HA.out;clear HA;simp only [bc.l0] at H;by_cases c14:x15_1 < (y27.length:Int)
   ·rw [if_pos c14] at H;have c14b0:=decide_eq_true c14;clear c14;replace H:=oB H;obtain ⟨t31,A15,H⟩:=H;(try dsimp only at H)
    replace H:=iN H;obtain ⟨c16,H⟩:=H;have c16b0:decide (0 ≤ x15_1) = true:=decide_eq_true c16;clear c16;replace H:=iN H;obtain ⟨c17,H⟩:=H;have c17b0:decide (x15_1 < (x33_1.length:Int)) = true:=decide_eq_true c17;clear c17;obtain ⟨y32,hy32⟩:∃ y_:List Bool,y_ = (x33_1.set (x15_1:Int).toNat t31):=⟨_,rfl⟩;replace H:(bc.l0 k1 a1 (y27.length:Int) (wrap64 (x15_1 + 1)) a0 y32) = some (r1,r2):=yR hy32 H;have Ny32:=aM hy32;clear hy32;have H':=aM H;clear H
    try go_wp2
    replace HO_33:=aM (Kd.cu HO_33.out);replace BK26:=aM (an BK26.out);replace BK30:=aM (an BK30.out);replace HB:=aM (bg HB.out);refine eQ (n:=8) (S:=fun w'=>w'.cell? ⟨gb30,0,none⟩ = some (.int .i64 a0) ∧ w'.cell? ⟨gb30,1,none⟩ = some (u33)) (ds:=[7]) (mA 8 0) kR rfl rfl ⟨(aE BK30.out 0).trans rfl,(aE BK30.out 1).trans rfl⟩ (fun hHeld=>?_);refine dx bc.tab5 bc.bits5 (fun HT_ HW_=>?_)
    generalize wr.drew = w19 at HO_33 BK26 BK30 HB hHeld ⊢
    refine pT 0 18 HT_.out ?_;refine pT 2 20 HT_.out ?_;refine pT 3 21 HT_.out ?_;refine pT 4 22 HT_.out ?_;refine pK 1 19 HT_.out HW_.out hHeld ?_;refine oN 5 (some 23) HT_.out fun K hK=>?_
    refine goesFr_ eg1_ #[.int .i64 x15_1] (by rfl) rfl rfl (by rfl) mq ?_
    with_reducible refine (HP1.out _ x15_1 t31 A15.out ?side1).mono ?_
    (case side1=>exact bw)
    rintro e w20 ⟨rfl,hb⟩
    refine ⟨_,rfl,?_⟩;replace HO_33:=aM (Kd.ba (qra HO_33.out) hb);replace BK26:=aM (bB BK26.out hb);replace BK30:=aM (bB BK30.out hb);replace HB:=aM (ag bw hb);(try clear hb)
    (try clear hk)
    have p18:0 ≤ (x15_1:Int):=of_decide_eq_true ab;have q18:(x15_1:Int) < ((x33_1.length:Int):Int):=of_decide_eq_true ab;obtain ⟨go18,co18,eo18,gb18,gl18,cl18,HG18⟩:=Kd.jF HO_33.out (by omega);(first|cases eo18|(injection eo18 with ea_ en_ ec_;(first|subst ea_|(injection ea_ with ea_;subst ea_));subst ec_;clear en_))
    have GB18:=aM gb18;have GG18:=aM HG18;clear gb18 gl18 HG18;obtain ⟨hx18_0,hf18_0⟩:=Kd.gK false HO_33.out (x15_1:Int) p18 q18;replace p18:=eq_true p18;replace q18:=eq_true q18;have HP21:=Kd.R_putn HO_33.out (x15_1:Int) t31;rw [← Ny32.out] at HP21;have HQ21:=aM HP21;clear HP21;refine hK.out _ _ ⟨(aE BK30.out 0).trans rfl,(aE BK30.out 1).trans rfl⟩ (fun hHeld=>?_);clear hK K;refine nM 23 ?_;refine pT 6 24 HT_.out ?_;refine last_ (i:=7) (N:=none) (mA 8 255) rfl rfl (kM HT_.out kR) (by decide) (fun K hK=>?_);refine ma (w1:=?_) (by rfl) rfl ?_ ?_;rotate_left
    ·go_simp
     rfl
    refine hK.out _ _ ?_;clear hK K;refine fK (eA HT_.out kR) ?_
    try go_wp2
    go_roundg k1
    case measure=>have:=HK1.out;omega
    case rel=>exact ⟨(wrap64 (x15_1 + 1)),(y32),(.slice (some ⟨go18,0,none⟩) x33_1.length co18),qrs,H',⟨by have:=HK1.out;omega⟩,⟨qra HQ21.out⟩,⟨by (with_reducible repeat (first|refine ax ?_ _|refine an ?_|refine au ?_ _));refine iU ?_ (by have h_:=Kd.lY HO_33.out BK26.out (by decide);intro e_;exact h_ (by rw [e_];rfl)) _;(with_reducible repeat (first|refine ax ?_ _|refine an ?_|refine au ?_ _));exact BK26.out⟩,⟨by (with_reducible repeat (first|refine ax ?_ _|refine an ?_|refine au ?_ _));refine iU ?_ (by have h_:=Kd.lY HO_33.out BK30.out (by decide);intro e_;exact h_ (by rw [e_];rfl)) _;(with_reducible repeat (first|refine ax ?_ _|refine an ?_|refine au ?_ _));exact BK30.out⟩,⟨by repeat (first|(with_reducible first|exact HB.out|apply cg|apply bN|apply bg|refine cY ?_ GB18.out|refine cY ?_ GE26.out|refine cY ?_ GE30.out)|exact HB.out)⟩⟩
   ·rw [if_neg c14] at H;have c14b0:=decide_eq_false c14;clear c14;simp only [Option.some.injEq,Prod.mk.injEq] at H;obtain ⟨rfl,rfl⟩:=H;have hnb22:=NB30_26.out;have hnc22:=NB26_30.out;have hcz23_0:=cz BK30.out 0;have hcz23_1:=cz BK30.out 1;have hfz23_0:=af BK30.out 0;have hfz23_1:=af BK30.out 1;have hcz24_0:=cz BK26.out 0;have hcz24_1:=cz BK26.out 1;have hfz24_0:=af BK26.out 0;have hfz24_1:=af BK26.out 1;obtain ⟨Ao25,co25,eo25⟩:=Kd.b5 HO_33.out;subst eo25;go_wp2
    refine bodyPost_ret (results_cell_row rfl _ _ gb26 56 #[.int .i64 a0,.slice Ao25 x33_1.length co25] (0,0) _ rfl (by (with_reducible repeat (first|refine ax ?_ _|refine an ?_|refine au ?_ _));refine bI (cs:=#[.int .i64 a0,.slice none 0 0]) ?_ 1 _ rfl;(with_reducible repeat (first|refine ax ?_ _|refine an ?_|refine au ?_ _));refine bI (cs:=#[.int .i64 0,.slice none 0 0]) ?_ 0 _ rfl;(with_reducible repeat (first|refine ax ?_ _|refine an ?_|refine au ?_ _));exact BK26.out) Tryz.underlying56 rfl kR) rfl ?_;exact ⟨_,by first|rfl|(simp [cV,cX] <;> rfl)|(simp only [← hji4];first|rfl|(simp [cV,cX] <;> rfl))|(simp [*,cV,cX] <;> rfl),by (with_reducible repeat (first|apply Kd.ca|apply Kd.b7|apply Kd.cu));exact Kd.cG (Kd.gm (p:=⟨gb26,1,none⟩) (Kd.gm (p:=⟨gb26,0,none⟩) (Kd.dL HO_33.out BK26.out (by decide)) (fun _ hk=>hk.2) (.int .i64 a0)) (fun _ hk=>hk.2) (.slice Ao25 x33_1.length co25)) (fun _ hk=>trivial),by exact bw⟩


def dh.f (a0:Int) (a1:Int):Option (Bool):=if 0 ≤ a1 then (some ((Go.bits .and .i64 (shr .i64 a0 a1) 1) == 1)) else (none)
theorem dh.calls (a0:Int) (a1:Int) (r:Bool) (w:World) (h:dh.f a0 a1 = some r) :
  Calls Tryz.prog 81 #[.int .i64 a0,.int .i64 a1] w fun e w'=>e = .returned (.bool r) ∧ bi w w':=by
 have H:(if 0 ≤ a1 then (some ((Go.bits .and .i64 (shr .i64 a0 a1) 1) == 1)) else (none)) = some r:=h;clear h;replace H:=iN H;obtain ⟨c3,H⟩:=H;have c3b0:=eq_true c3;have c3b1:decide (0 ≤ a1) = true:=decide_eq_true c3;clear c3;obtain ⟨ji4,hji4⟩:∃ j_:Int,(shr .i64 a0 a1) = j_:=⟨_,rfl⟩;(first|rw [hji4] at H|simp only [hji4] at H)
 have hji4_:(a0 / 2 ^ min a1.toNat 64) = ji4:=hji4;have hji4z:a1 ≤ 64 → (a0 / 2 ^ a1.toNat) = ji4:=ir hji4;obtain rfl:=Option.some.inj H;go_enter Tryz.func81,Tryz.ntmps81;go_wp2
 go_ret
 exact ⟨by first|rfl|(simp;done)|(simp only [← hji4] <;> (first|rfl|simp))|(simp [*];done),by repeat (first|exact bi.refl _|apply bi.step)⟩


def a6.l0:Nat → Int → Int → List Int → Int → Int → Option (Int)
 | 0,_,_,_,_,_=>none
 | k + 1,x1,x5,x9,x10,x11=>if x11 < x10 then (if 0 ≤ x11 then (if x11 < (x9.length:Int) then ((dh.f x1 x11).bind fun t2=>(if t2 = true then (a6.l0 k x1 (wrap64 (x5 + (rd x9 x11))) x9 x10 (wrap64 (x11 + 1))) else (a6.l0 k x1 x5 x9 x10 (wrap64 (x11 + 1))))) else (none)) else (none)) else (some x5)
def a6.f (k:Nat) (a0_0:Int) (l0_1:List Int) (a1:Int):Option (Int):=a6.l0 k a1 0 l0_1 (l0_1.length:Int) 0
theorem a6.calls (k:Nat) (a0_0:Int) (A0_1:Option Addr) (c0_1:Nat) (l0_1:List Int) (a1:Int) (r:Int) (w:World) (hr0_1:Kd.C (Kd.int .i64) w A0_1 l0_1.length l0_1) (hc0_1:l0_1.length ≤ c0_1) (h:a6.f k a0_0 l0_1 a1 = some r) :
  Calls Tryz.prog 52 #[.agg #[.int .i64 a0_0,.slice A0_1 l0_1.length c0_1],.int .i64 a1] w fun e w'=>e = .returned (.int .i64 r) ∧ Below w.heap.size w w':=by
 have hu25:=Tryz.underlying25;have HR0_1:=aM hr0_1;have HC0_1:=aM hc0_1;clear hr0_1 hc0_1;have HB:=aM (Below.refl w.heap.size w);have H:(a6.l0 k a1 0 l0_1 (l0_1.length:Int) 0) = some r:=h;clear h;have H':=aM H;clear H;go_enter Tryz.func52,Tryz.ntmps52;go_wp2_with (first|((with_reducible refine aC (N:=2) rfl ?_);refine bE 2 #[.int .i64 a0_0,.slice A0_1 l0_1.length c0_1] 25 ?_;intro gb10 hg w3 hbox hb;have BK10:=aM (hbox);have GW10:=aM (gS hg);have GE10:=aM (gS hg);replace HB:=aM (ag bw hb);clear hb hbox hg;have hcz4_0:=cz BK10.out 0;have hcz4_1:=cz BK10.out 1;have hfz4_0:=af BK10.out 0;have hfz4_1:=af BK10.out 1))
 go_loopg [5,11] k (fun kq v5 v11 w'=>∃ (x5_1:Int) (x11_1:Int),v5 = .int .i64 x5_1 ∧ v11 = .int .i64 x11_1 ∧ aj (a6.l0 kq a1 x5_1 l0_1 (l0_1.length:Int) x11_1 = some r) ∧ aj (kq ≤ k) ∧ aj (w'.heap[gb10]? = some (.cells #[.int .i64 a0_0,(.slice A0_1 l0_1.length c0_1)] 25 (0,0))) ∧ aj (Below w.heap.size w w'))
 case atStart=>exact ⟨(0),(0),qrs,qrs,H',⟨Nat.le_refl _⟩,⟨bk1 BK10.out⟩,⟨by exact bw⟩⟩
 case round =>
  clear H';(try clear hcz4_0);(try clear hcz4_1);(try clear hfz4_0);(try clear hfz4_1)
  obtain ⟨x5_1,x11_1,rfl,rfl,HA,HK1,BK10,HB⟩:=hrel
  cases gk with
  | zero=>exact absurd HA.out (by simp [a6.l0])
  | succ k1 =>
   have H:=HA.out;clear HA;simp only [a6.l0] at H;by_cases c5:x11_1 < (l0_1.length:Int)
   ·rw [if_pos c5] at H;have c5b0:=decide_eq_true c5;clear c5;replace H:=iN H;obtain ⟨c6,H⟩:=H;have c6b0:decide (0 ≤ x11_1) = true:=decide_eq_true c6;clear c6;replace H:=iN H;obtain ⟨c7,H⟩:=H;have c7b0:decide (x11_1 < (l0_1.length:Int)) = true:=decide_eq_true c7;clear c7;replace H:=oB H;obtain ⟨t13,A8,H⟩:=H;(try dsimp only at H)
    by_cases c9:t13 = true
    ·subst c9;rw [if_pos rfl] at H;have H':=aM H;clear H;have p12:0 ≤ (x11_1:Int):=of_decide_eq_true ab;have q12:x11_1 < (l0_1.length:Int):=of_decide_eq_true ab;obtain ⟨ad12,e12,hx12_0⟩:=Kd.dI HR0_1.out x11_1 p12 q12;cases e12
     replace hx12_0:=(HB.out.cell (World.block_lt_of_cell? w _ hx12_0)).trans hx12_0;replace p12:=eq_true p12;replace q12:=eq_true q12;go_wp2_with (first|((with_reducible refine ai (f:=81) rfl ?_);refine gL 18 Tryz.func81 #[.int .i64 a1,.int .i64 x11_1] ?_;(with_reducible refine (dh.calls a1 x11_1 true _ A8.out).mono ?_);rintro e w' ⟨rfl,⟨nd,rfl⟩⟩;refine ⟨_,rfl,?_⟩))
     go_roundg k1
     case measure=>have:=HK1.out;omega
     case rel=>exact ⟨(wrap64 (x5_1 + (rd l0_1 x11_1))),(wrap64 (x11_1 + 1)),qrs,qrs,H',⟨by have:=HK1.out;omega⟩,⟨bk1 BK10.out⟩,⟨by exact bw⟩⟩
    ·replace c9:=Bool.eq_false_iff.mpr c9;subst c9;rw [if_neg (show ¬ (false = true) by decide)] at H;have H':=aM H;clear H;have p12:0 ≤ (x11_1:Int):=of_decide_eq_true ab;have q12:x11_1 < (l0_1.length:Int):=of_decide_eq_true ab;obtain ⟨ad12,e12,hx12_0⟩:=Kd.dI HR0_1.out x11_1 p12 q12;cases e12
     replace hx12_0:=(HB.out.cell (World.block_lt_of_cell? w _ hx12_0)).trans hx12_0;replace p12:=eq_true p12;replace q12:=eq_true q12;go_wp2_with (first|((with_reducible refine ai (f:=81) rfl ?_);refine gL 18 Tryz.func81 #[.int .i64 a1,.int .i64 x11_1] ?_;(with_reducible refine (dh.calls a1 x11_1 false _ A8.out).mono ?_);rintro e w' ⟨rfl,⟨nd,rfl⟩⟩;refine ⟨_,rfl,?_⟩))
     go_roundg k1
     case measure=>have:=HK1.out;omega
     case rel=>exact ⟨(x5_1),(wrap64 (x11_1 + 1)),qrs,qrs,H',⟨by have:=HK1.out;omega⟩,⟨bk1 BK10.out⟩,⟨by exact bw⟩⟩
   ·rw [if_neg c5] at H;have c5b0:=decide_eq_false c5;clear c5;obtain rfl:=Option.some.inj H;go_wp2
    go_ret
    exact ⟨eE,by exact bw⟩


def cC.f (k:Nat) (a0:Int) (a1_0:Int) (l1_1:List Int):Option (Bool):=(a6.f k a1_0 l1_1 a0).bind fun t2=>(some (decide (t2 ≥ a1_0)))
theorem cC.calls (k:Nat) (a0:Int) (gc1:Nat) (a1_0:Int) (A1_1:Option Addr) (c1_1:Nat) (l1_1:List Int) (r:Bool) (w:World) (hr1_1:Kd.C (Kd.int .i64) w A1_1 l1_1.length l1_1) (hc1_1:l1_1.length ≤ c1_1) (hb1:w.heap[gc1]? = some (.cells #[.int .i64 a1_0,.slice A1_1 l1_1.length c1_1] 25 (0,0))) (h:cC.f k a0 a1_0 l1_1 = some r) :
  Calls Tryz.prog 89 #[.int .i64 a0,.pointer (some ⟨gc1,0,none⟩)] w fun e w'=>e = .returned (.bool r) ∧ Below w.heap.size w w':=by
 have hu25:=Tryz.underlying25;have HR1_1:=aM hr1_1;have HC1_1:=aM hc1_1;clear hr1_1 hc1_1;have BK1:=aM hb1;clear hb1;have HB:=aM (Below.refl w.heap.size w);have H:((a6.f k a1_0 l1_1 a0).bind fun t6=>(some (decide (t6 ≥ a1_0)))) = some r:=h;clear h;replace H:=oB H;obtain ⟨t6,A3,H⟩:=H;(try dsimp only at H)
 obtain rfl:=Option.some.inj H;go_enter Tryz.func89,Tryz.ntmps89
 try go_wp2
 replace BK1:=aM (an BK1.out);replace HB:=aM (bg HB.out);refine eQ (n:=7) (S:=fun w'=>w'.cell? ⟨gc1,0,none⟩ = some (.int .i64 a1_0) ∧ w'.cell? ⟨gc1,1,none⟩ = some (.slice A1_1 l1_1.length c1_1)) (ds:=[]) (mA 7 0) kR rfl rfl ⟨(aE BK1.out 0).trans rfl,(aE BK1.out 1).trans rfl⟩ (fun hHeld=>?_);generalize w.drew = w4 at BK1 HB hHeld ⊢
 refine fy (i:=1) (N:=some 5) (v:=?_) (a':=?_) (mA 7 2) rfl rfl kR (fun _ _ _ h=>h) (Or.inl ⟨by rfl,?_⟩) ?_ ?_;rotate_left
 ·intro w';go_simp
  with_reducible rfl
 rotate_left
 ·simp only [Act.put,sA,sZ,sS,cS,dH];rfl
 refine fy (i:=3) (N:=some 7) (v:=?_) (a':=?_) (mA 7 10) rfl rfl kR (fun _ _ _ h=>h) (Or.inl ⟨by rfl,?_⟩) ?_ ?_;rotate_left
 ·intro w';go_simp
  with_reducible rfl
 rotate_left
 ·simp only [Act.put,sA,sZ,sS,cS,dH];rfl
 refine iO (i:=0) (N:=some 4) (v:=?_) (a':=?_) (mA 7 11) rfl rfl kR (fun _ _ _ h=>h) (Or.inl ⟨by rfl,?_⟩) hHeld ?_ ?_;rotate_left
 ·rintro w' ⟨s0,s1⟩
  go_simp
  with_reducible rfl
 rotate_left
 ·simp only [Act.put,sA,sZ,sS,cS,dH];rfl
 refine iO (i:=4) (N:=some 8) (v:=?_) (a':=?_) (mA 7 27) rfl rfl kR (fun _ _ _ h=>h) (Or.inl ⟨by rfl,?_⟩) hHeld ?_ ?_;rotate_left
 ·rintro w' ⟨s0,s1⟩
  go_simp
  with_reducible rfl
 rotate_left
 ·simp only [Act.put,sA,sZ,sS,cS,dH];rfl
 refine mf (i:=2) (N:=some 6) (mA 7 31) rfl rfl kR (by decide) (fun K hK=>?_);refine gC Tryz.func52 #[.agg #[.int .i64 a1_0,.slice A1_1 l1_1.length c1_1],.int .i64 a0] ?_
 with_reducible refine (a6.calls k a1_0 _ _ l1_1 a0 t6 _ ?side1 ?side2 A3.out).mono ?_
 (case side1=>exact qcs HR1_1.out HB.out)
 (case side2=>exact HC1_1.out)
 rintro e w5 ⟨rfl,hb⟩
 refine ⟨_,rfl,?_⟩;replace BK1:=aM (bB BK1.out hb);replace HB:=aM (ag bw hb);(try clear hb)
 refine hK.out _ _ ⟨(aE BK1.out 0).trans rfl,(aE BK1.out 1).trans rfl⟩ (fun hHeld=>?_);clear hK K;refine nM 6 ?_;refine fy (i:=5) (N:=some 9) (v:=?_) (a':=?_) (mA 7 63) rfl rfl kR (fun _ _ _ h=>h) (Or.inl ⟨by rfl,?_⟩) ?_ ?_;rotate_left
 ·intro w';go_simp
  with_reducible rfl
 rotate_left
 ·simp only [Act.put,sA,sZ,sS,cS,dH];rfl
 refine fy (i:=6) (N:=some 3) (v:=?_) (a':=?_) (mA 7 127) rfl rfl kR (fun _ _ _ h=>h) (Or.inl ⟨by rfl,?_⟩) ?_ ?_;rotate_left
 ·intro w';go_simp
  with_reducible rfl
 rotate_left
 ·simp only [Act.put,sA,sZ,sS,cS,dH];rfl
 refine fK kR ?_
 try go_wp2
 go_ret
 exact ⟨eE,by exact bw⟩
theorem cC.enters:∀ (args:Array Value) (w:World),(callFunc 89 args).run Tryz.prog w = .ok (.enter 89 args) w:=enters_of Tryz.func89 kR rfl


def b9.f (k:Nat) (a0_0:Int) (l0_1:List Int):Option (Int × List Bool):=(bc.f k (l0_1.length:Int) (fun y0_=>cC.f k y0_ a0_0 l0_1)).bind fun bt2=>(some (bt2.1,bt2.2))
theorem b9.calls (k:Nat) (a0_0:Int) (A0_1:Option Addr) (c0_1:Nat) (l0_1:List Int) (r1:Int) (r2:List Bool) (w:World) (hr0_1:Kd.C (Kd.int .i64) w A0_1 l0_1.length l0_1) (hc0_1:l0_1.length ≤ c0_1) (h:b9.f k a0_0 l0_1 = some (r1,r2)) :
  Calls Tryz.prog 61 #[.agg #[.int .i64 a0_0,.slice A0_1 l0_1.length c0_1]] w fun e w'=>∃ v1_:Value,e = .returned (.agg #[.int .i64 r1,v1_]) ∧ Kd.R Kd.bool 4 w' w.heap.size (fun _=>True) v1_ r2 ∧ Below w.heap.size w w':=by
 have hmf:∀ (fn:Fn) (first cap:Array Value) (w:World),(Instr.makeFunc fn first cap).run Tryz.prog w = .ok (.func fn first cap) w:=fun _ _ _ _=>rfl
 have hu25:=Tryz.underlying25;have hu56:=Tryz.underlying56;have HR0_1:=aM hr0_1;have HC0_1:=aM hc0_1;clear hr0_1 hc0_1;have HB:=aM (Below.refl w.heap.size w);have H:((bc.f k (l0_1.length:Int) (fun y0_=>cC.f k y0_ a0_0 l0_1)).bind fun bt12=>(some (bt12.1,bt12.2))) = some (r1,r2):=h;clear h;replace H:=oB H;obtain ⟨⟨t12,t13⟩,A2,H⟩:=H;(try dsimp only at H)
 simp only [Option.some.injEq,Prod.mk.injEq] at H;obtain ⟨rfl,rfl⟩:=H;go_enter Tryz.func61,Tryz.ntmps61;go_wp2_with (first|((with_reducible refine aC (N:=1) rfl ?_);refine bE 1 #[.int .i64 a0_0,.slice A0_1 l0_1.length c0_1] 25 ?_;intro gb10 hg w3 hbox hb;have BK10:=aM (hbox);have GW10:=aM (gS hg);have GE10:=aM (gS hg);replace HB:=aM (ag bw hb);clear hb hbox hg)|((with_reducible refine aC (N:=2) rfl ?_);refine bE 2 #[.int .i64 0,.slice none 0 0] 56 ?_;intro gb11 hg w4 hbox hb;have BK11:=aM (hbox);have GW11:=aM (gS hg);have GE11:=aM (gS hg);replace HB:=aM (ag bw hb);have NB10_11:=aM (nL BK10.out hg);have NB11_10:=aM (nR BK10.out hg);replace BK10:=aM (bB BK10.out hb);clear hb hbox hg;have hnb5:=NB10_11.out;have hnc5:=NB11_10.out;have hcz6_0:=cz BK10.out 0;have hcz6_1:=cz BK10.out 1;have hfz6_0:=af BK10.out 0;have hfz6_1:=af BK10.out 1)|((with_reducible refine ai (f:=62) rfl ?_);refine gL 7 Tryz.func62 #[.int .i64 (l0_1.length:Int),.func (.func 89) #[] #[.pointer (some ⟨gb10,0,none⟩)]] ?_;(with_reducible refine (bc.calls k (l0_1.length:Int) (fun y0_=>cC.f k y0_ a0_0 l0_1) 89 #[.pointer (some ⟨gb10,0,none⟩)] cC.enters t12 t13 _ ?side1 A2.out).mono ?_);(case side1=>exact (fun W_ a0_ r0_ hx_ hb_ =>(cC.calls k a0_ gb10 a0_0 _ _ l0_1 r0_ W_  (Kd.cA (by repeat (first|exact (Kd.cA HR0_1.out HB.out)|(with_reducible refine Kd.eI ?_ _)|(with_reducible refine Kd.eJ ?_ _)|(with_reducible refine Kd.fB ?_))) hb_) (by exact HC0_1.out) (ej (bk1 BK10.out) hb_) hx_).mono (fun _ _ h_=>h_)));rintro e w7 ⟨v14,rfl,ho0,hb⟩;refine ⟨_,rfl,?_⟩;have HO15:=aM (Kd.cr ho0 (av bw));replace BK10:=aM (bB BK10.out hb);replace BK11:=aM (bB BK11.out hb);replace HB:=aM (ag bw hb);(try clear hb);(try clear ho0);have hcz8_0:=cz BK11.out 0;have hcz8_1:=cz BK11.out 1;have hfz8_0:=af BK11.out 0;have hfz8_1:=af BK11.out 1;obtain ⟨Ao9,co9,eo9⟩:=Kd.b5 HO15.out;subst eo9))
 refine bodyPost_ret (results_cell_row rfl _ _ gb11 56 #[.int .i64 t12,.slice Ao9 t13.length co9] (0,0) _ rfl (by (with_reducible repeat (first|refine ax ?_ _|refine an ?_|refine au ?_ _));refine bI (cs:=#[.int .i64 t12,.slice none 0 0]) ?_ 1 _ rfl;(with_reducible repeat (first|refine ax ?_ _|refine an ?_|refine au ?_ _));refine bI (cs:=#[.int .i64 0,.slice none 0 0]) ?_ 0 _ rfl;(with_reducible repeat (first|refine ax ?_ _|refine an ?_|refine au ?_ _));exact BK11.out) Tryz.underlying56 rfl kR) rfl ?_;exact ⟨_,eE,by (with_reducible repeat (first|apply Kd.ca|apply Kd.b7|apply Kd.cu));exact Kd.cG (Kd.gm (p:=⟨gb11,1,none⟩) (Kd.gm (p:=⟨gb11,0,none⟩) (Kd.dL HO15.out BK11.out (by decide)) (fun _ hk=>hk.2) (.int .i64 t12)) (fun _ hk=>hk.2) (.slice Ao9 t13.length co9)) (fun _ hk=>trivial),by exact bw⟩


def aD.l0:Nat → List (bp) → (Int → List Bool → Option (Bool)) → Int → Int → Option (Int)
 | 0,_,_,_,_=>none
 | k + 1,x0,x1,x7,x8=>if x8 < x7 then (if 0 ≤ x8 then (if x8 < (x0.length:Int) then ((x1 ((cm x0 x8).f0) ((cm x0 x8).f1)).bind fun t2=>(if t2 = true then (some x8) else (aD.l0 k x0 x1 x7 (wrap64 (x8 + 1))))) else (none)) else (none)) else (some (-1))
def aD.f (k:Nat) (l0:List (bp)) (a1:(Int → List Bool → Option (Bool))):Option (Int):=aD.l0 k l0 a1 (l0.length:Int) 0
theorem aD.calls (k:Nat) (A0:Option Addr) (c0:Nat) (l0:List (bp)) (a1:(Int → List Bool → Option (Bool))) (g1_:Nat) (lb1_:Array Value) (eg1_:∀ (args:Array Value) (w:World),(callFunc g1_ args).run Tryz.prog w = .ok (.enter g1_ args) w) (r:Int) (w:World) (hr0:Kd.C dz w A0 l0.length l0) (hc0:l0.length ≤ c0) (hp1:∀ (W:World) (b0_:Int) (A1_:Option Addr) (c1_:Nat) (l1_:List Bool) (r0_:Bool),a1 b0_ l1_ = some r0_ → Below w.heap.size w W → Kd.C Kd.bool W A1_ l1_.length l1_ → l1_.length ≤ c1_ → Calls Tryz.prog g1_ (#[.agg #[.int .i64 b0_,.slice A1_ l1_.length c1_]] ++ lb1_) W fun e w'=>e = .returned (.bool r0_) ∧ Below W.heap.size W w') (h:aD.f k l0 a1 = some r) :
  Calls Tryz.prog 96 #[.slice A0 l0.length c0,.func (.func g1_) #[] lb1_] w fun e w'=>e = .returned (.int .i64 r) ∧ Below w.heap.size w w':=by
 have hu56:=Tryz.underlying56;have HR0:=aM hr0;have HC0:=aM hc0;clear hr0 hc0;have HP1:=aM hp1;clear hp1;have HB:=aM (Below.refl w.heap.size w);have H:(aD.l0 k l0 a1 (l0.length:Int) 0) = some r:=h;clear h;have H':=aM H;clear H;go_enter Tryz.func96,Tryz.ntmps96;go_wp2
 go_loopg [8] k (fun kq v8 w'=>∃ (x8_1:Int),v8 = .int .i64 x8_1 ∧ aj (aD.l0 kq l0 a1 (l0.length:Int) x8_1 = some r) ∧ aj (kq ≤ k) ∧ aj (Below w.heap.size w w'))
 case atStart=>exact ⟨(0),qrs,H',⟨Nat.le_refl _⟩,⟨by exact bw⟩⟩
 case round =>
  clear H';obtain ⟨x8_1,rfl,HA,HK1,HB⟩:=hrel
  cases gk with
  | zero=>exact absurd HA.out (by simp [aD.l0])
  | succ k1 =>
   have H:=HA.out;clear HA;simp only [aD.l0] at H;by_cases c3:x8_1 < (l0.length:Int)
   ·rw [if_pos c3] at H;have c3b0:=decide_eq_true c3;clear c3;replace H:=iN H;obtain ⟨c4,H⟩:=H;have c4b0:decide (0 ≤ x8_1) = true:=decide_eq_true c4;clear c4;replace H:=iN H;obtain ⟨c5,H⟩:=H;have c5b0:decide (x8_1 < (l0.length:Int)) = true:=decide_eq_true c5;clear c5;replace H:=oB H;obtain ⟨t11,A6,H⟩:=H;(try dsimp only at H)
    by_cases c7:t11 = true
    ·subst c7;rw [if_pos rfl] at H;obtain rfl:=Option.some.inj H;have p10:0 ≤ (x8_1:Int):=of_decide_eq_true ab;have q10:x8_1 < (l0.length:Int):=of_decide_eq_true ab;obtain ⟨ad10,A10_1,c139_1,e10,hx10_0,hx10_1,hl10_1,hi10_1⟩:=hL HR0.out x8_1 p10 q10;cases e10
     replace hx10_0:=(HB.out.cell (World.block_lt_of_cell? w _ hx10_0)).trans hx10_0;replace hx10_1:=(HB.out.cell (World.block_lt_of_cell? w _ hx10_1)).trans hx10_1;have HR10_1:=aM hi10_1;have HC10_1:=aM hl10_1;clear hi10_1 hl10_1;replace p10:=eq_true p10;replace q10:=eq_true q10;go_wp2_with (first|((with_reducible refine gu (t:=11) rfl ?_);refine gJ (some 16) rfl rfl eg1_ #[.agg #[.int .i64 ((cm l0 x8_1).f0),.slice A10_1 ((cm l0 x8_1).f1).length c139_1]] rfl rfl mq ?_;(with_reducible refine (HP1.out _ ((cm l0 x8_1).f0) _ _ ((cm l0 x8_1).f1) true A6.out ?side1 ?side2 ?side3).mono ?_);(case side1=>exact bw);(case side2=>exact qcs HR10_1.out HB.out);(case side3=>exact HC10_1.out);rintro e w8 ⟨rfl,hb⟩;refine ⟨_,rfl,?_⟩;replace HB:=aM (ag bw hb);(try clear hb)))
     go_ret
     exact ⟨eE,by exact bw⟩
    ·replace c7:=Bool.eq_false_iff.mpr c7;subst c7;rw [if_neg (show ¬ (false = true) by decide)] at H;have H':=aM H;clear H;have p10:0 ≤ (x8_1:Int):=of_decide_eq_true ab;have q10:x8_1 < (l0.length:Int):=of_decide_eq_true ab;obtain ⟨ad10,A10_1,c139_1,e10,hx10_0,hx10_1,hl10_1,hi10_1⟩:=hL HR0.out x8_1 p10 q10;cases e10
     replace hx10_0:=(HB.out.cell (World.block_lt_of_cell? w _ hx10_0)).trans hx10_0;replace hx10_1:=(HB.out.cell (World.block_lt_of_cell? w _ hx10_1)).trans hx10_1;have HR10_1:=aM hi10_1;have HC10_1:=aM hl10_1;clear hi10_1 hl10_1;replace p10:=eq_true p10;replace q10:=eq_true q10;go_wp2_with (first|((with_reducible refine gu (t:=11) rfl ?_);refine gJ (some 16) rfl rfl eg1_ #[.agg #[.int .i64 ((cm l0 x8_1).f0),.slice A10_1 ((cm l0 x8_1).f1).length c139_1]] rfl rfl mq ?_;(with_reducible refine (HP1.out _ ((cm l0 x8_1).f0) _ _ ((cm l0 x8_1).f1) false A6.out ?side1 ?side2 ?side3).mono ?_);(case side1=>exact bw);(case side2=>exact qcs HR10_1.out HB.out);(case side3=>exact HC10_1.out);rintro e w9 ⟨rfl,hb⟩;refine ⟨_,rfl,?_⟩;replace HB:=aM (ag bw hb);(try clear hb)))
     go_roundg k1
     case measure=>have:=HK1.out;omega
     case rel=>exact ⟨(wrap64 (x8_1 + 1)),qrs,H',⟨by have:=HK1.out;omega⟩,⟨by exact bw⟩⟩
   ·rw [if_neg c3] at H;have c3b0:=decide_eq_false c3;clear c3;obtain rfl:=Option.some.inj H;go_wp2
    go_ret
    exact ⟨eE,by exact bw⟩


def bj.f (k:Nat) (l0:List (bp)) (a1:(Int → List Bool → Option (Bool))):Option (Bool):=(aD.f k l0 a1).bind fun t2=>(some (decide (t2 ≥ 0)))
theorem bj.calls (k:Nat) (A0:Option Addr) (c0:Nat) (l0:List (bp)) (a1:(Int → List Bool → Option (Bool))) (g1_:Nat) (lb1_:Array Value) (eg1_:∀ (args:Array Value) (w:World),(callFunc g1_ args).run Tryz.prog w = .ok (.enter g1_ args) w) (r:Bool) (w:World) (hr0:Kd.C dz w A0 l0.length l0) (hc0:l0.length ≤ c0) (hp1:∀ (W:World) (b0_:Int) (A1_:Option Addr) (c1_:Nat) (l1_:List Bool) (r0_:Bool),a1 b0_ l1_ = some r0_ → Below w.heap.size w W → Kd.C Kd.bool W A1_ l1_.length l1_ → l1_.length ≤ c1_ → Calls Tryz.prog g1_ (#[.agg #[.int .i64 b0_,.slice A1_ l1_.length c1_]] ++ lb1_) W fun e w'=>e = .returned (.bool r0_) ∧ Below W.heap.size W w') (h:bj.f k l0 a1 = some r) :
  Calls Tryz.prog 72 #[.slice A0 l0.length c0,.func (.func g1_) #[] lb1_] w fun e w'=>e = .returned (.bool r) ∧ Below w.heap.size w w':=by
 have HR0:=aM hr0;have HC0:=aM hc0;clear hr0 hc0;have HP1:=aM hp1;clear hp1;have HB:=aM (Below.refl w.heap.size w);have H:((aD.f k l0 a1).bind fun t5=>(some (decide (t5 ≥ 0)))) = some r:=h;clear h;replace H:=oB H;obtain ⟨t5,A3,H⟩:=H;(try dsimp only at H)
 obtain rfl:=Option.some.inj H;go_enter Tryz.func72,Tryz.ntmps72;go_wp2_with (first|((with_reducible refine ai (f:=96) rfl ?_);refine gL 7 Tryz.func96 #[.slice A0 l0.length c0,.func (.func g1_) #[] lb1_] ?_;(with_reducible refine (aD.calls k _ _ l0 a1 g1_ lb1_ eg1_ t5 _ ?side1 ?side2 ?side3 A3.out).mono ?_);(case side1=>exact qc HR0.out);(case side2=>exact HC0.out);(case side3=>exact (fun W_ a0_ A1_ c1_ l1_ r0_ hx_ hb_ hr1_ hc1_=>HP1.out W_ a0_ A1_ c1_ l1_ r0_ hx_ (ag bw hb_) hr1_ hc1_));rintro e w4 ⟨rfl,hb⟩;refine ⟨_,rfl,?_⟩;replace HB:=aM (ag bw hb);(try clear hb)))
 go_ret
 exact ⟨eE,by exact bw⟩


def cL.f (a0_0:Int) (l0_1:List Bool) (a1:Int) (a2:Bool):Option (Bool):=if 0 ≤ a1 then (if a1 < (l0_1.length:Int) then (some ((dE false l0_1 a1) == a2)) else (none)) else (none)
theorem cL.calls (a0_0:Int) (A0_1:Option Addr) (c0_1:Nat) (l0_1:List Bool) (gc1:Nat) (a1:Int) (gc2:Nat) (a2:Bool) (r:Bool) (w:World) (hr0_1:Kd.C Kd.bool w A0_1 l0_1.length l0_1) (hc0_1:l0_1.length ≤ c0_1) (hb1:w.heap[gc1]? = some (.cells #[.int .i64 a1] 3 (0,0))) (hb2:w.heap[gc2]? = some (.cells #[.bool a2] 4 (0,0))) (hn1_2:gc1 ≠ gc2) (h:cL.f a0_0 l0_1 a1 a2 = some r) :
  Calls Tryz.prog 73 #[.agg #[.int .i64 a0_0,.slice A0_1 l0_1.length c0_1],.pointer (some ⟨gc1,0,none⟩),.pointer (some ⟨gc2,0,none⟩)] w fun e w'=>e = .returned (.bool r) ∧ Below w.heap.size w w':=by
 have hu56:=Tryz.underlying56;have HR0_1:=aM hr0_1;have HC0_1:=aM hc0_1;clear hr0_1 hc0_1;have BK1:=aM hb1;clear hb1;have BK2:=aM hb2;clear hb2;have NB1_2:=aM hn1_2;have NB2_1:=aM (Ne.symm hn1_2);clear hn1_2;have HB:=aM (Below.refl w.heap.size w);have H:(if 0 ≤ a1 then (if a1 < (l0_1.length:Int) then (some ((dE false l0_1 a1) == a2)) else (none)) else (none)) = some r:=h;clear h;replace H:=iN H;obtain ⟨c4,H⟩:=H;have c4b0:decide (0 ≤ a1) = true:=decide_eq_true c4;clear c4;replace H:=iN H;obtain ⟨c5,H⟩:=H;have c5b0:decide (a1 < (l0_1.length:Int)) = true:=decide_eq_true c5;clear c5;obtain rfl:=Option.some.inj H;go_enter Tryz.func73,Tryz.ntmps73;go_wp2_with (first|((with_reducible refine aC (N:=3) rfl ?_);refine bE 3 #[.int .i64 a0_0,.slice A0_1 l0_1.length c0_1] 56 ?_;intro gb3 hg w6 hbox hb;have BK3:=aM (hbox);have GW3:=aM (gS hg);have GE3:=aM (gS hg);replace HB:=aM (ag bw hb);have NB1_142:=aM (nL BK1.out hg);have NB3_1:=aM (nR BK1.out hg);replace BK1:=aM (bB BK1.out hb);have NB2_142:=aM (nL BK2.out hg);have NB3_2:=aM (nR BK2.out hg);replace BK2:=aM (bB BK2.out hb);clear hb hbox hg;have hnb7:=NB3_1.out;have hnc7:=NB1_142.out;have hnb8:=NB3_2.out;have hnc8:=NB2_142.out;have hcz9_0:=cz BK3.out 0;have hcz9_1:=cz BK3.out 1;have hfz9_0:=af BK3.out 0;have hfz9_1:=af BK3.out 1;have hnb10:=NB1_2.out;have hnc10:=NB2_1.out;have hcz11_0:=cz BK1.out 0;have hfz11_0:=af BK1.out 0;have p13:0 ≤ (a1:Int):=of_decide_eq_true ab;have q13:a1 < (l0_1.length:Int):=of_decide_eq_true ab;obtain ⟨ad13,e13,hx13_0⟩:=Kd.b8 HR0_1.out a1 p13 q13;cases e13;replace hx13_0:=(HB.out.cell (World.block_lt_of_cell? w _ hx13_0)).trans hx13_0;replace p13:=eq_true p13;replace q13:=eq_true q13;have hcz12_0:=cz BK2.out 0;have hfz12_0:=af BK2.out 0))
 repeat (go_quiet (first|((with_reducible refine aC (N:=3) rfl ?_);refine bE 3 #[.int .i64 a0_0,.slice A0_1 l0_1.length c0_1] 56 ?_;intro gb3 hg w6 hbox hb;have BK3:=aM (hbox);have GW3:=aM (gS hg);have GE3:=aM (gS hg);replace HB:=aM (ag bw hb);have NB1_142:=aM (nL BK1.out hg);have NB3_1:=aM (nR BK1.out hg);replace BK1:=aM (bB BK1.out hb);have NB2_142:=aM (nL BK2.out hg);have NB3_2:=aM (nR BK2.out hg);replace BK2:=aM (bB BK2.out hb);clear hb hbox hg;have hnb7:=NB3_1.out;have hnc7:=NB1_142.out;have hnb8:=NB3_2.out;have hnc8:=NB2_142.out;have hcz9_0:=cz BK3.out 0;have hcz9_1:=cz BK3.out 1;have hfz9_0:=af BK3.out 0;have hfz9_1:=af BK3.out 1;have hnb10:=NB1_2.out;have hnc10:=NB2_1.out;have hcz11_0:=cz BK1.out 0;have hfz11_0:=af BK1.out 0;have p13:0 ≤ (a1:Int):=of_decide_eq_true ab;have q13:a1 < (l0_1.length:Int):=of_decide_eq_true ab;obtain ⟨ad13,e13,hx13_0⟩:=Kd.b8 HR0_1.out a1 p13 q13;cases e13;replace hx13_0:=(HB.out.cell (World.block_lt_of_cell? w _ hx13_0)).trans hx13_0;replace p13:=eq_true p13;replace q13:=eq_true q13;have hcz12_0:=cz BK2.out 0;have hfz12_0:=af BK2.out 0));try go_wp2_with (first|((with_reducible refine aC (N:=3) rfl ?_);refine bE 3 #[.int .i64 a0_0,.slice A0_1 l0_1.length c0_1] 56 ?_;intro gb3 hg w6 hbox hb;have BK3:=aM (hbox);have GW3:=aM (gS hg);have GE3:=aM (gS hg);replace HB:=aM (ag bw hb);have NB1_142:=aM (nL BK1.out hg);have NB3_1:=aM (nR BK1.out hg);replace BK1:=aM (bB BK1.out hb);have NB2_142:=aM (nL BK2.out hg);have NB3_2:=aM (nR BK2.out hg);replace BK2:=aM (bB BK2.out hb);clear hb hbox hg;have hnb7:=NB3_1.out;have hnc7:=NB1_142.out;have hnb8:=NB3_2.out;have hnc8:=NB2_142.out;have hcz9_0:=cz BK3.out 0;have hcz9_1:=cz BK3.out 1;have hfz9_0:=af BK3.out 0;have hfz9_1:=af BK3.out 1;have hnb10:=NB1_2.out;have hnc10:=NB2_1.out;have hcz11_0:=cz BK1.out 0;have hfz11_0:=af BK1.out 0;have p13:0 ≤ (a1:Int):=of_decide_eq_true ab;have q13:a1 < (l0_1.length:Int):=of_decide_eq_true ab;obtain ⟨ad13,e13,hx13_0⟩:=Kd.b8 HR0_1.out a1 p13 q13;cases e13;replace hx13_0:=(HB.out.cell (World.block_lt_of_cell? w _ hx13_0)).trans hx13_0;replace p13:=eq_true p13;replace q13:=eq_true q13;have hcz12_0:=cz BK2.out 0;have hfz12_0:=af BK2.out 0)))
 go_ret
 exact ⟨eE,by exact bw⟩
theorem cL.enters:∀ (args:Array Value) (w:World),(callFunc 73 args).run Tryz.prog w = .ok (.enter 73 args) w:=enters_of Tryz.func73 kR rfl


def dm.f (k:Nat) (a0:Int) (l1:List (bp)) (a2:Bool):Option (Bool):=(bj.f k l1 (fun y0_ y1_=>cL.f y0_ y1_ a0 a2)).bind fun t3=>(some (t3 == a2))
theorem dm.calls (k:Nat) (a0:Int) (gc1:Nat) (A1:Option Addr) (c1:Nat) (l1:List (bp)) (gc2:Nat) (a2:Bool) (r:Bool) (w:World) (hr1:Kd.C dz w A1 l1.length l1) (hc1:l1.length ≤ c1) (hb1:w.heap[gc1]? = some (.cells #[.slice A1 l1.length c1] 83 (0,0))) (hb2:w.heap[gc2]? = some (.cells #[.bool a2] 4 (0,0))) (hn1_2:gc1 ≠ gc2) (h:dm.f k a0 l1 a2 = some r) :
  Calls Tryz.prog 71 #[.int .i64 a0,.pointer (some ⟨gc1,0,none⟩),.pointer (some ⟨gc2,0,none⟩)] w fun e w'=>e = .returned (.bool r) ∧ Below w.heap.size w w':=by
 have hmf:∀ (fn:Fn) (first cap:Array Value) (w:World),(Instr.makeFunc fn first cap).run Tryz.prog w = .ok (.func fn first cap) w:=fun _ _ _ _=>rfl
 have HR1:=aM hr1;have HC1:=aM hc1;clear hr1 hc1;have BK1:=aM hb1;clear hb1;have BK2:=aM hb2;clear hb2;have NB1_2:=aM hn1_2;have NB2_1:=aM (Ne.symm hn1_2);clear hn1_2;have HB:=aM (Below.refl w.heap.size w);have H:((bj.f k l1 (fun y0_ y1_=>cL.f y0_ y1_ a0 a2)).bind fun t9=>(some (t9 == a2))) = some r:=h;clear h;replace H:=oB H;obtain ⟨t9,A4,H⟩:=H;(try dsimp only at H)
 obtain rfl:=Option.some.inj H;go_enter Tryz.func71,Tryz.ntmps71
 try go_wp2_with (first|((with_reducible refine aC (N:=3) rfl ?_);refine bE 3 #[.int .i64 a0] 3 ?_;intro gb8 hg w5 hbox hb;have BK8:=aM (hbox);have GW8:=aM (gS hg);have GE8:=aM (gS hg);replace HB:=aM (ag bw hb);have NB1_144:=aM (nL BK1.out hg);have NB8_1:=aM (nR BK1.out hg);replace BK1:=aM (bB BK1.out hb);have NB2_144:=aM (nL BK2.out hg);have NB8_2:=aM (nR BK2.out hg);replace BK2:=aM (bB BK2.out hb);clear hb hbox hg))
 replace BK1:=aM (an BK1.out);replace BK2:=aM (an BK2.out);replace BK8:=aM (an BK8.out);replace HB:=aM (bg HB.out);refine eQ (n:=6) (S:=fun w'=>w'.cell? ⟨gc1,0,none⟩ = some (.slice A1 l1.length c1) ∧ w'.cell? ⟨gc2,0,none⟩ = some (.bool a2)) (ds:=[]) (mA 6 0) kR rfl rfl ⟨(aE BK1.out 0).trans rfl,(aE BK2.out 0).trans rfl⟩ (fun hHeld=>?_);generalize w5.drew = w6 at BK1 BK2 BK8 HB hHeld ⊢
 refine fy (i:=1) (N:=some 6) (v:=?_) (a':=?_) (mA 6 2) rfl rfl kR (fun _ _ _ h=>h) (Or.inl ⟨by rfl,?_⟩) ?_ ?_;rotate_left
 ·intro w';go_simp
  with_reducible rfl
 rotate_left
 ·simp only [Act.put,sA,sZ,sS,cS,dH];rfl
 refine iO (i:=0) (N:=some 5) (v:=?_) (a':=?_) (mA 6 3) rfl rfl kR (fun _ _ _ h=>h) (Or.inl ⟨by rfl,?_⟩) hHeld ?_ ?_;rotate_left
 ·rintro w' ⟨s0,s1⟩
  go_simp
  with_reducible rfl
 rotate_left
 ·simp only [Act.put,sA,sZ,sS,cS,dH];rfl
 refine iO (i:=3) (N:=some 8) (v:=?_) (a':=?_) (mA 6 11) rfl rfl kR (fun _ _ _ h=>h) (Or.inl ⟨by rfl,?_⟩) hHeld ?_ ?_;rotate_left
 ·rintro w' ⟨s0,s1⟩
  go_simp
  with_reducible rfl
 rotate_left
 ·simp only [Act.put,sA,sZ,sS,cS,dH];rfl
 refine mf (i:=2) (N:=some 7) (mA 6 15) rfl rfl kR (by decide) (fun K hK=>?_);refine gC Tryz.func72 #[.slice A1 l1.length c1,.func (.func 73) #[] #[.pointer (some ⟨gb8,0,none⟩),.pointer (some ⟨gc2,0,none⟩)]] ?_
 with_reducible refine (bj.calls k _ _ l1 (fun y0_ y1_=>cL.f y0_ y1_ a0 a2) 73 #[.pointer (some ⟨gb8,0,none⟩),.pointer (some ⟨gc2,0,none⟩)] cL.enters t9 _ ?side1 ?side2 ?side3 A4.out).mono ?_
 (case side1=>exact qcs HR1.out HB.out)
 (case side2=>exact HC1.out)
 (case side3=>exact (fun W_ a0_ A1_ c1_ l1_ r0_ hx_ hb_ hr1_ hc1_=>(cL.calls a0_ A1_ c1_ l1_ gb8 a0 gc2 a2 r0_ W_ hr1_ hc1_ (ej (bk1 BK8.out) hb_) (ej (bk1 BK2.out) hb_) NB8_2.out hx_).mono (fun _ _ h_=>h_)))
 rintro e w7 ⟨rfl,hb⟩
 refine ⟨_,rfl,?_⟩;replace BK1:=aM (bB BK1.out hb);replace BK2:=aM (bB BK2.out hb);replace BK8:=aM (bB BK8.out hb);replace HB:=aM (ag bw hb);(try clear hb)
 (try clear hb2)
 refine hK.out _ _ ⟨(aE BK1.out 0).trans rfl,(aE BK2.out 0).trans rfl⟩ (fun hHeld=>?_);clear hK K;refine nM 7 ?_;refine fy (i:=4) (N:=some 9) (v:=?_) (a':=?_) (mA 6 31) rfl rfl kR (fun _ _ _ h=>h) (Or.inl ⟨by rfl,?_⟩) ?_ ?_;rotate_left
 ·intro w';go_simp
  with_reducible rfl
 rotate_left
 ·simp only [Act.put,sA,sZ,sS,cS,dH];rfl
 refine fy (i:=5) (N:=some 4) (v:=?_) (a':=?_) (mA 6 63) rfl rfl kR (fun _ _ _ h=>h) (Or.inl ⟨by rfl,?_⟩) ?_ ?_;rotate_left
 ·intro w';go_simp
  with_reducible rfl
 rotate_left
 ·simp only [Act.put,sA,sZ,sS,cS,dH];rfl
 refine fK kR ?_
 try go_wp2
 go_ret
 exact ⟨eE,by exact bw⟩
theorem dm.enters:∀ (args:Array Value) (w:World),(callFunc 71 args).run Tryz.prog w = .ok (.enter 71 args) w:=enters_of Tryz.func71 kR rfl


def aJ.l0:Nat → List (aa) → Int → Int → Bool → List (bp) → Option (Int × List Bool)
 | 0,_,_,_,_,_=>none
 | k + 1,x9,x10,x11,x4,x5=>if x11 < x10 then (if 0 ≤ x11 then (if x11 < (x9.length:Int) then ((b9.f k ((ae x9 x11).f0) ((ae x9 x11).f1)).bind fun bt2=>(if x5.length < 4398046511104 then (aJ.l0 k x9 x10 (wrap64 (x11 + 1)) x4 (x5 ++ [(⟨bt2.1,bt2.2⟩:bp)])) else (none))) else (none)) else (none)) else (if 0 < (x5.length:Int) then ((bc.f k ((cm x5 0).f0) (fun y0_=>dm.f k y0_ x5 x4)).bind fun bt3=>(some (bt3.1,bt3.2))) else (none))
def aJ.f (k:Nat) (l0:List (aa)) (a1:Bool):Option (Int × List Bool):=aJ.l0 k l0 (l0.length:Int) 0 a1 (([]:List (bp)))
theorem aJ.calls (k:Nat) (A0:Option Addr) (c0:Nat) (l0:List (aa)) (a1:Bool) (r1:Int) (r2:List Bool) (w:World) (hr0:Kd.C ak w A0 l0.length l0) (hc0:l0.length ≤ c0) (h:aJ.f k l0 a1 = some (r1,r2)) :
  Calls Tryz.prog 34 #[.slice A0 l0.length c0,.bool a1] w fun e w'=>∃ v1_:Value,e = .returned (.agg #[.int .i64 r1,v1_]) ∧ Kd.R Kd.bool 4 w' w.heap.size (fun _=>True) v1_ r2 ∧ Below w.heap.size w w':=by
 have hmf:∀ (fn:Fn) (first cap:Array Value) (w:World),(Instr.makeFunc fn first cap).run Tryz.prog w = .ok (.func fn first cap) w:=fun _ _ _ _=>rfl
 have hu56:=Tryz.underlying56;have hu25:=Tryz.underlying25;have HR0:=aM hr0;have HC0:=aM hc0;clear hr0 hc0;have HB:=aM (Below.refl w.heap.size w);have H:(aJ.l0 k l0 (l0.length:Int) 0 a1 (([]:List (bp)))) = some (r1,r2):=h;clear h;obtain ⟨y41,hy41⟩:∃ y_:List (bp),y_ = (([]:List (bp))):=⟨_,rfl⟩;replace H:(aJ.l0 k l0 (l0.length:Int) 0 a1 y41) = some (r1,r2):=yR hy41 H;have Ny41:=aM hy41;clear hy41;have H':=aM H;clear H;go_enter Tryz.func34,Tryz.ntmps34;go_wp2_with (first|((with_reducible refine aC (N:=3) rfl ?_);refine bE 3 #[.bool a1] 4 ?_;intro gb39 hg w3 hbox hb;have BK39:=aM (hbox);have GW39:=aM (gS hg);have GE39:=aM (gS hg);replace HB:=aM (ag bw hb);clear hb hbox hg)|((with_reducible refine aC (N:=4) rfl ?_);refine bE 4 #[.int .i64 0,.slice none 0 0] 56 ?_;intro gb40 hg w4 hbox hb;have BK40:=aM (hbox);have GW40:=aM (gS hg);have GE40:=aM (gS hg);replace HB:=aM (ag bw hb);have NB39_40:=aM (nL BK39.out hg);have NB40_39:=aM (nR BK39.out hg);replace BK39:=aM (bB BK39.out hb);clear hb hbox hg)|((with_reducible refine aC (N:=8) rfl ?_);refine Kd.S_lit dz _ 56 ?hg (N:=8) ?hd (xs:=([]:List (bp))) (inner:=[]) (ok:=fun _=>True) (okp:=fun _=>True) ?hr ?hp (fun _ hk=>hk) trivial (Below.refl _ _) (Nat.le_refl _) (by simp) ?_;(case hd=>rfl);(case hg=>rfl);(case hr=>first|(go_simp;done)|(go_simp;rfl));(case hp=>exact (eH.none _ _));intro v42 w5 ho6 hb hg_ hnew_;clear hg_ hnew_;(first|rw [← Ny41.out] at ho6|(simp only [Int.reduceToNat] at ho6;rw [← Ny41.out] at ho6));have HO43:=aM (Kd.gr (Kd.ni (Kd.ni ho6 (g:=gb39) (o:=.cells #[.bool a1] 4 (0,0)) (bk1 BK39.out)) (g:=gb40) (o:=.cells #[.int .i64 0,.slice none 0 0] 56 (0,0)) (bk1 BK40.out)) (av bw));replace BK39:=aM (bB BK39.out hb);replace BK40:=aM (bB BK40.out hb);replace HB:=aM (ag bw hb);clear hb ho6)|((with_reducible refine aC (N:=5) rfl ?_);refine bE 5 #[.slice none 0 0] 83 ?_;intro gb44 hg w7 hbox hb;replace HO43:=aM (Kd.iz (qsa HO43.out) hb);have BK44:=aM (hbox);have GW44:=aM (gS hg);have GE44:=aM (gS hg);replace HB:=aM (ag bw hb);have NB39_44:=aM (nL BK39.out hg);have NB44_39:=aM (nR BK39.out hg);replace BK39:=aM (bB BK39.out hb);have NB40_44:=aM (nL BK40.out hg);have NB44_40:=aM (nR BK40.out hg);replace BK40:=aM (bB BK40.out hb);clear hb hbox hg;obtain ⟨Ao8,co8,eo8⟩:=Kd.fH HO43.out;subst eo8;have hnb9:=NB44_39.out;have hnc9:=NB39_44.out;have hnb10:=NB44_40.out;have hnc10:=NB40_44.out;have hcz11_0:=cz BK44.out 0;have hfz11_0:=af BK44.out 0))
 go_loopg [11] k (fun kq v11 w'=>∃ (x11_1:Int) (x60_1:List (bp)) (u60:Value),v11 = .int .i64 x11_1 ∧ aj (aJ.l0 kq l0 (l0.length:Int) x11_1 a1 x60_1 = some (r1,r2)) ∧ aj (kq ≤ k) ∧ aj (Kd.S dz 56 w' w.heap.size (fun k_=>k_ ≠ gb39 ∧ k_ ≠ gb40) u60 x60_1) ∧ aj (w'.heap[gb39]? = some (.cells #[.bool a1] 4 (0,0))) ∧ aj (w'.heap[gb40]? = some (.cells #[.int .i64 0,(.slice none 0 0)] 56 (0,0))) ∧ aj (w'.heap[gb44]? = some (.cells #[u60] 83 (0,0))) ∧ aj (Below w.heap.size w w'))
 case atStart=>exact ⟨(0),(y41),(.slice Ao8 y41.length co8),qrs,H',⟨Nat.le_refl _⟩,⟨by (with_reducible repeat (first|apply Kd.ez|apply Kd.eh|apply Kd.fb));exact Kd.eT (Kd.gh (p:=⟨gb44,0,none⟩) (Kd.fL HO43.out BK44.out (by decide)) (fun _ hk=>hk.2) (.slice Ao8 y41.length co8)) (fun _ hk=>cj hk)⟩,⟨bF BK39.out NB39_44.out⟩,⟨bF BK40.out NB40_44.out⟩,⟨by (with_reducible repeat (first|refine ax ?_ _|refine an ?_|refine au ?_ _));refine bI (cs:=#[.slice none 0 0]) ?_ 0 _ rfl;(with_reducible repeat (first|refine ax ?_ _|refine an ?_|refine au ?_ _));exact BK44.out⟩,⟨by exact bw⟩⟩
 case round =>
  clear H';(try clear hcz11_0);(try clear hfz11_0)
  obtain ⟨x11_1,x60_1,u60,rfl,HA,HK1,HO_60,BK39,BK40,BK44,HB⟩:=hrel
  cases gk with
  | zero=>exact absurd HA.out (by simp [aJ.l0])
  | succ k1 =>
   have H:=HA.out;clear HA;simp only [aJ.l0] at H;by_cases c12:x11_1 < (l0.length:Int)
   ·rw [if_pos c12] at H;have c12b0:=decide_eq_true c12;clear c12;replace H:=iN H;obtain ⟨c13,H⟩:=H;have c13b0:decide (0 ≤ x11_1) = true:=decide_eq_true c13;clear c13;replace H:=iN H;obtain ⟨c14,H⟩:=H;have c14b0:decide (x11_1 < (l0.length:Int)) = true:=decide_eq_true c14;clear c14;replace H:=oB H;obtain ⟨⟨t47,t48⟩,A15,H⟩:=H;(try dsimp only at H)
    replace H:=iN H;obtain ⟨c16,H⟩:=H;have LMc16:=aM c16;clear c16;obtain ⟨y51,hy51⟩:∃ y_:List (bp),y_ = (x60_1 ++ [(⟨t47,t48⟩:bp)]):=⟨_,rfl⟩;replace H:(aJ.l0 k1 l0 (l0.length:Int) (wrap64 (x11_1 + 1)) a1 y51) = some (r1,r2):=yR hy51 H;have Ny51:=aM hy51;clear hy51;have H':=aM H;clear H;have p45:0 ≤ (x11_1:Int):=of_decide_eq_true ab;have q45:x11_1 < (l0.length:Int):=of_decide_eq_true ab;obtain ⟨ad45,A45_1,c152_1,e45,hx45_0,hx45_1,hl45_1,hi45_1⟩:=bD HR0.out x11_1 p45 q45;cases e45
    replace hx45_0:=(HB.out.cell (World.block_lt_of_cell? w _ hx45_0)).trans hx45_0;replace hx45_1:=(HB.out.cell (World.block_lt_of_cell? w _ hx45_1)).trans hx45_1;have HR45_1:=aM hi45_1;have HC45_1:=aM hl45_1;clear hi45_1 hl45_1;replace p45:=eq_true p45;replace q45:=eq_true q45
    try go_wp2_with (first|((with_reducible refine aC (N:=7) rfl ?_);refine bE 7 #[.int .i64 0,.slice none 0 0] 25 ?_;intro gb46 hg w17 hbox hb;replace HO_60:=aM (Kd.iz (qsa HO_60.out) hb);have BK46:=aM (hbox);have GW46:=aM (gS hg);have GE46:=aM (gS hg);replace HB:=aM (ag bw hb);have NB39_46:=aM (nL BK39.out hg);have NB46_39:=aM (nR BK39.out hg);replace BK39:=aM (bB BK39.out hb);have NB40_46:=aM (nL BK40.out hg);have NB46_40:=aM (nR BK40.out hg);replace BK40:=aM (bB BK40.out hb);have NB44_46:=aM (nL BK44.out hg);have NB46_44:=aM (nR BK44.out hg);replace BK44:=aM (bB BK44.out hb);clear hb hbox hg;have hnb18:=NB46_39.out;have hnc18:=NB39_46.out;have hnb19:=NB46_40.out;have hnc19:=NB40_46.out;have hnb20:=NB46_44.out;have hnc20:=NB44_46.out;have hcz21_0:=cz BK46.out 0;have hcz21_1:=cz BK46.out 1;have hfz21_0:=af BK46.out 0;have hfz21_1:=af BK46.out 1))
    have n0_:aj (Kd.S dz 56 ((w17.setCell ⟨gb46,0,none⟩ (.int .i64 ((ae l0 x11_1).f0))).setCell ⟨gb46,1,none⟩ (.slice A45_1 ((ae l0 x11_1).f1).length c152_1)) w.heap.size (fun k_=>k_ ≠ gb39 ∧ k_ ≠ gb40) u60 x60_1):=⟨by (with_reducible repeat (first|apply Kd.ez|apply Kd.eh|apply Kd.fb));exact Kd.eT (Kd.gh (p:=⟨gb46,1,none⟩) (Kd.gh (p:=⟨gb46,0,none⟩) (Kd.fL HO_60.out BK46.out (by decide)) (fun _ hk=>hk.2) (.int .i64 ((ae l0 x11_1).f0))) (fun _ hk=>hk.2) (.slice A45_1 ((ae l0 x11_1).f1).length c152_1)) (fun _ hk=>cj hk)⟩;have n1_:aj (((w17.setCell ⟨gb46,0,none⟩ (.int .i64 ((ae l0 x11_1).f0))).setCell ⟨gb46,1,none⟩ (.slice A45_1 ((ae l0 x11_1).f1).length c152_1)).heap[gb39]? = some (.cells #[.bool a1] 4 (0,0))):=⟨bF BK39.out NB39_46.out⟩;have n2_:aj (((w17.setCell ⟨gb46,0,none⟩ (.int .i64 ((ae l0 x11_1).f0))).setCell ⟨gb46,1,none⟩ (.slice A45_1 ((ae l0 x11_1).f1).length c152_1)).heap[gb40]? = some (.cells #[.int .i64 0,.slice none 0 0] 56 (0,0))):=⟨bF BK40.out NB40_46.out⟩;have n3_:aj (((w17.setCell ⟨gb46,0,none⟩ (.int .i64 ((ae l0 x11_1).f0))).setCell ⟨gb46,1,none⟩ (.slice A45_1 ((ae l0 x11_1).f1).length c152_1)).heap[gb44]? = some (.cells #[u60] 83 (0,0))):=⟨bF BK44.out NB44_46.out⟩;have n4_:aj (((w17.setCell ⟨gb46,0,none⟩ (.int .i64 ((ae l0 x11_1).f0))).setCell ⟨gb46,1,none⟩ (.slice A45_1 ((ae l0 x11_1).f1).length c152_1)).heap[gb46]? = some (.cells #[.int .i64 ((ae l0 x11_1).f0),.slice A45_1 ((ae l0 x11_1).f1).length c152_1] 25 (0,0))):=⟨by (with_reducible repeat (first|refine ax ?_ _|refine an ?_|refine au ?_ _));refine bI (cs:=#[.int .i64 ((ae l0 x11_1).f0),.slice none 0 0]) ?_ 1 _ rfl;(with_reducible repeat (first|refine ax ?_ _|refine an ?_|refine au ?_ _));refine bI (cs:=#[.int .i64 0,.slice none 0 0]) ?_ 0 _ rfl;(with_reducible repeat (first|refine ax ?_ _|refine an ?_|refine au ?_ _));exact BK46.out⟩;have n5_:aj (Below w.heap.size w ((w17.setCell ⟨gb46,0,none⟩ (.int .i64 ((ae l0 x11_1).f0))).setCell ⟨gb46,1,none⟩ (.slice A45_1 ((ae l0 x11_1).f1).length c152_1))):=⟨by exact bw⟩;(try clear HO_60)
    (try clear BK39)
    (try clear BK40)
    (try clear BK44)
    (try clear BK46)
    (try clear HB)
    generalize ((w17.setCell ⟨gb46,0,none⟩ (.int .i64 ((ae l0 x11_1).f0))).setCell ⟨gb46,1,none⟩ (.slice A45_1 ((ae l0 x11_1).f1).length c152_1)) = w22 at n0_ n1_ n2_ n3_ n4_ n5_ ⊢
    have HO_60:=n0_;have BK39:=n1_;have BK40:=n2_;have BK44:=n3_;have BK46:=n4_;have HB:=n5_;clear n0_ n1_ n2_ n3_ n4_ n5_;replace HO_60:=aM (Kd.fb HO_60.out);replace BK39:=aM (an BK39.out);replace BK40:=aM (an BK40.out);replace BK44:=aM (an BK44.out);replace BK46:=aM (an BK46.out);replace HB:=aM (bg HB.out);refine eQ (n:=6) (S:=fun w'=>w'.cell? ⟨gb44,0,none⟩ = some (u60) ∧ w'.cell? ⟨gb46,0,none⟩ = some (.int .i64 ((ae l0 x11_1).f0)) ∧ w'.cell? ⟨gb46,1,none⟩ = some (.slice A45_1 ((ae l0 x11_1).f1).length c152_1)) (ds:=[5]) (mA 6 0) kR rfl rfl ⟨(aE BK44.out 0).trans rfl,(aE BK46.out 0).trans rfl,(aE BK46.out 1).trans rfl⟩ (fun hHeld=>?_);generalize w22.drew = w23 at HO_60 BK39 BK40 BK44 BK46 HB hHeld ⊢
    refine iO (i:=0) (N:=some 15) (v:=?_) (a':=?_) (mA 6 1) rfl rfl kR (fun _ _ _ h=>h) (Or.inl ⟨by rfl,?_⟩) hHeld ?_ ?_;rotate_left
    ·rintro w' ⟨s0,s1,s2⟩
     go_simp
     with_reducible rfl
    rotate_left
    ·simp only [Act.put,sA,sZ,sS,cS,dH];rfl
    refine iO (i:=1) (N:=some 16) (v:=?_) (a':=?_) (mA 6 3) rfl rfl kR (fun _ _ _ h=>h) (Or.inl ⟨by rfl,?_⟩) hHeld ?_ ?_;rotate_left
    ·rintro w' ⟨s0,s1,s2⟩
     go_simp
     with_reducible rfl
    rotate_left
    ·simp only [Act.put,sA,sZ,sS,cS,dH];rfl
    refine mf (i:=2) (N:=some 17) (mA 6 7) rfl rfl kR (by decide) (fun K hK=>?_);refine gC Tryz.func61 #[.agg #[.int .i64 ((ae l0 x11_1).f0),.slice A45_1 ((ae l0 x11_1).f1).length c152_1]] ?_
    with_reducible refine (b9.calls k1 ((ae l0 x11_1).f0) _ _ ((ae l0 x11_1).f1) t47 t48 _ ?side1 ?side2 A15.out).mono ?_
    (case side1=>exact qcs HR45_1.out HB.out)
    (case side2=>exact HC45_1.out)
    rintro e w24 ⟨v49,rfl,ho0,hb⟩
    refine ⟨_,rfl,?_⟩;replace HO_60:=aM (Kd.jj (qsa HO_60.out) (Kd.da ho0) hb);have HO50:=aM (Kd.cr (Kd.R_newB ho0 (g:=gb39) (o:=.cells #[.bool a1] 4 (0,0)) (bk1 BK39.out)) (av bw));replace BK39:=aM (bB BK39.out hb);replace BK40:=aM (bB BK40.out hb);replace BK44:=aM (bB BK44.out hb);replace BK46:=aM (bB BK46.out hb);replace HB:=aM (ag bw hb);(try clear hb)
    (try clear hk)
    (try clear ho0)
    obtain ⟨Ao26,co26,eo26⟩:=Kd.b5 HO50.out;(first|subst eo26|(injection eo26 with f1_ f2_ f3_;have f4_:=f1_.symm;have f5_:=f3_.symm;clear f1_ f2_ f3_;subst f4_;subst f5_))
    refine hK.out _ _ ⟨(aE BK44.out 0).trans rfl,(aE BK46.out 0).trans rfl,(aE BK46.out 1).trans rfl⟩ (fun hHeld=>?_);clear hK K;refine nM 17 ?_;refine mf (i:=3) (N:=some 18) (mA 6 15) rfl rfl kR (by decide) (fun K hK=>?_);refine nS (w1:=?_) (v:=?_) (by rfl) rfl ?_ ?_;rotate_left 2
    ·go_simp
     constructor
     ·rfl
     ·rfl
    refine hK.out _ _ ⟨(aE (au BK44.out _) 0).trans rfl,(aE (au BK46.out _) 0).trans rfl,(aE (au BK46.out _) 1).trans rfl⟩ (fun hHeld=>?_);clear hK K;refine nM 18 ?_;refine mf (i:=4) (N:=some 19) (mA 6 31) rfl rfl kR (by decide) (fun K hK=>?_);refine Kd.lc dz (w0:=w) w.heap.size (by rfl) (.tmp 15) (.tmp 18) 83 56 (.agg #[(.int .i64 0),(.slice none 0 0)]) 32 rfl Tryz.underlying83 info56 rfl (by decide) (by omega) u60 x60_1 (⟨t47,t48⟩:bp) [.int .i64 t47,.slice Ao26 t48.length co26] (fun k_=>k_ ≠ gb39 ∧ k_ ≠ gb40) (fun k_=>some k_ = (.slice Ao26 t48.length co26:Value).ownBlock) rfl rfl ?aP (fun k_ hk_=>((Kd.cG (ok':=fun k_=>((fun k_=>k_ ≠ gb39 ∧ k_ ≠ gb40)) k_ ∧ some k_ ≠ (u60:Value).ownBlock) (Kd.dL (Kd.eU (HO50.out) (Kd.iX HO_60.out) (by decide)) BK40.out (by decide)) (fun k_ hk=>⟨⟨hk.1.1.2,hk.2⟩,hk.1.2⟩))).1 k_ hk_.symm) ?aF ?aO ?aB ?aS ?aL ?_;(case aP=>exact jI _ _ _ (⟨t47,t48⟩:bp) (Kd.cG (Kd.kY rfl (Kd.cG (ok':=fun k_=>((fun k_=>k_ ≠ gb39 ∧ k_ ≠ gb40)) k_ ∧ some k_ ≠ (u60:Value).ownBlock) (Kd.dL (Kd.eU (HO50.out) (Kd.iX HO_60.out) (by decide)) BK40.out (by decide)) (fun k_ hk=>⟨⟨hk.1.1.2,hk.2⟩,hk.1.2⟩))) (fun _ h_=>h_)))
    (case aB=>exact bw)
    (case aF=>exact (fun k_ hk=>⟨Kd.bX (g:=gb39) (o:=.cells #[.bool a1] 4 (0,0)) (bk1 BK39.out) k_ hk,Kd.bX (g:=gb40) (o:=.cells #[.int .i64 0,.slice none 0 0] 56 (0,0)) (bk1 BK40.out) k_ hk⟩))
    (case aO=>exact (by (with_reducible repeat (first|apply Kd.ez|apply Kd.eh|apply Kd.fb));exact Kd.eT HO_60.out (fun k_ hk=>⟨⟨hk.1.1,hk.1.2⟩,fun e_=>hk.2 e_⟩)))
    (case aS=>exact (av bw))
    (case aL=>have:=LMc16.out;omega)
    intro v52 w25 ho hb hg hat;rw [← Ny51.out] at ho;replace BK39:=aM (bH BK39.out hg (Kd.S_ne HO_60.out BK39.out (by decide)));replace BK40:=aM (bH BK40.out hg (Kd.S_away HO_60.out (fun _ hk=>hk.1.2)));replace BK44:=aM (bH BK44.out hg (Kd.S_ne HO_60.out BK44.out (by decide)));replace BK46:=aM (bH BK46.out hg (Kd.S_ne HO_60.out BK46.out (by decide)));replace HB:=aM (hb);have HO53:=aM (ho);clear HO_60;clear HO50;clear ho hb hg hat;obtain ⟨Ao27,co27,eo27⟩:=Kd.fH HO53.out;(first|subst eo27|(injection eo27 with f1_ f2_ f3_;have f4_:=f1_.symm;have f5_:=f3_.symm;clear f1_ f2_ f3_;subst f4_;subst f5_))
    refine hK.out _ _ ⟨(aE BK44.out 0).trans rfl,(aE BK46.out 0).trans rfl,(aE BK46.out 1).trans rfl⟩ (fun hHeld=>?_);clear hK K;refine nM 19 ?_;refine last_ (i:=5) (N:=none) (mA 6 63) rfl rfl kR (by decide) (fun K hK=>?_);have hs28:w25.cell? ⟨gb44,0,none⟩ = some (u60):=(aE BK44.out 0).trans rfl;have hfs28:=af BK44.out 0;have hns28_0:=NB39_44.out;have hns28_1:=NB40_44.out;have hns28_3:=NB46_44.out;have hms28_0:=NB44_39.out;have hms28_1:=NB44_40.out;have hms28_3:=NB44_46.out;refine ma (w1:=?_) (by rfl) rfl ?_ ?_;rotate_left
    ·go_simp
     rfl
    refine hK.out _ _ ?_;clear hK K;refine fK kR ?_
    try go_wp2
    go_roundg k1
    case measure=>have:=HK1.out;omega
    case rel=>exact ⟨(wrap64 (x11_1 + 1)),(y51),(.slice Ao27 y51.length co27),qrs,H',⟨by have:=HK1.out;omega⟩,⟨by (with_reducible repeat (first|apply Kd.ez|apply Kd.eh|apply Kd.fb));exact Kd.eT (Kd.gh (p:=⟨gb44,0,none⟩) (Kd.fL HO53.out BK44.out (by decide)) (fun _ hk=>hk.2) (.slice Ao27 y51.length co27)) (fun _ hk=>cj hk)⟩,⟨bF BK39.out NB39_44.out⟩,⟨bF BK40.out NB40_44.out⟩,⟨by (with_reducible repeat (first|refine ax ?_ _|refine an ?_|refine au ?_ _));refine bI (cs:=#[u60]) ?_ 0 _ rfl;(with_reducible repeat (first|refine ax ?_ _|refine an ?_|refine au ?_ _));exact BK44.out⟩,⟨by exact bw⟩⟩
   ·rw [if_neg c12] at H;have c12b0:=decide_eq_false c12;clear c12;replace H:=iN H;obtain ⟨c29,H⟩:=H;have c29b0:decide (0 < (x60_1.length:Int)) = true:=decide_eq_true c29;have c29b1:decide (0 < x60_1.length) = true:=decide_eq_true (by omega);clear c29;replace H:=oB H;obtain ⟨⟨t55,t57⟩,A30,H⟩:=H;(try dsimp only at H)
    simp only [Option.some.injEq,Prod.mk.injEq] at H;obtain ⟨rfl,rfl⟩:=H;have hnb31:=NB44_39.out;have hnc31:=NB39_44.out;have hnb32:=NB44_40.out;have hnc32:=NB40_44.out;have hcz33_0:=cz BK44.out 0;have hfz33_0:=af BK44.out 0;obtain ⟨Ao34,co34,eo34⟩:=Kd.fH HO_60.out;subst eo34;have p54:0 ≤ (0:Int):=(by omega);have q54:0 < (x60_1.length:Int):=of_decide_eq_true ab;obtain ⟨ad54,A54_1,c161_1,e54,hx54_0,hx54_1,hl54_1,hi54_1⟩:=hL (Kd.jK HO_60.out).2.2 0 p54 q54;cases e54
    obtain ⟨ce161,hce161,hMe161,hcc161⟩:=Kd.S_get HO_60.out fw 0 p54 (by first|exact q54|exact of_decide_eq_true ab|(have e_:=(Kd.jK HO_60.out).1;omega));obtain ⟨ve161_1,rfl,ge161_1⟩:=jc hMe161;have hv161_1:=hcc161 1 _ rfl;rw [km _ _ 1 (by omega)] at hv161_1;replace hv161_1:=Option.some.inj (hv161_1.symm.trans hx54_1);rw [hv161_1] at ge161_1;have HL161_1:=aM (show Kd.R Kd.bool 4 _ _ _ _ ((cm x60_1 0).f1) from ge161_1);clear hv161_1 ge161_1;clear hcc161 hce161;have qi161:(0 < x60_1.length) = True:=eq_true (by omega);(try rw [show ((0:Int)).toNat = 0 from rfl] at hx54_0)
    (try rw [show 0 * 2 = 0 from rfl] at hx54_0)
    (try rw [Addr.add_zero'] at hx54_0)
    (try rw [show ((0:Int)).toNat = 0 from rfl] at hx54_1)
    (try rw [show 0 * 2 = 0 from rfl] at hx54_1)
    (try rw [Addr.add_zero'] at hx54_1)
    have HR54_1:=aM hi54_1;have HC54_1:=aM hl54_1;clear hi54_1 hl54_1;replace p54:=eq_true p54;replace q54:=eq_true q54;go_wp2_with (first|((with_reducible refine ai (f:=62) rfl ?_);refine gL 26 Tryz.func62 #[.int .i64 ((cm x60_1 0).f0),.func (.func 71) #[] #[.pointer (some ⟨gb44,0,none⟩),.pointer (some ⟨gb39,0,none⟩)]] ?_;(with_reducible refine (bc.calls k1 ((cm x60_1 0).f0) (fun y0_=>dm.f k1 y0_ x60_1 a1) 71 #[.pointer (some ⟨gb44,0,none⟩),.pointer (some ⟨gb39,0,none⟩)] dm.enters t55 t57 _ ?side1 A30.out).mono ?_);(case side1=>exact (fun W_ a0_ r0_ hx_ hb_ =>(dm.calls k1 a0_ gb44 _ _ x60_1 gb39 a1 r0_ W_  (Kd.cA (by repeat (first|exact (Kd.jK HO_60.out).2.2|(with_reducible refine Kd.eI ?_ _)|(with_reducible refine Kd.eJ ?_ _)|(with_reducible refine Kd.fB ?_))) hb_) (by exact (Kd.jK HO_60.out).2.1) (ej (bk1 BK44.out) hb_) (ej (bk1 BK39.out) hb_) NB44_39.out hx_).mono (fun _ _ h_=>h_)));rintro e w35 ⟨v58,rfl,ho0,hb⟩;refine ⟨_,rfl,?_⟩;replace HO_60:=aM (Kd.jj (qsa HO_60.out) (Kd.da ho0) hb);have HO59:=aM (Kd.cr (Kd.R_newB (Kd.gv ho0 (Kd.gp (qra HL161_1.out))) (g:=gb39) (o:=.cells #[.bool a1] 4 (0,0)) (bk1 BK39.out)) (av bw));replace HL161_1:=aM (Kd.eN (qra HL161_1.out) (Kd.da ho0) hb);replace BK39:=aM (bB BK39.out hb);replace BK40:=aM (bB BK40.out hb);replace BK44:=aM (bB BK44.out hb);replace HR54_1:=aM (Kd.cA (by repeat (first|(with_reducible exact HR54_1.out)|(with_reducible refine Kd.eI ?_ _)|(with_reducible refine Kd.eJ ?_ _)|(with_reducible refine Kd.fB ?_)|exact HR54_1.out)) hb);replace HB:=aM (ag bw hb);(try clear hb);(try clear hk);(try clear ho0);have hnb36:=NB40_39.out;have hnc36:=NB39_40.out;have hcz37_0:=cz BK40.out 0;have hcz37_1:=cz BK40.out 1;have hfz37_0:=af BK40.out 0;have hfz37_1:=af BK40.out 1;obtain ⟨Ao38,co38,eo38⟩:=Kd.b5 HO59.out;subst eo38))
    refine bodyPost_ret (results_cell_row rfl _ _ gb40 56 #[.int .i64 t55,.slice Ao38 t57.length co38] (0,0) _ rfl (by (with_reducible repeat (first|refine ax ?_ _|refine an ?_|refine au ?_ _));refine bI (cs:=#[.int .i64 t55,.slice none 0 0]) ?_ 1 _ rfl;(with_reducible repeat (first|refine ax ?_ _|refine an ?_|refine au ?_ _));refine bI (cs:=#[.int .i64 0,.slice none 0 0]) ?_ 0 _ rfl;(with_reducible repeat (first|refine ax ?_ _|refine an ?_|refine au ?_ _));exact BK40.out) Tryz.underlying56 rfl kR) rfl ?_;exact ⟨_,eE,by (with_reducible repeat (first|apply Kd.ca|apply Kd.b7|apply Kd.cu));exact Kd.cG (Kd.gm (p:=⟨gb40,1,none⟩) (Kd.gm (p:=⟨gb40,0,none⟩) (Kd.dL HO59.out BK40.out (by decide)) (fun _ hk=>hk.2) (.int .i64 t55)) (fun _ hk=>hk.2) (.slice Ao38 t57.length co38)) (fun _ hk=>trivial),by exact bw⟩


def bK.l0:Nat → Int → List Int → Int → Int → Option (Int)
 | 0,_,_,_,_=>none
 | k + 1,x3,x6,x7,x8=>if x8 < x7 then (if 0 ≤ x8 then (if x8 < (x6.length:Int) then (if 0 ≤ (rd x6 x8) then (bK.l0 k (Go.bits .or .i64 x3 (shl .i64 1 (rd x6 x8))) x6 x7 (wrap64 (x8 + 1))) else (none)) else (none)) else (none)) else (some x3)
def bK.f (k:Nat) (l0:List Int):Option (Int):=bK.l0 k 0 l0 (l0.length:Int) 0
theorem bK.calls (k:Nat) (A0:Option Addr) (c0:Nat) (l0:List Int) (r:Int) (w:World) (hr0:Kd.C (Kd.int .i64) w A0 l0.length l0) (hc0:l0.length ≤ c0) (h:bK.f k l0 = some r) :
  Calls Tryz.prog 53 #[.slice A0 l0.length c0] w fun e w'=>e = .returned (.int .i64 r) ∧ bi w w':=by
 have HR0:=aM hr0;have HC0:=aM hc0;clear hr0 hc0;have H:(bK.l0 k 0 l0 (l0.length:Int) 0) = some r:=h;clear h;have H':=aM H;clear H;go_enter Tryz.func53,Tryz.ntmps53;go_wp2
 go_loopg [3,8] k (fun kq v3 v8 w'=>∃ (x3_1:Int) (x8_1:Int),v3 = .int .i64 x3_1 ∧ v8 = .int .i64 x8_1 ∧ aj (bK.l0 kq x3_1 l0 (l0.length:Int) x8_1 = some r) ∧ aj (kq ≤ k) ∧ bi w w')
 case atStart=>exact ⟨(0),(0),qrs,qrs,H',⟨Nat.le_refl _⟩,by repeat (first|exact bi.refl _|apply bi.step)⟩
 case round =>
  clear H';obtain ⟨x3_1,x8_1,rfl,rfl,HA,HK1,⟨m1,rfl⟩⟩:=hrel
  cases gk with
  | zero=>exact absurd HA.out (by simp [bK.l0])
  | succ k1 =>
   have H:=HA.out;clear HA;simp only [bK.l0] at H;by_cases c2:x8_1 < (l0.length:Int)
   ·rw [if_pos c2] at H;have c2b0:=decide_eq_true c2;clear c2;replace H:=iN H;obtain ⟨c3,H⟩:=H;have c3b0:decide (0 ≤ x8_1) = true:=decide_eq_true c3;clear c3;replace H:=iN H;obtain ⟨c4,H⟩:=H;have c4b0:decide (x8_1 < (l0.length:Int)) = true:=decide_eq_true c4;clear c4;replace H:=iN H;obtain ⟨c5,H⟩:=H;have c5b0:=eq_true c5;have c5b1:decide (0 ≤ (rd l0 x8_1)) = true:=decide_eq_true c5;clear c5;obtain ⟨ji6,hji6⟩:∃ j_:Int,(shl .i64 1 (rd l0 x8_1)) = j_:=⟨_,rfl⟩;(first|rw [hji6] at H|simp only [hji6] at H)
    have hji6_:(IntKind.i64.wrap (1 * 2 ^ min (rd l0 x8_1).toNat 64)) = ji6:=hji6;have hji6z:(rd l0 x8_1) ≤ 64 → (IntKind.i64.wrap (1 * 2 ^ (rd l0 x8_1).toNat)) = ji6:=fM hji6;have hji6u:(IntKind.i64.wrap (2 ^ min (rd l0 x8_1).toNat 64)) = ji6:=by have h_:=hji6_;rw [Int.one_mul] at h_;exact h_
    have hji6v:(rd l0 x8_1) ≤ 64 → (IntKind.i64.wrap (2 ^ (rd l0 x8_1).toNat)) = ji6:=fun hle_=>by have h_:=hji6z hle_;rw [Int.one_mul] at h_;exact h_
    have hji6y:(wrap64 (1 * 2 ^ min (rd l0 x8_1).toNat 64)) = ji6:=(cS _).symm.trans hji6_;have hji6x:(rd l0 x8_1) ≤ 64 → (wrap64 (1 * 2 ^ (rd l0 x8_1).toNat)) = ji6:=fun h_=>(cS _).symm.trans (hji6z h_)
    have H':=aM H;clear H;have p7:0 ≤ (x8_1:Int):=of_decide_eq_true ab;have q7:x8_1 < (l0.length:Int):=of_decide_eq_true ab;obtain ⟨ad7,e7,hx7_0⟩:=Kd.dI HR0.out x8_1 p7 q7;cases e7
    replace p7:=eq_true p7;replace q7:=eq_true q7;go_wp2
    go_roundg k1
    case measure=>have:=HK1.out;omega
    case rel=>exact ⟨(Go.bits .or .i64 x3_1 (ji6)),(wrap64 (x8_1 + 1)),(by first|rfl|(simp;done)|(simp only [← hji6] <;> (first|rfl|simp))|(simp [*];done)),qrs,H',⟨by have:=HK1.out;omega⟩,by repeat (first|exact bi.refl _|apply bi.step)⟩
   ·rw [if_neg c2] at H;have c2b0:=decide_eq_false c2;clear c2;obtain rfl:=Option.some.inj H;go_wp2
    go_ret
    exact ⟨qrs,dR⟩


def bV.l0:Nat → List Int → Int → Int → Option (Bool)
 | 0,_,_,_=>none
 | k + 1,x0,x5,x6=>if x6 < x5 then (if x6 > 0 then (if 0 ≤ x6 then (if x6 < (x0.length:Int) then (if 0 ≤ (wrap64 (x6 - 1)) then (if (wrap64 (x6 - 1)) < (x0.length:Int) then (if (rd x0 x6) ≤ (rd x0 (wrap64 (x6 - 1))) then (some false) else (bV.l0 k x0 x5 (wrap64 (x6 + 1)))) else (none)) else (none)) else (none)) else (none)) else (bV.l0 k x0 x5 (wrap64 (x6 + 1)))) else (some true)
def bV.f (k:Nat) (l0:List Int):Option (Bool):=bV.l0 k l0 (l0.length:Int) 0
theorem bV.calls (k:Nat) (A0:Option Addr) (c0:Nat) (l0:List Int) (r:Bool) (w:World) (hr0:Kd.C (Kd.int .i64) w A0 l0.length l0) (hc0:l0.length ≤ c0) (h:bV.f k l0 = some r) :
  Calls Tryz.prog 82 #[.slice A0 l0.length c0] w fun e w'=>e = .returned (.bool r) ∧ bi w w':=by
 have HR0:=aM hr0;have HC0:=aM hc0;clear hr0 hc0;have H:(bV.l0 k l0 (l0.length:Int) 0) = some r:=h;clear h;have H':=aM H;clear H;go_enter Tryz.func82,Tryz.ntmps82;go_wp2
 repeat (go_quiet (fail);try go_wp2)
 go_loopg [6] k (fun kq v6 w'=>∃ (x6_1:Int),v6 = .int .i64 x6_1 ∧ aj (bV.l0 kq l0 (l0.length:Int) x6_1 = some r) ∧ aj (kq ≤ k) ∧ bi w w')
 case atStart=>exact ⟨(0),qrs,H',⟨Nat.le_refl _⟩,by repeat (first|exact bi.refl _|apply bi.step)⟩
 case round =>
  clear H';obtain ⟨x6_1,rfl,HA,HK1,⟨m1,rfl⟩⟩:=hrel
  cases gk with
  | zero=>exact absurd HA.out (by simp [bV.l0])
  | succ k1 =>
   have H:=HA.out;clear HA;simp only [bV.l0] at H;by_cases c2:x6_1 < (l0.length:Int)
   ·rw [if_pos c2] at H;have c2b0:=decide_eq_true c2;clear c2;by_cases c3:x6_1 > 0
    ·rw [if_pos c3] at H;have c3b0:decide (0 < x6_1) = true:=decide_eq_true c3;clear c3;replace H:=iN H;obtain ⟨c4,H⟩:=H;have c4b0:decide (0 ≤ x6_1) = true:=decide_eq_true c4;clear c4;replace H:=iN H;obtain ⟨c5,H⟩:=H;have c5b0:decide (x6_1 < (l0.length:Int)) = true:=decide_eq_true c5;clear c5;obtain ⟨ji6,hji6⟩:∃ j_:Int,(wrap64 (x6_1 - 1)) = j_:=⟨_,rfl⟩;(first|rw [hji6] at H|simp only [hji6] at H)
     have hji6w:(IntKind.i64.wrap (x6_1 - 1)) = ji6:=(cS _).trans hji6;replace H:=iN H;obtain ⟨c7,H⟩:=H;have c7b0:decide (0 ≤ (ji6)) = true:=decide_eq_true c7;clear c7;replace H:=iN H;obtain ⟨c8,H⟩:=H;have c8b0:decide ((ji6) < (l0.length:Int)) = true:=decide_eq_true c8;clear c8;by_cases c9:(rd l0 x6_1) ≤ (rd l0 (ji6))
     ·rw [if_pos c9] at H;have c9b0:=decide_eq_true c9;clear c9;obtain rfl:=Option.some.inj H;have p10:0 ≤ (x6_1:Int):=of_decide_eq_true ab;have q10:x6_1 < (l0.length:Int):=of_decide_eq_true ab;obtain ⟨ad10,e10,hx10_0⟩:=Kd.dI HR0.out x6_1 p10 q10;cases e10
      replace p10:=eq_true p10;replace q10:=eq_true q10;have p11:0 ≤ ((ji6):Int):=of_decide_eq_true ab;have q11:(ji6) < (l0.length:Int):=of_decide_eq_true ab;obtain ⟨ad11,e11,hx11_0⟩:=Kd.dI HR0.out (ji6) p11 q11;obtain rfl:ad10 = ad11:=(by injection e11);replace p11:=eq_true p11;replace q11:=eq_true q11;go_wp2
      repeat (go_quiet (fail);try go_wp2)
      go_ret
      exact ⟨by first|rfl|(simp;done)|(simp only [← hji6] <;> (first|rfl|simp))|(simp [*];done),by repeat (first|exact bi.refl _|apply bi.step)⟩
     ·rw [if_neg c9] at H;have c9b0:=decide_eq_false c9;clear c9;have H':=aM H;clear H;have p10:0 ≤ (x6_1:Int):=of_decide_eq_true ab;have q10:x6_1 < (l0.length:Int):=of_decide_eq_true ab;obtain ⟨ad10,e10,hx10_0⟩:=Kd.dI HR0.out x6_1 p10 q10;cases e10
      replace p10:=eq_true p10;replace q10:=eq_true q10;have p11:0 ≤ ((ji6):Int):=of_decide_eq_true ab;have q11:(ji6) < (l0.length:Int):=of_decide_eq_true ab;obtain ⟨ad11,e11,hx11_0⟩:=Kd.dI HR0.out (ji6) p11 q11;obtain rfl:ad10 = ad11:=(by injection e11);replace p11:=eq_true p11;replace q11:=eq_true q11;go_wp2
      repeat (go_quiet (fail);try go_wp2)
      go_roundg k1
      case measure=>have:=HK1.out;omega
      case rel=>exact ⟨(wrap64 (x6_1 + 1)),qrs,H',⟨by have:=HK1.out;omega⟩,by repeat (first|exact bi.refl _|apply bi.step)⟩
    ·rw [if_neg c3] at H;have c3b0:decide (0 < x6_1) = false:=decide_eq_false c3;clear c3;have H':=aM H;clear H;go_wp2
     repeat (go_quiet (fail);try go_wp2)
     go_roundg k1
     case measure=>have:=HK1.out;omega
     case rel=>exact ⟨(wrap64 (x6_1 + 1)),qrs,H',⟨by have:=HK1.out;omega⟩,by repeat (first|exact bi.refl _|apply bi.step)⟩
   ·rw [if_neg c2] at H;have c2b0:=decide_eq_false c2;clear c2;obtain rfl:=Option.some.inj H;go_wp2
    repeat (go_quiet (fail);try go_wp2)
    go_ret
    exact ⟨qrs,dR⟩


def dq.f (k:Nat) (l0:List Int) (a1:Int):Option (Bool):=(dZ.f k l0 0 (wrap64 (a1 - 1))).bind fun t2=>(if t2 = true then ((bV.f k l0).bind fun t3=>(some t3)) else (some false))
theorem dq.calls (k:Nat) (A0:Option Addr) (c0:Nat) (l0:List Int) (a1:Int) (r:Bool) (w:World) (hr0:Kd.C (Kd.int .i64) w A0 l0.length l0) (hc0:l0.length ≤ c0) (h:dq.f k l0 a1 = some r) :
  Calls Tryz.prog 54 #[.slice A0 l0.length c0,.int .i64 a1] w fun e w'=>e = .returned (.bool r) ∧ Below w.heap.size w w':=by
 have HR0:=aM hr0;have HC0:=aM hc0;clear hr0 hc0;have HB:=aM (Below.refl w.heap.size w);have H:((dZ.f k l0 0 (wrap64 (a1 - 1))).bind fun t8=>(if t8 = true then ((bV.f k l0).bind fun t9=>(some t9)) else (some false))) = some r:=h;clear h;replace H:=oB H;obtain ⟨t8,A3,H⟩:=H;(try dsimp only at H)
 by_cases c4:t8 = true
 ·subst c4;rw [if_pos rfl] at H;replace H:=oB H;obtain ⟨t9,A5,H⟩:=H;(try dsimp only at H)
  obtain rfl:=Option.some.inj H;go_enter Tryz.func54,Tryz.ntmps54;go_wp2_with (first|((with_reducible refine ai (f:=80) rfl ?_);refine gL 8 Tryz.func80 #[.slice A0 l0.length c0,.int .i64 0,.int .i64 (wrap64 (a1 - 1))] ?_;(with_reducible refine (dZ.calls k _ _ l0 0 (wrap64 (a1 - 1)) true _ ?side1 ?side2 A3.out).mono ?_);(case side1=>exact qc HR0.out);(case side2=>exact HC0.out);rintro e w6 ⟨rfl,hb⟩;refine ⟨_,rfl,?_⟩;replace HB:=aM (ag bw hb);(try clear hb))|(go_at_call 82;(with_reducible refine (bV.calls k _ _ l0 t9 _ ?side1 ?side2 A5.out).mono ?_);(case side1=>exact qcs HR0.out HB.out);(case side2=>exact HC0.out);rintro e w' ⟨rfl,⟨nd,rfl⟩⟩))
  go_ret
  exact ⟨eE,by exact bw⟩
 ·replace c4:=Bool.eq_false_iff.mpr c4;subst c4;rw [if_neg (show ¬ (false = true) by decide)] at H;obtain rfl:=Option.some.inj H;go_enter Tryz.func54,Tryz.ntmps54;go_wp2_with (first|((with_reducible refine ai (f:=80) rfl ?_);refine gL 8 Tryz.func80 #[.slice A0 l0.length c0,.int .i64 0,.int .i64 (wrap64 (a1 - 1))] ?_;(with_reducible refine (dZ.calls k _ _ l0 0 (wrap64 (a1 - 1)) false _ ?side1 ?side2 A3.out).mono ?_);(case side1=>exact qc HR0.out);(case side2=>exact HC0.out);rintro e w7 ⟨rfl,hb⟩;refine ⟨_,rfl,?_⟩;replace HB:=aM (ag bw hb);(try clear hb)))
  go_ret
  exact ⟨eE,by exact bw⟩


def bq.j0:Nat → List (aa) → List Int → Bool → Bool → Option (Bool × Bool)
 | 0,_,_,_,_=>none
 | k + 1,x0,x1,x2,x20=>if x20 = true then (some (false,false)) else ((aJ.f k x0 x2).bind fun bt3=>((bK.f k x1).bind fun t4=>(if 0 ≤ t4 then (if t4 < (bt3.2.length:Int) then (some (dE false bt3.2 t4,true)) else (none)) else (none))))
def bq.f (k:Nat) (l0:List (aa)) (l1:List Int) (a2:Bool):Option (Bool × Bool):=(aQ.f k l0).bind fun t3=>(if t3 = true then (if 0 < (l0.length:Int) then ((dq.f k l1 (((ae l0 0).f1).length:Int)).bind fun t4=>(bq.j0 k l0 l1 a2 (!t4))) else (none)) else (bq.j0 k l0 l1 a2 true))
theorem bq.calls (k:Nat) (A0:Option Addr) (c0:Nat) (l0:List (aa)) (A1:Option Addr) (c1:Nat) (l1:List Int) (a2:Bool) (r1:Bool) (r2:Bool) (w:World) (hr0:Kd.C ak w A0 l0.length l0) (hc0:l0.length ≤ c0) (hr1:Kd.C (Kd.int .i64) w A1 l1.length l1) (hc1:l1.length ≤ c1) (h:bq.f k l0 l1 a2 = some (r1,r2)) :
  Calls Tryz.prog 30 #[.slice A0 l0.length c0,.slice A1 l1.length c1,.bool a2] w fun e w'=>e = .returned (.tuple #[.bool r1,.bool r2]) ∧ Below w.heap.size w w':=by
 have hfd56_1:∀ (z0_ z1_:Value) (w:World),(Instr.field 56 (.agg #[z0_,z1_]) 1).run Tryz.prog w = .ok z1_ w:=fun z0_ z1_ w=>by kernel_rfl
 have hu56:=Tryz.underlying56;have HR0:=aM hr0;have HC0:=aM hc0;clear hr0 hc0;have HR1:=aM hr1;have HC1:=aM hc1;clear hr1 hc1;have HB:=aM (Below.refl w.heap.size w);have H:((aQ.f k l0).bind fun t19=>(if t19 = true then (if 0 < (l0.length:Int) then ((dq.f k l1 (((ae l0 0).f1).length:Int)).bind fun t22=>(bq.j0 k l0 l1 a2 (!t22))) else (none)) else (bq.j0 k l0 l1 a2 true))) = some (r1,r2):=h;clear h;have HC4:=aM H;clear H;go_enter Tryz.func30,Tryz.ntmps30;go_upto_region 1 with (fail)
 go_cut [20] (fun v20 wc=>∃ (kq:Nat) (x20_3:Bool),v20 = .bool x20_3 ∧ aj (bq.j0 kq l0 l1 a2 x20_3 = some (r1,r2)) ∧ aj (kq ≤ k) ∧ aj (Below w.heap.size w wc))
 case first =>
  have H:=HC4.out;clear HC4;replace H:=oB H;obtain ⟨t19,A5,H⟩:=H;(try dsimp only at H)
  by_cases c6:t19 = true
  ·subst c6;rw [if_pos rfl] at H;replace H:=iN H;obtain ⟨c7,H⟩:=H;have c7b0:decide (0 < (l0.length:Int)) = true:=decide_eq_true c7;have c7b1:decide (0 < l0.length) = true:=decide_eq_true (by omega);clear c7;(first|rw [c7b0]|(simp only [cS,dH];rw [c7b0])|skip)
   replace H:=oB H;obtain ⟨t22,A8,H⟩:=H;(try dsimp only at H)
   have H':=aM H;clear H;go_wp2_with (first|((with_reducible refine ai (f:=18) rfl ?_);refine gL 9 Tryz.func18 #[.slice A0 l0.length c0] ?_;(with_reducible refine (aQ.calls k _ _ l0 true _ ?side1 ?side2 A5.out).mono ?_);(case side1=>exact qcs HR0.out HB.out);(case side2=>exact HC0.out);rintro e w9 ⟨rfl,hb⟩;refine ⟨_,rfl,?_⟩;replace HB:=aM (ag bw hb);(try clear hb);have p21:0 ≤ (0:Int):=(by omega);have q21:0 < (l0.length:Int):=of_decide_eq_true ab;obtain ⟨ad21,A21_1,c172_1,e21,hx21_0,hx21_1,hl21_1,hi21_1⟩:=bD HR0.out 0 p21 q21;cases e21;have qi172:(0 < l0.length) = True:=eq_true (by omega);(try rw [show ((0:Int)).toNat = 0 from rfl] at hx21_0);(try rw [show 0 * 2 = 0 from rfl] at hx21_0);(try rw [Addr.add_zero'] at hx21_0);(try rw [show ((0:Int)).toNat = 0 from rfl] at hx21_1);(try rw [show 0 * 2 = 0 from rfl] at hx21_1);(try rw [Addr.add_zero'] at hx21_1);replace hx21_0:=(HB.out.cell (World.block_lt_of_cell? w _ hx21_0)).trans hx21_0;replace hx21_1:=(HB.out.cell (World.block_lt_of_cell? w _ hx21_1)).trans hx21_1;have HR21_1:=aM hi21_1;have HC21_1:=aM hl21_1;clear hi21_1 hl21_1;replace p21:=eq_true p21;replace q21:=eq_true q21)|(go_at_call 54;(with_reducible refine (dq.calls k _ _ l1 (((ae l0 0).f1).length:Int) t22 _ ?side1 ?side2 A8.out).mono ?_);(case side1=>exact qcs HR1.out HB.out);(case side2=>exact HC1.out);rintro e w10 ⟨rfl,hb⟩;replace HB:=aM (ag bw hb);(try clear hb)))
   go_meet
   case rel=>exact ⟨_,(!t22),qrs,H',⟨by first|omega|exact Nat.le_refl _⟩,⟨by exact bw⟩⟩
  ·replace c6:=Bool.eq_false_iff.mpr c6;subst c6;rw [if_neg (show ¬ (false = true) by decide)] at H;have H':=aM H;clear H;go_wp2_with (first|((with_reducible refine ai (f:=18) rfl ?_);refine gL 9 Tryz.func18 #[.slice A0 l0.length c0] ?_;(with_reducible refine (aQ.calls k _ _ l0 false _ ?side1 ?side2 A5.out).mono ?_);(case side1=>exact qcs HR0.out HB.out);(case side2=>exact HC0.out);rintro e w11 ⟨rfl,hb⟩;refine ⟨_,rfl,?_⟩;replace HB:=aM (ag bw hb);(try clear hb)))
   go_meet
   case rel=>exact ⟨_,(true),qrs,H',⟨by first|omega|exact Nat.le_refl _⟩,⟨by exact bw⟩⟩
 case rest =>
  clear HC4;(try clear c1);(try clear c6);(try clear c7);(try clear c7b0);(try clear c7b1);(try clear hx21_0);(try clear hx21_1);(try clear p21);(try clear q21)
  obtain ⟨kq,x20_3,rfl,HA,HJ3,HB⟩:=hcut
  cases kq with
  | zero=>exact absurd HA.out (by simp [bq.j0])
  | succ kj3 =>
   have H:=HA.out;clear HA;simp only [bq.j0] at H;by_cases c12:x20_3 = true
   ·subst c12;rw [if_pos rfl] at H;simp only [Option.some.injEq,Prod.mk.injEq] at H;obtain ⟨rfl,rfl⟩:=H;go_wp2
    go_ret2
    exact ⟨eE,by exact bw⟩
   ·replace c12:=Bool.eq_false_iff.mpr c12;subst c12;rw [if_neg (show ¬ (false = true) by decide)] at H;replace H:=oB H;obtain ⟨⟨t23,t24⟩,A13,H⟩:=H;(try dsimp only at H)
    replace H:=oB H;obtain ⟨t27,A14,H⟩:=H;(try dsimp only at H)
    replace H:=iN H;obtain ⟨c15,H⟩:=H;have c15b0:decide (0 ≤ t27) = true:=decide_eq_true c15;clear c15;replace H:=iN H;obtain ⟨c16,H⟩:=H;have c16b0:decide (t27 < (t24.length:Int)) = true:=decide_eq_true c16;clear c16;simp only [Option.some.injEq,Prod.mk.injEq] at H;obtain ⟨rfl,rfl⟩:=H;go_wp2_with (first|((with_reducible refine ai (f:=34) rfl ?_);refine gL 23 Tryz.func34 #[.slice A0 l0.length c0,.bool a2] ?_;(with_reducible refine (aJ.calls kj3 _ _ l0 a2 t23 t24 _ ?side1 ?side2 A13.out).mono ?_);(case side1=>exact qcs HR0.out HB.out);(case side2=>exact HC0.out);rintro e w17 ⟨v25,rfl,ho0,hb⟩;refine ⟨_,rfl,?_⟩;have HO26:=aM (Kd.cr ho0 (av bw));replace HB:=aM (ag bw hb);(try clear hb);(try clear ho0))|((with_reducible refine ai (f:=53) rfl ?_);refine gL 26 Tryz.func53 #[.slice A1 l1.length c1] ?_;(with_reducible refine (bK.calls kj3 _ _ l1 t27 _ ?side1 ?side2 A14.out).mono ?_);(case side1=>exact qcs HR1.out HB.out);(case side2=>exact HC1.out);rintro e w' ⟨rfl,⟨nd,rfl⟩⟩;refine ⟨_,rfl,?_⟩;obtain ⟨Ao18,co18,eo18⟩:=Kd.b5 HO26.out;subst eo18;have p28:0 ≤ (t27:Int):=of_decide_eq_true ab;have q28:t27 < (t24.length:Int):=of_decide_eq_true ab;obtain ⟨ad28,e28,hx28_0⟩:=Kd.b8 (Kd.aI HO26.out).2.2 t27 p28 q28;cases e28;replace p28:=eq_true p28;replace q28:=eq_true q28))
    go_ret2
    exact ⟨eE,by exact bw⟩


def eO.f (k:Nat) (l0:List (aa)) (l1:List Int):Option (Bool × Bool):=(bq.f k l0 l1 false).bind fun bt2=>(some (bt2.1,bt2.2))
theorem eO.calls (k:Nat) (A0:Option Addr) (c0:Nat) (l0:List (aa)) (A1:Option Addr) (c1:Nat) (l1:List Int) (r1:Bool) (r2:Bool) (w:World) (hr0:Kd.C ak w A0 l0.length l0) (hc0:l0.length ≤ c0) (hr1:Kd.C (Kd.int .i64) w A1 l1.length l1) (hc1:l1.length ≤ c1) (h:eO.f k l0 l1 = some (r1,r2)) :
  Calls Tryz.prog 4 #[.slice A0 l0.length c0,.slice A1 l1.length c1] w fun e w'=>e = .returned (.tuple #[.bool r1,.bool r2]) ∧ Below w.heap.size w w':=by
 have HR0:=aM hr0;have HC0:=aM hc0;clear hr0 hc0;have HR1:=aM hr1;have HC1:=aM hc1;clear hr1 hc1;have HB:=aM (Below.refl w.heap.size w);have H:((bq.f k l0 l1 false).bind fun bt5=>(some (bt5.1,bt5.2))) = some (r1,r2):=h;clear h;replace H:=oB H;obtain ⟨⟨t5,t6⟩,A3,H⟩:=H;(try dsimp only at H)
 simp only [Option.some.injEq,Prod.mk.injEq] at H;obtain ⟨rfl,rfl⟩:=H;go_enter Tryz.func4,Tryz.ntmps4;go_wp2_with (first|((with_reducible refine ai (f:=30) rfl ?_);refine gL 8 Tryz.func30 #[.slice A0 l0.length c0,.slice A1 l1.length c1,.bool false] ?_;(with_reducible refine (bq.calls k _ _ l0 _ _ l1 false t5 t6 _ ?side1 ?side2 ?side3 ?side4 A3.out).mono ?_);(case side1=>exact qc HR0.out);(case side2=>exact HC0.out);(case side3=>exact qc HR1.out);(case side4=>exact HC1.out);rintro e w4 ⟨rfl,hb⟩;refine ⟨_,rfl,?_⟩;replace HB:=aM (ag bw hb);(try clear hb)))
 go_ret2
 exact ⟨eE,by exact bw⟩


def cp.f (a0:Int) (a1:Int) (a2:Int):Option (Bool):=if a0 ≥ a1 then (some (decide (a0 ≤ a2))) else (some false)
theorem cp.calls (a0:Int) (a1:Int) (a2:Int) (r:Bool) (w:World) (h:cp.f a0 a1 a2 = some r) :
  Calls Tryz.prog 66 #[.int .i64 a0,.int .i64 a1,.int .i64 a2] w fun e w'=>e = .returned (.bool r) ∧ bi w w':=by
 have H:(if a0 ≥ a1 then (some (decide (a0 ≤ a2))) else (some false)) = some r:=h;clear h;by_cases c4:a0 ≥ a1
 ·rw [if_pos c4] at H;have c4b0:decide (a1 ≤ a0) = true:=decide_eq_true c4;clear c4;obtain rfl:=Option.some.inj H;go_enter Tryz.func66,Tryz.ntmps66;go_wp2
  go_ret
  exact ⟨qrs,dR⟩
 ·rw [if_neg c4] at H;have c4b0:decide (a1 ≤ a0) = false:=decide_eq_false c4;clear c4;obtain rfl:=Option.some.inj H;go_enter Tryz.func66,Tryz.ntmps66;go_wp2
  go_ret
  exact ⟨qrs,dR⟩


def dy.l0:Nat → Int → Int → List Int → Int → Int → Option (Bool)
 | 0,_,_,_,_,_=>none
 | k + 1,x1,x2,x9,x10,x11=>if x11 < x10 then (if 0 ≤ x11 then (if x11 < (x9.length:Int) then ((cp.f (rd x9 x11) x1 x2).bind fun t3=>(if t3 = true then (dy.l0 k x1 x2 x9 x10 (wrap64 (x11 + 1))) else (some false))) else (none)) else (none)) else (some true)
def dy.f (k:Nat) (l0:List Int) (a1:Int) (a2:Int):Option (Bool):=dy.l0 k a1 a2 l0 (l0.length:Int) 0
theorem dy.calls (k:Nat) (A0:Option Addr) (c0:Nat) (l0:List Int) (a1:Int) (a2:Int) (r:Bool) (w:World) (hr0:Kd.C (Kd.int .i64) w A0 l0.length l0) (hc0:l0.length ≤ c0) (h:dy.f k l0 a1 a2 = some r) :
  Calls Tryz.prog 91 #[.slice A0 l0.length c0,.int .i64 a1,.int .i64 a2] w fun e w'=>e = .returned (.bool r) ∧ bi w w':=by
 have HR0:=aM hr0;have HC0:=aM hc0;clear hr0 hc0;have H:(dy.l0 k a1 a2 l0 (l0.length:Int) 0) = some r:=h;clear h;have H':=aM H;clear H;go_enter Tryz.func91,Tryz.ntmps91;go_wp2
 go_loopg [11] k (fun kq v11 w'=>∃ (x11_1:Int),v11 = .int .i64 x11_1 ∧ aj (dy.l0 kq a1 a2 l0 (l0.length:Int) x11_1 = some r) ∧ aj (kq ≤ k) ∧ bi w w')
 case atStart=>exact ⟨(0),qrs,H',⟨Nat.le_refl _⟩,by repeat (first|exact bi.refl _|apply bi.step)⟩
 case round =>
  clear H'
  try clear p2
  obtain ⟨x11_1,rfl,HA,HK1,⟨m1,rfl⟩⟩:=hrel
  cases gk with
  | zero=>exact absurd HA.out (by simp [dy.l0])
  | succ k1 =>
   have H:=HA.out;clear HA;simp only [dy.l0] at H;by_cases c4:x11_1 < (l0.length:Int)
   ·rw [if_pos c4] at H;have c4b0:=decide_eq_true c4;clear c4;replace H:=iN H;obtain ⟨c5,H⟩:=H;have c5b0:decide (0 ≤ x11_1) = true:=decide_eq_true c5;clear c5;replace H:=iN H;obtain ⟨c6,H⟩:=H;have c6b0:decide (x11_1 < (l0.length:Int)) = true:=decide_eq_true c6;clear c6;replace H:=oB H;obtain ⟨t9,A7,H⟩:=H;(try dsimp only at H)
    by_cases c8:t9 = true
    ·subst c8;rw [if_pos rfl] at H;have H':=aM H;clear H;have p3:0 ≤ (x11_1:Int):=of_decide_eq_true ab;have q3:x11_1 < (l0.length:Int):=of_decide_eq_true ab;obtain ⟨ad3,e3,hx3_0⟩:=Kd.dI HR0.out x11_1 p3 q3;cases e3
     replace p3:=eq_true p3;replace q3:=eq_true q3;go_wp2_with (first|((with_reducible refine ai (f:=66) rfl ?_);refine gL 18 Tryz.func66 #[.int .i64 (rd l0 x11_1),.int .i64 a1,.int .i64 a2] ?_;(with_reducible refine (cp.calls (rd l0 x11_1) a1 a2 true _ A7.out).mono ?_);rintro e w' ⟨rfl,⟨nd,rfl⟩⟩;refine ⟨_,rfl,?_⟩))
     go_roundg k1
     case measure=>have:=HK1.out;omega
     case rel=>exact ⟨(wrap64 (x11_1 + 1)),qrs,H',⟨by have:=HK1.out;omega⟩,by repeat (first|exact bi.refl _|apply bi.step)⟩
    ·replace c8:=Bool.eq_false_iff.mpr c8;subst c8;rw [if_neg (show ¬ (false = true) by decide)] at H;obtain rfl:=Option.some.inj H;have p3:0 ≤ (x11_1:Int):=of_decide_eq_true ab;have q3:x11_1 < (l0.length:Int):=of_decide_eq_true ab;obtain ⟨ad3,e3,hx3_0⟩:=Kd.dI HR0.out x11_1 p3 q3;cases e3
     replace p3:=eq_true p3;replace q3:=eq_true q3;go_wp2_with (first|((with_reducible refine ai (f:=66) rfl ?_);refine gL 18 Tryz.func66 #[.int .i64 (rd l0 x11_1),.int .i64 a1,.int .i64 a2] ?_;(with_reducible refine (cp.calls (rd l0 x11_1) a1 a2 false _ A7.out).mono ?_);rintro e w' ⟨rfl,⟨nd,rfl⟩⟩;refine ⟨_,rfl,?_⟩))
     go_ret
     exact ⟨qrs,dR⟩
   ·rw [if_neg c4] at H;have c4b0:=decide_eq_false c4;clear c4;obtain rfl:=Option.some.inj H;go_wp2
    go_ret
    exact ⟨qrs,dR⟩


def dB.l0:Nat → Int → List Int → Int → Int → Option (Int)
 | 0,_,_,_,_=>none
 | k + 1,x3,x6,x7,x8=>if x8 < x7 then (if 0 ≤ x8 then (if x8 < (x6.length:Int) then (dB.l0 k (wrap64 (x3 + (rd x6 x8))) x6 x7 (wrap64 (x8 + 1))) else (none)) else (none)) else (some x3)
def dB.f (k:Nat) (l0:List Int):Option (Int):=dB.l0 k 0 l0 (l0.length:Int) 0
theorem dB.calls (k:Nat) (A0:Option Addr) (c0:Nat) (l0:List Int) (r:Int) (w:World) (hr0:Kd.C (Kd.int .i64) w A0 l0.length l0) (hc0:l0.length ≤ c0) (h:dB.f k l0 = some r) :
  Calls Tryz.prog 92 #[.slice A0 l0.length c0] w fun e w'=>e = .returned (.int .i64 r) ∧ bi w w':=by
 have HR0:=aM hr0;have HC0:=aM hc0;clear hr0 hc0;have H:(dB.l0 k 0 l0 (l0.length:Int) 0) = some r:=h;clear h;have H':=aM H;clear H;go_enter Tryz.func92,Tryz.ntmps92;go_wp2
 go_loopg [3,8] k (fun kq v3 v8 w'=>∃ (x3_1:Int) (x8_1:Int),v3 = .int .i64 x3_1 ∧ v8 = .int .i64 x8_1 ∧ aj (dB.l0 kq x3_1 l0 (l0.length:Int) x8_1 = some r) ∧ aj (kq ≤ k) ∧ bi w w')
 case atStart=>exact ⟨(0),(0),qrs,qrs,H',⟨Nat.le_refl _⟩,by repeat (first|exact bi.refl _|apply bi.step)⟩
 case round =>
  clear H';obtain ⟨x3_1,x8_1,rfl,rfl,HA,HK1,⟨m1,rfl⟩⟩:=hrel
  cases gk with
  | zero=>exact absurd HA.out (by simp [dB.l0])
  | succ k1 =>
   have H:=HA.out;clear HA;simp only [dB.l0] at H;by_cases c2:x8_1 < (l0.length:Int)
   ·rw [if_pos c2] at H;have c2b0:=decide_eq_true c2;clear c2;replace H:=iN H;obtain ⟨c3,H⟩:=H;have c3b0:decide (0 ≤ x8_1) = true:=decide_eq_true c3;clear c3;replace H:=iN H;obtain ⟨c4,H⟩:=H;have c4b0:decide (x8_1 < (l0.length:Int)) = true:=decide_eq_true c4;clear c4;have H':=aM H;clear H;have p5:0 ≤ (x8_1:Int):=of_decide_eq_true ab;have q5:x8_1 < (l0.length:Int):=of_decide_eq_true ab;obtain ⟨ad5,e5,hx5_0⟩:=Kd.dI HR0.out x8_1 p5 q5;cases e5
    replace p5:=eq_true p5;replace q5:=eq_true q5;go_wp2
    go_roundg k1
    case measure=>have:=HK1.out;omega
    case rel=>exact ⟨(wrap64 (x3_1 + (rd l0 x8_1))),(wrap64 (x8_1 + 1)),qrs,qrs,H',⟨by have:=HK1.out;omega⟩,by repeat (first|exact bi.refl _|apply bi.step)⟩
   ·rw [if_neg c2] at H;have c2b0:=decide_eq_false c2;clear c2;obtain rfl:=Option.some.inj H;go_wp2
    go_ret
    exact ⟨qrs,dR⟩


def cy.j0:Nat → Bool → Int → List Int → Option (Bool)
 | 0,_,_,_=>none
 | k + 1,x13,x4,x5=>if x13 = true then (some false) else ((dB.f k x5).bind fun t2=>((cp.f x4 1 t2).bind fun t3=>(some t3)))
def cy.f (k:Nat) (a0_0:Int) (l0_1:List Int):Option (Bool):=(cp.f (l0_1.length:Int) 1 9).bind fun t2=>(if t2 = true then ((dy.f k l0_1 0 1000).bind fun t3=>(cy.j0 k (!t3) a0_0 l0_1)) else (cy.j0 k true a0_0 l0_1))
theorem cy.calls (k:Nat) (a0_0:Int) (A0_1:Option Addr) (c0_1:Nat) (l0_1:List Int) (r:Bool) (w:World) (hr0_1:Kd.C (Kd.int .i64) w A0_1 l0_1.length l0_1) (hc0_1:l0_1.length ≤ c0_1) (h:cy.f k a0_0 l0_1 = some r) :
  Calls Tryz.prog 65 #[.agg #[.int .i64 a0_0,.slice A0_1 l0_1.length c0_1]] w fun e w'=>e = .returned (.bool r) ∧ Below w.heap.size w w':=by
 have hu25:=Tryz.underlying25;have HR0_1:=aM hr0_1;have HC0_1:=aM hc0_1;clear hr0_1 hc0_1;have HB:=aM (Below.refl w.heap.size w);have H:((cp.f (l0_1.length:Int) 1 9).bind fun t15=>(if t15 = true then ((dy.f k l0_1 0 1000).bind fun t16=>(cy.j0 k (!t16) a0_0 l0_1)) else (cy.j0 k true a0_0 l0_1))) = some r:=h;clear h;have HC2:=aM H;clear H;go_enter Tryz.func65,Tryz.ntmps65;go_upto_region 1 with (first|((with_reducible refine aC (N:=1) rfl ?_);refine bE 1 #[.int .i64 a0_0,.slice A0_1 l0_1.length c0_1] 25 ?_;intro gb14 hg w3 hbox hb;have BK14:=aM (hbox);have GW14:=aM (gS hg);have GE14:=aM (gS hg);replace HB:=aM (ag bw hb);clear hb hbox hg))
 repeat (go_quiet (first|((with_reducible refine aC (N:=1) rfl ?_);refine bE 1 #[.int .i64 a0_0,.slice A0_1 l0_1.length c0_1] 25 ?_;intro gb14 hg w3 hbox hb;have BK14:=aM (hbox);have GW14:=aM (gS hg);have GE14:=aM (gS hg);replace HB:=aM (ag bw hb);clear hb hbox hg));go_upto_region 1 with (first|((with_reducible refine aC (N:=1) rfl ?_);refine bE 1 #[.int .i64 a0_0,.slice A0_1 l0_1.length c0_1] 25 ?_;intro gb14 hg w3 hbox hb;have BK14:=aM (hbox);have GW14:=aM (gS hg);have GE14:=aM (gS hg);replace HB:=aM (ag bw hb);clear hb hbox hg)))
 (try simp only [Act.put,sA,sZ,sS])
 go_cut [13] (fun v13 wc=>∃ (kq:Nat) (x13_1:Bool),v13 = .bool x13_1 ∧ aj (cy.j0 kq x13_1 a0_0 l0_1 = some r) ∧ aj (kq ≤ k) ∧ aj (wc.heap[gb14]? = some (.cells #[.int .i64 a0_0,(.slice A0_1 l0_1.length c0_1)] 25 (0,0))) ∧ aj (Below w.heap.size w wc))
 case first =>
  have H:=HC2.out;clear HC2;replace H:=oB H;obtain ⟨t15,A4,H⟩:=H;(try dsimp only at H)
  by_cases c5:t15 = true
  ·subst c5;rw [if_pos rfl] at H;replace H:=oB H;obtain ⟨t16,A6,H⟩:=H;(try dsimp only at H)
   have H':=aM H;clear H;have hcz7_0:=cz BK14.out 0;have hcz7_1:=cz BK14.out 1;have hfz7_0:=af BK14.out 0;have hfz7_1:=af BK14.out 1;go_wp2_with (first|(go_at_call 66;(with_reducible refine (cp.calls (l0_1.length:Int) 1 9 true _ A4.out).mono ?_);rintro e w' ⟨rfl,⟨nd,rfl⟩⟩;(try exact dW))|(go_at_call 91;(with_reducible refine (dy.calls k _ _ l0_1 0 1000 t16 _ ?side1 ?side2 A6.out).mono ?_);(case side1=>exact qc (Kd.cA HR0_1.out bw));(case side2=>exact HC0_1.out);rintro e w' ⟨rfl,⟨nd,rfl⟩⟩;(try exact dW)))
   repeat (go_quiet (first|(go_at_call 66;(with_reducible refine (cp.calls (l0_1.length:Int) 1 9 true _ A4.out).mono ?_);rintro e w' ⟨rfl,⟨nd,rfl⟩⟩;(try exact dW))|(go_at_call 91;(with_reducible refine (dy.calls k _ _ l0_1 0 1000 t16 _ ?side1 ?side2 A6.out).mono ?_);(case side1=>exact qc (Kd.cA HR0_1.out bw));(case side2=>exact HC0_1.out);rintro e w' ⟨rfl,⟨nd,rfl⟩⟩;(try exact dW)));try go_wp2_with (first|(go_at_call 66;(with_reducible refine (cp.calls (l0_1.length:Int) 1 9 true _ A4.out).mono ?_);rintro e w' ⟨rfl,⟨nd,rfl⟩⟩;(try exact dW))|(go_at_call 91;(with_reducible refine (dy.calls k _ _ l0_1 0 1000 t16 _ ?side1 ?side2 A6.out).mono ?_);(case side1=>exact qc (Kd.cA HR0_1.out bw));(case side2=>exact HC0_1.out);rintro e w' ⟨rfl,⟨nd,rfl⟩⟩;(try exact dW))))
   go_meet
   case rel=>exact ⟨_,(!t16),qrs,H',⟨by first|omega|exact Nat.le_refl _⟩,⟨bk1 BK14.out⟩,⟨by exact bw⟩⟩
  ·replace c5:=Bool.eq_false_iff.mpr c5;subst c5;rw [if_neg (show ¬ (false = true) by decide)] at H;have H':=aM H;clear H;have hcz8_0:=cz BK14.out 0;have hcz8_1:=cz BK14.out 1;have hfz8_0:=af BK14.out 0;have hfz8_1:=af BK14.out 1;go_wp2_with (first|(go_at_call 66;(with_reducible refine (cp.calls (l0_1.length:Int) 1 9 false _ A4.out).mono ?_);rintro e w' ⟨rfl,⟨nd,rfl⟩⟩;(try exact dW)))
   repeat (go_quiet (first|(go_at_call 66;(with_reducible refine (cp.calls (l0_1.length:Int) 1 9 false _ A4.out).mono ?_);rintro e w' ⟨rfl,⟨nd,rfl⟩⟩;(try exact dW)));try go_wp2_with (first|(go_at_call 66;(with_reducible refine (cp.calls (l0_1.length:Int) 1 9 false _ A4.out).mono ?_);rintro e w' ⟨rfl,⟨nd,rfl⟩⟩;(try exact dW))))
   go_meet
   case rel=>exact ⟨_,(true),qrs,H',⟨by first|omega|exact Nat.le_refl _⟩,⟨bk1 BK14.out⟩,⟨by exact bw⟩⟩
 case rest =>
  clear HC2;(try clear c5);(try clear hcz7_0);(try clear hcz7_1);(try clear hcz8_0);(try clear hcz8_1);(try clear hfz7_0);(try clear hfz7_1);(try clear hfz8_0);(try clear hfz8_1)
  obtain ⟨kq,x13_1,rfl,HA,HJ1,BK14,HB⟩:=hcut
  cases kq with
  | zero=>exact absurd HA.out (by simp [cy.j0])
  | succ kj1 =>
   have H:=HA.out;clear HA;simp only [cy.j0] at H;by_cases c9:x13_1 = true
   ·subst c9;rw [if_pos rfl] at H;obtain rfl:=Option.some.inj H;go_wp2
    repeat (go_quiet (fail);try go_wp2)
    go_ret
    exact ⟨eE,by exact bw⟩
   ·replace c9:=Bool.eq_false_iff.mpr c9;subst c9;rw [if_neg (show ¬ (false = true) by decide)] at H;replace H:=oB H;obtain ⟨t17,A10,H⟩:=H;(try dsimp only at H)
    replace H:=oB H;obtain ⟨t18,A11,H⟩:=H;(try dsimp only at H)
    obtain rfl:=Option.some.inj H;have hcz12_0:=cz BK14.out 0;have hcz12_1:=cz BK14.out 1;have hfz12_0:=af BK14.out 0;have hfz12_1:=af BK14.out 1;go_wp2_with (first|(go_at_call 92;(with_reducible refine (dB.calls kj1 _ _ l0_1 t17 _ ?side1 ?side2 A10.out).mono ?_);(case side1=>exact qcs HR0_1.out HB.out);(case side2=>exact HC0_1.out);rintro e w' ⟨rfl,⟨nd,rfl⟩⟩;(try exact dW))|(go_at_call 66;(with_reducible refine (cp.calls a0_0 1 t17 t18 _ A11.out).mono ?_);rintro e w' ⟨rfl,⟨nd,rfl⟩⟩;(try exact dW)))
    repeat (go_quiet (first|(go_at_call 92;(with_reducible refine (dB.calls kj1 _ _ l0_1 t17 _ ?side1 ?side2 A10.out).mono ?_);(case side1=>exact qcs HR0_1.out HB.out);(case side2=>exact HC0_1.out);rintro e w' ⟨rfl,⟨nd,rfl⟩⟩;(try exact dW))|(go_at_call 66;(with_reducible refine (cp.calls a0_0 1 t17 t18 _ A11.out).mono ?_);rintro e w' ⟨rfl,⟨nd,rfl⟩⟩;(try exact dW)));try go_wp2_with (first|(go_at_call 92;(with_reducible refine (dB.calls kj1 _ _ l0_1 t17 _ ?side1 ?side2 A10.out).mono ?_);(case side1=>exact qcs HR0_1.out HB.out);(case side2=>exact HC0_1.out);rintro e w' ⟨rfl,⟨nd,rfl⟩⟩;(try exact dW))|(go_at_call 66;(with_reducible refine (cp.calls a0_0 1 t17 t18 _ A11.out).mono ?_);rintro e w' ⟨rfl,⟨nd,rfl⟩⟩;(try exact dW))))
    go_ret
    exact ⟨eE,by exact bw⟩


def aW.l0:Nat → List (aa) → List (aa) → Int → Int → Option (Bool)
 | 0,_,_,_,_=>none
 | k + 1,x0,x9,x10,x11=>if x11 < x10 then (if 0 ≤ x11 then (if x11 < (x9.length:Int) then ((cy.f k ((ae x9 x11).f0) ((ae x9 x11).f1)).bind fun t2=>(if t2 = true then (if 0 < (x0.length:Int) then (if (((ae x9 x11).f1).length:Int) = (((ae x0 0).f1).length:Int) then (aW.l0 k x0 x9 x10 (wrap64 (x11 + 1))) else (some false)) else (none)) else (some false))) else (none)) else (none)) else (some true)
def aW.f (k:Nat) (l0:List (aa)):Option (Bool):=(cp.f (l0.length:Int) 1 4).bind fun t2=>(if t2 = true then (aW.l0 k l0 l0 (l0.length:Int) 0) else (some false))
def aW.T6:Bool × List (List Nat × List Nat):=(true,[([],[]),([0],[0]),([1],[1]),([2,1],[2]),([3],[3]),([4,3],[3,4]),([5,3],[3,5]),([3],[3]),([7,3],[3,7]),([8,3],[3,8]),([9,3],[3,9]),([10,3],[3,10]),([6,11,3],[3,6,11]),([3,12],[3,12])])
def aW.B6:List Nat:=[0,1,3,7,15,31,63,15,143,399,911,1935,4095,8191]
theorem aW.tab6:il .any (opsOf Tryz.f36 6) = aW.T6:=by kernel_rfl
theorem aW.bits6:eZ aW.T6.2 aW.B6 = true:=by kernel_rfl
theorem aW.calls (k:Nat) (A0:Option Addr) (c0:Nat) (l0:List (aa)) (r:Bool) (w:World) (hr0:Kd.C ak w A0 l0.length l0) (hc0:l0.length ≤ c0) (h:aW.f k l0 = some r) :
  Calls Tryz.prog 36 #[.slice A0 l0.length c0] w fun e w'=>e = .returned (.bool r) ∧ Below w.heap.size w w':=by
 have hu25:=Tryz.underlying25;have HR0:=aM hr0;have HC0:=aM hc0;clear hr0 hc0;have HB:=aM (Below.refl w.heap.size w);have H:((cp.f (l0.length:Int) 1 4).bind fun t26=>(if t26 = true then (aW.l0 k l0 l0 (l0.length:Int) 0) else (some false))) = some r:=h;clear h;replace H:=oB H;obtain ⟨t26,A2,H⟩:=H;(try dsimp only at H)
 by_cases c3:t26 = true
 ·subst c3;rw [if_pos rfl] at H;have H':=aM H;clear H;go_enter Tryz.func36,Tryz.ntmps36;go_wp2_with (first|((with_reducible refine ai (f:=66) rfl ?_);refine gL 7 Tryz.func66 #[.int .i64 (l0.length:Int),.int .i64 1,.int .i64 4] ?_;(with_reducible refine (cp.calls (l0.length:Int) 1 4 true _ A2.out).mono ?_);rintro e w' ⟨rfl,⟨nd,rfl⟩⟩;refine ⟨_,rfl,?_⟩))
  go_loopg [11] k (fun kq v11 w'=>∃ (x11_1:Int),v11 = .int .i64 x11_1 ∧ aj (aW.l0 kq l0 l0 (l0.length:Int) x11_1 = some r) ∧ aj (kq ≤ k) ∧ aj (Below w.heap.size w w'))
  case atStart=>exact ⟨(0),qrs,H',⟨Nat.le_refl _⟩,⟨by exact bw⟩⟩
  case round =>
   clear H';(try clear c3)
   obtain ⟨x11_1,rfl,HA,HK1,HB⟩:=hrel
   cases gk with
   | zero=>exact absurd HA.out (by simp [aW.l0])
   | succ k1 =>
    have H:=HA.out;clear HA;simp only [aW.l0] at H;by_cases c4:x11_1 < (l0.length:Int)
    ·rw [if_pos c4] at H;have c4b0:=decide_eq_true c4;clear c4;replace H:=iN H;obtain ⟨c5,H⟩:=H;have c5b0:decide (0 ≤ x11_1) = true:=decide_eq_true c5;clear c5;replace H:=iN H;obtain ⟨c6,H⟩:=H;have c6b0:decide (x11_1 < (l0.length:Int)) = true:=decide_eq_true c6;clear c6;replace H:=oB H;obtain ⟨t29,A7,H⟩:=H;(try dsimp only at H)
     by_cases c8:t29 = true
     ·subst c8;rw [if_pos rfl] at H;replace H:=iN H;obtain ⟨c9,H⟩:=H;have c9b0:decide (0 < (l0.length:Int)) = true:=decide_eq_true c9;have c9b1:decide (0 < l0.length) = true:=decide_eq_true (by omega);clear c9;by_cases c10:(((ae l0 x11_1).f1).length:Int) = (((ae l0 0).f1).length:Int)
      ·rw [if_pos c10] at H;have c10b0:((((ae l0 x11_1).f1).length:Int) == (((ae l0 0).f1).length:Int)) = true:=beq_iff_eq.mpr c10;have c10b1:((((ae l0 x11_1).f1).length:Int) != (((ae l0 0).f1).length:Int)) = false:=bne_eq_false_iff_eq.mpr c10;have c10b2:(((ae l0 x11_1).f1).length == ((ae l0 0).f1).length) = true:=by first|simpa using c10|(simp at c10 ⊢;omega)
       clear c10;have H':=aM H;clear H;have p27:0 ≤ (x11_1:Int):=of_decide_eq_true ab;have q27:x11_1 < (l0.length:Int):=of_decide_eq_true ab;obtain ⟨ad27,A27_1,c191_1,e27,hx27_0,hx27_1,hl27_1,hi27_1⟩:=bD HR0.out x11_1 p27 q27;cases e27
       replace hx27_0:=(HB.out.cell (World.block_lt_of_cell? w _ hx27_0)).trans hx27_0;replace hx27_1:=(HB.out.cell (World.block_lt_of_cell? w _ hx27_1)).trans hx27_1;have HR27_1:=aM hi27_1;have HC27_1:=aM hl27_1;clear hi27_1 hl27_1;replace p27:=eq_true p27;replace q27:=eq_true q27
       try go_wp2_with (first|((with_reducible refine aC (N:=4) rfl ?_);(try (refine bQ (by rfl) ?_;dsimp only));refine bE 4 #[.int .i64 0,.slice none 0 0] 25 ?_;intro gb28 hg w11 hbox hb;have BK28:=aM (hbox);have GW28:=aM (gS hg);have GE28:=aM (gS hg);replace HB:=aM (ag bw hb);clear hb hbox hg;have hcz12_0:=cz BK28.out 0;have hcz12_1:=cz BK28.out 1;have hfz12_0:=af BK28.out 0;have hfz12_1:=af BK28.out 1))
       generalize hW_:((w11.setCell ⟨gb28,0,none⟩ (.int .i64 ((ae l0 x11_1).f0))).setCell ⟨gb28,1,none⟩ (.slice A27_1 ((ae l0 x11_1).f1).length c191_1)) = w13
       replace BK28:=aM (sP2 hW_ BK28.out);replace HB:=aM (sB2 hW_ HB.out);clear hW_;replace BK28:=aM (an BK28.out);replace HB:=aM (bg HB.out);have p30:0 ≤ (0:Int):=(by omega);have q30:0 < (l0.length:Int):=of_decide_eq_true ab;obtain ⟨ad30,A30_1,c194_1,e30,hx30_0,hx30_1,hl30_1,hi30_1⟩:=bD HR0.out 0 p30 q30;have hw30_1:=hx30_1;(try rw [show ((0:Int)).toNat = 0 from rfl] at hw30_1)
       (try rw [show 0 * 2 = 0 from rfl] at hw30_1)
       (try rw [Addr.add_zero'] at hw30_1)
       have hw30_0:=hx30_0;(try rw [show ((0:Int)).toNat = 0 from rfl] at hw30_0)
       (try rw [show 0 * 2 = 0 from rfl] at hw30_0)
       (try rw [Addr.add_zero'] at hw30_0)
       obtain rfl:ad27 = ad30:=(by injection e30);have qi194:(0 < l0.length) = True:=eq_true (by omega);(try rw [show ((0:Int)).toNat = 0 from rfl] at hx30_0)
       (try rw [show 0 * 2 = 0 from rfl] at hx30_0)
       (try rw [Addr.add_zero'] at hx30_0)
       (try rw [show ((0:Int)).toNat = 0 from rfl] at hx30_1)
       (try rw [show 0 * 2 = 0 from rfl] at hx30_1)
       (try rw [Addr.add_zero'] at hx30_1)
       replace hx30_0:=(HB.out.cell (World.block_lt_of_cell? w _ hx30_0)).trans hx30_0;replace hx30_1:=(HB.out.cell (World.block_lt_of_cell? w _ hx30_1)).trans hx30_1;have HR30_1:=aM hi30_1;have HC30_1:=aM hl30_1;clear hi30_1 hl30_1;replace p30:=eq_true p30;replace q30:=eq_true q30;refine eQ (n:=14) (S:=fun w'=>w'.cell? ⟨gb28,0,none⟩ = some (.int .i64 ((ae l0 x11_1).f0)) ∧ w'.cell? ⟨gb28,1,none⟩ = some (.slice A27_1 ((ae l0 x11_1).f1).length c191_1) ∧ w'.cell? ad27 = some (.int .i64 ((ae l0 0).f0)) ∧ w'.cell? ⟨ad27.block,ad27.off + 1,none⟩ = some (.slice A30_1 ((ae l0 0).f1).length c194_1)) (ds:=[]) (mA 14 0) kR rfl rfl ⟨(aE BK28.out 0).trans rfl,(aE BK28.out 1).trans rfl,((HB.out.cell (World.block_lt_of_cell? w _ hw30_0)).trans hw30_0),((HB.out.cell (World.block_lt_of_cell? w _ hw30_1)).trans hw30_1)⟩ (fun hHeld=>?_);refine dx aW.tab6 aW.bits6 (fun HT_ HW_=>?_)
       generalize w13.drew = w14 at BK28 HB HR30_1 hx30_0 hx30_1 hHeld ⊢
       refine pK 0 15 HT_.out HW_.out hHeld ?_;refine oN 1 (some 16) HT_.out fun K hK=>?_
       refine gC Tryz.func65 #[.agg #[.int .i64 ((ae l0 x11_1).f0),.slice A27_1 ((ae l0 x11_1).f1).length c191_1]] ?_
       with_reducible refine (cy.calls k1 ((ae l0 x11_1).f0) _ _ ((ae l0 x11_1).f1) true _ ?side1 ?side2 A7.out).mono ?_
       (case side1=>exact qcs HR27_1.out HB.out)
       (case side2=>exact HC27_1.out)
       rintro e w15 ⟨rfl,hb⟩
       refine ⟨_,rfl,?_⟩;replace BK28:=aM (bB BK28.out hb);replace HB:=aM (ag bw hb);(try clear hb)
       refine hK.out _ _ ⟨(aE BK28.out 0).trans rfl,(aE BK28.out 1).trans rfl,((HB.out.cell (World.block_lt_of_cell? w _ hw30_0)).trans hw30_0),((HB.out.cell (World.block_lt_of_cell? w _ hw30_1)).trans hw30_1)⟩ (fun hHeld=>?_);clear hK K;refine nM 16 ?_;refine pT 2 17 HT_.out ?_;refine pT 3 18 HT_.out ?_;refine pT 4 19 HT_.out ?_;refine pT 7 22 HT_.out ?_;refine pT 8 23 HT_.out ?_;refine pT 9 24 HT_.out ?_;refine pK 5 20 HT_.out HW_.out hHeld ?_;refine pT 6 21 HT_.out ?_;refine pK 10 25 HT_.out HW_.out hHeld ?_;refine pT 11 26 HT_.out ?_;refine pT 12 27 HT_.out ?_;refine pT 13 28 HT_.out ?_;refine fK (eA HT_.out kR) ?_
       try go_wp2
       go_roundg k1
       case measure=>have:=HK1.out;omega
       case rel=>exact ⟨(wrap64 (x11_1 + 1)),qrs,H',⟨by have:=HK1.out;omega⟩,⟨by exact bw⟩⟩
      ·rw [if_neg c10] at H;have c10b0:((((ae l0 x11_1).f1).length:Int) == (((ae l0 0).f1).length:Int)) = false:=beq_eq_false_iff_ne.mpr c10;have c10b1:((((ae l0 x11_1).f1).length:Int) != (((ae l0 0).f1).length:Int)) = true:=bne_iff_ne.mpr c10;have c10b2:(((ae l0 x11_1).f1).length == ((ae l0 0).f1).length) = false:=by first|simpa using c10|(simp at c10 ⊢;omega)
       obtain rfl:=Option.some.inj H;have p27:0 ≤ (x11_1:Int):=of_decide_eq_true ab;have q27:x11_1 < (l0.length:Int):=of_decide_eq_true ab;obtain ⟨ad27,A27_1,c191_1,e27,hx27_0,hx27_1,hl27_1,hi27_1⟩:=bD HR0.out x11_1 p27 q27;cases e27
       replace hx27_0:=(HB.out.cell (World.block_lt_of_cell? w _ hx27_0)).trans hx27_0;replace hx27_1:=(HB.out.cell (World.block_lt_of_cell? w _ hx27_1)).trans hx27_1;have HR27_1:=aM hi27_1;have HC27_1:=aM hl27_1;clear hi27_1 hl27_1;replace p27:=eq_true p27;replace q27:=eq_true q27
       try go_wp2_with (first|((with_reducible refine aC (N:=4) rfl ?_);(try (refine bQ (by rfl) ?_;dsimp only));refine bE 4 #[.int .i64 0,.slice none 0 0] 25 ?_;intro gb28 hg w16 hbox hb;have BK28:=aM (hbox);have GW28:=aM (gS hg);have GE28:=aM (gS hg);replace HB:=aM (ag bw hb);clear hb hbox hg;have hcz17_0:=cz BK28.out 0;have hcz17_1:=cz BK28.out 1;have hfz17_0:=af BK28.out 0;have hfz17_1:=af BK28.out 1))
       generalize hW_:((w16.setCell ⟨gb28,0,none⟩ (.int .i64 ((ae l0 x11_1).f0))).setCell ⟨gb28,1,none⟩ (.slice A27_1 ((ae l0 x11_1).f1).length c191_1)) = w18
       replace BK28:=aM (sP2 hW_ BK28.out);replace HB:=aM (sB2 hW_ HB.out);clear hW_;replace BK28:=aM (an BK28.out);replace HB:=aM (bg HB.out);have p30:0 ≤ (0:Int):=(by omega);have q30:0 < (l0.length:Int):=of_decide_eq_true ab;obtain ⟨ad30,A30_1,c194_1,e30,hx30_0,hx30_1,hl30_1,hi30_1⟩:=bD HR0.out 0 p30 q30;have hw30_1:=hx30_1;(try rw [show ((0:Int)).toNat = 0 from rfl] at hw30_1)
       (try rw [show 0 * 2 = 0 from rfl] at hw30_1)
       (try rw [Addr.add_zero'] at hw30_1)
       have hw30_0:=hx30_0;(try rw [show ((0:Int)).toNat = 0 from rfl] at hw30_0)
       (try rw [show 0 * 2 = 0 from rfl] at hw30_0)
       (try rw [Addr.add_zero'] at hw30_0)
       obtain rfl:ad27 = ad30:=(by injection e30);have qi194:(0 < l0.length) = True:=eq_true (by omega);(try rw [show ((0:Int)).toNat = 0 from rfl] at hx30_0)
       (try rw [show 0 * 2 = 0 from rfl] at hx30_0)
       (try rw [Addr.add_zero'] at hx30_0)
       (try rw [show ((0:Int)).toNat = 0 from rfl] at hx30_1)
       (try rw [show 0 * 2 = 0 from rfl] at hx30_1)
       (try rw [Addr.add_zero'] at hx30_1)
       replace hx30_0:=(HB.out.cell (World.block_lt_of_cell? w _ hx30_0)).trans hx30_0;replace hx30_1:=(HB.out.cell (World.block_lt_of_cell? w _ hx30_1)).trans hx30_1;have HR30_1:=aM hi30_1;have HC30_1:=aM hl30_1;clear hi30_1 hl30_1;replace p30:=eq_true p30;replace q30:=eq_true q30;refine eQ (n:=14) (S:=fun w'=>w'.cell? ⟨gb28,0,none⟩ = some (.int .i64 ((ae l0 x11_1).f0)) ∧ w'.cell? ⟨gb28,1,none⟩ = some (.slice A27_1 ((ae l0 x11_1).f1).length c191_1) ∧ w'.cell? ad27 = some (.int .i64 ((ae l0 0).f0)) ∧ w'.cell? ⟨ad27.block,ad27.off + 1,none⟩ = some (.slice A30_1 ((ae l0 0).f1).length c194_1)) (ds:=[]) (mA 14 0) kR rfl rfl ⟨(aE BK28.out 0).trans rfl,(aE BK28.out 1).trans rfl,((HB.out.cell (World.block_lt_of_cell? w _ hw30_0)).trans hw30_0),((HB.out.cell (World.block_lt_of_cell? w _ hw30_1)).trans hw30_1)⟩ (fun hHeld=>?_);refine dx aW.tab6 aW.bits6 (fun HT_ HW_=>?_)
       generalize w18.drew = w19 at BK28 HB HR30_1 hx30_0 hx30_1 hHeld ⊢
       refine pK 0 15 HT_.out HW_.out hHeld ?_;refine oN 1 (some 16) HT_.out fun K hK=>?_
       refine gC Tryz.func65 #[.agg #[.int .i64 ((ae l0 x11_1).f0),.slice A27_1 ((ae l0 x11_1).f1).length c191_1]] ?_
       with_reducible refine (cy.calls k1 ((ae l0 x11_1).f0) _ _ ((ae l0 x11_1).f1) true _ ?side1 ?side2 A7.out).mono ?_
       (case side1=>exact qcs HR27_1.out HB.out)
       (case side2=>exact HC27_1.out)
       rintro e w20 ⟨rfl,hb⟩
       refine ⟨_,rfl,?_⟩;replace BK28:=aM (bB BK28.out hb);replace HB:=aM (ag bw hb);(try clear hb)
       refine hK.out _ _ ⟨(aE BK28.out 0).trans rfl,(aE BK28.out 1).trans rfl,((HB.out.cell (World.block_lt_of_cell? w _ hw30_0)).trans hw30_0),((HB.out.cell (World.block_lt_of_cell? w _ hw30_1)).trans hw30_1)⟩ (fun hHeld=>?_);clear hK K;refine nM 16 ?_;refine pT 2 17 HT_.out ?_;refine pT 3 18 HT_.out ?_;refine pT 4 19 HT_.out ?_;refine pT 7 22 HT_.out ?_;refine pT 8 23 HT_.out ?_;refine pT 9 24 HT_.out ?_;refine pK 5 20 HT_.out HW_.out hHeld ?_;refine pT 6 21 HT_.out ?_;refine pK 10 25 HT_.out HW_.out hHeld ?_;refine pT 11 26 HT_.out ?_;refine pT 12 27 HT_.out ?_;refine pT 13 28 HT_.out ?_;refine fK (eA HT_.out kR) ?_
       try go_wp2
       go_ret
       exact ⟨eE,by exact bw⟩
     ·replace c8:=Bool.eq_false_iff.mpr c8;subst c8;rw [if_neg (show ¬ (false = true) by decide)] at H;obtain rfl:=Option.some.inj H;have p27:0 ≤ (x11_1:Int):=of_decide_eq_true ab;have q27:x11_1 < (l0.length:Int):=of_decide_eq_true ab;obtain ⟨ad27,A27_1,c191_1,e27,hx27_0,hx27_1,hl27_1,hi27_1⟩:=bD HR0.out x11_1 p27 q27;cases e27
      replace hx27_0:=(HB.out.cell (World.block_lt_of_cell? w _ hx27_0)).trans hx27_0;replace hx27_1:=(HB.out.cell (World.block_lt_of_cell? w _ hx27_1)).trans hx27_1;have HR27_1:=aM hi27_1;have HC27_1:=aM hl27_1;clear hi27_1 hl27_1;replace p27:=eq_true p27;replace q27:=eq_true q27
      try go_wp2_with (first|((with_reducible refine aC (N:=4) rfl ?_);(try (refine bQ (by rfl) ?_;dsimp only));refine bE 4 #[.int .i64 0,.slice none 0 0] 25 ?_;intro gb28 hg w21 hbox hb;have BK28:=aM (hbox);have GW28:=aM (gS hg);have GE28:=aM (gS hg);replace HB:=aM (ag bw hb);clear hb hbox hg;have hcz22_0:=cz BK28.out 0;have hcz22_1:=cz BK28.out 1;have hfz22_0:=af BK28.out 0;have hfz22_1:=af BK28.out 1))
      generalize hW_:((w21.setCell ⟨gb28,0,none⟩ (.int .i64 ((ae l0 x11_1).f0))).setCell ⟨gb28,1,none⟩ (.slice A27_1 ((ae l0 x11_1).f1).length c191_1)) = w23
      replace BK28:=aM (sP2 hW_ BK28.out);replace HB:=aM (sB2 hW_ HB.out);clear hW_;replace BK28:=aM (an BK28.out);replace HB:=aM (bg HB.out);refine eQ (n:=14) (S:=fun w'=>w'.cell? ⟨gb28,0,none⟩ = some (.int .i64 ((ae l0 x11_1).f0)) ∧ w'.cell? ⟨gb28,1,none⟩ = some (.slice A27_1 ((ae l0 x11_1).f1).length c191_1)) (ds:=[]) (mA 14 0) kR rfl rfl ⟨(aE BK28.out 0).trans rfl,(aE BK28.out 1).trans rfl⟩ (fun hHeld=>?_);refine dx aW.tab6 aW.bits6 (fun HT_ HW_=>?_)
      generalize w23.drew = w24 at BK28 HB hHeld ⊢
      refine pK 0 15 HT_.out HW_.out hHeld ?_;refine oN 1 (some 16) HT_.out fun K hK=>?_
      refine gC Tryz.func65 #[.agg #[.int .i64 ((ae l0 x11_1).f0),.slice A27_1 ((ae l0 x11_1).f1).length c191_1]] ?_
      with_reducible refine (cy.calls k1 ((ae l0 x11_1).f0) _ _ ((ae l0 x11_1).f1) false _ ?side1 ?side2 A7.out).mono ?_
      (case side1=>exact qcs HR27_1.out HB.out)
      (case side2=>exact HC27_1.out)
      rintro e w25 ⟨rfl,hb⟩
      refine ⟨_,rfl,?_⟩;replace BK28:=aM (bB BK28.out hb);replace HB:=aM (ag bw hb);(try clear hb)
      refine hK.out _ _ ⟨(aE BK28.out 0).trans rfl,(aE BK28.out 1).trans rfl⟩ (fun hHeld=>?_);clear hK K;refine nM 16 ?_;refine pT 2 17 HT_.out ?_;refine pT 3 18 HT_.out ?_;refine pU 4 19 HT_.out ?_;refine pU 5 20 HT_.out ?_;refine pU 6 21 HT_.out ?_;refine pU 7 22 HT_.out ?_;refine pU 8 23 HT_.out ?_;refine pU 9 24 HT_.out ?_;refine pU 10 25 HT_.out ?_;refine pU 11 26 HT_.out ?_;refine pU 12 27 HT_.out ?_;refine pT 13 28 HT_.out ?_;refine fK (eA HT_.out kR) ?_
      try go_wp2
      go_ret
      exact ⟨eE,by exact bw⟩
    ·rw [if_neg c4] at H;have c4b0:=decide_eq_false c4;clear c4;obtain rfl:=Option.some.inj H;go_wp2
     go_ret
     exact ⟨eE,by exact bw⟩
 ·replace c3:=Bool.eq_false_iff.mpr c3;subst c3;rw [if_neg (show ¬ (false = true) by decide)] at H;obtain rfl:=Option.some.inj H;go_enter Tryz.func36,Tryz.ntmps36;go_wp2_with (first|((with_reducible refine ai (f:=66) rfl ?_);refine gL 7 Tryz.func66 #[.int .i64 (l0.length:Int),.int .i64 1,.int .i64 4] ?_;(with_reducible refine (cp.calls (l0.length:Int) 1 4 false _ A2.out).mono ?_);rintro e w' ⟨rfl,⟨nd,rfl⟩⟩;refine ⟨_,rfl,?_⟩))
  go_ret
  exact ⟨eE,by exact bw⟩


def de.l0:Nat → List Int → Int → Int → List Int → Int → Int → Option (Bool)
 | 0,_,_,_,_,_,_=>none
 | k + 1,x0,x1,x2,x9,x10,x11=>if x11 < x10 then (if 0 ≤ x11 then (if x11 < (x9.length:Int) then ((cp.f (rd x9 x11) x1 x2).bind fun t3=>(if t3 = true then (if x11 > 0 then (if 0 ≤ (wrap64 (x11 - 1)) then (if (wrap64 (x11 - 1)) < (x0.length:Int) then (if (rd x0 (wrap64 (x11 - 1))) ≥ (rd x9 x11) then (some false) else (de.l0 k x0 x1 x2 x9 x10 (wrap64 (x11 + 1)))) else (none)) else (none)) else (de.l0 k x0 x1 x2 x9 x10 (wrap64 (x11 + 1)))) else (some false))) else (none)) else (none)) else (some true)
def de.f (k:Nat) (l0:List Int) (a1:Int) (a2:Int):Option (Bool):=de.l0 k l0 a1 a2 l0 (l0.length:Int) 0
theorem de.calls (k:Nat) (A0:Option Addr) (c0:Nat) (l0:List Int) (a1:Int) (a2:Int) (r:Bool) (w:World) (hr0:Kd.C (Kd.int .i64) w A0 l0.length l0) (hc0:l0.length ≤ c0) (h:de.f k l0 a1 a2 = some r) :
  Calls Tryz.prog 95 #[.slice A0 l0.length c0,.int .i64 a1,.int .i64 a2] w fun e w'=>e = .returned (.bool r) ∧ bi w w':=by
 have HR0:=aM hr0;have HC0:=aM hc0;clear hr0 hc0;have H:(de.l0 k l0 a1 a2 l0 (l0.length:Int) 0) = some r:=h;clear h;have H':=aM H;clear H;go_enter Tryz.func95,Tryz.ntmps95;go_wp2
 go_loopg [11] k (fun kq v11 w'=>∃ (x11_1:Int),v11 = .int .i64 x11_1 ∧ aj (de.l0 kq l0 a1 a2 l0 (l0.length:Int) x11_1 = some r) ∧ aj (kq ≤ k) ∧ bi w w')
 case atStart=>exact ⟨(0),qrs,H',⟨Nat.le_refl _⟩,by repeat (first|exact bi.refl _|apply bi.step)⟩
 case round =>
  clear H'
  try clear p2
  obtain ⟨x11_1,rfl,HA,HK1,⟨m1,rfl⟩⟩:=hrel
  cases gk with
  | zero=>exact absurd HA.out (by simp [de.l0])
  | succ k1 =>
   have H:=HA.out;clear HA;simp only [de.l0] at H;by_cases c4:x11_1 < (l0.length:Int)
   ·rw [if_pos c4] at H;have c4b0:=decide_eq_true c4;clear c4;replace H:=iN H;obtain ⟨c5,H⟩:=H;have c5b0:decide (0 ≤ x11_1) = true:=decide_eq_true c5;clear c5;replace H:=iN H;obtain ⟨c6,H⟩:=H;have c6b0:decide (x11_1 < (l0.length:Int)) = true:=decide_eq_true c6;clear c6;replace H:=oB H;obtain ⟨t14,A7,H⟩:=H;(try dsimp only at H)
    by_cases c8:t14 = true
    ·subst c8;rw [if_pos rfl] at H;by_cases c9:x11_1 > 0
     ·rw [if_pos c9] at H;have c9b0:decide (0 < x11_1) = true:=decide_eq_true c9;clear c9;obtain ⟨ji10,hji10⟩:∃ j_:Int,(wrap64 (x11_1 - 1)) = j_:=⟨_,rfl⟩;(first|rw [hji10] at H|simp only [hji10] at H)
      (try rw [hji10] at A7)
      have hji10w:(IntKind.i64.wrap (x11_1 - 1)) = ji10:=(cS _).trans hji10;replace H:=iN H;obtain ⟨c11,H⟩:=H;have c11b0:decide (0 ≤ (ji10)) = true:=decide_eq_true c11;clear c11;replace H:=iN H;obtain ⟨c12,H⟩:=H;have c12b0:decide ((ji10) < (l0.length:Int)) = true:=decide_eq_true c12;clear c12;by_cases c13:(rd l0 (ji10)) ≥ (rd l0 x11_1)
      ·rw [if_pos c13] at H;have c13b0:decide ((rd l0 x11_1) ≤ (rd l0 (ji10))) = true:=decide_eq_true c13;clear c13;obtain rfl:=Option.some.inj H;have p3:0 ≤ (x11_1:Int):=of_decide_eq_true ab;have q3:x11_1 < (l0.length:Int):=of_decide_eq_true ab;obtain ⟨ad3,e3,hx3_0⟩:=Kd.dI HR0.out x11_1 p3 q3;cases e3
       replace p3:=eq_true p3;replace q3:=eq_true q3;go_wp2_with (first|((with_reducible refine ai (f:=66) rfl ?_);refine gL 19 Tryz.func66 #[.int .i64 (rd l0 x11_1),.int .i64 a1,.int .i64 a2] ?_;(with_reducible refine (cp.calls (rd l0 x11_1) a1 a2 true _ A7.out).mono ?_);rintro e w' ⟨rfl,⟨nd,rfl⟩⟩;refine ⟨_,rfl,?_⟩;have p15:0 ≤ ((ji10):Int):=of_decide_eq_true ab;have q15:(ji10) < (l0.length:Int):=of_decide_eq_true ab;obtain ⟨ad15,e15,hx15_0⟩:=Kd.dI HR0.out (ji10) p15 q15;obtain rfl:ad3 = ad15:=(by injection e15);replace p15:=eq_true p15;replace q15:=eq_true q15))
       go_ret
       exact ⟨by first|rfl|(simp;done)|(simp only [← hji10] <;> (first|rfl|simp))|(simp [*];done),by repeat (first|exact bi.refl _|apply bi.step)⟩
      ·rw [if_neg c13] at H;have c13b0:decide ((rd l0 x11_1) ≤ (rd l0 (ji10))) = false:=decide_eq_false c13;clear c13;have H':=aM H;clear H;have p3:0 ≤ (x11_1:Int):=of_decide_eq_true ab;have q3:x11_1 < (l0.length:Int):=of_decide_eq_true ab;obtain ⟨ad3,e3,hx3_0⟩:=Kd.dI HR0.out x11_1 p3 q3;cases e3
       replace p3:=eq_true p3;replace q3:=eq_true q3;go_wp2_with (first|((with_reducible refine ai (f:=66) rfl ?_);refine gL 19 Tryz.func66 #[.int .i64 (rd l0 x11_1),.int .i64 a1,.int .i64 a2] ?_;(with_reducible refine (cp.calls (rd l0 x11_1) a1 a2 true _ A7.out).mono ?_);rintro e w' ⟨rfl,⟨nd,rfl⟩⟩;refine ⟨_,rfl,?_⟩;have p15:0 ≤ ((ji10):Int):=of_decide_eq_true ab;have q15:(ji10) < (l0.length:Int):=of_decide_eq_true ab;obtain ⟨ad15,e15,hx15_0⟩:=Kd.dI HR0.out (ji10) p15 q15;obtain rfl:ad3 = ad15:=(by injection e15);replace p15:=eq_true p15;replace q15:=eq_true q15))
       go_roundg k1
       case measure=>have:=HK1.out;omega
       case rel=>exact ⟨(wrap64 (x11_1 + 1)),qrs,H',⟨by have:=HK1.out;omega⟩,by repeat (first|exact bi.refl _|apply bi.step)⟩
     ·rw [if_neg c9] at H;have c9b0:decide (0 < x11_1) = false:=decide_eq_false c9;clear c9;have H':=aM H;clear H;have p3:0 ≤ (x11_1:Int):=of_decide_eq_true ab;have q3:x11_1 < (l0.length:Int):=of_decide_eq_true ab;obtain ⟨ad3,e3,hx3_0⟩:=Kd.dI HR0.out x11_1 p3 q3;cases e3
      replace p3:=eq_true p3;replace q3:=eq_true q3;go_wp2_with (first|((with_reducible refine ai (f:=66) rfl ?_);refine gL 19 Tryz.func66 #[.int .i64 (rd l0 x11_1),.int .i64 a1,.int .i64 a2] ?_;(with_reducible refine (cp.calls (rd l0 x11_1) a1 a2 true _ A7.out).mono ?_);rintro e w' ⟨rfl,⟨nd,rfl⟩⟩;refine ⟨_,rfl,?_⟩))
      go_roundg k1
      case measure=>have:=HK1.out;omega
      case rel=>exact ⟨(wrap64 (x11_1 + 1)),qrs,H',⟨by have:=HK1.out;omega⟩,by repeat (first|exact bi.refl _|apply bi.step)⟩
    ·replace c8:=Bool.eq_false_iff.mpr c8;subst c8;rw [if_neg (show ¬ (false = true) by decide)] at H;obtain rfl:=Option.some.inj H;have p3:0 ≤ (x11_1:Int):=of_decide_eq_true ab;have q3:x11_1 < (l0.length:Int):=of_decide_eq_true ab;obtain ⟨ad3,e3,hx3_0⟩:=Kd.dI HR0.out x11_1 p3 q3;cases e3
     replace p3:=eq_true p3;replace q3:=eq_true q3;go_wp2_with (first|((with_reducible refine ai (f:=66) rfl ?_);refine gL 19 Tryz.func66 #[.int .i64 (rd l0 x11_1),.int .i64 a1,.int .i64 a2] ?_;(with_reducible refine (cp.calls (rd l0 x11_1) a1 a2 false _ A7.out).mono ?_);rintro e w' ⟨rfl,⟨nd,rfl⟩⟩;refine ⟨_,rfl,?_⟩))
     go_ret
     exact ⟨qrs,dR⟩
   ·rw [if_neg c4] at H;have c4b0:=decide_eq_false c4;clear c4;obtain rfl:=Option.some.inj H;go_wp2
    go_ret
    exact ⟨qrs,dR⟩


def fz.f (k:Nat) (a0:Int) (l1:List Int):Option (Bool):=(de.f k l1 0 (wrap64 (a0 - 1))).bind fun t2=>(some t2)
theorem fz.calls (k:Nat) (a0:Int) (A1:Option Addr) (c1:Nat) (l1:List Int) (r:Bool) (w:World) (hr1:Kd.C (Kd.int .i64) w A1 l1.length l1) (hc1:l1.length ≤ c1) (h:fz.f k a0 l1 = some r) :
  Calls Tryz.prog 70 #[.int .i64 a0,.slice A1 l1.length c1] w fun e w'=>e = .returned (.bool r) ∧ bi w w':=by
 have HR1:=aM hr1;have HC1:=aM hc1;clear hr1 hc1;have H:((de.f k l1 0 (wrap64 (a0 - 1))).bind fun t4=>(some t4)) = some r:=h;clear h;replace H:=oB H;obtain ⟨t4,A3,H⟩:=H;(try dsimp only at H)
 obtain rfl:=Option.some.inj H;go_enter Tryz.func70,Tryz.ntmps70;go_wp2_with (first|((with_reducible refine ai (f:=95) rfl ?_);refine gL 8 Tryz.func95 #[.slice A1 l1.length c1,.int .i64 0,.int .i64 (wrap64 (a0 - 1))] ?_;(with_reducible refine (de.calls k _ _ l1 0 (wrap64 (a0 - 1)) t4 _ ?side1 ?side2 A3.out).mono ?_);(case side1=>exact qc HR1.out);(case side2=>exact HC1.out);rintro e w' ⟨rfl,⟨nd,rfl⟩⟩;refine ⟨_,rfl,?_⟩))
 go_ret
 exact ⟨qrs,dR⟩


def d5.f (k:Nat) (l0:List (aa)) (l1:List Int):Option (Bool):=(aW.f k l0).bind fun t2=>(if t2 = true then (if 0 < (l0.length:Int) then ((fz.f k (((ae l0 0).f1).length:Int) l1).bind fun t3=>(some t3)) else (none)) else (some false))
theorem d5.calls (k:Nat) (A0:Option Addr) (c0:Nat) (l0:List (aa)) (A1:Option Addr) (c1:Nat) (l1:List Int) (r:Bool) (w:World) (hr0:Kd.C ak w A0 l0.length l0) (hc0:l0.length ≤ c0) (hr1:Kd.C (Kd.int .i64) w A1 l1.length l1) (hc1:l1.length ≤ c1) (h:d5.f k l0 l1 = some r) :
  Calls Tryz.prog 31 #[.slice A0 l0.length c0,.slice A1 l1.length c1] w fun e w'=>e = .returned (.bool r) ∧ Below w.heap.size w w':=by
 have HR0:=aM hr0;have HC0:=aM hc0;clear hr0 hc0;have HR1:=aM hr1;have HC1:=aM hc1;clear hr1 hc1;have HB:=aM (Below.refl w.heap.size w);have H:((aW.f k l0).bind fun t9=>(if t9 = true then (if 0 < (l0.length:Int) then ((fz.f k (((ae l0 0).f1).length:Int) l1).bind fun t11=>(some t11)) else (none)) else (some false))) = some r:=h;clear h;replace H:=oB H;obtain ⟨t9,A3,H⟩:=H;(try dsimp only at H)
 by_cases c4:t9 = true
 ·subst c4;rw [if_pos rfl] at H;replace H:=iN H;obtain ⟨c5,H⟩:=H;have c5b0:decide (0 < (l0.length:Int)) = true:=decide_eq_true c5;have c5b1:decide (0 < l0.length) = true:=decide_eq_true (by omega);clear c5;replace H:=oB H;obtain ⟨t11,A6,H⟩:=H;(try dsimp only at H)
  obtain rfl:=Option.some.inj H;go_enter Tryz.func31,Tryz.ntmps31;go_wp2_with (first|((with_reducible refine ai (f:=36) rfl ?_);refine gL 6 Tryz.func36 #[.slice A0 l0.length c0] ?_;(with_reducible refine (aW.calls k _ _ l0 true _ ?side1 ?side2 A3.out).mono ?_);(case side1=>exact qc HR0.out);(case side2=>exact HC0.out);rintro e w7 ⟨rfl,hb⟩;refine ⟨_,rfl,?_⟩;replace HB:=aM (ag bw hb);(try clear hb);have p10:0 ≤ (0:Int):=(by omega);have q10:0 < (l0.length:Int):=of_decide_eq_true ab;obtain ⟨ad10,A10_1,c200_1,e10,hx10_0,hx10_1,hl10_1,hi10_1⟩:=bD HR0.out 0 p10 q10;cases e10;have qi200:(0 < l0.length) = True:=eq_true (by omega);(try rw [show ((0:Int)).toNat = 0 from rfl] at hx10_0);(try rw [show 0 * 2 = 0 from rfl] at hx10_0);(try rw [Addr.add_zero'] at hx10_0);(try rw [show ((0:Int)).toNat = 0 from rfl] at hx10_1);(try rw [show 0 * 2 = 0 from rfl] at hx10_1);(try rw [Addr.add_zero'] at hx10_1);replace hx10_0:=(HB.out.cell (World.block_lt_of_cell? w _ hx10_0)).trans hx10_0;replace hx10_1:=(HB.out.cell (World.block_lt_of_cell? w _ hx10_1)).trans hx10_1;have HR10_1:=aM hi10_1;have HC10_1:=aM hl10_1;clear hi10_1 hl10_1;replace p10:=eq_true p10;replace q10:=eq_true q10)|(go_at_call 70;(with_reducible refine (fz.calls k (((ae l0 0).f1).length:Int) _ _ l1 t11 _ ?side1 ?side2 A6.out).mono ?_);(case side1=>exact qcs HR1.out HB.out);(case side2=>exact HC1.out);rintro e w' ⟨rfl,⟨nd,rfl⟩⟩))
  go_ret
  exact ⟨eE,by exact bw⟩
 ·replace c4:=Bool.eq_false_iff.mpr c4;subst c4;rw [if_neg (show ¬ (false = true) by decide)] at H;obtain rfl:=Option.some.inj H;go_enter Tryz.func31,Tryz.ntmps31;go_wp2_with (first|((with_reducible refine ai (f:=36) rfl ?_);refine gL 6 Tryz.func36 #[.slice A0 l0.length c0] ?_;(with_reducible refine (aW.calls k _ _ l0 false _ ?side1 ?side2 A3.out).mono ?_);(case side1=>exact qc HR0.out);(case side2=>exact HC0.out);rintro e w8 ⟨rfl,hb⟩;refine ⟨_,rfl,?_⟩;replace HB:=aM (ag bw hb);(try clear hb)))
  go_ret
  exact ⟨eE,by exact bw⟩


def fe.f (a0:Int):Option (Int):=if 0 ≤ a0 then (some (wrap64 ((shl .i64 1 a0) - 1))) else (none)
theorem fe.calls (a0:Int) (r:Int) (w:World) (h:fe.f a0 = some r) :
  Calls Tryz.prog 93 #[.int .i64 a0] w fun e w'=>e = .returned (.int .i64 r) ∧ bi w w':=by
 have H:(if 0 ≤ a0 then (some (wrap64 ((shl .i64 1 a0) - 1))) else (none)) = some r:=h;clear h;replace H:=iN H;obtain ⟨c2,H⟩:=H;have c2b0:=eq_true c2;have c2b1:decide (0 ≤ a0) = true:=decide_eq_true c2;clear c2;obtain ⟨ji3,hji3⟩:∃ j_:Int,(shl .i64 1 a0) = j_:=⟨_,rfl⟩;(first|rw [hji3] at H|simp only [hji3] at H)
 have hji3_:(IntKind.i64.wrap (1 * 2 ^ min a0.toNat 64)) = ji3:=hji3;have hji3z:a0 ≤ 64 → (IntKind.i64.wrap (1 * 2 ^ a0.toNat)) = ji3:=fM hji3;have hji3u:(IntKind.i64.wrap (2 ^ min a0.toNat 64)) = ji3:=by have h_:=hji3_;rw [Int.one_mul] at h_;exact h_
 have hji3v:a0 ≤ 64 → (IntKind.i64.wrap (2 ^ a0.toNat)) = ji3:=fun hle_=>by have h_:=hji3z hle_;rw [Int.one_mul] at h_;exact h_
 have hji3y:(wrap64 (1 * 2 ^ min a0.toNat 64)) = ji3:=(cS _).symm.trans hji3_;have hji3x:a0 ≤ 64 → (wrap64 (1 * 2 ^ a0.toNat)) = ji3:=fun h_=>(cS _).symm.trans (hji3z h_)
 obtain rfl:=Option.some.inj H;go_enter Tryz.func93,Tryz.ntmps93;go_wp2
 go_ret
 exact ⟨by first|rfl|(simp;done)|(simp only [← hji3] <;> (first|rfl|simp))|(simp [*];done),by repeat (first|exact bi.refl _|apply bi.step)⟩


def cJ.l0:Nat → Int → Int → List Int → Int → Int → Option (Int)
 | 0,_,_,_,_,_=>none
 | k + 1,x1,x5,x9,x10,x11=>if x11 < x10 then (if 0 ≤ x11 then (if x11 < (x9.length:Int) then (if (Int.tmod (shr .i64 x1 x11) 2) = 1 then (cJ.l0 k x1 (wrap64 (x5 + (rd x9 x11))) x9 x10 (wrap64 (x11 + 1))) else (cJ.l0 k x1 x5 x9 x10 (wrap64 (x11 + 1)))) else (none)) else (none)) else (some x5)
def cJ.f (k:Nat) (a0_0:Int) (l0_1:List Int) (a1:Int):Option (Int):=cJ.l0 k a1 0 l0_1 (l0_1.length:Int) 0
theorem cJ.calls (k:Nat) (a0_0:Int) (A0_1:Option Addr) (c0_1:Nat) (l0_1:List Int) (a1:Int) (r:Int) (w:World) (hr0_1:Kd.C (Kd.int .i64) w A0_1 l0_1.length l0_1) (hc0_1:l0_1.length ≤ c0_1) (h:cJ.f k a0_0 l0_1 a1 = some r) :
  Calls Tryz.prog 94 #[.agg #[.int .i64 a0_0,.slice A0_1 l0_1.length c0_1],.int .i64 a1] w fun e w'=>e = .returned (.int .i64 r) ∧ Below w.heap.size w w':=by
 have hu25:=Tryz.underlying25;have HR0_1:=aM hr0_1;have HC0_1:=aM hc0_1;clear hr0_1 hc0_1;have HB:=aM (Below.refl w.heap.size w);have H:(cJ.l0 k a1 0 l0_1 (l0_1.length:Int) 0) = some r:=h;clear h;have H':=aM H;clear H;go_enter Tryz.func94,Tryz.ntmps94;go_wp2_with (first|((with_reducible refine aC (N:=2) rfl ?_);refine bE 2 #[.int .i64 a0_0,.slice A0_1 l0_1.length c0_1] 25 ?_;intro gb12 hg w3 hbox hb;have BK12:=aM (hbox);have GW12:=aM (gS hg);have GE12:=aM (gS hg);replace HB:=aM (ag bw hb);clear hb hbox hg;have hcz4_0:=cz BK12.out 0;have hcz4_1:=cz BK12.out 1;have hfz4_0:=af BK12.out 0;have hfz4_1:=af BK12.out 1))
 go_loopg [5,11] k (fun kq v5 v11 w'=>∃ (x5_1:Int) (x11_1:Int),v5 = .int .i64 x5_1 ∧ v11 = .int .i64 x11_1 ∧ aj (cJ.l0 kq a1 x5_1 l0_1 (l0_1.length:Int) x11_1 = some r) ∧ aj (kq ≤ k) ∧ aj (w'.heap[gb12]? = some (.cells #[.int .i64 a0_0,(.slice A0_1 l0_1.length c0_1)] 25 (0,0))) ∧ aj (Below w.heap.size w w'))
 case atStart=>exact ⟨(0),(0),qrs,qrs,H',⟨Nat.le_refl _⟩,⟨bk1 BK12.out⟩,⟨by exact bw⟩⟩
 case round =>
  clear H';(try clear hcz4_0);(try clear hcz4_1);(try clear hfz4_0);(try clear hfz4_1)
  obtain ⟨x5_1,x11_1,rfl,rfl,HA,HK1,BK12,HB⟩:=hrel
  cases gk with
  | zero=>exact absurd HA.out (by simp [cJ.l0])
  | succ k1 =>
   have H:=HA.out;clear HA;simp only [cJ.l0] at H;by_cases c5:x11_1 < (l0_1.length:Int)
   ·rw [if_pos c5] at H;have c5b0:=decide_eq_true c5;clear c5;replace H:=iN H;obtain ⟨c6,H⟩:=H;have c6b0:decide (0 ≤ x11_1) = true:=decide_eq_true c6;clear c6;replace H:=iN H;obtain ⟨c7,H⟩:=H;have c7b0:decide (x11_1 < (l0_1.length:Int)) = true:=decide_eq_true c7;clear c7;have c8b0:=eq_true (of_decide_eq_true ab:0 ≤ x11_1);obtain ⟨ji9,hji9⟩:∃ j_:Int,(shr .i64 a1 x11_1) = j_:=⟨_,rfl⟩;(first|rw [hji9] at H|simp only [hji9] at H)
    have hji9_:(a1 / 2 ^ min x11_1.toNat 64) = ji9:=hji9;have hji9z:x11_1 ≤ 64 → (a1 / 2 ^ x11_1.toNat) = ji9:=ir hji9;by_cases c10:(Int.tmod (ji9) 2) = 1
    ·rw [if_pos c10] at H;have c10b0:((Int.tmod (ji9) 2) == 1) = true:=beq_iff_eq.mpr c10;have c10b1:((Int.tmod (ji9) 2) != 1) = false:=bne_eq_false_iff_eq.mpr c10;clear c10;have H':=aM H;clear H;have p13:0 ≤ (x11_1:Int):=of_decide_eq_true ab;have q13:x11_1 < (l0_1.length:Int):=of_decide_eq_true ab;obtain ⟨ad13,e13,hx13_0⟩:=Kd.dI HR0_1.out x11_1 p13 q13;cases e13
     replace hx13_0:=(HB.out.cell (World.block_lt_of_cell? w _ hx13_0)).trans hx13_0;replace p13:=eq_true p13;replace q13:=eq_true q13;go_wp2
     go_roundg k1
     case measure=>have:=HK1.out;omega
     case rel=>exact ⟨(wrap64 (x5_1 + (rd l0_1 x11_1))),(wrap64 (x11_1 + 1)),qrs,qrs,H',⟨by have:=HK1.out;omega⟩,⟨bk1 BK12.out⟩,⟨by exact bw⟩⟩
    ·rw [if_neg c10] at H;have c10b0:((Int.tmod (ji9) 2) == 1) = false:=beq_eq_false_iff_ne.mpr c10;have c10b1:((Int.tmod (ji9) 2) != 1) = true:=bne_iff_ne.mpr c10;have H':=aM H;clear H;have p13:0 ≤ (x11_1:Int):=of_decide_eq_true ab;have q13:x11_1 < (l0_1.length:Int):=of_decide_eq_true ab;obtain ⟨ad13,e13,hx13_0⟩:=Kd.dI HR0_1.out x11_1 p13 q13;cases e13
     replace hx13_0:=(HB.out.cell (World.block_lt_of_cell? w _ hx13_0)).trans hx13_0;replace p13:=eq_true p13;replace q13:=eq_true q13;go_wp2
     go_roundg k1
     case measure=>have:=HK1.out;omega
     case rel=>exact ⟨(x5_1),(wrap64 (x11_1 + 1)),qrs,qrs,H',⟨by have:=HK1.out;omega⟩,⟨bk1 BK12.out⟩,⟨by exact bw⟩⟩
   ·rw [if_neg c5] at H;have c5b0:=decide_eq_false c5;clear c5;obtain rfl:=Option.some.inj H;go_wp2
    go_ret
    exact ⟨eE,by exact bw⟩


def bW.l0:Nat → List Bool → Int → Int → List Int → Option (List Bool)
 | 0,_,_,_,_=>none
 | k + 1,x3,x4,x5,x6=>(fe.f (x6.length:Int)).bind fun t1=>(if x4 ≤ t1 then ((cJ.f k x5 x6 x4).bind fun t2=>(if x3.length < 140737488355328 then (bW.l0 k (x3 ++ [decide (t2 ≥ x5)]) (wrap64 (x4 + 1)) x5 x6) else (none))) else (some x3))
def bW.f (k:Nat) (a0_0:Int) (l0_1:List Int):Option (List Bool):=bW.l0 k ([]:List Bool) 0 a0_0 l0_1
def bW.T5:Bool × List (List Nat × List Nat):=(true,[([],[]),([],[]),([],[]),([1,2],[1,2]),([],[]),([4],[4]),([3,5],[3,5]),([6],[6]),([0,7,3],[0,7]),([8,8,0,1,2,3,4,5,6,7,8],[0,8])])
def bW.B5:List Nat:=[0,0,0,6,0,16,62,126,255,511]
theorem bW.tab5:il .any (opsOf Tryz.f67 5) = bW.T5:=by kernel_rfl
theorem bW.bits5:eZ bW.T5.2 bW.B5 = true:=by kernel_rfl
theorem bW.calls (k:Nat) (a0_0:Int) (A0_1:Option Addr) (c0_1:Nat) (l0_1:List Int) (r:List Bool) (w:World) (hr0_1:Kd.C (Kd.int .i64) w A0_1 l0_1.length l0_1) (hc0_1:l0_1.length ≤ c0_1) (h:bW.f k a0_0 l0_1 = some r) :
  Calls Tryz.prog 67 #[.agg #[.int .i64 a0_0,.slice A0_1 l0_1.length c0_1]] w fun e w'=>∃ v0_:Value,e = .returned (v0_) ∧ Kd.R Kd.bool 4 w' w.heap.size (fun _=>True) v0_ r ∧ Below w.heap.size w w':=by
 have hu25:=Tryz.underlying25;have HR0_1:=aM hr0_1;have HC0_1:=aM hc0_1;clear hr0_1 hc0_1;have HB:=aM (Below.refl w.heap.size w);have H:(bW.l0 k ([]:List Bool) 0 a0_0 l0_1) = some r:=h;clear h;have H':=aM H;clear H;go_enter Tryz.func67,Tryz.ntmps67;go_wp2_with (first|((with_reducible refine aC (N:=1) rfl ?_);refine bE 1 #[.int .i64 a0_0,.slice A0_1 l0_1.length c0_1] 25 ?_;intro gb12 hg w2 hbox hb;have BK12:=aM (hbox);have GW12:=aM (gS hg);have GE12:=aM (gS hg);replace HB:=aM (ag bw hb);clear hb hbox hg))
 go_loopg [3,4] k (fun kq v3 v4 w'=>∃ (x3_1:List Bool) (x4_1:Int),v4 = .int .i64 x4_1 ∧ aj (bW.l0 kq x3_1 x4_1 a0_0 l0_1 = some r) ∧ aj (kq ≤ k) ∧ aj (Kd.R Kd.bool 4 w' w.heap.size (fun _=>True) v3 x3_1) ∧ aj (w'.heap[gb12]? = some (.cells #[.int .i64 a0_0,(.slice A0_1 l0_1.length c0_1)] 25 (0,0))) ∧ aj (Below w.heap.size w w'))
 case atStart=>exact ⟨(([]:List Bool)),(0),qrs,H',⟨Nat.le_refl _⟩,⟨by first|exact Kd.gx _ _ _ _ _|exact Kd.gQ _ _ _ _ _|exact Kd.gP _ _ _ _ _|exact Kd.gU _ _ _ _ _|exact Kd.gW _ _ _ _ _⟩,⟨bk1 BK12.out⟩,⟨by exact bw⟩⟩
 case round =>
  clear H'
  try clear p2
  obtain ⟨x3_1,x4_1,rfl,HA,HK1,HO_3,BK12,HB⟩:=hrel
  cases gk with
  | zero=>exact absurd HA.out (by simp [bW.l0])
  | succ k1 =>
   have H:=HA.out;clear HA;simp only [bW.l0] at H;replace H:=oB H;obtain ⟨t13,A3,H⟩:=H;(try dsimp only at H)
   by_cases c4:x4_1 ≤ t13
   ·rw [if_pos c4] at H;have c4b0:=decide_eq_true c4;clear c4;replace H:=oB H;obtain ⟨t14,A5,H⟩:=H;(try dsimp only at H)
    replace H:=iN H;obtain ⟨c6,H⟩:=H;have LMc6:=aM c6;clear c6;obtain ⟨y15,hy15⟩:∃ y_:List Bool,y_ = (x3_1 ++ [decide (t14 ≥ a0_0)]):=⟨_,rfl⟩;replace H:(bW.l0 k1 y15 (wrap64 (x4_1 + 1)) a0_0 l0_1) = some r:=yR hy15 H;have Ny15:=aM hy15;clear hy15;have H':=aM H;clear H;have hcz7_0:=cz BK12.out 0;have hcz7_1:=cz BK12.out 1;have hfz7_0:=af BK12.out 0;have hfz7_1:=af BK12.out 1
    try go_wp2_with (first|((with_reducible refine ai (f:=93) rfl ?_);refine gL 9 Tryz.func93 #[.int .i64 (l0_1.length:Int)] ?_;(with_reducible refine (fe.calls (l0_1.length:Int) t13 _ A3.out).mono ?_);rintro e w' ⟨rfl,⟨nd,rfl⟩⟩;refine ⟨_,rfl,?_⟩))
    (try (rw [mG wr];generalize hq_:World.drewN wr _ = wr;have n0_:aj (Kd.R Kd.bool 4 wr w.heap.size (fun _=>True) u3 x3_1):=⟨by rw [← hq_];exact (qra HO_3.out)⟩;have n1_:aj (wr.heap[gb12]? = some (.cells #[.int .i64 a0_0,.slice A0_1 l0_1.length c0_1] 25 (0,0))):=⟨by rw [← hq_];exact (bk1 BK12.out)⟩;have n2_:aj (Below w.heap.size w wr):=⟨by rw [← hq_];exact bw⟩;clear HO_3 BK12 HB hq_;have HO_3:=n0_;have BK12:=n1_;have HB:=n2_;clear n0_ n1_ n2_))
    replace HO_3:=aM (Kd.cu HO_3.out);replace BK12:=aM (an BK12.out);replace HB:=aM (bg HB.out);refine eQ (n:=10) (S:=fun w'=>w'.cell? ⟨gb12,0,none⟩ = some (.int .i64 a0_0) ∧ w'.cell? ⟨gb12,1,none⟩ = some (.slice A0_1 l0_1.length c0_1)) (ds:=[]) (mA 10 0) kR rfl rfl ⟨(aE BK12.out 0).trans rfl,(aE BK12.out 1).trans rfl⟩ (fun hHeld=>?_);refine dx bW.tab5 bW.bits5 (fun HT_ HW_=>?_)
    generalize wr.drew = w8 at HO_3 BK12 HB hHeld ⊢
    refine pT 0 13 HT_.out ?_;refine pT 2 15 HT_.out ?_;refine pT 4 17 HT_.out ?_;refine pK 1 14 HT_.out HW_.out hHeld ?_;refine pK 5 18 HT_.out HW_.out hHeld ?_;refine oN 3 (some 16) HT_.out fun K hK=>?_
    refine gC Tryz.func94 #[.agg #[.int .i64 a0_0,.slice A0_1 l0_1.length c0_1],.int .i64 x4_1] ?_
    with_reducible refine (cJ.calls k1 a0_0 _ _ l0_1 x4_1 t14 _ ?side1 ?side2 A5.out).mono ?_
    (case side1=>exact qcs HR0_1.out HB.out)
    (case side2=>exact HC0_1.out)
    rintro e w9 ⟨rfl,hb⟩
    refine ⟨_,rfl,?_⟩;replace HO_3:=aM (Kd.ba (qra HO_3.out) hb);replace BK12:=aM (bB BK12.out hb);replace HB:=aM (ag bw hb);(try clear hb)
    refine hK.out _ _ ⟨(aE BK12.out 0).trans rfl,(aE BK12.out 1).trans rfl⟩ (fun hHeld=>?_);clear hK K;refine nM 16 ?_;refine pT 6 19 HT_.out ?_;refine oN 7 (some 20) HT_.out fun K hK=>?_
    refine nS (w1:=?_) (v:=?_) (by rfl) rfl ?_ ?_;rotate_left 2
    ·go_simp
     constructor
     ·rfl
     ·rfl
    refine hK.out _ _ ⟨(aE (au BK12.out _) 0).trans rfl,(aE (au BK12.out _) 1).trans rfl⟩ (fun hHeld=>?_);clear hK K;refine nM 20 ?_;refine oN 8 (some 21) HT_.out fun K hK=>?_
    refine Kd.hU Kd.bool (w0:=w) w.heap.size (by rfl) (.tmp 13) (.tmp 20) 52 4 (.bool false) 1 rfl Tryz.underlying52 info4 rfl (by decide) (by omega) u3 x3_1 (decide (t14 ≥ a0_0)) [.bool (decide (t14 ≥ a0_0))] (fun _=>True) (fun _=>False) rfl rfl ?aP (fun _ hk=>hk.elim) ?aF ?aO ?aB ?aS ?aL ?_;(case aP=>exact rfl)
    (case aB=>exact bw)
    (case aF=>exact (fun _ _=>trivial))
    (case aO=>exact (qra HO_3.out))
    (case aS=>exact (av bw))
    (case aL=>have:=LMc6.out;omega)
    intro v16 w10 ho hb hg hat;rw [← Ny15.out] at ho;replace BK12:=aM (bH BK12.out hg (Kd.lY HO_3.out BK12.out (by decide)));replace HB:=aM (hb);have HO17:=aM (ho);clear HO_3;clear ho hb hg hat;refine hK.out _ _ ⟨(aE BK12.out 0).trans rfl,(aE BK12.out 1).trans rfl⟩ (fun hHeld=>?_);clear hK K;refine nM 21 ?_;refine pT 9 3 HT_.out ?_;refine fK (eA HT_.out kR) ?_
    try go_wp2
    go_roundg k1
    case measure=>have:=HK1.out;omega
    case rel=>exact ⟨(y15),(wrap64 (x4_1 + 1)),qrs,H',⟨by have:=HK1.out;omega⟩,⟨qra HO17.out⟩,⟨bk1 BK12.out⟩,⟨by exact bw⟩⟩
   ·rw [if_neg c4] at H;have c4b0:=decide_eq_false c4;clear c4;obtain rfl:=Option.some.inj H;have hcz11_0:=cz BK12.out 0;have hcz11_1:=cz BK12.out 1;have hfz11_0:=af BK12.out 0;have hfz11_1:=af BK12.out 1;go_wp2_with (first|((with_reducible refine ai (f:=93) rfl ?_);refine gL 9 Tryz.func93 #[.int .i64 (l0_1.length:Int)] ?_;(with_reducible refine (fe.calls (l0_1.length:Int) t13 _ A3.out).mono ?_);rintro e w' ⟨rfl,⟨nd,rfl⟩⟩;refine ⟨_,rfl,?_⟩))
    go_ret
    exact ⟨_,eE,by (with_reducible repeat (first|apply Kd.ca|apply Kd.b7|apply Kd.cu));exact HO_3.out,by exact bw⟩


mutual
def aT.l0:Nat → Bool → List Bool → List (aa) → Int → Int → Option (List Bool)
 | 0,_,_,_,_,_=>none
 | k + 1,x1,x5,x15,x16,x17=>if x17 < x16 then (if 0 ≤ x17 then (if x17 < (x15.length:Int) then ((bW.f k ((ae x15 x17).f0) ((ae x15 x17).f1)).bind fun t2=>(aT.l1 k x1 x5 x15 x16 x17 t2 (t2.length:Int) 0)) else (none)) else (none)) else (some x5)
def aT.l1:Nat → Bool → List Bool → List (aa) → Int → Int → List Bool → Int → Int → Option (List Bool)
 | 0,_,_,_,_,_,_,_,_=>none
 | k + 1,x1,x5,x15,x16,x17,x22,x23,x24=>if x24 < x23 then (if 0 ≤ x24 then (if x24 < (x22.length:Int) then (if x1 = true then (if x24 < (x5.length:Int) then (if dE false x5 x24 = true then (aT.l1 k x1 (x5.set (x24:Int).toNat (dE false x22 x24)) x15 x16 x17 x22 x23 (wrap64 (x24 + 1))) else (aT.l1 k x1 (x5.set (x24:Int).toNat false) x15 x16 x17 x22 x23 (wrap64 (x24 + 1)))) else (none)) else (if x24 < (x5.length:Int) then (if dE false x5 x24 = true then (aT.l1 k x1 (x5.set (x24:Int).toNat true) x15 x16 x17 x22 x23 (wrap64 (x24 + 1))) else (aT.l1 k x1 (x5.set (x24:Int).toNat (dE false x22 x24)) x15 x16 x17 x22 x23 (wrap64 (x24 + 1)))) else (none))) else (none)) else (none)) else (aT.l0 k x1 x5 x15 x16 (wrap64 (x17 + 1)))
end
def aT.f (k:Nat) (l0:List (aa)) (a1:Bool):Option (List Bool):=if 0 < (l0.length:Int) then ((bW.f k ((ae l0 0).f0) ((ae l0 0).f1)).bind fun t2=>(if 1 ≤ (l0.length:Int) then ((some (l0.drop 1:List (aa))).bind fun y3=>(aT.l0 k a1 t2 y3 (y3.length:Int) 0)) else (none))) else (none)
theorem aT.calls (k:Nat) (A0:Option Addr) (c0:Nat) (l0:List (aa)) (a1:Bool) (r:List Bool) (w:World) (hr0:Kd.C ak w A0 l0.length l0) (hc0:l0.length ≤ c0) (h:aT.f k l0 a1 = some r) :
  Calls Tryz.prog 32 #[.slice A0 l0.length c0,.bool a1] w fun e w'=>∃ v0_:Value,e = .returned (v0_) ∧ Kd.R Kd.bool 4 w' w.heap.size (fun _=>True) v0_ r ∧ Below w.heap.size w w':=by
 have hu25:=Tryz.underlying25;have HR0:=aM hr0;have HC0:=aM hc0;clear hr0 hc0;have HB:=aM (Below.refl w.heap.size w);have H:(if 0 < (l0.length:Int) then ((bW.f k ((ae l0 0).f0) ((ae l0 0).f1)).bind fun t43=>(if 1 ≤ (l0.length:Int) then ((some (l0.drop 1:List (aa))).bind fun y46=>(aT.l0 k a1 t43 y46 (y46.length:Int) 0)) else (none))) else (none)) = some r:=h;clear h;replace H:=iN H;obtain ⟨c3,H⟩:=H;have c3b0:decide (0 < (l0.length:Int)) = true:=decide_eq_true c3;have c3b1:decide (0 < l0.length) = true:=decide_eq_true (by omega);clear c3;replace H:=oB H;obtain ⟨t43,A4,H⟩:=H;(try dsimp only at H)
 replace H:=iN H;obtain ⟨c5,H⟩:=H;have c5b0:=eq_true c5;have c5b1:decide (1 ≤ (l0.length:Int)) = true:=decide_eq_true c5;clear c5;obtain ⟨y46,hy46⟩:∃ y_:List (aa),y_ = (l0.drop 1):=⟨_,rfl⟩;replace H:(aT.l0 k a1 t43 y46 (y46.length:Int) 0) = some r:=yR hy46 H;have Ny46:=aM hy46;clear hy46;have H':=aM H;clear H;have p42:0 ≤ (0:Int):=(by omega);have q42:0 < (l0.length:Int):=of_decide_eq_true ab;obtain ⟨ad42,A42_1,c210_1,e42,hx42_0,hx42_1,hl42_1,hi42_1⟩:=bD HR0.out 0 p42 q42;cases e42
 have qi210:(0 < l0.length) = True:=eq_true (by omega);(try rw [show ((0:Int)).toNat = 0 from rfl] at hx42_0)
 (try rw [show 0 * 2 = 0 from rfl] at hx42_0)
 (try rw [Addr.add_zero'] at hx42_0)
 (try rw [show ((0:Int)).toNat = 0 from rfl] at hx42_1)
 (try rw [show 0 * 2 = 0 from rfl] at hx42_1)
 (try rw [Addr.add_zero'] at hx42_1)
 have HR42_1:=aM hi42_1;have HC42_1:=aM hl42_1;clear hi42_1 hl42_1;replace p42:=eq_true p42;replace q42:=eq_true q42;go_enter Tryz.func32,Tryz.ntmps32;go_wp2_with (first|((with_reducible refine ai (f:=67) rfl ?_);refine gL 13 Tryz.func67 #[.agg #[.int .i64 ((ae l0 0).f0),.slice A42_1 ((ae l0 0).f1).length c210_1]] ?_;(with_reducible refine (bW.calls k ((ae l0 0).f0) _ _ ((ae l0 0).f1) t43 _ ?side1 ?side2 A4.out).mono ?_);(case side1=>exact qc HR42_1.out);(case side2=>exact HC42_1.out);rintro e w6 ⟨v44,rfl,ho0,hb⟩;refine ⟨_,rfl,?_⟩;have HO45:=aM (Kd.cr ho0 (av bw));replace HB:=aM (ag bw hb);(try clear hb);(try clear ho0);have q7:(1:Int) ≤ ((l0.length:Int):Int):=of_decide_eq_true ab;obtain ⟨i07,hi07,_,hsz7,_⟩:=info_parts fh;have hroom7:l0.length ≤ c0:=HC0.out;have hC7:Kd.C ak _ (some ad42) l0.length l0:=HR0.out;have hcut7:=gG (P:=Tryz.prog) 22 25 .i64 Tryz.underlying22 hi07 2 hsz7 (some ad42) l0.length c0 1 (by omega) q7;have hr7:=Kd.jA (m:=(1:Int).toNat) (c:=c0) hC7 (by omega) hroom7;obtain ⟨A7,hA7⟩:∃ A1,A1 = (if c0 = (1:Int).toNat then (some ad42) else ((some ad42):Option Addr).map (·.add ((1:Int).toNat * 2))):=⟨_,rfl⟩;obtain ⟨c7,hc7⟩:∃ c1,c1 = c0 - (1:Int).toNat:=⟨_,rfl⟩;have hy7:y46.length = l0.length - (1:Int).toNat:=(by rw [Ny46.out,List.length_drop] <;> omega);rw [show (l0).drop (1:Int).toNat = y46 from Ny46.out.symm] at hr7;replace hr7:Kd.C ak _ A7 y46.length y46:=(by rw [hA7];exact hr7);rw [← hy7,← hA7,← hc7] at hcut7;have HR47:=aM hr7;have HC47:=aM (show y46.length ≤ c7 from by rw [hy7,hc7];exact Nat.sub_le_sub_right hroom7 _);clear hr7 hC7 hroom7 hi07 hsz7 hc7;have KY7:=aM hy7;have KA7:=aM hA7;clear hy7 hA7;replace q7:=eq_true q7))
 go_loopg [17] k (fun kq v17 w'=>∃ (x5_1:List Bool) (x17_1:Int),v17 = .int .i64 x17_1 ∧ aj (aT.l0 kq a1 x5_1 y46 (y46.length:Int) x17_1 = some r) ∧ aj (kq ≤ k) ∧ aj (Kd.R Kd.bool 4 w' w.heap.size (fun _=>True) v44 x5_1) ∧ aj (Below w.heap.size w w'))
 case atStart=>exact ⟨(t43),(0),qrs,H',⟨Nat.le_refl _⟩,⟨qra HO45.out⟩,⟨by exact bw⟩⟩
 case round =>
  clear H';(try clear c1);(try clear c3);(try clear c3b0);(try clear c3b1);(try clear c5);(try clear c5b0);(try clear c5b1);(try clear c7);(try clear q7);(try clear hx42_0);(try clear hx42_1);(try clear p42);(try clear q42)
  obtain ⟨x5_1,x17_1,rfl,HA,HK1,HO_5,HB⟩:=hrel
  cases gk with
  | zero=>exact absurd HA.out (by simp [aT.l0])
  | succ k1 =>
   have H:=HA.out;clear HA;simp only [aT.l0] at H;by_cases c8:x17_1 < (y46.length:Int)
   ·rw [if_pos c8] at H;have c8b0:=decide_eq_true c8;clear c8;replace H:=iN H;obtain ⟨c9,H⟩:=H;have c9b0:decide (0 ≤ x17_1) = true:=decide_eq_true c9;clear c9;replace H:=iN H;obtain ⟨c10,H⟩:=H;have c10b0:decide (x17_1 < (y46.length:Int)) = true:=decide_eq_true c10;clear c10;replace H:=oB H;obtain ⟨t50,A11,H⟩:=H;(try dsimp only at H)
    have H':=aM H;clear H;have p48:0 ≤ (x17_1:Int):=of_decide_eq_true ab;have q48:x17_1 < (y46.length:Int):=of_decide_eq_true ab;obtain ⟨ad48,A48_1,c218_1,e48,hx48_0,hx48_1,hl48_1,hi48_1⟩:=bD HR47.out x17_1 p48 q48;cases e48
    replace hx48_0:=(HB.out.cell (World.block_lt_of_cell? w _ hx48_0)).trans hx48_0;replace hx48_1:=(HB.out.cell (World.block_lt_of_cell? w _ hx48_1)).trans hx48_1;have HR48_1:=aM hi48_1;have HC48_1:=aM hl48_1;clear hi48_1 hl48_1;replace p48:=eq_true p48;replace q48:=eq_true q48;go_wp2_with (first|((with_reducible refine aC (N:=7) rfl ?_);refine bE 7 #[.int .i64 0,.slice none 0 0] 25 ?_;intro gb49 hg w12 hbox hb;replace HO_5:=aM (Kd.ba (qra HO_5.out) hb);have BK49:=aM (hbox);have GW49:=aM (gS hg);have GE49:=aM (gS hg);replace HB:=aM (ag bw hb);clear hb hbox hg;have hcz13_0:=cz BK49.out 0;have hcz13_1:=cz BK49.out 1;have hfz13_0:=af BK49.out 0;have hfz13_1:=af BK49.out 1)|((with_reducible refine ai (f:=67) rfl ?_);refine gL 22 Tryz.func67 #[.agg #[.int .i64 ((ae y46 x17_1).f0),.slice A48_1 ((ae y46 x17_1).f1).length c218_1]] ?_;(with_reducible refine (bW.calls k1 ((ae y46 x17_1).f0) _ _ ((ae y46 x17_1).f1) t50 _ ?side1 ?side2 A11.out).mono ?_);(case side1=>exact Kd.cA HR48_1.out bw);(case side2=>exact HC48_1.out);rintro e w14 ⟨v51,rfl,ho0,hb⟩;refine ⟨_,rfl,?_⟩;have HO52:=aM (Kd.cr (Kd.gv ho0 (Kd.gp (tR HO_5.out BK49.out))) (av bw));replace HO_5:=aM (Kd.eN (tR HO_5.out BK49.out) (Kd.da ho0) hb);replace BK49:=aM (bP BK49.out hb);replace HB:=aM (ag bw hb);(try clear hb);(try clear hk);(try clear ho0);obtain ⟨Ao15,co15,eo15⟩:=Kd.b5 HO52.out;subst eo15))
    go_loopg [24] k1 (fun kq v24 w'=>∃ (x5_2:List Bool) (x24_2:Int),v24 = .int .i64 x24_2 ∧ aj (aT.l1 kq a1 x5_2 y46 (y46.length:Int) x17_1 t50 (t50.length:Int) x24_2 = some r) ∧ aj (kq ≤ k1) ∧ aj (Kd.R Kd.bool 4 w' w.heap.size (fun k_=>some k_ ≠ ((.slice Ao15 t50.length co15):Value).ownBlock) v44 x5_2) ∧ aj (Kd.R Kd.bool 4 w' w.heap.size (fun k_=>some k_ ≠ (v44:Value).ownBlock) (.slice Ao15 t50.length co15) t50) ∧ aj (w'.heap[gb49]? = some (.cells #[.int .i64 ((ae y46 x17_1).f0),(.slice A48_1 ((ae y46 x17_1).f1).length c218_1)] 25 (0,0))) ∧ aj (Below w.heap.size w w'))
    case atStart=>exact ⟨(x5_1),(0),qrs,H',⟨Nat.le_refl _⟩,⟨by (with_reducible repeat (first|apply Kd.ca|apply Kd.b7|apply Kd.cu));exact Kd.cG HO_5.out (fun _ hk=>hk.2)⟩,⟨by (with_reducible repeat (first|apply Kd.ca|apply Kd.b7|apply Kd.cu));exact Kd.cG HO52.out (fun _ hk=>hk.2)⟩,⟨bk1 BK49.out⟩,⟨by exact bw⟩⟩
    case round =>
     clear H';(try clear c8);(try clear c8b0);(try clear c9);(try clear c9b0);(try clear c10);(try clear c10b0);(try clear hcz13_0);(try clear hcz13_1);(try clear hfz13_0);(try clear hfz13_1);(try clear hx48_0);(try clear hx48_1);(try clear p48);(try clear q48)
     obtain ⟨x5_2,x24_2,rfl,HA,HK2,HO_5,HO_22,BK49,HB⟩:=hrel
     cases gk with
     | zero=>exact absurd HA.out (by simp [aT.l1])
     | succ k2 =>
      have H:=HA.out;clear HA;simp only [aT.l1] at H;by_cases c16:x24_2 < (t50.length:Int)
      ·rw [if_pos c16] at H;have c16b0:=decide_eq_true c16;clear c16;replace H:=iN H;obtain ⟨c17,H⟩:=H;have c17b0:decide (0 ≤ x24_2) = true:=decide_eq_true c17;clear c17;replace H:=iN H;obtain ⟨c18,H⟩:=H;have c18b0:decide (x24_2 < (t50.length:Int)) = true:=decide_eq_true c18;clear c18;by_cases c19:a1 = true
       ·subst c19;rw [if_pos rfl] at H;replace H:=iN H;obtain ⟨c20,H⟩:=H;have c20b0:decide (x24_2 < (x5_2.length:Int)) = true:=decide_eq_true c20;clear c20;obtain ⟨bq21,hbq21⟩:∃ b_:Bool,b_ = (dE false x5_2 x24_2):=⟨_,rfl⟩;rw [← hbq21] at H;have Nbq21:=aM hbq21;clear hbq21;by_cases c22:bq21 = true
        ·subst c22;rw [if_pos rfl] at H;obtain ⟨y55,hy55⟩:∃ y_:List Bool,y_ = (x5_2.set (x24_2:Int).toNat (dE false t50 x24_2)):=⟨_,rfl⟩;replace H:(aT.l1 k2 true y55 y46 (y46.length:Int) x17_1 t50 (t50.length:Int) (wrap64 (x24_2 + 1))) = some r:=yR hy55 H;have Ny55:=aM hy55;clear hy55;have H':=aM H;clear H;have p53:0 ≤ (x24_2:Int):=of_decide_eq_true ab;have q53:x24_2 < (t50.length:Int):=of_decide_eq_true ab;obtain ⟨ad53,e53,hx53_0⟩:=Kd.b8 (Kd.aI HO_22.out).2.2 x24_2 p53 q53;(try rw [← Nbq21.out] at hx53_0)
         cases e53
         replace p53:=eq_true p53;replace q53:=eq_true q53;obtain ⟨Ao24,co24,eo24⟩:=Kd.b5 HO_5.out;subst eo24;have p54:0 ≤ (x24_2:Int):=of_decide_eq_true ab;have q54:x24_2 < (x5_2.length:Int):=of_decide_eq_true ab;obtain ⟨ad54,e54,hx54_0⟩:=Kd.b8 (Kd.aI HO_5.out).2.2 x24_2 p54 q54;(try rw [← Nbq21.out] at hx54_0)
         cases e54
         replace p54:=eq_true p54;replace q54:=eq_true q54;have p23:0 ≤ (x24_2:Int):=of_decide_eq_true ab;have q23:(x24_2:Int) < ((x5_2.length:Int):Int):=of_decide_eq_true ab;obtain ⟨go23,co23,eo23,gb23,gl23,cl23,HG23⟩:=Kd.jF HO_5.out (by omega);(first|cases eo23|(injection eo23 with ea_ en_ ec_;(first|subst ea_|(injection ea_ with ea_;subst ea_));subst ec_;clear en_))
         have GB23:=aM gb23;have GG23:=aM HG23;clear gb23 gl23 HG23;(first|simp only [add_plain] at hx54_0|skip)
         obtain ⟨hx23_0,hf23_0⟩:=Kd.gK false HO_5.out (x24_2:Int) p23 q23;replace p23:=eq_true p23;replace q23:=eq_true q23;have HP25:=Kd.j3 HO_5.out (x24_2:Int) (dE false t50 x24_2);go_wp2_with (first|((with_reducible refine fG (t:=4) (p:=39) rfl ?_);refine fl (t:=4) (p:=39) (v:=?vo_w26) (w1:=(wr.setCell ⟨go23,(x24_2:Int).toNat,none⟩ (.bool (dE false t50 x24_2)))) ?hg ?ho ?hn ?hr ?_;(case ho=>rfl);(case hg=>rfl);(case hn=>rfl);(case hr=>first|(go_simp;done)|(go_simp;rfl));intro w26 hw;have hg:wr.grownBy w26 (some go23):=(by rw [hw];exact HP25.2);have hp_:Kd.R Kd.bool 4 w26 w.heap.size (fun k_=>some k_ ≠ (.slice (some ad53) t50.length co15:Value).ownBlock) (.slice (some ⟨go23,0,none⟩) x5_2.length co24) y55:=(by rw [hw,Ny55.out];exact HP25.1);clear HP25;replace HO_22:=aM (Kd.eS (v:=(.slice (some ⟨go23,0,none⟩) x5_2.length co24)) (v1:=(.slice (some ⟨go23,0,none⟩) x5_2.length co24)) (ok:=(fun _=>True)) (by (with_reducible repeat (first|apply Kd.ca|apply Kd.b7|apply Kd.cu));exact Kd.cG HO_22.out (fun _ hk=>⟨trivial,hk⟩)) hg (.inl rfl));replace BK49:=aM (bH BK49.out hg (Kd.lY HO_5.out BK49.out (by decide)));replace HO_5:=aM (hp_);replace HB:=aM ((by rw [hw];exact cY (HB.out) GB23.out:Below w.heap.size w w26));clear hg hw hp_))
         go_roundg k2
         case measure=>have:=HK1.out;have:=HK2.out;omega
         case rel=>exact ⟨(y55),(wrap64 (x24_2 + 1)),qrs,H',⟨by have:=HK1.out;have:=HK2.out;omega⟩,⟨qra HO_5.out⟩,⟨by (with_reducible repeat (first|apply Kd.ca|apply Kd.b7|apply Kd.cu));exact Kd.cG HO_22.out (fun _ hk=>hk.2)⟩,⟨bk1 BK49.out⟩,⟨by exact bw⟩⟩
        ·replace c22:=Bool.eq_false_iff.mpr c22;subst c22;rw [if_neg (show ¬ (false = true) by decide)] at H;obtain ⟨y56,hy56⟩:∃ y_:List Bool,y_ = (x5_2.set (x24_2:Int).toNat false):=⟨_,rfl⟩;replace H:(aT.l1 k2 true y56 y46 (y46.length:Int) x17_1 t50 (t50.length:Int) (wrap64 (x24_2 + 1))) = some r:=yR hy56 H;have Ny56:=aM hy56;clear hy56;have H':=aM H;clear H;have p53:0 ≤ (x24_2:Int):=of_decide_eq_true ab;have q53:x24_2 < (t50.length:Int):=of_decide_eq_true ab;obtain ⟨ad53,e53,hx53_0⟩:=Kd.b8 (Kd.aI HO_22.out).2.2 x24_2 p53 q53;(try rw [← Nbq21.out] at hx53_0)
         cases e53
         replace p53:=eq_true p53;replace q53:=eq_true q53;obtain ⟨Ao28,co28,eo28⟩:=Kd.b5 HO_5.out;subst eo28;have p54:0 ≤ (x24_2:Int):=of_decide_eq_true ab;have q54:x24_2 < (x5_2.length:Int):=of_decide_eq_true ab;obtain ⟨ad54,e54,hx54_0⟩:=Kd.b8 (Kd.aI HO_5.out).2.2 x24_2 p54 q54;(try rw [← Nbq21.out] at hx54_0)
         cases e54
         replace p54:=eq_true p54;replace q54:=eq_true q54;have p27:0 ≤ (x24_2:Int):=of_decide_eq_true ab;have q27:(x24_2:Int) < ((x5_2.length:Int):Int):=of_decide_eq_true ab;obtain ⟨go27,co27,eo27,gb27,gl27,cl27,HG27⟩:=Kd.jF HO_5.out (by omega);(first|cases eo27|(injection eo27 with ea_ en_ ec_;(first|subst ea_|(injection ea_ with ea_;subst ea_));subst ec_;clear en_))
         have GB27:=aM gb27;have GG27:=aM HG27;clear gb27 gl27 HG27;(first|simp only [add_plain] at hx54_0|skip)
         obtain ⟨hx27_0,hf27_0⟩:=Kd.gK false HO_5.out (x24_2:Int) p27 q27;replace p27:=eq_true p27;replace q27:=eq_true q27;have HP29:=Kd.j3 HO_5.out (x24_2:Int) false;go_wp2_with (first|((with_reducible refine fG (t:=4) (p:=39) rfl ?_);refine fl (t:=4) (p:=39) (v:=?vo_w30) (w1:=(wr.setCell ⟨go27,(x24_2:Int).toNat,none⟩ (.bool false))) ?hg ?ho ?hn ?hr ?_;(case ho=>rfl);(case hg=>rfl);(case hn=>rfl);(case hr=>first|(go_simp;done)|(go_simp;rfl));intro w30 hw;have hg:wr.grownBy w30 (some go27):=(by rw [hw];exact HP29.2);have hp_:Kd.R Kd.bool 4 w30 w.heap.size (fun k_=>some k_ ≠ (.slice (some ad53) t50.length co15:Value).ownBlock) (.slice (some ⟨go27,0,none⟩) x5_2.length co28) y56:=(by rw [hw,Ny56.out];exact HP29.1);clear HP29;replace HO_22:=aM (Kd.eS (v:=(.slice (some ⟨go27,0,none⟩) x5_2.length co28)) (v1:=(.slice (some ⟨go27,0,none⟩) x5_2.length co28)) (ok:=(fun _=>True)) (by (with_reducible repeat (first|apply Kd.ca|apply Kd.b7|apply Kd.cu));exact Kd.cG HO_22.out (fun _ hk=>⟨trivial,hk⟩)) hg (.inl rfl));replace BK49:=aM (bH BK49.out hg (Kd.lY HO_5.out BK49.out (by decide)));replace HO_5:=aM (hp_);replace HB:=aM ((by rw [hw];exact cY (HB.out) GB27.out:Below w.heap.size w w30));clear hg hw hp_))
         go_roundg k2
         case measure=>have:=HK1.out;have:=HK2.out;omega
         case rel=>exact ⟨(y56),(wrap64 (x24_2 + 1)),qrs,H',⟨by have:=HK1.out;have:=HK2.out;omega⟩,⟨qra HO_5.out⟩,⟨by (with_reducible repeat (first|apply Kd.ca|apply Kd.b7|apply Kd.cu));exact Kd.cG HO_22.out (fun _ hk=>hk.2)⟩,⟨bk1 BK49.out⟩,⟨by exact bw⟩⟩
       ·replace c19:=Bool.eq_false_iff.mpr c19;subst c19;rw [if_neg (show ¬ (false = true) by decide)] at H;replace H:=iN H;obtain ⟨c31,H⟩:=H;have c31b0:decide (x24_2 < (x5_2.length:Int)) = true:=decide_eq_true c31;clear c31;obtain ⟨bq32,hbq32⟩:∃ b_:Bool,b_ = (dE false x5_2 x24_2):=⟨_,rfl⟩;rw [← hbq32] at H;have Nbq32:=aM hbq32;clear hbq32;by_cases c33:bq32 = true
        ·subst c33;rw [if_pos rfl] at H;obtain ⟨y58,hy58⟩:∃ y_:List Bool,y_ = (x5_2.set (x24_2:Int).toNat true):=⟨_,rfl⟩;replace H:(aT.l1 k2 false y58 y46 (y46.length:Int) x17_1 t50 (t50.length:Int) (wrap64 (x24_2 + 1))) = some r:=yR hy58 H;have Ny58:=aM hy58;clear hy58;have H':=aM H;clear H;have p53:0 ≤ (x24_2:Int):=of_decide_eq_true ab;have q53:x24_2 < (t50.length:Int):=of_decide_eq_true ab;obtain ⟨ad53,e53,hx53_0⟩:=Kd.b8 (Kd.aI HO_22.out).2.2 x24_2 p53 q53;(try rw [← Nbq32.out] at hx53_0)
         cases e53
         replace p53:=eq_true p53;replace q53:=eq_true q53;obtain ⟨Ao35,co35,eo35⟩:=Kd.b5 HO_5.out;subst eo35;have p57:0 ≤ (x24_2:Int):=of_decide_eq_true ab;have q57:x24_2 < (x5_2.length:Int):=of_decide_eq_true ab;obtain ⟨ad57,e57,hx57_0⟩:=Kd.b8 (Kd.aI HO_5.out).2.2 x24_2 p57 q57;(try rw [← Nbq32.out] at hx57_0)
         cases e57
         replace p57:=eq_true p57;replace q57:=eq_true q57;have p34:0 ≤ (x24_2:Int):=of_decide_eq_true ab;have q34:(x24_2:Int) < ((x5_2.length:Int):Int):=of_decide_eq_true ab;obtain ⟨go34,co34,eo34,gb34,gl34,cl34,HG34⟩:=Kd.jF HO_5.out (by omega);(first|cases eo34|(injection eo34 with ea_ en_ ec_;(first|subst ea_|(injection ea_ with ea_;subst ea_));subst ec_;clear en_))
         have GB34:=aM gb34;have GG34:=aM HG34;clear gb34 gl34 HG34;(first|simp only [add_plain] at hx57_0|skip)
         obtain ⟨hx34_0,hf34_0⟩:=Kd.gK false HO_5.out (x24_2:Int) p34 q34;replace p34:=eq_true p34;replace q34:=eq_true q34;have HP36:=Kd.j3 HO_5.out (x24_2:Int) true;go_wp2_with (first|((with_reducible refine fG (t:=4) (p:=49) rfl ?_);refine fl (t:=4) (p:=49) (v:=?vo_w37) (w1:=(wr.setCell ⟨go34,(x24_2:Int).toNat,none⟩ (.bool true))) ?hg ?ho ?hn ?hr ?_;(case ho=>rfl);(case hg=>rfl);(case hn=>rfl);(case hr=>first|(go_simp;done)|(go_simp;rfl));intro w37 hw;have hg:wr.grownBy w37 (some go34):=(by rw [hw];exact HP36.2);have hp_:Kd.R Kd.bool 4 w37 w.heap.size (fun k_=>some k_ ≠ (.slice (some ad53) t50.length co15:Value).ownBlock) (.slice (some ⟨go34,0,none⟩) x5_2.length co35) y58:=(by rw [hw,Ny58.out];exact HP36.1);clear HP36;replace HO_22:=aM (Kd.eS (v:=(.slice (some ⟨go34,0,none⟩) x5_2.length co35)) (v1:=(.slice (some ⟨go34,0,none⟩) x5_2.length co35)) (ok:=(fun _=>True)) (by (with_reducible repeat (first|apply Kd.ca|apply Kd.b7|apply Kd.cu));exact Kd.cG HO_22.out (fun _ hk=>⟨trivial,hk⟩)) hg (.inl rfl));replace BK49:=aM (bH BK49.out hg (Kd.lY HO_5.out BK49.out (by decide)));replace HO_5:=aM (hp_);replace HB:=aM ((by rw [hw];exact cY (HB.out) GB34.out:Below w.heap.size w w37));clear hg hw hp_))
         go_roundg k2
         case measure=>have:=HK1.out;have:=HK2.out;omega
         case rel=>exact ⟨(y58),(wrap64 (x24_2 + 1)),qrs,H',⟨by have:=HK1.out;have:=HK2.out;omega⟩,⟨qra HO_5.out⟩,⟨by (with_reducible repeat (first|apply Kd.ca|apply Kd.b7|apply Kd.cu));exact Kd.cG HO_22.out (fun _ hk=>hk.2)⟩,⟨bk1 BK49.out⟩,⟨by exact bw⟩⟩
        ·replace c33:=Bool.eq_false_iff.mpr c33;subst c33;rw [if_neg (show ¬ (false = true) by decide)] at H;obtain ⟨y59,hy59⟩:∃ y_:List Bool,y_ = (x5_2.set (x24_2:Int).toNat (dE false t50 x24_2)):=⟨_,rfl⟩;replace H:(aT.l1 k2 false y59 y46 (y46.length:Int) x17_1 t50 (t50.length:Int) (wrap64 (x24_2 + 1))) = some r:=yR hy59 H;have Ny59:=aM hy59;clear hy59;have H':=aM H;clear H;have p53:0 ≤ (x24_2:Int):=of_decide_eq_true ab;have q53:x24_2 < (t50.length:Int):=of_decide_eq_true ab;obtain ⟨ad53,e53,hx53_0⟩:=Kd.b8 (Kd.aI HO_22.out).2.2 x24_2 p53 q53;(try rw [← Nbq32.out] at hx53_0)
         cases e53
         replace p53:=eq_true p53;replace q53:=eq_true q53;obtain ⟨Ao39,co39,eo39⟩:=Kd.b5 HO_5.out;subst eo39;have p57:0 ≤ (x24_2:Int):=of_decide_eq_true ab;have q57:x24_2 < (x5_2.length:Int):=of_decide_eq_true ab;obtain ⟨ad57,e57,hx57_0⟩:=Kd.b8 (Kd.aI HO_5.out).2.2 x24_2 p57 q57;(try rw [← Nbq32.out] at hx57_0)
         cases e57
         replace p57:=eq_true p57;replace q57:=eq_true q57;have p38:0 ≤ (x24_2:Int):=of_decide_eq_true ab;have q38:(x24_2:Int) < ((x5_2.length:Int):Int):=of_decide_eq_true ab;obtain ⟨go38,co38,eo38,gb38,gl38,cl38,HG38⟩:=Kd.jF HO_5.out (by omega);(first|cases eo38|(injection eo38 with ea_ en_ ec_;(first|subst ea_|(injection ea_ with ea_;subst ea_));subst ec_;clear en_))
         have GB38:=aM gb38;have GG38:=aM HG38;clear gb38 gl38 HG38;(first|simp only [add_plain] at hx57_0|skip)
         obtain ⟨hx38_0,hf38_0⟩:=Kd.gK false HO_5.out (x24_2:Int) p38 q38;replace p38:=eq_true p38;replace q38:=eq_true q38;have HP40:=Kd.j3 HO_5.out (x24_2:Int) (dE false t50 x24_2);go_wp2_with (first|((with_reducible refine fG (t:=4) (p:=49) rfl ?_);refine fl (t:=4) (p:=49) (v:=?vo_w41) (w1:=(wr.setCell ⟨go38,(x24_2:Int).toNat,none⟩ (.bool (dE false t50 x24_2)))) ?hg ?ho ?hn ?hr ?_;(case ho=>rfl);(case hg=>rfl);(case hn=>rfl);(case hr=>first|(go_simp;done)|(go_simp;rfl));intro w41 hw;have hg:wr.grownBy w41 (some go38):=(by rw [hw];exact HP40.2);have hp_:Kd.R Kd.bool 4 w41 w.heap.size (fun k_=>some k_ ≠ (.slice (some ad53) t50.length co15:Value).ownBlock) (.slice (some ⟨go38,0,none⟩) x5_2.length co39) y59:=(by rw [hw,Ny59.out];exact HP40.1);clear HP40;replace HO_22:=aM (Kd.eS (v:=(.slice (some ⟨go38,0,none⟩) x5_2.length co39)) (v1:=(.slice (some ⟨go38,0,none⟩) x5_2.length co39)) (ok:=(fun _=>True)) (by (with_reducible repeat (first|apply Kd.ca|apply Kd.b7|apply Kd.cu));exact Kd.cG HO_22.out (fun _ hk=>⟨trivial,hk⟩)) hg (.inl rfl));replace BK49:=aM (bH BK49.out hg (Kd.lY HO_5.out BK49.out (by decide)));replace HO_5:=aM (hp_);replace HB:=aM ((by rw [hw];exact cY (HB.out) GB38.out:Below w.heap.size w w41));clear hg hw hp_))
         go_roundg k2
         case measure=>have:=HK1.out;have:=HK2.out;omega
         case rel=>exact ⟨(y59),(wrap64 (x24_2 + 1)),qrs,H',⟨by have:=HK1.out;have:=HK2.out;omega⟩,⟨qra HO_5.out⟩,⟨by (with_reducible repeat (first|apply Kd.ca|apply Kd.b7|apply Kd.cu));exact Kd.cG HO_22.out (fun _ hk=>hk.2)⟩,⟨bk1 BK49.out⟩,⟨by exact bw⟩⟩
      ·rw [if_neg c16] at H;have c16b0:=decide_eq_false c16;clear c16;have H':=aM H;clear H;go_wp2
       go_roundg k2
       case measure=>have:=HK1.out;have:=HK2.out;omega
       case rel=>exact ⟨(x5_2),(wrap64 (x17_1 + 1)),qrs,H',⟨by have:=HK1.out;have:=HK2.out;omega⟩,⟨by (with_reducible repeat (first|apply Kd.ca|apply Kd.b7|apply Kd.cu));exact Kd.cG HO_5.out (fun _ hk=>trivial)⟩,⟨by exact bw⟩⟩
   ·rw [if_neg c8] at H;have c8b0:=decide_eq_false c8;clear c8;obtain rfl:=Option.some.inj H;go_wp2
    go_ret
    exact ⟨_,eE,by (with_reducible repeat (first|apply Kd.ca|apply Kd.b7|apply Kd.cu));exact HO_5.out,by exact bw⟩


def cQ.l0:Nat → Int → List Int → Int → Int → Option (Int)
 | 0,_,_,_,_=>none
 | k + 1,x3,x6,x7,x8=>if x8 < x7 then (if 0 ≤ x8 then (if x8 < (x6.length:Int) then (if 0 ≤ (rd x6 x8) then (cQ.l0 k (Go.bits .or .i64 x3 (shl .i64 1 (rd x6 x8))) x6 x7 (wrap64 (x8 + 1))) else (none)) else (none)) else (none)) else (some x3)
def cQ.f (k:Nat) (l0:List Int):Option (Int):=cQ.l0 k 0 l0 (l0.length:Int) 0
theorem cQ.calls (k:Nat) (A0:Option Addr) (c0:Nat) (l0:List Int) (r:Int) (w:World) (hr0:Kd.C (Kd.int .i64) w A0 l0.length l0) (hc0:l0.length ≤ c0) (h:cQ.f k l0 = some r) :
  Calls Tryz.prog 33 #[.slice A0 l0.length c0] w fun e w'=>e = .returned (.int .i64 r) ∧ bi w w':=by
 have HR0:=aM hr0;have HC0:=aM hc0;clear hr0 hc0;have H:(cQ.l0 k 0 l0 (l0.length:Int) 0) = some r:=h;clear h;have H':=aM H;clear H;go_enter Tryz.func33,Tryz.ntmps33;go_wp2
 go_loopg [3,8] k (fun kq v3 v8 w'=>∃ (x3_1:Int) (x8_1:Int),v3 = .int .i64 x3_1 ∧ v8 = .int .i64 x8_1 ∧ aj (cQ.l0 kq x3_1 l0 (l0.length:Int) x8_1 = some r) ∧ aj (kq ≤ k) ∧ bi w w')
 case atStart=>exact ⟨(0),(0),qrs,qrs,H',⟨Nat.le_refl _⟩,by repeat (first|exact bi.refl _|apply bi.step)⟩
 case round =>
  clear H';obtain ⟨x3_1,x8_1,rfl,rfl,HA,HK1,⟨m1,rfl⟩⟩:=hrel
  cases gk with
  | zero=>exact absurd HA.out (by simp [cQ.l0])
  | succ k1 =>
   have H:=HA.out;clear HA;simp only [cQ.l0] at H;by_cases c2:x8_1 < (l0.length:Int)
   ·rw [if_pos c2] at H;have c2b0:=decide_eq_true c2;clear c2;replace H:=iN H;obtain ⟨c3,H⟩:=H;have c3b0:decide (0 ≤ x8_1) = true:=decide_eq_true c3;clear c3;replace H:=iN H;obtain ⟨c4,H⟩:=H;have c4b0:decide (x8_1 < (l0.length:Int)) = true:=decide_eq_true c4;clear c4;replace H:=iN H;obtain ⟨c5,H⟩:=H;have c5b0:=eq_true c5;have c5b1:decide (0 ≤ (rd l0 x8_1)) = true:=decide_eq_true c5;clear c5;obtain ⟨ji6,hji6⟩:∃ j_:Int,(shl .i64 1 (rd l0 x8_1)) = j_:=⟨_,rfl⟩;(first|rw [hji6] at H|simp only [hji6] at H)
    have hji6_:(IntKind.i64.wrap (1 * 2 ^ min (rd l0 x8_1).toNat 64)) = ji6:=hji6;have hji6z:(rd l0 x8_1) ≤ 64 → (IntKind.i64.wrap (1 * 2 ^ (rd l0 x8_1).toNat)) = ji6:=fM hji6;have hji6u:(IntKind.i64.wrap (2 ^ min (rd l0 x8_1).toNat 64)) = ji6:=by have h_:=hji6_;rw [Int.one_mul] at h_;exact h_
    have hji6v:(rd l0 x8_1) ≤ 64 → (IntKind.i64.wrap (2 ^ (rd l0 x8_1).toNat)) = ji6:=fun hle_=>by have h_:=hji6z hle_;rw [Int.one_mul] at h_;exact h_
    have hji6y:(wrap64 (1 * 2 ^ min (rd l0 x8_1).toNat 64)) = ji6:=(cS _).symm.trans hji6_;have hji6x:(rd l0 x8_1) ≤ 64 → (wrap64 (1 * 2 ^ (rd l0 x8_1).toNat)) = ji6:=fun h_=>(cS _).symm.trans (hji6z h_)
    have H':=aM H;clear H;have p7:0 ≤ (x8_1:Int):=of_decide_eq_true ab;have q7:x8_1 < (l0.length:Int):=of_decide_eq_true ab;obtain ⟨ad7,e7,hx7_0⟩:=Kd.dI HR0.out x8_1 p7 q7;cases e7
    replace p7:=eq_true p7;replace q7:=eq_true q7;go_wp2
    go_roundg k1
    case measure=>have:=HK1.out;omega
    case rel=>exact ⟨(Go.bits .or .i64 x3_1 (ji6)),(wrap64 (x8_1 + 1)),(by first|rfl|(simp;done)|(simp only [← hji6] <;> (first|rfl|simp))|(simp [*];done)),qrs,H',⟨by have:=HK1.out;omega⟩,by repeat (first|exact bi.refl _|apply bi.step)⟩
   ·rw [if_neg c2] at H;have c2b0:=decide_eq_false c2;clear c2;obtain rfl:=Option.some.inj H;go_wp2
    go_ret
    exact ⟨qrs,dR⟩


def eL.f (k:Nat) (l0:List (aa)) (l1:List Int):Option (Bool × Bool):=(d5.f k l0 l1).bind fun t2=>(if t2 = true then ((aT.f k l0 true).bind fun t3=>((cQ.f k l1).bind fun t4=>(if 0 ≤ t4 then (if t4 < (t3.length:Int) then (some (dE false t3 t4,true)) else (none)) else (none)))) else (some (false,false)))
theorem eL.calls (k:Nat) (A0:Option Addr) (c0:Nat) (l0:List (aa)) (A1:Option Addr) (c1:Nat) (l1:List Int) (r1:Bool) (r2:Bool) (w:World) (hr0:Kd.C ak w A0 l0.length l0) (hc0:l0.length ≤ c0) (hr1:Kd.C (Kd.int .i64) w A1 l1.length l1) (hc1:l1.length ≤ c1) (h:eL.f k l0 l1 = some (r1,r2)) :
  Calls Tryz.prog 5 #[.slice A0 l0.length c0,.slice A1 l1.length c1] w fun e w'=>e = .returned (.tuple #[.bool r1,.bool r2]) ∧ Below w.heap.size w w':=by
 have HR0:=aM hr0;have HC0:=aM hc0;clear hr0 hc0;have HR1:=aM hr1;have HC1:=aM hc1;clear hr1 hc1;have HB:=aM (Below.refl w.heap.size w);have H:((d5.f k l0 l1).bind fun t13=>(if t13 = true then ((aT.f k l0 true).bind fun t14=>((cQ.f k l1).bind fun t17=>(if 0 ≤ t17 then (if t17 < (t14.length:Int) then (some (dE false t14 t17,true)) else (none)) else (none)))) else (some (false,false)))) = some (r1,r2):=h;clear h;replace H:=oB H;obtain ⟨t13,A3,H⟩:=H;(try dsimp only at H)
 by_cases c4:t13 = true
 ·subst c4;rw [if_pos rfl] at H;replace H:=oB H;obtain ⟨t14,A5,H⟩:=H;(try dsimp only at H)
  replace H:=oB H;obtain ⟨t17,A6,H⟩:=H;(try dsimp only at H)
  replace H:=iN H;obtain ⟨c7,H⟩:=H;have c7b0:decide (0 ≤ t17) = true:=decide_eq_true c7;clear c7;replace H:=iN H;obtain ⟨c8,H⟩:=H;have c8b0:decide (t17 < (t14.length:Int)) = true:=decide_eq_true c8;clear c8;simp only [Option.some.injEq,Prod.mk.injEq] at H;obtain ⟨rfl,rfl⟩:=H;go_enter Tryz.func5,Tryz.ntmps5;go_wp2_with (first|((with_reducible refine ai (f:=31) rfl ?_);refine gL 8 Tryz.func31 #[.slice A0 l0.length c0,.slice A1 l1.length c1] ?_;(with_reducible refine (d5.calls k _ _ l0 _ _ l1 true _ ?side1 ?side2 ?side3 ?side4 A3.out).mono ?_);(case side1=>exact qc HR0.out);(case side2=>exact HC0.out);(case side3=>exact qc HR1.out);(case side4=>exact HC1.out);rintro e w9 ⟨rfl,hb⟩;refine ⟨_,rfl,?_⟩;replace HB:=aM (ag bw hb);(try clear hb))|((with_reducible refine ai (f:=32) rfl ?_);refine gL 11 Tryz.func32 #[.slice A0 l0.length c0,.bool true] ?_;(with_reducible refine (aT.calls k _ _ l0 true t14 _ ?side1 ?side2 A5.out).mono ?_);(case side1=>exact qcs HR0.out HB.out);(case side2=>exact HC0.out);rintro e w10 ⟨v15,rfl,ho0,hb⟩;refine ⟨_,rfl,?_⟩;have HO16:=aM (Kd.cr ho0 (av bw));replace HB:=aM (ag bw hb);(try clear hb);(try clear ho0))|((with_reducible refine ai (f:=33) rfl ?_);refine gL 13 Tryz.func33 #[.slice A1 l1.length c1] ?_;(with_reducible refine (cQ.calls k _ _ l1 t17 _ ?side1 ?side2 A6.out).mono ?_);(case side1=>exact qcs HR1.out HB.out);(case side2=>exact HC1.out);rintro e w' ⟨rfl,⟨nd,rfl⟩⟩;refine ⟨_,rfl,?_⟩;obtain ⟨Ao11,co11,eo11⟩:=Kd.b5 HO16.out;subst eo11;have p18:0 ≤ (t17:Int):=of_decide_eq_true ab;have q18:t17 < (t14.length:Int):=of_decide_eq_true ab;obtain ⟨ad18,e18,hx18_0⟩:=Kd.b8 (Kd.aI HO16.out).2.2 t17 p18 q18;cases e18;replace p18:=eq_true p18;replace q18:=eq_true q18))
  go_ret2
  exact ⟨eE,by exact bw⟩
 ·replace c4:=Bool.eq_false_iff.mpr c4;subst c4;rw [if_neg (show ¬ (false = true) by decide)] at H;simp only [Option.some.injEq,Prod.mk.injEq] at H;obtain ⟨rfl,rfl⟩:=H;go_enter Tryz.func5,Tryz.ntmps5;go_wp2_with (first|((with_reducible refine ai (f:=31) rfl ?_);refine gL 8 Tryz.func31 #[.slice A0 l0.length c0,.slice A1 l1.length c1] ?_;(with_reducible refine (d5.calls k _ _ l0 _ _ l1 false _ ?side1 ?side2 ?side3 ?side4 A3.out).mono ?_);(case side1=>exact qc HR0.out);(case side2=>exact HC0.out);(case side3=>exact qc HR1.out);(case side4=>exact HC1.out);rintro e w12 ⟨rfl,hb⟩;refine ⟨_,rfl,?_⟩;replace HB:=aM (ag bw hb);(try clear hb)))
  go_ret2
  exact ⟨eE,by exact bw⟩


def eB.f (k:Nat) (l0:List (aa)) (l1:List Int):Option (Bool × Bool):=(bq.f k l0 l1 true).bind fun bt2=>(some (bt2.1,bt2.2))
theorem eB.calls (k:Nat) (A0:Option Addr) (c0:Nat) (l0:List (aa)) (A1:Option Addr) (c1:Nat) (l1:List Int) (r1:Bool) (r2:Bool) (w:World) (hr0:Kd.C ak w A0 l0.length l0) (hc0:l0.length ≤ c0) (hr1:Kd.C (Kd.int .i64) w A1 l1.length l1) (hc1:l1.length ≤ c1) (h:eB.f k l0 l1 = some (r1,r2)) :
  Calls Tryz.prog 6 #[.slice A0 l0.length c0,.slice A1 l1.length c1] w fun e w'=>e = .returned (.tuple #[.bool r1,.bool r2]) ∧ Below w.heap.size w w':=by
 have HR0:=aM hr0;have HC0:=aM hc0;clear hr0 hc0;have HR1:=aM hr1;have HC1:=aM hc1;clear hr1 hc1;have HB:=aM (Below.refl w.heap.size w);have H:((bq.f k l0 l1 true).bind fun bt5=>(some (bt5.1,bt5.2))) = some (r1,r2):=h;clear h;replace H:=oB H;obtain ⟨⟨t5,t7⟩,A3,H⟩:=H;(try dsimp only at H)
 simp only [Option.some.injEq,Prod.mk.injEq] at H;obtain ⟨rfl,rfl⟩:=H;go_enter Tryz.func6,Tryz.ntmps6;go_wp2_with (first|((with_reducible refine ai (f:=30) rfl ?_);refine gL 8 Tryz.func30 #[.slice A0 l0.length c0,.slice A1 l1.length c1,.bool true] ?_;(with_reducible refine (bq.calls k _ _ l0 _ _ l1 true t5 t7 _ ?side1 ?side2 ?side3 ?side4 A3.out).mono ?_);(case side1=>exact qc HR0.out);(case side2=>exact HC0.out);(case side3=>exact qc HR1.out);(case side4=>exact HC1.out);rintro e w4 ⟨rfl,hb⟩;refine ⟨_,rfl,?_⟩;replace HB:=aM (ag bw hb);(try clear hb)))
 go_ret2
 exact ⟨eE,by exact bw⟩


def eC.f (k:Nat) (l0:List (aa)) (l1:List Int):Option (Bool × Bool):=(d5.f k l0 l1).bind fun t2=>(if t2 = true then ((aT.f k l0 false).bind fun t3=>((cQ.f k l1).bind fun t4=>(if 0 ≤ t4 then (if t4 < (t3.length:Int) then (some (dE false t3 t4,true)) else (none)) else (none)))) else (some (false,false)))
theorem eC.calls (k:Nat) (A0:Option Addr) (c0:Nat) (l0:List (aa)) (A1:Option Addr) (c1:Nat) (l1:List Int) (r1:Bool) (r2:Bool) (w:World) (hr0:Kd.C ak w A0 l0.length l0) (hc0:l0.length ≤ c0) (hr1:Kd.C (Kd.int .i64) w A1 l1.length l1) (hc1:l1.length ≤ c1) (h:eC.f k l0 l1 = some (r1,r2)) :
  Calls Tryz.prog 7 #[.slice A0 l0.length c0,.slice A1 l1.length c1] w fun e w'=>e = .returned (.tuple #[.bool r1,.bool r2]) ∧ Below w.heap.size w w':=by
 have HR0:=aM hr0;have HC0:=aM hc0;clear hr0 hc0;have HR1:=aM hr1;have HC1:=aM hc1;clear hr1 hc1;have HB:=aM (Below.refl w.heap.size w);have H:((d5.f k l0 l1).bind fun t13=>(if t13 = true then ((aT.f k l0 false).bind fun t14=>((cQ.f k l1).bind fun t17=>(if 0 ≤ t17 then (if t17 < (t14.length:Int) then (some (dE false t14 t17,true)) else (none)) else (none)))) else (some (false,false)))) = some (r1,r2):=h;clear h;replace H:=oB H;obtain ⟨t13,A3,H⟩:=H;(try dsimp only at H)
 by_cases c4:t13 = true
 ·subst c4;rw [if_pos rfl] at H;replace H:=oB H;obtain ⟨t14,A5,H⟩:=H;(try dsimp only at H)
  replace H:=oB H;obtain ⟨t17,A6,H⟩:=H;(try dsimp only at H)
  replace H:=iN H;obtain ⟨c7,H⟩:=H;have c7b0:decide (0 ≤ t17) = true:=decide_eq_true c7;clear c7;replace H:=iN H;obtain ⟨c8,H⟩:=H;have c8b0:decide (t17 < (t14.length:Int)) = true:=decide_eq_true c8;clear c8;simp only [Option.some.injEq,Prod.mk.injEq] at H;obtain ⟨rfl,rfl⟩:=H;go_enter Tryz.func7,Tryz.ntmps7;go_wp2_with (first|((with_reducible refine ai (f:=31) rfl ?_);refine gL 8 Tryz.func31 #[.slice A0 l0.length c0,.slice A1 l1.length c1] ?_;(with_reducible refine (d5.calls k _ _ l0 _ _ l1 true _ ?side1 ?side2 ?side3 ?side4 A3.out).mono ?_);(case side1=>exact qc HR0.out);(case side2=>exact HC0.out);(case side3=>exact qc HR1.out);(case side4=>exact HC1.out);rintro e w9 ⟨rfl,hb⟩;refine ⟨_,rfl,?_⟩;replace HB:=aM (ag bw hb);(try clear hb))|((with_reducible refine ai (f:=32) rfl ?_);refine gL 11 Tryz.func32 #[.slice A0 l0.length c0,.bool false] ?_;(with_reducible refine (aT.calls k _ _ l0 false t14 _ ?side1 ?side2 A5.out).mono ?_);(case side1=>exact qcs HR0.out HB.out);(case side2=>exact HC0.out);rintro e w10 ⟨v15,rfl,ho0,hb⟩;refine ⟨_,rfl,?_⟩;have HO16:=aM (Kd.cr ho0 (av bw));replace HB:=aM (ag bw hb);(try clear hb);(try clear ho0))|((with_reducible refine ai (f:=33) rfl ?_);refine gL 13 Tryz.func33 #[.slice A1 l1.length c1] ?_;(with_reducible refine (cQ.calls k _ _ l1 t17 _ ?side1 ?side2 A6.out).mono ?_);(case side1=>exact qcs HR1.out HB.out);(case side2=>exact HC1.out);rintro e w' ⟨rfl,⟨nd,rfl⟩⟩;refine ⟨_,rfl,?_⟩;obtain ⟨Ao11,co11,eo11⟩:=Kd.b5 HO16.out;subst eo11;have p18:0 ≤ (t17:Int):=of_decide_eq_true ab;have q18:t17 < (t14.length:Int):=of_decide_eq_true ab;obtain ⟨ad18,e18,hx18_0⟩:=Kd.b8 (Kd.aI HO16.out).2.2 t17 p18 q18;cases e18;replace p18:=eq_true p18;replace q18:=eq_true q18))
  go_ret2
  exact ⟨eE,by exact bw⟩
 ·replace c4:=Bool.eq_false_iff.mpr c4;subst c4;rw [if_neg (show ¬ (false = true) by decide)] at H;simp only [Option.some.injEq,Prod.mk.injEq] at H;obtain ⟨rfl,rfl⟩:=H;go_enter Tryz.func7,Tryz.ntmps7;go_wp2_with (first|((with_reducible refine ai (f:=31) rfl ?_);refine gL 8 Tryz.func31 #[.slice A0 l0.length c0,.slice A1 l1.length c1] ?_;(with_reducible refine (d5.calls k _ _ l0 _ _ l1 false _ ?side1 ?side2 ?side3 ?side4 A3.out).mono ?_);(case side1=>exact qc HR0.out);(case side2=>exact HC0.out);(case side3=>exact qc HR1.out);(case side4=>exact HC1.out);rintro e w12 ⟨rfl,hb⟩;refine ⟨_,rfl,?_⟩;replace HB:=aM (ag bw hb);(try clear hb)))
  go_ret2
  exact ⟨eE,by exact bw⟩


def cmp_isNaN_int.f (a0:Int):Option (Bool):=some (a0 != a0)
theorem cmp_isNaN_int.calls (a0:Int) (r:Bool) (w:World) (h:cmp_isNaN_int.f a0 = some r) :
  Calls Tryz.prog 105 #[.int .i64 a0] w fun e w'=>e = .returned (.bool r) ∧ bi w w':=by
 have H:(some (a0 != a0)) = some r:=h;clear h;obtain rfl:=Option.some.inj H;go_enter Tryz.func105,Tryz.ntmps105;go_wp2
 go_ret
 exact ⟨qrs,dR⟩


def cmp_Compare_int.f (a0:Int) (a1:Int):Option (Int):=(cmp_isNaN_int.f a0).bind fun t2=>((cmp_isNaN_int.f a1).bind fun t3=>(if t2 = true then (if t3 = true then (some 0) else (some (-1))) else (if t3 = true then (some 1) else (if a0 < a1 then (some (-1)) else (if a0 > a1 then (some 1) else (some 0))))))
theorem cmp_Compare_int.calls (a0:Int) (a1:Int) (r:Int) (w:World) (h:cmp_Compare_int.f a0 a1 = some r) :
  Calls Tryz.prog 86 #[.int .i64 a0,.int .i64 a1] w fun e w'=>e = .returned (.int .i64 r) ∧ bi w w':=by
 have H:((cmp_isNaN_int.f a0).bind fun t10=>((cmp_isNaN_int.f a1).bind fun t11=>(if t10 = true then (if t11 = true then (some 0) else (some (-1))) else (if t11 = true then (some 1) else (if a0 < a1 then (some (-1)) else (if a0 > a1 then (some 1) else (some 0))))))) = some r:=h;clear h;replace H:=oB H;obtain ⟨t10,A3,H⟩:=H;(try dsimp only at H)
 replace H:=oB H;obtain ⟨t11,A4,H⟩:=H;(try dsimp only at H)
 by_cases c5:t10 = true
 ·subst c5;rw [if_pos rfl] at H;by_cases c6:t11 = true
  ·subst c6;rw [if_pos rfl] at H;obtain rfl:=Option.some.inj H;go_enter Tryz.func86,Tryz.ntmps86;go_wp2_with (first|((with_reducible refine ai (f:=105) rfl ?_);refine gL 8 Tryz.func105 #[.int .i64 a0] ?_;(with_reducible refine (cmp_isNaN_int.calls a0 true _ A3.out).mono ?_);rintro e w' ⟨rfl,⟨nd,rfl⟩⟩;refine ⟨_,rfl,?_⟩)|((with_reducible refine ai (f:=105) rfl ?_);refine gL 10 Tryz.func105 #[.int .i64 a1] ?_;(with_reducible refine (cmp_isNaN_int.calls a1 true _ A4.out).mono ?_);rintro e w' ⟨rfl,⟨nd,rfl⟩⟩;refine ⟨_,rfl,?_⟩))
   go_ret
   exact ⟨qrs,dR⟩
  ·replace c6:=Bool.eq_false_iff.mpr c6;subst c6;rw [if_neg (show ¬ (false = true) by decide)] at H;obtain rfl:=Option.some.inj H;go_enter Tryz.func86,Tryz.ntmps86;go_wp2_with (first|((with_reducible refine ai (f:=105) rfl ?_);refine gL 8 Tryz.func105 #[.int .i64 a0] ?_;(with_reducible refine (cmp_isNaN_int.calls a0 true _ A3.out).mono ?_);rintro e w' ⟨rfl,⟨nd,rfl⟩⟩;refine ⟨_,rfl,?_⟩)|((with_reducible refine ai (f:=105) rfl ?_);refine gL 10 Tryz.func105 #[.int .i64 a1] ?_;(with_reducible refine (cmp_isNaN_int.calls a1 false _ A4.out).mono ?_);rintro e w' ⟨rfl,⟨nd,rfl⟩⟩;refine ⟨_,rfl,?_⟩))
   go_ret
   exact ⟨qrs,dR⟩
 ·replace c5:=Bool.eq_false_iff.mpr c5;subst c5;rw [if_neg (show ¬ (false = true) by decide)] at H;by_cases c7:t11 = true
  ·subst c7;rw [if_pos rfl] at H;obtain rfl:=Option.some.inj H;go_enter Tryz.func86,Tryz.ntmps86;go_wp2_with (first|((with_reducible refine ai (f:=105) rfl ?_);refine gL 8 Tryz.func105 #[.int .i64 a0] ?_;(with_reducible refine (cmp_isNaN_int.calls a0 false _ A3.out).mono ?_);rintro e w' ⟨rfl,⟨nd,rfl⟩⟩;refine ⟨_,rfl,?_⟩)|((with_reducible refine ai (f:=105) rfl ?_);refine gL 10 Tryz.func105 #[.int .i64 a1] ?_;(with_reducible refine (cmp_isNaN_int.calls a1 true _ A4.out).mono ?_);rintro e w' ⟨rfl,⟨nd,rfl⟩⟩;refine ⟨_,rfl,?_⟩))
   go_ret
   exact ⟨qrs,dR⟩
  ·replace c7:=Bool.eq_false_iff.mpr c7;subst c7;rw [if_neg (show ¬ (false = true) by decide)] at H;by_cases c8:a0 < a1
   ·rw [if_pos c8] at H;have c8b0:=decide_eq_true c8;clear c8;obtain rfl:=Option.some.inj H;go_enter Tryz.func86,Tryz.ntmps86;go_wp2_with (first|((with_reducible refine ai (f:=105) rfl ?_);refine gL 8 Tryz.func105 #[.int .i64 a0] ?_;(with_reducible refine (cmp_isNaN_int.calls a0 false _ A3.out).mono ?_);rintro e w' ⟨rfl,⟨nd,rfl⟩⟩;refine ⟨_,rfl,?_⟩)|((with_reducible refine ai (f:=105) rfl ?_);refine gL 10 Tryz.func105 #[.int .i64 a1] ?_;(with_reducible refine (cmp_isNaN_int.calls a1 false _ A4.out).mono ?_);rintro e w' ⟨rfl,⟨nd,rfl⟩⟩;refine ⟨_,rfl,?_⟩))
    go_ret
    exact ⟨qrs,dR⟩
   ·rw [if_neg c8] at H;have c8b0:=decide_eq_false c8;clear c8;by_cases c9:a0 > a1
    ·rw [if_pos c9] at H;have c9b0:decide (a1 < a0) = true:=decide_eq_true c9;clear c9;obtain rfl:=Option.some.inj H;go_enter Tryz.func86,Tryz.ntmps86;go_wp2_with (first|((with_reducible refine ai (f:=105) rfl ?_);refine gL 8 Tryz.func105 #[.int .i64 a0] ?_;(with_reducible refine (cmp_isNaN_int.calls a0 false _ A3.out).mono ?_);rintro e w' ⟨rfl,⟨nd,rfl⟩⟩;refine ⟨_,rfl,?_⟩)|((with_reducible refine ai (f:=105) rfl ?_);refine gL 10 Tryz.func105 #[.int .i64 a1] ?_;(with_reducible refine (cmp_isNaN_int.calls a1 false _ A4.out).mono ?_);rintro e w' ⟨rfl,⟨nd,rfl⟩⟩;refine ⟨_,rfl,?_⟩))
     go_ret
     exact ⟨qrs,dR⟩
    ·rw [if_neg c9] at H;have c9b0:decide (a1 < a0) = false:=decide_eq_false c9;clear c9;obtain rfl:=Option.some.inj H;go_enter Tryz.func86,Tryz.ntmps86;go_wp2_with (first|((with_reducible refine ai (f:=105) rfl ?_);refine gL 8 Tryz.func105 #[.int .i64 a0] ?_;(with_reducible refine (cmp_isNaN_int.calls a0 false _ A3.out).mono ?_);rintro e w' ⟨rfl,⟨nd,rfl⟩⟩;refine ⟨_,rfl,?_⟩)|((with_reducible refine ai (f:=105) rfl ?_);refine gL 10 Tryz.func105 #[.int .i64 a1] ?_;(with_reducible refine (cmp_isNaN_int.calls a1 false _ A4.out).mono ?_);rintro e w' ⟨rfl,⟨nd,rfl⟩⟩;refine ⟨_,rfl,?_⟩))
     go_ret
     exact ⟨qrs,dR⟩

end Go.Proofs.YthipiojpoklpgaaGreat.P
