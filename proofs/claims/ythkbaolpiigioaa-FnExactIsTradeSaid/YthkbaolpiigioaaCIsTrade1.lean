/- Part 1 of the texts below the law FnExactIsTrade. Printed by this session's driver over the kit's printer, but for the hand contracts and the plain laws. -/
import Derived.Below
import Derived.Tactics
import Derived.WalkKit
import Derived.KernelRfl
import Derived.Deep.LoopGhost
import Derived.Shelf.Abstract
import Derived.Lib.SliceRun
import Derived.Test.YthkbaolpiigioaaProg
import Derived.Deep.Draws
import Derived.Deep.AppendLies
import Derived.Maps.AppendAt
import Derived.OwnWalk
import Derived.Laws.BytesArg
import Derived.Laws.MakeOwn
import Derived.Laws.OwnMore
import Derived.Deep.OwnRows
import Derived.Lib.ConvBytes
import Derived.Laws.Slices
import Derived.RowKit3
import Derived.Deep.QuietTactic
import Derived.BigQuiet
import Derived.WideLaws
import Derived.Deep.DeepCutAuto
import Derived.Deep.CutBlock
import Derived.Deep.RegionHeld3
import Derived.Laws.Rows
import Derived.Lib.AppendStr
import Derived.ArgAppend
import Derived.Laws.IdiomCopy
import Derived.OrdersHeld
import Derived.Laws.BitsLemmas
import Derived.RowKit
import Derived.Test.YthkbaolpiigioaaCIsTrade0
set_option linter.unusedVariables false
set_option linter.unusedSimpArgs false
/- Words of this session's own for hand contracts: what is asked of a function value, and small laws. No program in sight. -/
namespace Go.Proofs.Ythkbaolpiigioaa.P
open Go.RowKit Go.Proofs.YthkbaolpiigioaaW.PrintWords Go.Proofs.YthkbaolpiigioaaW.PrintLast Go.Proofs.YthkbaolpiigioaaW.PrintMore

theorem all_any {α : Type} (p : α → Bool) (l : List α) : l.all p = !(l.any fun x => !p x) := by
  induction l with
  | nil => rfl
  | cons x l ih => rw [List.all_cons, List.any_cons, ih]; cases p x <;> simp

theorem box_new (w : World) (v : Value) (t : TypeId) : (w.alloc (.cells #[v] t (0, 0))).heap[w.heap.size]? = some (.cells #[v] t (0, 0)) := blk_new w _
theorem box_old {w : World} {g : Nat} {o : Obj} (h : w.heap[g]? = some o) (o' : Obj) : (w.alloc o').heap[g]? = some o := by
  exact (Below.heap_alloc w o' g (blk_lt h)).trans h
theorem box_later {w W : World} {g : Nat} {o : Obj} (h : w.heap[g]? = some o) (hb : Below w.heap.size w W) : W.heap[g]? = some o := (hb.block g (blk_lt h)).trans h
theorem box_cell {w : World} {g : Nat} {t : TypeId} {v : Value} (h : w.heap[g]? = some (.cells #[v] t (0, 0))) : w.cell? ⟨g, 0, none⟩ = some v := (blk_cell h 0).trans rfl

section
variable {P : Program} {ops : Array Oper} {Q : Exit → Act → World → Prop}
theorem gate_fn {o : Oper} {rest : List Oper} {a : Act} {W : World} {t : Tmp} {ao : Array Operand} {ts : Array TypeId} (_ho : o.op = .call { callee := .value (.tmp t), args := ao, argTypes := ts }) (h : wpList P ops Q (o :: rest) a W) : wpList P ops Q (o :: rest) a W := h
theorem run_fn {oi : Oper} {a : Act} {w : World} {g : FuncId} {lb : Array Value} {t : Tmp} {ao : Array Operand} {ts : Array TypeId} (eg : ∀ (args : Array Value) (w : World), (callFunc g args).run P w = .ok (.enter g args) w) (args : Array Value)
    (hop : oi.op = .call { callee := .value (.tmp t), args := ao, argTypes := ts }) (hfn : a.eval (.tmp t) = .func (.func g) #[] lb) (hargs : ao.map a.eval = args) : (execOp a.eval oi).run P w = .ok (.enter g (args ++ lb)) w := by
  unfold execOp
  simp [hop, resolve, Deferred.ofValue, invoke, hfn, hargs, eg]
theorem goesFL_ {rest : List Oper} {oi : Oper} {a : Act} {w : World} (N : Option Tmp) (hd : oi.dst = N) (hg : oi.guard = none) {g : FuncId} {lb : Array Value} {t : Tmp} {ao : Array Operand} {ts : Array TypeId} (eg : ∀ (args : Array Value) (w : World), (callFunc g args).run P w = .ok (.enter g args) w) (args : Array Value)
    (hop : oi.op = .call { callee := .value (.tmp t), args := ao, argTypes := ts }) (hfn : a.eval (.tmp t) = .func (.func g) #[] lb) (hargs : ao.map a.eval = args)
    (h : Calls P g (args ++ lb) w fun e w' => ∃ v, e = .returned v ∧ wpList P ops Q rest (a.put N v) w') : wpList P ops Q (oi :: rest) a w := by
  refine wpList_plain hg fun K hK => ?_
  have hrun := run_fn (w := w) eg args hop hfn hargs
  unfold Oper.wp
  rw [hrun, Oper.upon_enter]
  refine h.mono fun e w'' hh => ?_
  obtain ⟨v, rfl, hk⟩ := hh
  subst hd
  exact hK _ _ hk
theorem goesFr_ {oi : Oper} {N : Option Tmp} {a : Act} {w : World} {K : Act → World → Prop} {g : FuncId} {lb : Array Value} {t : Tmp} {ao : Array Operand} {ts : Array TypeId} (eg : ∀ (args : Array Value) (w : World), (callFunc g args).run P w = .ok (.enter g args) w) (args : Array Value)
    (hw : Region.wanted oi (yielded ops a.tmps) = true) (hN : oi.dst = N) (hop : oi.op = .call { callee := .value (.tmp t), args := ao, argTypes := ts }) (hfn : a.eval (.tmp t) = .func (.func g) #[] lb) (hargs : ao.map a.eval = args)
    (h : Calls P g (args ++ lb) w fun e w' => ∃ v, e = .returned v ∧ K (a.put N v) w') : if Region.wanted oi (yielded ops a.tmps) = true then Oper.wp P oi a w K Q else K (a.put N undef) w :=
  call_ g (args ++ lb) hw hN (run_fn eg args hop hfn hargs) h
end
theorem S_split {α : Type} {d : Kd α} {e : Nat} {W w1 : World} {v : Value} {xs : List α} (h : Kd.S d e w1 W.heap.size (fun _ => True) v xs) : ∃ n, n = W.heap.size ∧ Kd.S d e w1 W.heap.size (fun k_ => n ≤ k_) v xs := ⟨_, rfl, Kd.S_mono (Kd.S_bound h) (fun _ hk => hk.2.1)⟩
theorem S_elderN {α : Type} {d : Kd α} {e base n : Nat} {ok : Nat → Prop} {W w1 : World} {u : Value} {xs : List α} (h : Kd.S d e W base ok u xs) (hb : Below W.heap.size W w1) (hn : n = W.heap.size) : Kd.S d e w1 base (fun k_ => ok k_ ∧ k_ < n) u xs := by subst hn; exact Kd.S_old h hb
theorem drop_cons {α : Type} (l : List α) (d : α) (i : Nat) (h : i < l.length) : l.drop i = l.getD i d :: l.drop (i + 1) := by
  rw [List.drop_eq_getElem_cons h, List.getD_eq_getElem?_getD, List.getElem?_eq_getElem h]; rfl

/-- Short names of the printed walks' own searches: each is proved by its own default. -/
theorem bw {p : Prop} (h : p := by repeat (first | (with_reducible first | exact Aside0.out (by assumption) | apply below_alloc | apply pw_below_drewN | apply below_drew1 | refine below_set ?_ (Aside0.out (by assumption))) | exact Aside0.out (by assumption))) : p := h
theorem bk {p : Prop} (h : p := by (with_reducible repeat (first | refine blk_drewN ?_ _ | refine blk_drew ?_ | refine blk_alloc ?_ _)); exact Aside0.out (by assumption)) : p := h
theorem mq {p : Prop} (h : p := by (try simp only [List.map_toArray, List.map_cons, List.map_nil]); first | done | rfl | (simp only [List.length_drop, List.length_take]; rfl)) : p := h
theorem ab {p : Prop} (h : p := by first | (with_reducible assumption) | assumption) : p := h
theorem sA {α : Type _} (l : List α) (i : Nat) (a : α) : l.toArray.setIfInBounds i a = (l.set i a).toArray := List.setIfInBounds_toArray ..
theorem sZ {α : Type _} {x : α} {xs : List α} {a : α} : (x :: xs).set 0 a = a :: xs := rfl
theorem sS {α : Type _} {x : α} {xs : List α} {i : Nat} {a : α} : (x :: xs).set (i + 1) a = x :: xs.set i a := rfl
theorem qra {p q : Prop} (h : p) (hh : p → q := by intro h; (with_reducible repeat (first | apply Kd.R_alloc | apply Kd.R_drewN | apply Kd.R_drew)); exact h) : q := hh h
theorem qsa {p q : Prop} (h : p) (hh : p → q := by intro h; (with_reducible repeat (first | apply Kd.S_alloc | apply Kd.S_drewN | apply Kd.S_drew)); exact h) : q := hh h
theorem qcs {p r q : Prop} (h : p) (b : r) (hh : p → r → q := by intro h b; repeat (first | exact (Kd.C_below h b) | (with_reducible refine Kd.C_alloc ?_ _) | (with_reducible refine Kd.C_drewN ?_ _) | (with_reducible refine Kd.C_drew ?_))) : q := hh h b
theorem qrs {p : Prop} (h : p := by first | rfl | (simp; done) | (simp [*]; done)) : p := h
/-- What has come up in a region, by a number's bits. -/
def mbits : Nat → Nat → List Bool
  | 0, _ => []
  | n + 1, k => (k % 2 == 1) :: mbits n (k / 2)
def mA (n k : Nat) : Array Bool := (mbits n k).toArray
theorem aM {p : Prop} (h : p) : Aside0 p := ⟨h⟩
theorem kR {p : Prop} (h : p := by kernel_rfl) : p := h
end Go.Proofs.Ythkbaolpiigioaa.P

namespace Go.Proofs.Ythkbaolpiigioaa.P
open Go.RowKit Go.Proofs.YthkbaolpiigioaaW.PrintWords Go.Proofs.YthkbaolpiigioaaW.PrintLast Go.Proofs.YthkbaolpiigioaaW.PrintMore
attribute [local go_sem] max2_int min2_int max_two min_two max_three min_three max_four min_four   -- for this text's walks alone
set_option linter.unusedVariables false
set_option linter.unusedSimpArgs false



def errW : Option Int → Value
  | none => .nilIface
  | some c => .iface 0 (.int .i64 c)
theorem errW_none : errW none = .nilIface := rfl
theorem errW_some (c : Int) : errW (some c) = .iface 0 (.int .i64 c) := rfl

theorem info3 : (Try.prog.info? 3).map (fun i => (i.zero, i.size, i.bytes)) = some (some (.int .i64 0), 1, 8) := by kernel_rfl
theorem info4 : (Try.prog.info? 4).map (fun i => (i.zero, i.size, i.bytes)) = some (some (.bool false), 1, 1) := by kernel_rfl
theorem info22 : (Try.prog.info? 22).map (fun i => (i.zero, i.size, i.bytes)) = some (some (.slice none 0 0), 1, 24) := by kernel_rfl
theorem info26 : (Try.prog.info? 26).map (fun i => (i.zero, i.size, i.bytes)) = some (some (.agg #[(.int .i64 0), (.slice none 0 0)]), 2, 32) := by kernel_rfl
theorem info91 : (Try.prog.info? 91).map (fun i => (i.zero, i.size, i.bytes)) = some (some (.agg #[(.int .i64 0), (.int .i64 0)]), 2, 16) := by kernel_rfl
theorem info94 : (Try.prog.info? 94).map (fun i => (i.zero, i.size, i.bytes)) = some (some (.agg #[(.int .i64 0), (.slice none 0 0)]), 2, 32) := by kernel_rfl
-- the values' own types
def rd_LI (xs : List (List Int)) (i : Int) : (List Int) := xs.getD i.toNat ([] : List Int)
theorem at_LI {w : World} {A : Option Addr} {n : Nat} {xs : List (List Int)} (h : Kd.C (Kd.slice 3 (Kd.int .i64)) w A n xs) (i : Int) (h0 : 0 ≤ i) (h1 : i < n) : ∃ ad A0 c0, A = some ad ∧ w.cell? (ad.add i.toNat) = some (.slice A0 (rd_LI xs i).length c0) ∧ (rd_LI xs i).length ≤ c0 ∧ (Kd.int .i64).C w A0 (rd_LI xs i).length (rd_LI xs i) := by
  obtain ⟨ad, c, e, _, hK, hc0⟩ := Kd.C_get h ([] : List Int) i h0 h1
  have hc : ∀ j u, c[j]? = some u → w.cell? (ad.add (i.toNat * 1 + j)) = some u := hc0
  obtain ⟨A0, c0, rfl, l0, g0⟩ := hK
  exact ⟨ad, A0, c0, e, by have hq := hc 0 _ rfl; rwa [Nat.mul_one, Nat.add_zero] at hq, l0, g0⟩

/-! #### struct type 24 -/
structure S_laws_Committee where
  f0 : Int
  f1 : (List Int)
def z_laws_Committee : S_laws_Committee := ⟨(0 : Int), ([] : List Int)⟩
def k_laws_Committee : Kd S_laws_Committee := Kd.iso (Kd.pair (Kd.int .i64) (Kd.slice 3 (Kd.int .i64))) (fun x : S_laws_Committee => (x.f0, x.f1))
theorem k_laws_Committee_open {w : World} {x : S_laws_Committee} {cs : List Value} (h : k_laws_Committee.K w x cs) : ∃ A1 c1, cs = [.int .i64 x.f0, .slice A1 x.f1.length c1] ∧ x.f1.length ≤ c1 ∧ (Kd.int .i64).C w A1 x.f1.length x.f1 := by
  obtain ⟨_, _, rfl, rfl, ⟨A1, c1, rfl, l1, g1⟩⟩ := h
  exact ⟨A1, c1, rfl, l1, g1⟩
theorem k_laws_Committee_openM {w : World} {base : Nat} {ok : Nat → Prop} {x : S_laws_Committee} {cs : List Value} (h : k_laws_Committee.M w base ok x cs) : ∃ v1, cs = [.int .i64 x.f0, v1] ∧ (Kd.int .i64).R 3 w base ok v1 x.f1 := by
  obtain ⟨_, _, rfl, rfl, ⟨v1, rfl, g1⟩⟩ := h
  exact ⟨v1, rfl, g1⟩
theorem k_laws_Committee_mk (w : World) (x : S_laws_Committee) {A1 : Option Addr} {c1 : Nat} (l1 : x.f1.length ≤ c1) (g1 : (Kd.int .i64).C w A1 x.f1.length x.f1) : k_laws_Committee.K w x [.int .i64 x.f0, .slice A1 x.f1.length c1] := ⟨[.int .i64 x.f0], [.slice A1 x.f1.length c1], rfl, rfl, ⟨A1, c1, rfl, l1, g1⟩⟩
theorem k_laws_Committee_mkM (w : World) (base : Nat) (ok : Nat → Prop) (x : S_laws_Committee) {v1 : Value} (g1 : (Kd.int .i64).R 3 w base ok v1 x.f1) : k_laws_Committee.M w base ok x [.int .i64 x.f0, v1] := ⟨[.int .i64 x.f0], [v1], rfl, rfl, ⟨v1, rfl, g1⟩⟩
theorem k_laws_Committee_openF {W : World} {ok : Nat → Prop} {x : S_laws_Committee} {cs : List Value} (h : Kd.FK k_laws_Committee W ok x cs) : ∃ A1 c1, cs = [.int .i64 x.f0, .slice A1 x.f1.length c1] ∧ x.f1.length ≤ c1 ∧ Kd.F (Kd.int .i64) W ok A1 x.f1.length x.f1 := by
  obtain ⟨A1, c1, rfl, l1, _⟩ := k_laws_Committee_open (Kd.FK_now h)
  exact ⟨A1, c1, rfl, l1, (fun W' hW => by obtain ⟨A1_, c1_, he, l1_, g1_⟩ := k_laws_Committee_open (h W' hW); injection (Option.some.inj (show some (Value.slice A1 x.f1.length c1) = some (Value.slice A1_ x.f1.length c1_) from congrArg (fun l => l[1]?) he)) with ha_ _ _; rw [ha_]; exact g1_)⟩
theorem k_laws_Committee_mkF (W : World) (ok : Nat → Prop) (x : S_laws_Committee) {A1 : Option Addr} {c1 : Nat} (l1 : x.f1.length ≤ c1) (g1 : Kd.F (Kd.int .i64) W ok A1 x.f1.length x.f1) : Kd.FK k_laws_Committee W ok x [.int .i64 x.f0, .slice A1 x.f1.length c1] := fun W2 hW => k_laws_Committee_mk W2 x l1 (g1 W2 hW)
def rd_laws_Committee (xs : List S_laws_Committee) (i : Int) : S_laws_Committee := xs.getD i.toNat z_laws_Committee
theorem at_laws_Committee {w : World} {A : Option Addr} {n : Nat} {xs : List S_laws_Committee} (h : Kd.C k_laws_Committee w A n xs) (i : Int) (h0 : 0 ≤ i) (h1 : i < n) : ∃ ad A1 c1, A = some ad ∧ w.cell? (ad.add (i.toNat * 2)) = some (.int .i64 (rd_laws_Committee xs i).f0) ∧ w.cell? ⟨(ad.add (i.toNat * 2)).block, (ad.add (i.toNat * 2)).off + 1, none⟩ = some (.slice A1 (rd_laws_Committee xs i).f1.length c1) ∧ (rd_laws_Committee xs i).f1.length ≤ c1 ∧ (Kd.int .i64).C w A1 (rd_laws_Committee xs i).f1.length (rd_laws_Committee xs i).f1 := by
  obtain ⟨ad, c, e, _, hK, hc0⟩ := Kd.C_get h z_laws_Committee i h0 h1
  have hc : ∀ j u, c[j]? = some u → w.cell? (ad.add (i.toNat * 2 + j)) = some u := hc0
  obtain ⟨A1, c1, rfl, l1, g1⟩ := k_laws_Committee_open hK
  exact ⟨ad, A1, c1, e, hc 0 _ rfl, by rw [← add_field _ _ 1 (by omega)]; exact hc 1 _ rfl, l1, g1⟩

/-! #### struct type 26 -/
structure S_impl_Committee where
  f0 : Int
  f1 : (List Int)
def z_impl_Committee : S_impl_Committee := ⟨(0 : Int), ([] : List Int)⟩
def k_impl_Committee : Kd S_impl_Committee := Kd.iso (Kd.pair (Kd.int .i64) (Kd.slice 3 (Kd.int .i64))) (fun x : S_impl_Committee => (x.f0, x.f1))
theorem k_impl_Committee_open {w : World} {x : S_impl_Committee} {cs : List Value} (h : k_impl_Committee.K w x cs) : ∃ A1 c1, cs = [.int .i64 x.f0, .slice A1 x.f1.length c1] ∧ x.f1.length ≤ c1 ∧ (Kd.int .i64).C w A1 x.f1.length x.f1 := by
  obtain ⟨_, _, rfl, rfl, ⟨A1, c1, rfl, l1, g1⟩⟩ := h
  exact ⟨A1, c1, rfl, l1, g1⟩
theorem k_impl_Committee_openM {w : World} {base : Nat} {ok : Nat → Prop} {x : S_impl_Committee} {cs : List Value} (h : k_impl_Committee.M w base ok x cs) : ∃ v1, cs = [.int .i64 x.f0, v1] ∧ (Kd.int .i64).R 3 w base ok v1 x.f1 := by
  obtain ⟨_, _, rfl, rfl, ⟨v1, rfl, g1⟩⟩ := h
  exact ⟨v1, rfl, g1⟩
theorem k_impl_Committee_mk (w : World) (x : S_impl_Committee) {A1 : Option Addr} {c1 : Nat} (l1 : x.f1.length ≤ c1) (g1 : (Kd.int .i64).C w A1 x.f1.length x.f1) : k_impl_Committee.K w x [.int .i64 x.f0, .slice A1 x.f1.length c1] := ⟨[.int .i64 x.f0], [.slice A1 x.f1.length c1], rfl, rfl, ⟨A1, c1, rfl, l1, g1⟩⟩
theorem k_impl_Committee_mkM (w : World) (base : Nat) (ok : Nat → Prop) (x : S_impl_Committee) {v1 : Value} (g1 : (Kd.int .i64).R 3 w base ok v1 x.f1) : k_impl_Committee.M w base ok x [.int .i64 x.f0, v1] := ⟨[.int .i64 x.f0], [v1], rfl, rfl, ⟨v1, rfl, g1⟩⟩
theorem k_impl_Committee_openF {W : World} {ok : Nat → Prop} {x : S_impl_Committee} {cs : List Value} (h : Kd.FK k_impl_Committee W ok x cs) : ∃ A1 c1, cs = [.int .i64 x.f0, .slice A1 x.f1.length c1] ∧ x.f1.length ≤ c1 ∧ Kd.F (Kd.int .i64) W ok A1 x.f1.length x.f1 := by
  obtain ⟨A1, c1, rfl, l1, _⟩ := k_impl_Committee_open (Kd.FK_now h)
  exact ⟨A1, c1, rfl, l1, (fun W' hW => by obtain ⟨A1_, c1_, he, l1_, g1_⟩ := k_impl_Committee_open (h W' hW); injection (Option.some.inj (show some (Value.slice A1 x.f1.length c1) = some (Value.slice A1_ x.f1.length c1_) from congrArg (fun l => l[1]?) he)) with ha_ _ _; rw [ha_]; exact g1_)⟩
theorem k_impl_Committee_mkF (W : World) (ok : Nat → Prop) (x : S_impl_Committee) {A1 : Option Addr} {c1 : Nat} (l1 : x.f1.length ≤ c1) (g1 : Kd.F (Kd.int .i64) W ok A1 x.f1.length x.f1) : Kd.FK k_impl_Committee W ok x [.int .i64 x.f0, .slice A1 x.f1.length c1] := fun W2 hW => k_impl_Committee_mk W2 x l1 (g1 W2 hW)
def rd_impl_Committee (xs : List S_impl_Committee) (i : Int) : S_impl_Committee := xs.getD i.toNat z_impl_Committee
theorem at_impl_Committee {w : World} {A : Option Addr} {n : Nat} {xs : List S_impl_Committee} (h : Kd.C k_impl_Committee w A n xs) (i : Int) (h0 : 0 ≤ i) (h1 : i < n) : ∃ ad A1 c1, A = some ad ∧ w.cell? (ad.add (i.toNat * 2)) = some (.int .i64 (rd_impl_Committee xs i).f0) ∧ w.cell? ⟨(ad.add (i.toNat * 2)).block, (ad.add (i.toNat * 2)).off + 1, none⟩ = some (.slice A1 (rd_impl_Committee xs i).f1.length c1) ∧ (rd_impl_Committee xs i).f1.length ≤ c1 ∧ (Kd.int .i64).C w A1 (rd_impl_Committee xs i).f1.length (rd_impl_Committee xs i).f1 := by
  obtain ⟨ad, c, e, _, hK, hc0⟩ := Kd.C_get h z_impl_Committee i h0 h1
  have hc : ∀ j u, c[j]? = some u → w.cell? (ad.add (i.toNat * 2 + j)) = some u := hc0
  obtain ⟨A1, c1, rfl, l1, g1⟩ := k_impl_Committee_open hK
  exact ⟨ad, A1, c1, e, hc 0 _ rfl, by rw [← add_field _ _ 1 (by omega)]; exact hc 1 _ rfl, l1, g1⟩

/-! #### struct type 91 -/
structure S_impl_Share where
  f0 : Int
  f1 : Int
def z_impl_Share : S_impl_Share := ⟨(0 : Int), (0 : Int)⟩
def k_impl_Share : Kd S_impl_Share := Kd.iso (Kd.pair (Kd.int .i64) (Kd.int .i64)) (fun x : S_impl_Share => (x.f0, x.f1))
theorem k_impl_Share_open {w : World} {x : S_impl_Share} {cs : List Value} (h : k_impl_Share.K w x cs) : cs = [.int .i64 x.f0, .int .i64 x.f1] := by
  obtain ⟨_, _, rfl, rfl, rfl⟩ := h
  exact rfl
theorem k_impl_Share_openM {w : World} {base : Nat} {ok : Nat → Prop} {x : S_impl_Share} {cs : List Value} (h : k_impl_Share.M w base ok x cs) : cs = [.int .i64 x.f0, .int .i64 x.f1] := by
  obtain ⟨_, _, rfl, rfl, rfl⟩ := h
  exact rfl
theorem k_impl_Share_mk (w : World) (x : S_impl_Share)  : k_impl_Share.K w x [.int .i64 x.f0, .int .i64 x.f1] := ⟨[.int .i64 x.f0], [.int .i64 x.f1], rfl, rfl, rfl⟩
theorem k_impl_Share_mkM (w : World) (base : Nat) (ok : Nat → Prop) (x : S_impl_Share)  : k_impl_Share.M w base ok x [.int .i64 x.f0, .int .i64 x.f1] := ⟨[.int .i64 x.f0], [.int .i64 x.f1], rfl, rfl, rfl⟩
theorem k_impl_Share_mkF (W : World) (ok : Nat → Prop) (x : S_impl_Share) : Kd.FK k_impl_Share W ok x [.int .i64 x.f0, .int .i64 x.f1] := fun W2 _ => k_impl_Share_mk W2 x
def rd_impl_Share (xs : List S_impl_Share) (i : Int) : S_impl_Share := xs.getD i.toNat z_impl_Share
theorem at_impl_Share {w : World} {A : Option Addr} {n : Nat} {xs : List S_impl_Share} (h : Kd.C k_impl_Share w A n xs) (i : Int) (h0 : 0 ≤ i) (h1 : i < n) : ∃ ad , A = some ad ∧ w.cell? (ad.add (i.toNat * 2)) = some (.int .i64 (rd_impl_Share xs i).f0) ∧ w.cell? ⟨(ad.add (i.toNat * 2)).block, (ad.add (i.toNat * 2)).off + 1, none⟩ = some (.int .i64 (rd_impl_Share xs i).f1) := by
  obtain ⟨ad, c, e, _, hK, hc0⟩ := Kd.C_get h z_impl_Share i h0 h1
  have hc : ∀ j u, c[j]? = some u → w.cell? (ad.add (i.toNat * 2 + j)) = some u := hc0
  obtain rfl := k_impl_Share_open hK
  exact ⟨ad, e, hc 0 _ rfl, by rw [← add_field _ _ 1 (by omega)]; exact hc 1 _ rfl⟩

def rd_Limpl_Committee (xs : List (List S_impl_Committee)) (i : Int) : (List S_impl_Committee) := xs.getD i.toNat ([] : List S_impl_Committee)
theorem at_Limpl_Committee {w : World} {A : Option Addr} {n : Nat} {xs : List (List S_impl_Committee)} (h : Kd.C (Kd.slice 26 k_impl_Committee) w A n xs) (i : Int) (h0 : 0 ≤ i) (h1 : i < n) : ∃ ad A0 c0, A = some ad ∧ w.cell? (ad.add i.toNat) = some (.slice A0 (rd_Limpl_Committee xs i).length c0) ∧ (rd_Limpl_Committee xs i).length ≤ c0 ∧ k_impl_Committee.C w A0 (rd_Limpl_Committee xs i).length (rd_Limpl_Committee xs i) := by
  obtain ⟨ad, c, e, _, hK, hc0⟩ := Kd.C_get h ([] : List S_impl_Committee) i h0 h1
  have hc : ∀ j u, c[j]? = some u → w.cell? (ad.add (i.toNat * 1 + j)) = some u := hc0
  obtain ⟨A0, c0, rfl, l0, g0⟩ := hK
  exact ⟨ad, A0, c0, e, by have hq := hc 0 _ rfl; rwa [Nat.mul_one, Nat.add_zero] at hq, l0, g0⟩

def rd_Llaws_Committee (xs : List (List S_laws_Committee)) (i : Int) : (List S_laws_Committee) := xs.getD i.toNat ([] : List S_laws_Committee)
theorem at_Llaws_Committee {w : World} {A : Option Addr} {n : Nat} {xs : List (List S_laws_Committee)} (h : Kd.C (Kd.slice 24 k_laws_Committee) w A n xs) (i : Int) (h0 : 0 ≤ i) (h1 : i < n) : ∃ ad A0 c0, A = some ad ∧ w.cell? (ad.add i.toNat) = some (.slice A0 (rd_Llaws_Committee xs i).length c0) ∧ (rd_Llaws_Committee xs i).length ≤ c0 ∧ k_laws_Committee.C w A0 (rd_Llaws_Committee xs i).length (rd_Llaws_Committee xs i) := by
  obtain ⟨ad, c, e, _, hK, hc0⟩ := Kd.C_get h ([] : List S_laws_Committee) i h0 h1
  have hc : ∀ j u, c[j]? = some u → w.cell? (ad.add (i.toNat * 1 + j)) = some u := hc0
  obtain ⟨A0, c0, rfl, l0, g0⟩ := hK
  exact ⟨ad, A0, c0, e, by have hq := hc 0 _ rfl; rwa [Nat.mul_one, Nat.add_zero] at hq, l0, g0⟩

def rd_LB (xs : List (List Bool)) (i : Int) : (List Bool) := xs.getD i.toNat ([] : List Bool)
theorem at_LB {w : World} {A : Option Addr} {n : Nat} {xs : List (List Bool)} (h : Kd.C (Kd.slice 4 Kd.bool) w A n xs) (i : Int) (h0 : 0 ≤ i) (h1 : i < n) : ∃ ad A0 c0, A = some ad ∧ w.cell? (ad.add i.toNat) = some (.slice A0 (rd_LB xs i).length c0) ∧ (rd_LB xs i).length ≤ c0 ∧ Kd.bool.C w A0 (rd_LB xs i).length (rd_LB xs i) := by
  obtain ⟨ad, c, e, _, hK, hc0⟩ := Kd.C_get h ([] : List Bool) i h0 h1
  have hc : ∀ j u, c[j]? = some u → w.cell? (ad.add (i.toNat * 1 + j)) = some u := hc0
  obtain ⟨A0, c0, rfl, l0, g0⟩ := hK
  exact ⟨ad, A0, c0, e, by have hq := hc 0 _ rfl; rwa [Nat.mul_one, Nat.add_zero] at hq, l0, g0⟩

/-! #### struct type 94 -/
structure S_impl_votes where
  f0 : Int
  f1 : (List Bool)
def z_impl_votes : S_impl_votes := ⟨(0 : Int), ([] : List Bool)⟩
def k_impl_votes : Kd S_impl_votes := Kd.iso (Kd.pair (Kd.int .i64) (Kd.slice 4 Kd.bool)) (fun x : S_impl_votes => (x.f0, x.f1))
theorem k_impl_votes_open {w : World} {x : S_impl_votes} {cs : List Value} (h : k_impl_votes.K w x cs) : ∃ A1 c1, cs = [.int .i64 x.f0, .slice A1 x.f1.length c1] ∧ x.f1.length ≤ c1 ∧ Kd.bool.C w A1 x.f1.length x.f1 := by
  obtain ⟨_, _, rfl, rfl, ⟨A1, c1, rfl, l1, g1⟩⟩ := h
  exact ⟨A1, c1, rfl, l1, g1⟩
theorem k_impl_votes_openM {w : World} {base : Nat} {ok : Nat → Prop} {x : S_impl_votes} {cs : List Value} (h : k_impl_votes.M w base ok x cs) : ∃ v1, cs = [.int .i64 x.f0, v1] ∧ Kd.bool.R 4 w base ok v1 x.f1 := by
  obtain ⟨_, _, rfl, rfl, ⟨v1, rfl, g1⟩⟩ := h
  exact ⟨v1, rfl, g1⟩
theorem k_impl_votes_mk (w : World) (x : S_impl_votes) {A1 : Option Addr} {c1 : Nat} (l1 : x.f1.length ≤ c1) (g1 : Kd.bool.C w A1 x.f1.length x.f1) : k_impl_votes.K w x [.int .i64 x.f0, .slice A1 x.f1.length c1] := ⟨[.int .i64 x.f0], [.slice A1 x.f1.length c1], rfl, rfl, ⟨A1, c1, rfl, l1, g1⟩⟩
theorem k_impl_votes_mkM (w : World) (base : Nat) (ok : Nat → Prop) (x : S_impl_votes) {v1 : Value} (g1 : Kd.bool.R 4 w base ok v1 x.f1) : k_impl_votes.M w base ok x [.int .i64 x.f0, v1] := ⟨[.int .i64 x.f0], [v1], rfl, rfl, ⟨v1, rfl, g1⟩⟩
theorem k_impl_votes_openF {W : World} {ok : Nat → Prop} {x : S_impl_votes} {cs : List Value} (h : Kd.FK k_impl_votes W ok x cs) : ∃ A1 c1, cs = [.int .i64 x.f0, .slice A1 x.f1.length c1] ∧ x.f1.length ≤ c1 ∧ Kd.F Kd.bool W ok A1 x.f1.length x.f1 := by
  obtain ⟨A1, c1, rfl, l1, _⟩ := k_impl_votes_open (Kd.FK_now h)
  exact ⟨A1, c1, rfl, l1, (fun W' hW => by obtain ⟨A1_, c1_, he, l1_, g1_⟩ := k_impl_votes_open (h W' hW); injection (Option.some.inj (show some (Value.slice A1 x.f1.length c1) = some (Value.slice A1_ x.f1.length c1_) from congrArg (fun l => l[1]?) he)) with ha_ _ _; rw [ha_]; exact g1_)⟩
theorem k_impl_votes_mkF (W : World) (ok : Nat → Prop) (x : S_impl_votes) {A1 : Option Addr} {c1 : Nat} (l1 : x.f1.length ≤ c1) (g1 : Kd.F Kd.bool W ok A1 x.f1.length x.f1) : Kd.FK k_impl_votes W ok x [.int .i64 x.f0, .slice A1 x.f1.length c1] := fun W2 hW => k_impl_votes_mk W2 x l1 (g1 W2 hW)
def rd_impl_votes (xs : List S_impl_votes) (i : Int) : S_impl_votes := xs.getD i.toNat z_impl_votes
theorem at_impl_votes {w : World} {A : Option Addr} {n : Nat} {xs : List S_impl_votes} (h : Kd.C k_impl_votes w A n xs) (i : Int) (h0 : 0 ≤ i) (h1 : i < n) : ∃ ad A1 c1, A = some ad ∧ w.cell? (ad.add (i.toNat * 2)) = some (.int .i64 (rd_impl_votes xs i).f0) ∧ w.cell? ⟨(ad.add (i.toNat * 2)).block, (ad.add (i.toNat * 2)).off + 1, none⟩ = some (.slice A1 (rd_impl_votes xs i).f1.length c1) ∧ (rd_impl_votes xs i).f1.length ≤ c1 ∧ Kd.bool.C w A1 (rd_impl_votes xs i).f1.length (rd_impl_votes xs i).f1 := by
  obtain ⟨ad, c, e, _, hK, hc0⟩ := Kd.C_get h z_impl_votes i h0 h1
  have hc : ∀ j u, c[j]? = some u → w.cell? (ad.add (i.toNat * 2 + j)) = some u := hc0
  obtain ⟨A1, c1, rfl, l1, g1⟩ := k_impl_votes_open hK
  exact ⟨ad, A1, c1, e, hc 0 _ rfl, by rw [← add_field _ _ 1 (by omega)]; exact hc 1 _ rfl, l1, g1⟩

def rd_LLI (xs : List (List (List Int))) (i : Int) : (List (List Int)) := xs.getD i.toNat ([] : List (List Int))
theorem at_LLI {w : World} {A : Option Addr} {n : Nat} {xs : List (List (List Int))} (h : Kd.C (Kd.slice 22 (Kd.slice 3 (Kd.int .i64))) w A n xs) (i : Int) (h0 : 0 ≤ i) (h1 : i < n) : ∃ ad A0 c0, A = some ad ∧ w.cell? (ad.add i.toNat) = some (.slice A0 (rd_LLI xs i).length c0) ∧ (rd_LLI xs i).length ≤ c0 ∧ (Kd.slice 3 (Kd.int .i64)).C w A0 (rd_LLI xs i).length (rd_LLI xs i) := by
  obtain ⟨ad, c, e, _, hK, hc0⟩ := Kd.C_get h ([] : List (List Int)) i h0 h1
  have hc : ∀ j u, c[j]? = some u → w.cell? (ad.add (i.toNat * 1 + j)) = some u := hc0
  obtain ⟨A0, c0, rfl, l0, g0⟩ := hK
  exact ⟨ad, A0, c0, e, by have hq := hc 0 _ rfl; rwa [Nat.mul_one, Nat.add_zero] at hq, l0, g0⟩

/-! #### struct type 53 -/
structure S_laws_Game where
  f0 : Int
  f1 : (List (List Int))
def z_laws_Game : S_laws_Game := ⟨(0 : Int), ([] : List (List Int))⟩
def k_laws_Game : Kd S_laws_Game := Kd.iso (Kd.pair (Kd.int .i64) (Kd.slice 22 (Kd.slice 3 (Kd.int .i64)))) (fun x : S_laws_Game => (x.f0, x.f1))
theorem k_laws_Game_open {w : World} {x : S_laws_Game} {cs : List Value} (h : k_laws_Game.K w x cs) : ∃ A1 c1, cs = [.int .i64 x.f0, .slice A1 x.f1.length c1] ∧ x.f1.length ≤ c1 ∧ (Kd.slice 3 (Kd.int .i64)).C w A1 x.f1.length x.f1 := by
  obtain ⟨_, _, rfl, rfl, ⟨A1, c1, rfl, l1, g1⟩⟩ := h
  exact ⟨A1, c1, rfl, l1, g1⟩
theorem k_laws_Game_openM {w : World} {base : Nat} {ok : Nat → Prop} {x : S_laws_Game} {cs : List Value} (h : k_laws_Game.M w base ok x cs) : ∃ v1, cs = [.int .i64 x.f0, v1] ∧ (Kd.slice 3 (Kd.int .i64)).R 22 w base ok v1 x.f1 := by
  obtain ⟨_, _, rfl, rfl, ⟨v1, rfl, g1⟩⟩ := h
  exact ⟨v1, rfl, g1⟩
theorem k_laws_Game_mk (w : World) (x : S_laws_Game) {A1 : Option Addr} {c1 : Nat} (l1 : x.f1.length ≤ c1) (g1 : (Kd.slice 3 (Kd.int .i64)).C w A1 x.f1.length x.f1) : k_laws_Game.K w x [.int .i64 x.f0, .slice A1 x.f1.length c1] := ⟨[.int .i64 x.f0], [.slice A1 x.f1.length c1], rfl, rfl, ⟨A1, c1, rfl, l1, g1⟩⟩
theorem k_laws_Game_mkM (w : World) (base : Nat) (ok : Nat → Prop) (x : S_laws_Game) {v1 : Value} (g1 : (Kd.slice 3 (Kd.int .i64)).R 22 w base ok v1 x.f1) : k_laws_Game.M w base ok x [.int .i64 x.f0, v1] := ⟨[.int .i64 x.f0], [v1], rfl, rfl, ⟨v1, rfl, g1⟩⟩
theorem k_laws_Game_openF {W : World} {ok : Nat → Prop} {x : S_laws_Game} {cs : List Value} (h : Kd.FK k_laws_Game W ok x cs) : ∃ A1 c1, cs = [.int .i64 x.f0, .slice A1 x.f1.length c1] ∧ x.f1.length ≤ c1 ∧ Kd.F (Kd.slice 3 (Kd.int .i64)) W ok A1 x.f1.length x.f1 := by
  obtain ⟨A1, c1, rfl, l1, _⟩ := k_laws_Game_open (Kd.FK_now h)
  exact ⟨A1, c1, rfl, l1, (fun W' hW => by obtain ⟨A1_, c1_, he, l1_, g1_⟩ := k_laws_Game_open (h W' hW); injection (Option.some.inj (show some (Value.slice A1 x.f1.length c1) = some (Value.slice A1_ x.f1.length c1_) from congrArg (fun l => l[1]?) he)) with ha_ _ _; rw [ha_]; exact g1_)⟩
theorem k_laws_Game_mkF (W : World) (ok : Nat → Prop) (x : S_laws_Game) {A1 : Option Addr} {c1 : Nat} (l1 : x.f1.length ≤ c1) (g1 : Kd.F (Kd.slice 3 (Kd.int .i64)) W ok A1 x.f1.length x.f1) : Kd.FK k_laws_Game W ok x [.int .i64 x.f0, .slice A1 x.f1.length c1] := fun W2 hW => k_laws_Game_mk W2 x l1 (g1 W2 hW)
def rd_laws_Game (xs : List S_laws_Game) (i : Int) : S_laws_Game := xs.getD i.toNat z_laws_Game
theorem at_laws_Game {w : World} {A : Option Addr} {n : Nat} {xs : List S_laws_Game} (h : Kd.C k_laws_Game w A n xs) (i : Int) (h0 : 0 ≤ i) (h1 : i < n) : ∃ ad A1 c1, A = some ad ∧ w.cell? (ad.add (i.toNat * 2)) = some (.int .i64 (rd_laws_Game xs i).f0) ∧ w.cell? ⟨(ad.add (i.toNat * 2)).block, (ad.add (i.toNat * 2)).off + 1, none⟩ = some (.slice A1 (rd_laws_Game xs i).f1.length c1) ∧ (rd_laws_Game xs i).f1.length ≤ c1 ∧ (Kd.slice 3 (Kd.int .i64)).C w A1 (rd_laws_Game xs i).f1.length (rd_laws_Game xs i).f1 := by
  obtain ⟨ad, c, e, _, hK, hc0⟩ := Kd.C_get h z_laws_Game i h0 h1
  have hc : ∀ j u, c[j]? = some u → w.cell? (ad.add (i.toNat * 2 + j)) = some u := hc0
  obtain ⟨A1, c1, rfl, l1, g1⟩ := k_laws_Game_open hK
  exact ⟨ad, A1, c1, e, hc 0 _ rfl, by rw [← add_field _ _ 1 (by omega)]; exact hc 1 _ rfl, l1, g1⟩

/-! #### struct type 67 -/
structure S_laws_Trade where
  f0 : (List (List Int))
  f1 : (List (List Int))
def z_laws_Trade : S_laws_Trade := ⟨([] : List (List Int)), ([] : List (List Int))⟩
def k_laws_Trade : Kd S_laws_Trade := Kd.iso (Kd.pair (Kd.slice 22 (Kd.slice 3 (Kd.int .i64))) (Kd.slice 22 (Kd.slice 3 (Kd.int .i64)))) (fun x : S_laws_Trade => (x.f0, x.f1))
theorem k_laws_Trade_open {w : World} {x : S_laws_Trade} {cs : List Value} (h : k_laws_Trade.K w x cs) : ∃ A0 c0 A1 c1, cs = [.slice A0 x.f0.length c0, .slice A1 x.f1.length c1] ∧ x.f0.length ≤ c0 ∧ (Kd.slice 3 (Kd.int .i64)).C w A0 x.f0.length x.f0 ∧ x.f1.length ≤ c1 ∧ (Kd.slice 3 (Kd.int .i64)).C w A1 x.f1.length x.f1 := by
  obtain ⟨_, _, rfl, ⟨A0, c0, rfl, l0, g0⟩, ⟨A1, c1, rfl, l1, g1⟩⟩ := h
  exact ⟨A0, c0, A1, c1, rfl, l0, g0, l1, g1⟩
theorem k_laws_Trade_openM {w : World} {base : Nat} {ok : Nat → Prop} {x : S_laws_Trade} {cs : List Value} (h : k_laws_Trade.M w base ok x cs) : ∃ v0 v1, cs = [v0, v1] ∧ (Kd.slice 3 (Kd.int .i64)).R 22 w base ok v0 x.f0 ∧ (Kd.slice 3 (Kd.int .i64)).R 22 w base ok v1 x.f1 := by
  obtain ⟨_, _, rfl, ⟨v0, rfl, g0⟩, ⟨v1, rfl, g1⟩⟩ := h
  exact ⟨v0, v1, rfl, g0, g1⟩
theorem k_laws_Trade_mk (w : World) (x : S_laws_Trade) {A0 : Option Addr} {c0 : Nat} (l0 : x.f0.length ≤ c0) (g0 : (Kd.slice 3 (Kd.int .i64)).C w A0 x.f0.length x.f0) {A1 : Option Addr} {c1 : Nat} (l1 : x.f1.length ≤ c1) (g1 : (Kd.slice 3 (Kd.int .i64)).C w A1 x.f1.length x.f1) : k_laws_Trade.K w x [.slice A0 x.f0.length c0, .slice A1 x.f1.length c1] := ⟨[.slice A0 x.f0.length c0], [.slice A1 x.f1.length c1], rfl, ⟨A0, c0, rfl, l0, g0⟩, ⟨A1, c1, rfl, l1, g1⟩⟩
theorem k_laws_Trade_mkM (w : World) (base : Nat) (ok : Nat → Prop) (x : S_laws_Trade) {v0 : Value} (g0 : (Kd.slice 3 (Kd.int .i64)).R 22 w base ok v0 x.f0) {v1 : Value} (g1 : (Kd.slice 3 (Kd.int .i64)).R 22 w base ok v1 x.f1) : k_laws_Trade.M w base ok x [v0, v1] := ⟨[v0], [v1], rfl, ⟨v0, rfl, g0⟩, ⟨v1, rfl, g1⟩⟩
theorem k_laws_Trade_openF {W : World} {ok : Nat → Prop} {x : S_laws_Trade} {cs : List Value} (h : Kd.FK k_laws_Trade W ok x cs) : ∃ A0 c0 A1 c1, cs = [.slice A0 x.f0.length c0, .slice A1 x.f1.length c1] ∧ x.f0.length ≤ c0 ∧ Kd.F (Kd.slice 3 (Kd.int .i64)) W ok A0 x.f0.length x.f0 ∧ x.f1.length ≤ c1 ∧ Kd.F (Kd.slice 3 (Kd.int .i64)) W ok A1 x.f1.length x.f1 := by
  obtain ⟨A0, c0, A1, c1, rfl, l0, _, l1, _⟩ := k_laws_Trade_open (Kd.FK_now h)
  exact ⟨A0, c0, A1, c1, rfl, l0, (fun W' hW => by obtain ⟨A0_, c0_, A1_, c1_, he, l0_, g0_, l1_, g1_⟩ := k_laws_Trade_open (h W' hW); injection (Option.some.inj (show some (Value.slice A0 x.f0.length c0) = some (Value.slice A0_ x.f0.length c0_) from congrArg (fun l => l[0]?) he)) with ha_ _ _; rw [ha_]; exact g0_), l1, (fun W' hW => by obtain ⟨A0_, c0_, A1_, c1_, he, l0_, g0_, l1_, g1_⟩ := k_laws_Trade_open (h W' hW); injection (Option.some.inj (show some (Value.slice A1 x.f1.length c1) = some (Value.slice A1_ x.f1.length c1_) from congrArg (fun l => l[1]?) he)) with ha_ _ _; rw [ha_]; exact g1_)⟩
theorem k_laws_Trade_mkF (W : World) (ok : Nat → Prop) (x : S_laws_Trade) {A0 : Option Addr} {c0 : Nat} (l0 : x.f0.length ≤ c0) (g0 : Kd.F (Kd.slice 3 (Kd.int .i64)) W ok A0 x.f0.length x.f0) {A1 : Option Addr} {c1 : Nat} (l1 : x.f1.length ≤ c1) (g1 : Kd.F (Kd.slice 3 (Kd.int .i64)) W ok A1 x.f1.length x.f1) : Kd.FK k_laws_Trade W ok x [.slice A0 x.f0.length c0, .slice A1 x.f1.length c1] := fun W2 hW => k_laws_Trade_mk W2 x l0 (g0 W2 hW) l1 (g1 W2 hW)
def rd_laws_Trade (xs : List S_laws_Trade) (i : Int) : S_laws_Trade := xs.getD i.toNat z_laws_Trade
theorem at_laws_Trade {w : World} {A : Option Addr} {n : Nat} {xs : List S_laws_Trade} (h : Kd.C k_laws_Trade w A n xs) (i : Int) (h0 : 0 ≤ i) (h1 : i < n) : ∃ ad A0 c0 A1 c1, A = some ad ∧ w.cell? (ad.add (i.toNat * 2)) = some (.slice A0 (rd_laws_Trade xs i).f0.length c0) ∧ w.cell? ⟨(ad.add (i.toNat * 2)).block, (ad.add (i.toNat * 2)).off + 1, none⟩ = some (.slice A1 (rd_laws_Trade xs i).f1.length c1) ∧ (rd_laws_Trade xs i).f0.length ≤ c0 ∧ (Kd.slice 3 (Kd.int .i64)).C w A0 (rd_laws_Trade xs i).f0.length (rd_laws_Trade xs i).f0 ∧ (rd_laws_Trade xs i).f1.length ≤ c1 ∧ (Kd.slice 3 (Kd.int .i64)).C w A1 (rd_laws_Trade xs i).f1.length (rd_laws_Trade xs i).f1 := by
  obtain ⟨ad, c, e, _, hK, hc0⟩ := Kd.C_get h z_laws_Trade i h0 h1
  have hc : ∀ j u, c[j]? = some u → w.cell? (ad.add (i.toNat * 2 + j)) = some u := hc0
  obtain ⟨A0, c0, A1, c1, rfl, l0, g0, l1, g1⟩ := k_laws_Trade_open hK
  exact ⟨ad, A0, c0, A1, c1, e, hc 0 _ rfl, by rw [← add_field _ _ 1 (by omega)]; exact hc 1 _ rfl, l0, g0, l1, g1⟩


/-! ### laws_szIntS: function 65 -/
def laws_szIntS.f (l0:List Int) (a1:Int):Option (Int):=if (wrap64 (a1 - (l0.length:Int))) < 0 then (some (-1)) else (some (wrap64 (a1 - (l0.length:Int))))
set_option maxHeartbeats 8000000 in
set_option maxRecDepth 100000 in
theorem laws_szIntS.calls (A0:Option Addr) (c0:Nat) (l0:List Int) (a1:Int) (r:Int) (w:World) (hr0:Kd.C (Kd.int .i64) w A0 l0.length l0) (hc0:l0.length ≤ c0) (h:laws_szIntS.f l0 a1 = some r) :
  Calls Try.prog 65 #[.slice A0 l0.length c0,.int .i64 a1] w fun e w'=>e = .returned (.int .i64 r) ∧ Drawn0 w w':=by
 have HR0:=aM hr0;have HC0:=aM hc0;clear hr0 hc0;have H:(if (wrap64 (a1 - (l0.length:Int))) < 0 then (some (-1)) else (some (wrap64 (a1 - (l0.length:Int))))) = some r:=h;clear h;by_cases c3:(wrap64 (a1 - (l0.length:Int))) < 0
 ·rw [if_pos c3] at H;have c3b0:decide ((wrap64 (a1 - (l0.length:Int))) < 0) = true:=decide_eq_true c3;clear c3;obtain rfl:=Option.some.inj H;go_enter Try.func65,Try.ntmps65;go_wp2
  go_ret
  exact ⟨by first|rfl|(simp;done)|(simp [*];done),by repeat (first|exact Drawn0.refl _|apply Drawn0.step)⟩
 ·rw [if_neg c3] at H;have c3b0:decide ((wrap64 (a1 - (l0.length:Int))) < 0) = false:=decide_eq_false c3;clear c3;obtain rfl:=Option.some.inj H;go_enter Try.func65,Try.ntmps65;go_wp2
  go_ret
  exact ⟨by first|rfl|(simp;done)|(simp [*];done),by repeat (first|exact Drawn0.refl _|apply Drawn0.step)⟩


/-! ### laws_szIntSS: function 99 -/
def laws_szIntSS.l0:Nat → List (List Int) → Int → Int → Option (Int)
 | 0,_,_,_=>none
 | k + 1,x0,x1,x5=>if x5 < (x0.length:Int) then (if 0 ≤ x5 then ((laws_szIntS.f (rd_LI x0 x5) x1).bind fun t692=>(if t692 < 0 then (some (-1)) else (laws_szIntSS.l0 k x0 t692 (wrap64 (x5 + 1))))) else (none)) else (some x1)
def laws_szIntSS.f (k:Nat) (l0:List (List Int)) (a1:Int):Option (Int):=if (wrap64 (a1 - (l0.length:Int))) < 0 then (some (-1)) else (laws_szIntSS.l0 k l0 (wrap64 (a1 - (l0.length:Int))) 0)
theorem laws_szIntSS.mono_l:∀ k,(∀ y0 y1 y2,LeO (laws_szIntSS.l0 k y0 y1 y2) (laws_szIntSS.l0 (k + 1) y0 y1 y2))
 | 0=>fun _ _ _ r h=>by simp [laws_szIntSS.l0] at h
 | k + 1=>by
  have ih0:=laws_szIntSS.mono_l k
  ·intro y0 y1 y2;unfold laws_szIntSS.l0
   repeat' with_reducible first|exact ih0 _ _ _|exact LeO.refl _|exact LeO.none _|refine LeO.ite ?_ ?_|refine LeO.bind ?_ (fun _=>?_)
theorem laws_szIntSS.mono:∀ a0 a1 k,LeO (laws_szIntSS.f k a0 a1) (laws_szIntSS.f (k + 1) a0 a1):=by
 intro a0 a1 k;have ih0:=laws_szIntSS.mono_l k;unfold laws_szIntSS.f
 repeat' with_reducible first|exact ih0 _ _ _|exact LeO.refl _|exact LeO.none _|refine LeO.ite ?_ ?_|refine LeO.bind ?_ (fun _=>?_)
set_option maxHeartbeats 8000000 in
set_option maxRecDepth 100000 in
theorem laws_szIntSS.calls (k:Nat) (A0:Option Addr) (c0:Nat) (l0:List (List Int)) (a1:Int) (r:Int) (w:World) (hr0:Kd.C (Kd.slice 3 (Kd.int .i64)) w A0 l0.length l0) (hc0:l0.length ≤ c0) (h:laws_szIntSS.f k l0 a1 = some r) :
  Calls Try.prog 99 #[.slice A0 l0.length c0,.int .i64 a1] w fun e w'=>e = .returned (.int .i64 r) ∧ Drawn0 w w':=by
 have HR0:=aM hr0;have HC0:=aM hc0;clear hr0 hc0;have H:(if (wrap64 (a1 - (l0.length:Int))) < 0 then (some (-1)) else (laws_szIntSS.l0 k l0 (wrap64 (a1 - (l0.length:Int))) 0)) = some r:=h;clear h;by_cases c3:(wrap64 (a1 - (l0.length:Int))) < 0
 ·rw [if_pos c3] at H;have c3b0:decide ((wrap64 (a1 - (l0.length:Int))) < 0) = true:=decide_eq_true c3;clear c3;obtain rfl:=Option.some.inj H;go_enter Try.func99,Try.ntmps99;go_wp2
  go_ret
  exact ⟨by first|rfl|(simp;done)|(simp [*];done),by repeat (first|exact Drawn0.refl _|apply Drawn0.step)⟩
 ·rw [if_neg c3] at H;have c3b0:decide ((wrap64 (a1 - (l0.length:Int))) < 0) = false:=decide_eq_false c3;clear c3;have H':=aM H;clear H;go_enter Try.func99,Try.ntmps99;go_wp2
  go_loopg [1,5] k (fun kq v1 v5 w'=>∃ (x1_1:Int) (x5_1:Int),v1 = .int .i64 x1_1 ∧ v5 = .int .i64 x5_1 ∧ Aside0 (laws_szIntSS.l0 kq l0 x1_1 x5_1 = some r) ∧ Aside0 (kq ≤ k) ∧ Drawn0 w w')
  case atStart=>exact ⟨(wrap64 (a1 - (l0.length:Int))),(0),qrs,qrs,H',⟨Nat.le_refl _⟩,by repeat (first|exact Drawn0.refl _|apply Drawn0.step)⟩
  case round =>
   clear H';(try clear p2);(try clear c3);(try clear c3b0)
   obtain ⟨x1_1,x5_1,rfl,rfl,HA,HK1,⟨m1,rfl⟩⟩:=hrel
   cases gk with
   | zero=>exact absurd HA.out (by simp [laws_szIntSS.l0])
   | succ k1 =>
    have H:=HA.out;clear HA;simp only [laws_szIntSS.l0] at H;by_cases c4:x5_1 < (l0.length:Int)
    ·rw [if_pos c4] at H;have c4b0:decide (x5_1 < (l0.length:Int)) = true:=decide_eq_true c4;clear c4;by_cases c5:0 ≤ x5_1
     ·rw [if_pos c5] at H;have c5b0:decide (0 ≤ x5_1) = true:=decide_eq_true c5;clear c5;replace H:=Option.bind_eq_some_iff.mp H;obtain ⟨t692,A60,H⟩:=H;replace H:(if t692 < 0 then (some (-1)) else (laws_szIntSS.l0 k1 l0 t692 (wrap64 (x5_1 + 1)))) = some r:=H;have A6:=aM A60;clear A60;by_cases c7:t692 < 0
      ·rw [if_pos c7] at H;have c7b0:decide (t692 < 0) = true:=decide_eq_true c7;clear c7;obtain rfl:=Option.some.inj H;have p691:0 ≤ (x5_1:Int):=of_decide_eq_true ab;have q691:x5_1 < (l0.length:Int):=of_decide_eq_true ab;obtain ⟨ad691,A691_0,c691_0,e691,hx691_0,hl691_0,hi691_0⟩:=at_LI HR0.out x5_1 p691 q691;cases e691
       have HR691_0:=aM hi691_0;have HC691_0:=aM hl691_0;clear hi691_0 hl691_0;replace p691:=eq_true p691;replace q691:=eq_true q691;go_wp2_with (first|((with_reducible refine gate_callee (f:=65) rfl ?_);refine goesL_ (some 23) rfl rfl Try.func65 kR rfl #[.slice A691_0 (rd_LI l0 x5_1).length c691_0,.int .i64 x1_1] rfl mq ?_;(with_reducible refine (laws_szIntS.calls _ _ (rd_LI l0 x5_1) x1_1 t692 _ ?side1 ?side2 A6.out).mono ?_);(case side1=>repeat (first|exact HR691_0.out|(with_reducible refine Kd.C_alloc ?_ _)|(with_reducible refine Kd.C_drewN ?_ _)|(with_reducible refine Kd.C_drew ?_)));(case side2=>exact HC691_0.out);rintro e w' ⟨rfl,⟨nd,rfl⟩⟩;refine ⟨_,rfl,?_⟩))
       go_ret
       exact ⟨by first|rfl|(simp;done)|(simp [*];done),by repeat (first|exact Drawn0.refl _|apply Drawn0.step)⟩
      ·rw [if_neg c7] at H;have c7b0:decide (t692 < 0) = false:=decide_eq_false c7;clear c7;have H':=aM H;clear H;have p691:0 ≤ (x5_1:Int):=of_decide_eq_true ab;have q691:x5_1 < (l0.length:Int):=of_decide_eq_true ab;obtain ⟨ad691,A691_0,c691_0,e691,hx691_0,hl691_0,hi691_0⟩:=at_LI HR0.out x5_1 p691 q691;cases e691
       have HR691_0:=aM hi691_0;have HC691_0:=aM hl691_0;clear hi691_0 hl691_0;replace p691:=eq_true p691;replace q691:=eq_true q691;go_wp2_with (first|((with_reducible refine gate_callee (f:=65) rfl ?_);refine goesL_ (some 23) rfl rfl Try.func65 kR rfl #[.slice A691_0 (rd_LI l0 x5_1).length c691_0,.int .i64 x1_1] rfl mq ?_;(with_reducible refine (laws_szIntS.calls _ _ (rd_LI l0 x5_1) x1_1 t692 _ ?side1 ?side2 A6.out).mono ?_);(case side1=>repeat (first|exact HR691_0.out|(with_reducible refine Kd.C_alloc ?_ _)|(with_reducible refine Kd.C_drewN ?_ _)|(with_reducible refine Kd.C_drew ?_)));(case side2=>exact HC691_0.out);rintro e w' ⟨rfl,⟨nd,rfl⟩⟩;refine ⟨_,rfl,?_⟩))
       go_roundg k1
       case measure=>have:=HK1.out;omega
       case rel=>exact ⟨(t692),(wrap64 (x5_1 + 1)),qrs,qrs,H',⟨by have:=HK1.out;omega⟩,by repeat (first|exact Drawn0.refl _|apply Drawn0.step)⟩
     ·rw [if_neg c5] at H;exact absurd H (by simp)
    ·rw [if_neg c4] at H;have c4b0:decide (x5_1 < (l0.length:Int)) = false:=decide_eq_false c4;clear c4;obtain rfl:=Option.some.inj H;go_wp2
     go_ret
     exact ⟨by first|rfl|(simp;done)|(simp [*];done),by repeat (first|exact Drawn0.refl _|apply Drawn0.step)⟩


/-! ### laws_szGame: function 38 -/
def laws_szGame.f (k:Nat) (a0_0:Int) (l0_1:List (List Int)) (a1:Int):Option (Int):=(laws_szIntSS.f k l0_1 a1).bind fun t694=>(if t694 < 0 then (some (-1)) else (some t694))
theorem laws_szGame.mono:∀ a0 a1 a2 k,LeO (laws_szGame.f k a0 a1 a2) (laws_szGame.f (k + 1) a0 a1 a2):=by
 intro a0 a1 a2 k;unfold laws_szGame.f
 repeat' with_reducible first|exact laws_szIntSS.mono _ _ _|exact LeO.refl _|exact LeO.none _|refine LeO.ite ?_ ?_|refine LeO.bind ?_ (fun _=>?_)
set_option maxHeartbeats 8000000 in
set_option maxRecDepth 100000 in
theorem laws_szGame.calls (k:Nat) (a0_0:Int) (A0_1:Option Addr) (c0_1:Nat) (l0_1:List (List Int)) (a1:Int) (r:Int) (w:World) (hr0_1:Kd.C (Kd.slice 3 (Kd.int .i64)) w A0_1 l0_1.length l0_1) (hc0_1:l0_1.length ≤ c0_1) (h:laws_szGame.f k a0_0 l0_1 a1 = some r) :
  Calls Try.prog 38 #[.agg #[.int .i64 a0_0,.slice A0_1 l0_1.length c0_1],.int .i64 a1] w fun e w'=>e = .returned (.int .i64 r) ∧ Below w.heap.size w w':=by
 have hu53:=Try.underlying53;have HR0_1:=aM hr0_1;have HC0_1:=aM hc0_1;clear hr0_1 hc0_1;have HB:=aM (Below.refl w.heap.size w);have H:((laws_szIntSS.f k l0_1 a1).bind fun t694=>(if t694 < 0 then (some (-1)) else (some t694))) = some r:=h;clear h;replace H:=Option.bind_eq_some_iff.mp H;obtain ⟨t694,A30,H⟩:=H;replace H:(if t694 < 0 then (some (-1)) else (some t694)) = some r:=H;have A3:=aM A30;clear A30;by_cases c4:t694 < 0
 ·rw [if_pos c4] at H;have c4b0:decide (t694 < 0) = true:=decide_eq_true c4;clear c4;obtain rfl:=Option.some.inj H;go_enter Try.func38,Try.ntmps38;go_wp2_with (first|((with_reducible refine gate_dst (N:=2) rfl ?_);refine box_event ?hg (N:=2) ?hd (cs:=#[.int .i64 a0_0,.slice A0_1 l0_1.length c0_1]) (t:=53) ?hr ?_;(case hd=>rfl);(case hg=>rfl);(case hr=>first|(go_simp;done)|(go_simp;rfl));intro gb693 hg w5 hbox hb;have n0_:=aM (below_step bw hb);have n1_:=aM (hbox);have n2_:=aM ((by rw [hg];exact (below_size bw):w.heap.size ≤ gb693));have n3_:=aM ((by rw [hg];exact (below_size bw):w.heap.size ≤ gb693));clear HB;have HB:=n0_;have BK693:=n1_;have GW693:=n2_;have GE693:=n3_;clear n0_ n1_ n2_ n3_;clear hb hbox hg;have hcz6_0:w5.cell? ⟨gb693,0,none⟩ = some (.int .i64 a0_0):=(blk_cell BK693.out 0).trans rfl;have hcz6_1:w5.cell? ⟨gb693,1,none⟩ = some (.slice A0_1 l0_1.length c0_1):=(blk_cell BK693.out 1).trans rfl;have hfz6_0:=blk_frozen BK693.out 0;have hfz6_1:=blk_frozen BK693.out 1)|((with_reducible refine gate_callee (f:=99) rfl ?_);refine goesL_ (some 8) rfl rfl Try.func99 kR rfl #[.slice A0_1 l0_1.length c0_1,.int .i64 a1] rfl mq ?_;(with_reducible refine (laws_szIntSS.calls k _ _ l0_1 a1 t694 _ ?side1 ?side2 A3.out).mono ?_);(case side1=>exact qcs HR0_1.out HB.out);(case side2=>exact HC0_1.out);rintro e w' ⟨rfl,⟨nd,rfl⟩⟩;refine ⟨_,rfl,?_⟩))
  go_ret
  exact ⟨by first|rfl|(simp [errW_none,errW_some] <;> rfl)|(simp [*,errW_none,errW_some] <;> rfl),by exact bw⟩
 ·rw [if_neg c4] at H;have c4b0:decide (t694 < 0) = false:=decide_eq_false c4;clear c4;obtain rfl:=Option.some.inj H;go_enter Try.func38,Try.ntmps38;go_wp2_with (first|((with_reducible refine gate_dst (N:=2) rfl ?_);refine box_event ?hg (N:=2) ?hd (cs:=#[.int .i64 a0_0,.slice A0_1 l0_1.length c0_1]) (t:=53) ?hr ?_;(case hd=>rfl);(case hg=>rfl);(case hr=>first|(go_simp;done)|(go_simp;rfl));intro gb693 hg w7 hbox hb;have n0_:=aM (below_step bw hb);have n1_:=aM (hbox);have n2_:=aM ((by rw [hg];exact (below_size bw):w.heap.size ≤ gb693));have n3_:=aM ((by rw [hg];exact (below_size bw):w.heap.size ≤ gb693));clear HB;have HB:=n0_;have BK693:=n1_;have GW693:=n2_;have GE693:=n3_;clear n0_ n1_ n2_ n3_;clear hb hbox hg;have hcz8_0:w7.cell? ⟨gb693,0,none⟩ = some (.int .i64 a0_0):=(blk_cell BK693.out 0).trans rfl;have hcz8_1:w7.cell? ⟨gb693,1,none⟩ = some (.slice A0_1 l0_1.length c0_1):=(blk_cell BK693.out 1).trans rfl;have hfz8_0:=blk_frozen BK693.out 0;have hfz8_1:=blk_frozen BK693.out 1)|((with_reducible refine gate_callee (f:=99) rfl ?_);refine goesL_ (some 8) rfl rfl Try.func99 kR rfl #[.slice A0_1 l0_1.length c0_1,.int .i64 a1] rfl mq ?_;(with_reducible refine (laws_szIntSS.calls k _ _ l0_1 a1 t694 _ ?side1 ?side2 A3.out).mono ?_);(case side1=>exact qcs HR0_1.out HB.out);(case side2=>exact HC0_1.out);rintro e w' ⟨rfl,⟨nd,rfl⟩⟩;refine ⟨_,rfl,?_⟩))
  go_ret
  exact ⟨by first|rfl|(simp [errW_none,errW_some] <;> rfl)|(simp [*,errW_none,errW_some] <;> rfl),by exact bw⟩


/-! ### laws_toIntS: function 57 -/
def laws_toIntS.l0:Nat → List Int → List Int → Int → Option (List Int)
 | 0,_,_,_=>none
 | k + 1,x0,x3,x4=>if x4 < (x0.length:Int) then (if 0 ≤ x4 then (if x4 < (x3.length:Int) then (laws_toIntS.l0 k x0 (x3.set (x4:Int).toNat (rd x0 x4)) (wrap64 (x4 + 1))) else (none)) else (none)) else (some x3)
def laws_toIntS.f (k:Nat) (l0:List Int):Option (List Int):=if 0 ≤ (l0.length:Int) then (if ((l0.length:Int):Int).toNat ≤ 35184372088832 then (laws_toIntS.l0 k l0 (List.replicate ((l0.length:Int):Int).toNat 0) 0) else (none)) else (none)
theorem laws_toIntS.mono_l:∀ k,(∀ y0 y1 y2,LeO (laws_toIntS.l0 k y0 y1 y2) (laws_toIntS.l0 (k + 1) y0 y1 y2))
 | 0=>fun _ _ _ r h=>by simp [laws_toIntS.l0] at h
 | k + 1=>by
  have ih0:=laws_toIntS.mono_l k
  ·intro y0 y1 y2;unfold laws_toIntS.l0
   repeat' with_reducible first|exact ih0 _ _ _|exact LeO.refl _|exact LeO.none _|refine LeO.ite ?_ ?_|refine LeO.bind ?_ (fun _=>?_)
theorem laws_toIntS.mono:∀ a0 k,LeO (laws_toIntS.f k a0) (laws_toIntS.f (k + 1) a0):=by
 intro a0 k;have ih0:=laws_toIntS.mono_l k;unfold laws_toIntS.f
 repeat' with_reducible first|exact ih0 _ _ _|exact LeO.refl _|exact LeO.none _|refine LeO.ite ?_ ?_|refine LeO.bind ?_ (fun _=>?_)
set_option maxHeartbeats 8000000 in
set_option maxRecDepth 100000 in
theorem laws_toIntS.calls (k:Nat) (A0:Option Addr) (c0:Nat) (l0:List Int) (r:List Int) (w:World) (hr0:Kd.C (Kd.int .i64) w A0 l0.length l0) (hc0:l0.length ≤ c0) (h:laws_toIntS.f k l0 = some r) :
  Calls Try.prog 57 #[.slice A0 l0.length c0] w fun e w'=>∃ v0_:Value,e = .returned (v0_) ∧ Kd.R (Kd.int .i64) 3 w' w.heap.size (fun _=>True) v0_ r ∧ Below w.heap.size w w':=by
 have HR0:=aM hr0;have HC0:=aM hc0;clear hr0 hc0;have HB:=aM (Below.refl w.heap.size w);have H:(if 0 ≤ (l0.length:Int) then (if ((l0.length:Int):Int).toNat ≤ 35184372088832 then (laws_toIntS.l0 k l0 (List.replicate ((l0.length:Int):Int).toNat 0) 0) else (none)) else (none)) = some r:=h;clear h;by_cases c2:0 ≤ (l0.length:Int)
 ·rw [if_pos c2] at H;have c2b0:=eq_true c2;have c2b1:decide (0 ≤ (l0.length:Int)) = true:=decide_eq_true c2;clear c2;by_cases c3:((l0.length:Int):Int).toNat ≤ 35184372088832
  ·rw [if_pos c3] at H;have c3b0:=eq_true c3;have c3b1:decide (((l0.length:Int):Int).toNat ≤ 35184372088832) = true:=decide_eq_true c3;clear c3;obtain ⟨y149,hy149⟩:∃ y_:List Int,y_ = (List.replicate ((l0.length:Int):Int).toNat 0):=⟨_,rfl⟩;replace H:(laws_toIntS.l0 k l0 y149 0) = some r:=by first|(rw [hy149];with_reducible exact H)|(have H2_:=(Option.bind_some _ _).symm.trans H;rw [hy149];with_reducible exact H2_)|(have H2_:=(Option.bind_some _ _).symm.trans H;with_reducible exact H2_)|with_reducible exact H|(rw [hy149];exact H)|exact H
   have Ny149:=aM hy149;clear hy149;have H':=aM H;clear H;go_enter Try.func57,Try.ntmps57;go_wp2_with (first|((with_reducible refine gate_dst (N:=7) rfl ?_);refine Kd.R_make (Kd.int .i64) _ 3 rfl (N:=7) rfl 22 _ _ rfl (l0.length:Int) rfl rfl Try.underlying22 (.int .i64 0) 8 info3 rfl (by decide) (by omega) 0 (ok:=fun _=>True) (okp:=fun _=>True) rfl (fun _ hk=>hk) trivial (of_decide_eq_true ab) (Nat.le_trans (Nat.mul_le_mul_right _ (of_decide_eq_true ab:(l0.length:Int).toNat ≤ 35184372088832)) (by omega)) (Below.refl _ _) (Nat.le_refl _) ?_;intro v150 w4 ho5 hb hg_ hnew_;clear hg_ hnew_;(first|rw [← Ny149.out] at ho5|(simp only [Int.reduceToNat] at ho5;rw [← Ny149.out] at ho5));have n0_:=aM (Kd.R_lower ho5 (below_size bw));have n1_:=aM (below_step bw hb);clear HB;have HO151:=n0_;have HB:=n1_;clear n0_ n1_;clear hb ho5))
   go_loopg [4] k (fun kq v4 w'=>∃ (x3_1:List Int) (x4_1:Int),v4 = .int .i64 x4_1 ∧ Aside0 (laws_toIntS.l0 kq l0 x3_1 x4_1 = some r) ∧ Aside0 (kq ≤ k) ∧ Aside0 (Kd.R (Kd.int .i64) 3 w' w.heap.size (fun _=>True) v150 x3_1) ∧ Aside0 (Below w.heap.size w w'))
   case atStart=>exact ⟨(y149),(0),qrs,H',⟨Nat.le_refl _⟩,⟨qra HO151.out⟩,⟨by exact bw⟩⟩
   case round =>
    clear H';(try clear c2);(try clear c2b0);(try clear c2b1);(try clear p2);(try clear c3);(try clear c3b0);(try clear c3b1);(try clear c5)
    obtain ⟨x3_1,x4_1,rfl,HA,HK1,HO_3,HB⟩:=hrel
    cases gk with
    | zero=>exact absurd HA.out (by simp [laws_toIntS.l0])
    | succ k1 =>
     have H:=HA.out;clear HA;simp only [laws_toIntS.l0] at H;by_cases c6:x4_1 < (l0.length:Int)
     ·rw [if_pos c6] at H;have c6b0:decide (x4_1 < (l0.length:Int)) = true:=decide_eq_true c6;clear c6;by_cases c7:0 ≤ x4_1
      ·rw [if_pos c7] at H;have c7b0:decide (0 ≤ x4_1) = true:=decide_eq_true c7;clear c7;by_cases c8:x4_1 < (x3_1.length:Int)
       ·rw [if_pos c8] at H;have c8b0:decide (x4_1 < (x3_1.length:Int)) = true:=decide_eq_true c8;clear c8;obtain ⟨y153,hy153⟩:∃ y_:List Int,y_ = (x3_1.set (x4_1:Int).toNat (rd l0 x4_1)):=⟨_,rfl⟩;replace H:(laws_toIntS.l0 k1 l0 y153 (wrap64 (x4_1 + 1))) = some r:=by first|(rw [hy153];with_reducible exact H)|(have H2_:=(Option.bind_some _ _).symm.trans H;rw [hy153];with_reducible exact H2_)|(have H2_:=(Option.bind_some _ _).symm.trans H;with_reducible exact H2_)|with_reducible exact H|(rw [hy153];exact H)|exact H
        have Ny153:=aM hy153;clear hy153;have H':=aM H;clear H;have p152:0 ≤ (x4_1:Int):=of_decide_eq_true ab;have q152:x4_1 < (l0.length:Int):=of_decide_eq_true ab;obtain ⟨ad152,e152,hx152_0⟩:=Kd.at_int HR0.out x4_1 p152 q152;cases e152
        replace hx152_0:=(HB.out.cell (World.block_lt_of_cell? w _ hx152_0)).trans hx152_0;replace p152:=eq_true p152;replace q152:=eq_true q152;have p9:0 ≤ (x4_1:Int):=of_decide_eq_true ab;have q9:(x4_1:Int) < ((x3_1.length:Int):Int):=of_decide_eq_true ab;obtain ⟨go9,co9,eo9,gb9,gl9,cl9,HG9⟩:=Kd.R_form HO_3.out (by omega);(first|cases eo9|(injection eo9 with ea_ en_ ec_;(first|subst ea_|(injection ea_ with ea_;subst ea_));subst ec_;clear en_))
        have GB9:=aM gb9;have GG9:=aM HG9;clear gb9 gl9 HG9;obtain ⟨hx9_0,hf9_0⟩:=Kd.R_celln 0 HO_3.out (x4_1:Int) p9 q9;replace p9:=eq_true p9;replace q9:=eq_true q9;have HP10:=Kd.R_putg HO_3.out (x4_1:Int) (rd l0 x4_1);go_wp2_with (first|((with_reducible refine gate_store (t:=3) (p:=20) rfl ?_);refine store_event (t:=3) (p:=20) (v:=?vo_w11) (w1:=(wr.setCell ⟨go9,(x4_1:Int).toNat,none⟩ (.int .i64 (rd l0 x4_1)))) ?hg ?ho ?hn ?hr ?_;(case ho=>rfl);(case hg=>rfl);(case hn=>rfl);(case hr=>first|(go_simp;done)|(go_simp;rfl));intro w11 hw;have hg:wr.grownBy w11 (some go9):=(by rw [hw];exact HP10.2);have hp_:Kd.R (Kd.int .i64) 3 w11 w.heap.size (fun _=>True) (.slice (some ⟨go9,0,none⟩) x3_1.length co9) y153:=(by rw [hw,Ny153.out];exact HP10.1);clear HP10;have n0_:=aM (hp_);have n1_:=aM ((by rw [hw];exact below_set (HB.out) GB9.out:Below w.heap.size w w11));clear HO_3;clear HB;have HO_3:=n0_;have HB:=n1_;clear n0_ n1_;clear hg hw hp_))
        go_roundg k1
        case measure=>have:=HK1.out;omega
        case rel=>exact ⟨(y153),(wrap64 (x4_1 + 1)),qrs,H',⟨by have:=HK1.out;omega⟩,⟨qra HO_3.out⟩,⟨by exact bw⟩⟩
       ·rw [if_neg c8] at H;exact absurd H (by simp)
      ·rw [if_neg c7] at H;exact absurd H (by simp)
     ·rw [if_neg c6] at H;have c6b0:decide (x4_1 < (l0.length:Int)) = false:=decide_eq_false c6;clear c6;obtain rfl:=Option.some.inj H;go_wp2
      go_ret
      exact ⟨_,by first|rfl|(simp [errW_none,errW_some] <;> rfl)|(simp [*,errW_none,errW_some] <;> rfl),by (with_reducible repeat (first|apply Kd.R_alloc|apply Kd.R_drewN|apply Kd.R_drew));exact HO_3.out,by exact bw⟩
  ·rw [if_neg c3] at H;exact absurd H (by simp)
 ·rw [if_neg c2] at H;exact absurd H (by simp)


/-! ### laws_toIntSS: function 103 -/
def laws_toIntSS.l0:Nat → List (List Int) → List (List Int) → Int → Option ((List (List Int)))
 | 0,_,_,_=>none
 | k + 1,x0,x3,x4=>if x4 < (x0.length:Int) then (if 0 ≤ x4 then ((laws_toIntS.f k (rd_LI x0 x4)).bind fun t753=>(if x4 < (x3.length:Int) then (laws_toIntSS.l0 k x0 (x3.set (x4:Int).toNat t753) (wrap64 (x4 + 1))) else (none))) else (none)) else (some x3)
def laws_toIntSS.f (k:Nat) (l0:List (List Int)):Option ((List (List Int))):=if 0 ≤ (l0.length:Int) then (if ((l0.length:Int):Int).toNat ≤ 11728124029610 then (laws_toIntSS.l0 k l0 (List.replicate ((l0.length:Int):Int).toNat []) 0) else (none)) else (none)
theorem laws_toIntSS.mono_l:∀ k,(∀ y0 y1 y2,LeO (laws_toIntSS.l0 k y0 y1 y2) (laws_toIntSS.l0 (k + 1) y0 y1 y2))
 | 0=>fun _ _ _ r h=>by simp [laws_toIntSS.l0] at h
 | k + 1=>by
  have ih0:=laws_toIntSS.mono_l k
  ·intro y0 y1 y2;unfold laws_toIntSS.l0
   repeat' with_reducible first|exact ih0 _ _ _|exact laws_toIntS.mono _ _|exact LeO.refl _|exact LeO.none _|refine LeO.ite ?_ ?_|refine LeO.bind ?_ (fun _=>?_)
theorem laws_toIntSS.mono:∀ a0 k,LeO (laws_toIntSS.f k a0) (laws_toIntSS.f (k + 1) a0):=by
 intro a0 k;have ih0:=laws_toIntSS.mono_l k;unfold laws_toIntSS.f
 repeat' with_reducible first|exact ih0 _ _ _|exact laws_toIntS.mono _ _|exact LeO.refl _|exact LeO.none _|refine LeO.ite ?_ ?_|refine LeO.bind ?_ (fun _=>?_)
set_option maxHeartbeats 8000000 in
set_option maxRecDepth 100000 in
theorem laws_toIntSS.calls (k:Nat) (A0:Option Addr) (c0:Nat) (l0:List (List Int)) (r:List (List Int)) (w:World) (hr0:Kd.C (Kd.slice 3 (Kd.int .i64)) w A0 l0.length l0) (hc0:l0.length ≤ c0) (h:laws_toIntSS.f k l0 = some r) :
  Calls Try.prog 103 #[.slice A0 l0.length c0] w fun e w'=>∃ v0_:Value,e = .returned (v0_) ∧ Kd.S (Kd.slice 3 (Kd.int .i64)) 22 w' w.heap.size (fun _=>True) v0_ r ∧ Below w.heap.size w w':=by
 have HR0:=aM hr0;have HC0:=aM hc0;clear hr0 hc0;have HB:=aM (Below.refl w.heap.size w);have H:(if 0 ≤ (l0.length:Int) then (if ((l0.length:Int):Int).toNat ≤ 11728124029610 then (laws_toIntSS.l0 k l0 (List.replicate ((l0.length:Int):Int).toNat []) 0) else (none)) else (none)) = some r:=h;clear h;by_cases c2:0 ≤ (l0.length:Int)
 ·rw [if_pos c2] at H;have c2b0:=eq_true c2;have c2b1:decide (0 ≤ (l0.length:Int)) = true:=decide_eq_true c2;clear c2;by_cases c3:((l0.length:Int):Int).toNat ≤ 11728124029610
  ·rw [if_pos c3] at H;have c3b0:=eq_true c3;have c3b1:decide (((l0.length:Int):Int).toNat ≤ 11728124029610) = true:=decide_eq_true c3;clear c3;obtain ⟨y749,hy749⟩:∃ y_:List (List Int),y_ = (List.replicate ((l0.length:Int):Int).toNat []):=⟨_,rfl⟩;replace H:(laws_toIntSS.l0 k l0 y749 0) = some r:=by first|(rw [hy749];with_reducible exact H)|(have H2_:=(Option.bind_some _ _).symm.trans H;rw [hy749];with_reducible exact H2_)|(have H2_:=(Option.bind_some _ _).symm.trans H;with_reducible exact H2_)|with_reducible exact H|(rw [hy749];exact H)|exact H
   have Ny749:=aM hy749;clear hy749;have H':=aM H;clear H;go_enter Try.func103,Try.ntmps103;go_wp2_with (first|((with_reducible refine gate_dst (N:=7) rfl ?_);refine Kd.S_make (Kd.slice 3 (Kd.int .i64)) _ 22 rfl (N:=7) rfl 51 _ _ rfl (l0.length:Int) rfl rfl Try.underlying51 (.slice none 0 0) 24 info22 rfl (by decide) (by omega) [] (ok:=fun _=>True) (okp:=fun _=>True) ⟨_,rfl,Kd.R_nil _ _ _ _ _⟩ (fun _ hk=>hk) trivial (of_decide_eq_true ab) (Nat.le_trans (Nat.mul_le_mul_right _ (of_decide_eq_true ab:(l0.length:Int).toNat ≤ 11728124029610)) (by omega)) (Below.refl _ _) (Nat.le_refl _) ?_;intro v750 w4 ho5 hb hg_ hnew_;clear hg_ hnew_;(first|rw [← Ny749.out] at ho5|(simp only [Int.reduceToNat] at ho5;rw [← Ny749.out] at ho5));have n0_:=aM (Kd.S_lower ho5 (below_size bw));have n1_:=aM (below_step bw hb);clear HB;have HO751:=n0_;have HB:=n1_;clear n0_ n1_;clear hb ho5))
   go_loopg [4] k (fun kq v4 w'=>∃ (x3_1:List (List Int)) (x4_1:Int),v4 = .int .i64 x4_1 ∧ Aside0 (laws_toIntSS.l0 kq l0 x3_1 x4_1 = some r) ∧ Aside0 (kq ≤ k) ∧ Aside0 (Kd.S (Kd.slice 3 (Kd.int .i64)) 22 w' w.heap.size (fun _=>True) v750 x3_1) ∧ Aside0 (Below w.heap.size w w'))
   case atStart=>exact ⟨(y749),(0),qrs,H',⟨Nat.le_refl _⟩,⟨qsa HO751.out⟩,⟨by exact bw⟩⟩
   case round =>
    clear H';(try clear c1);(try clear c2);(try clear c2b0);(try clear c2b1);(try clear p2);(try clear c3);(try clear c3b0);(try clear c3b1)
    obtain ⟨x3_1,x4_1,rfl,HA,HK1,HO_3,HB⟩:=hrel
    cases gk with
    | zero=>exact absurd HA.out (by simp [laws_toIntSS.l0])
    | succ k1 =>
     have H:=HA.out;clear HA;simp only [laws_toIntSS.l0] at H;by_cases c6:x4_1 < (l0.length:Int)
     ·rw [if_pos c6] at H;have c6b0:decide (x4_1 < (l0.length:Int)) = true:=decide_eq_true c6;clear c6;by_cases c7:0 ≤ x4_1
      ·rw [if_pos c7] at H;have c7b0:decide (0 ≤ x4_1) = true:=decide_eq_true c7;clear c7;replace H:=Option.bind_eq_some_iff.mp H;obtain ⟨t753,A80,H⟩:=H;replace H:(if x4_1 < (x3_1.length:Int) then (laws_toIntSS.l0 k1 l0 (x3_1.set (x4_1:Int).toNat t753) (wrap64 (x4_1 + 1))) else (none)) = some r:=H;have A8:=aM A80;clear A80;by_cases c9:x4_1 < (x3_1.length:Int)
       ·rw [if_pos c9] at H;have c9b0:decide (x4_1 < (x3_1.length:Int)) = true:=decide_eq_true c9;clear c9;obtain ⟨y756,hy756⟩:∃ y_:List (List Int),y_ = (x3_1.set (x4_1:Int).toNat t753):=⟨_,rfl⟩;replace H:(laws_toIntSS.l0 k1 l0 y756 (wrap64 (x4_1 + 1))) = some r:=by first|(rw [hy756];with_reducible exact H)|(have H2_:=(Option.bind_some _ _).symm.trans H;rw [hy756];with_reducible exact H2_)|(have H2_:=(Option.bind_some _ _).symm.trans H;with_reducible exact H2_)|with_reducible exact H|(rw [hy756];exact H)|exact H
        have Ny756:=aM hy756;clear hy756;have H':=aM H;clear H;have p752:0 ≤ (x4_1:Int):=of_decide_eq_true ab;have q752:x4_1 < (l0.length:Int):=of_decide_eq_true ab;obtain ⟨ad752,A752_0,c752_0,e752,hx752_0,hl752_0,hi752_0⟩:=at_LI HR0.out x4_1 p752 q752;cases e752
        replace hx752_0:=(HB.out.cell (World.block_lt_of_cell? w _ hx752_0)).trans hx752_0;have HR752_0:=aM hi752_0;have HC752_0:=aM hl752_0;clear hi752_0 hl752_0;replace p752:=eq_true p752;replace q752:=eq_true q752;go_wp2_with (first|((with_reducible refine gate_callee (f:=57) rfl ?_);refine goesL_ (some 20) rfl rfl Try.func57 kR rfl #[.slice A752_0 (rd_LI l0 x4_1).length c752_0] rfl mq ?_;(with_reducible refine (laws_toIntS.calls k1 _ _ (rd_LI l0 x4_1) t753 _ ?side1 ?side2 A8.out).mono ?_);(case side1=>exact qcs HR752_0.out HB.out);(case side2=>exact HC752_0.out);rintro e w11 ⟨v754,rfl,ho0,hb⟩;refine ⟨_,rfl,?_⟩;have n0_:=aM (Kd.S_elder' (qsa HO_3.out) (Kd.R_base ho0) hb);have n1_:=aM (Kd.R_lower ho0 (below_size bw));have n2_:=aM (below_step bw hb);clear HO_3;clear HB;have HO_3:=n0_;have HO755:=n1_;have HB:=n2_;clear n0_ n1_ n2_;(try clear hb);(try clear hb2);(try clear hk);(try clear hi);(try clear ho0);have p10:0 ≤ (x4_1:Int):=of_decide_eq_true ab;have q10:(x4_1:Int) < ((x3_1.length:Int):Int):=of_decide_eq_true ab;obtain ⟨go10,co10,eo10,gb10,gl10,cl10,HG10⟩:=Kd.S_form HO_3.out (by omega);(first|cases eo10|(injection eo10 with ea_ en_ ec_;(first|subst ea_|(injection ea_ with ea_;subst ea_));subst ec_;clear en_));have GB10:=aM gb10;have GG10:=aM HG10;clear gb10 gl10 HG10;obtain ⟨_,ce10,hcl10,hM10,hcc10,hfr10,_,_⟩:=Kd.S_elem HO_3.out [] (x4_1:Int) p10 q10;obtain ⟨ve10_0,rfl,ge10_0⟩:=hM10;have hx10_0:=hcc10 0 _ rfl;have hf10_0:=hfr10 0;(try simp only [show ((Kd.slice 3 (Kd.int .i64))).sz = 1 from rfl,Nat.mul_one,Nat.add_zero] at hx10_0);(try simp only [show ((Kd.slice 3 (Kd.int .i64))).sz = 1 from rfl,Nat.mul_one,Nat.add_zero] at hf10_0);clear hcl10 hcc10 hfr10;(try clear hM10);replace p10:=eq_true p10;replace q10:=eq_true q10;obtain ⟨Ao12,co12,eo12⟩:=Kd.R_slice HO755.out;subst eo12;have n_:=aM (Kd.S_mono (ok':=(fun k_=>some k_ ≠ (.slice Ao12 t753.length co12:Value).ownBlock)) HO_3.out (fun k_ hk=>hk.2));clear HO_3;have HO_3:=n_;clear n_;have HX13:=aM (show Kd.S (Kd.slice 3 (Kd.int .i64)) 22 w11 w.heap.size (fun k_=>((fun _=>True)) k_ ∧ ¬ ((fun k_=>some k_ = (.slice Ao12 t753.length co12:Value).ownBlock)) k_) (.slice (some ⟨go10,0,none⟩) x3_1.length co10) x3_1 from (by (with_reducible repeat (first|apply Kd.S_alloc|apply Kd.S_drewN|apply Kd.S_drew));exact Kd.S_mono HO_3.out (fun k_ hk=>⟨trivial,fun e_=>hk e_⟩)));obtain ⟨oki13,ce13,hcl13,hM13,hcc13,hfr13,hoki13,hH13⟩:=Kd.S_elem HX13.out [] (x4_1:Int) (of_decide_eq_true ab) (by have h_:(x4_1:Int) < ((x3_1.length:Int):Int):=of_decide_eq_true ab;first|exact h_|(have e_:=(Kd.S_reads' HO_3.out).1;omega)|simpa using h_);obtain ⟨ve13_0,rfl,ge13_0⟩:=hM13;have HP13:=Kd.S_seg hH13 (of_decide_eq_true ab) (by have h_:(x4_1:Int) < ((x3_1.length:Int):Int):=of_decide_eq_true ab;first|exact h_|(have e_:=(Kd.S_reads' HO_3.out).1;omega)|simpa using h_) (seg:=[.slice Ao12 t753.length co12]) (j:=0) (show 1 ≤ 1 from by decide) (x':=t753) (Kd.M_row (Kd.R_mono (Kd.R_tight rfl (Kd.R_mono (ok':=fun k_=>((fun _=>True)) k_ ∧ k_ ≠ go10) (Kd.R_apart' (HO755.out) (Kd.S_typed HO_3.out) (by decide)) (fun k_ hk=>⟨trivial,fun e_=>(hk.2) (by rw [e_];rfl)⟩))) (fun _ h_=>Or.inr (h_)))) (fun _ hk=>hk) (fun k_ hk_=>((Kd.R_mono (ok':=fun k_=>((fun _=>True)) k_ ∧ k_ ≠ go10) (Kd.R_apart' (HO755.out) (Kd.S_typed HO_3.out) (by decide)) (fun k_ hk=>⟨trivial,fun e_=>(hk.2) (by rw [e_];rfl)⟩))).1 k_ hk_.symm);have hx13_0:=hcc13 0 _ rfl;(try simp only [show ((Kd.slice 3 (Kd.int .i64))).sz = 1 from rfl,Nat.mul_one,Nat.add_zero] at hx13_0);have hf13_0:=hfr13 0;(try simp only [show ((Kd.slice 3 (Kd.int .i64))).sz = 1 from rfl,Nat.mul_one,Nat.add_zero] at hf13_0);clear hcl13 hcc13 hfr13;(try clear hM13);clear hoki13 hH13;(try simp only [show ((Kd.slice 3 (Kd.int .i64))).sz = 1 from rfl,Nat.mul_one,Nat.add_zero] at HP13))|((with_reducible refine gate_store (t:=22) (p:=21) rfl ?_);refine store_event (t:=22) (p:=21) (v:=?vo_w14) (w1:=(w11.setCell ⟨go10,(x4_1:Int).toNat,none⟩ (.slice Ao12 t753.length co12))) ?hg ?ho ?hn ?hr ?_;(case ho=>rfl);(case hg=>rfl);(case hn=>rfl);(case hr=>first|(go_simp;done)|(go_simp;rfl));intro w14 hw;have hg:w11.grownBy w14 (some go10):=(by rw [hw];exact HP13.2);have hp_:Kd.S (Kd.slice 3 (Kd.int .i64)) 22 w14 w.heap.size (fun _=>True) (.slice (some ⟨go10,0,none⟩) x3_1.length co10) y756:=(by rw [hw,Ny756.out];exact HP13.1);clear HP13;have n0_:=aM (hp_);have n1_:=aM ((by rw [hw];exact below_set (HB.out) GB10.out:Below w.heap.size w w14));clear HO_3;clear HB;clear HO755;have HO_3:=n0_;have HB:=n1_;clear n0_ n1_;clear hg hw hp_))
        go_roundg k1
        case measure=>have:=HK1.out;omega
        case rel=>exact ⟨(y756),(wrap64 (x4_1 + 1)),qrs,H',⟨by have:=HK1.out;omega⟩,⟨qsa HO_3.out⟩,⟨by exact bw⟩⟩
       ·rw [if_neg c9] at H;exact absurd H (by simp)
      ·rw [if_neg c7] at H;exact absurd H (by simp)
     ·rw [if_neg c6] at H;have c6b0:decide (x4_1 < (l0.length:Int)) = false:=decide_eq_false c6;clear c6;obtain rfl:=Option.some.inj H;go_wp2
      go_ret
      exact ⟨_,by first|rfl|(simp [errW_none,errW_some] <;> rfl)|(simp [*,errW_none,errW_some] <;> rfl),by (with_reducible repeat (first|apply Kd.S_alloc|apply Kd.S_drewN|apply Kd.S_drew));exact HO_3.out,by exact bw⟩
  ·rw [if_neg c3] at H;exact absurd H (by simp)
 ·rw [if_neg c2] at H;exact absurd H (by simp)


/-! ### laws_toGame: function 40 -/
def laws_toGame.f (k:Nat) (a0_0:Int) (l0_1:List (List Int)):Option (Int × (List (List Int))):=(laws_toIntSS.f k l0_1).bind fun t760=>(some (a0_0,t760))
theorem laws_toGame.mono:∀ a0 a1 k,LeO (laws_toGame.f k a0 a1) (laws_toGame.f (k + 1) a0 a1):=by
 intro a0 a1 k;unfold laws_toGame.f
 repeat' with_reducible first|exact laws_toIntSS.mono _ _|exact LeO.refl _|exact LeO.none _|refine LeO.ite ?_ ?_|refine LeO.bind ?_ (fun _=>?_)
set_option maxHeartbeats 8000000 in
set_option maxRecDepth 100000 in
theorem laws_toGame.calls (k:Nat) (a0_0:Int) (A0_1:Option Addr) (c0_1:Nat) (l0_1:List (List Int)) (r1:Int) (r2:List (List Int)) (w:World) (hr0_1:Kd.C (Kd.slice 3 (Kd.int .i64)) w A0_1 l0_1.length l0_1) (hc0_1:l0_1.length ≤ c0_1) (h:laws_toGame.f k a0_0 l0_1 = some (r1,r2)) :
  Calls Try.prog 40 #[.agg #[.int .i64 a0_0,.slice A0_1 l0_1.length c0_1]] w fun e w'=>∃ v1_:Value,e = .returned (.agg #[.int .i64 r1,v1_]) ∧ Kd.S (Kd.slice 3 (Kd.int .i64)) 22 w' w.heap.size (fun _=>True) v1_ r2 ∧ Below w.heap.size w w':=by
 have hu53:=Try.underlying53;have hu57:=Try.underlying57;have HR0_1:=aM hr0_1;have HC0_1:=aM hc0_1;clear hr0_1 hc0_1;have HB:=aM (Below.refl w.heap.size w);have H:((laws_toIntSS.f k l0_1).bind fun t760=>(some (a0_0,t760))) = some (r1,r2):=h;clear h;replace H:=Option.bind_eq_some_iff.mp H;obtain ⟨t760,A20,H⟩:=H;replace H:(some (a0_0,t760)) = some (r1,r2):=H;have A2:=aM A20;clear A20;simp only [Option.some.injEq,Prod.mk.injEq] at H;obtain ⟨rfl,rfl⟩:=H;go_enter Try.func40,Try.ntmps40;go_wp2_with (first|((with_reducible refine gate_dst (N:=1) rfl ?_);refine box_event ?hg (N:=1) ?hd (cs:=#[.int .i64 a0_0,.slice A0_1 l0_1.length c0_1]) (t:=53) ?hr ?_;(case hd=>rfl);(case hg=>rfl);(case hr=>first|(go_simp;done)|(go_simp;rfl));intro gb757 hg w3 hbox hb;have n0_:=aM (below_step bw hb);have n1_:=aM (hbox);have n2_:=aM ((by rw [hg];exact (below_size bw):w.heap.size ≤ gb757));have n3_:=aM ((by rw [hg];exact (below_size bw):w.heap.size ≤ gb757));clear HB;have HB:=n0_;have BK757:=n1_;have GW757:=n2_;have GE757:=n3_;clear n0_ n1_ n2_ n3_;clear hb hbox hg)|((with_reducible refine gate_dst (N:=2) rfl ?_);refine box_event ?hg (N:=2) ?hd (cs:=#[.int .i64 0,.slice none 0 0]) (t:=57) ?hr ?_;(case hd=>rfl);(case hg=>rfl);(case hr=>first|(go_simp;done)|(go_simp;rfl));intro gb758 hg w4 hbox hb;have n0_:=aM (blk_below (g:=gb757) (o:=.cells #[.int .i64 a0_0,.slice A0_1 l0_1.length c0_1] 53 (0,0)) bk hb);have n1_:=aM (below_step bw hb);have n2_:=aM (hbox);have n3_:=aM ((by rw [hg];exact (below_size bw):w.heap.size ≤ gb758));have n4_:=aM ((by rw [hg];exact (below_size bw):w.heap.size ≤ gb758));have n5_:=aM ((by rw [hg];exact Nat.ne_of_lt (blk_lt (g:=gb757) (o:=.cells #[.int .i64 a0_0,.slice A0_1 l0_1.length c0_1] 53 (0,0)) bk):gb757 ≠ gb758));have n6_:=aM ((by rw [hg];exact Nat.ne_of_gt (blk_lt (g:=gb757) (o:=.cells #[.int .i64 a0_0,.slice A0_1 l0_1.length c0_1] 53 (0,0)) bk):gb758 ≠ gb757));clear BK757;clear HB;have BK757:=n0_;have HB:=n1_;have BK758:=n2_;have GW758:=n3_;have GE758:=n4_;have NB757_758:=n5_;have NB758_757:=n6_;clear n0_ n1_ n2_ n3_ n4_ n5_ n6_;clear hb hbox hg)|((with_reducible refine gate_dst (N:=3) rfl ?_);refine box_event ?hg (N:=3) ?hd (cs:=#[.int .i64 0,.slice none 0 0]) (t:=57) ?hr ?_;(case hd=>rfl);(case hg=>rfl);(case hr=>first|(go_simp;done)|(go_simp;rfl));intro gb759 hg w5 hbox hb;have n0_:=aM (blk_below (g:=gb757) (o:=.cells #[.int .i64 a0_0,.slice A0_1 l0_1.length c0_1] 53 (0,0)) bk hb);have n1_:=aM (blk_below (g:=gb758) (o:=.cells #[.int .i64 0,.slice none 0 0] 57 (0,0)) bk hb);have n2_:=aM (below_step bw hb);have n3_:=aM (hbox);have n4_:=aM ((by rw [hg];exact (below_size bw):w.heap.size ≤ gb759));have n5_:=aM ((by rw [hg];exact (below_size bw):w.heap.size ≤ gb759));have n6_:=aM ((by rw [hg];exact Nat.ne_of_lt (blk_lt (g:=gb757) (o:=.cells #[.int .i64 a0_0,.slice A0_1 l0_1.length c0_1] 53 (0,0)) bk):gb757 ≠ gb759));have n7_:=aM ((by rw [hg];exact Nat.ne_of_gt (blk_lt (g:=gb757) (o:=.cells #[.int .i64 a0_0,.slice A0_1 l0_1.length c0_1] 53 (0,0)) bk):gb759 ≠ gb757));have n8_:=aM ((by rw [hg];exact Nat.ne_of_lt (blk_lt (g:=gb758) (o:=.cells #[.int .i64 0,.slice none 0 0] 57 (0,0)) bk):gb758 ≠ gb759));have n9_:=aM ((by rw [hg];exact Nat.ne_of_gt (blk_lt (g:=gb758) (o:=.cells #[.int .i64 0,.slice none 0 0] 57 (0,0)) bk):gb759 ≠ gb758));clear BK757;clear BK758;clear HB;have BK757:=n0_;have BK758:=n1_;have HB:=n2_;have BK759:=n3_;have GW759:=n4_;have GE759:=n5_;have NB757_759:=n6_;have NB759_757:=n7_;have NB758_759:=n8_;have NB759_758:=n9_;clear n0_ n1_ n2_ n3_ n4_ n5_ n6_ n7_ n8_ n9_;clear hb hbox hg;have hnb6:=NB757_758.out;have hnc6:=NB758_757.out;have hnb7:=NB757_759.out;have hnc7:=NB759_757.out;have hcz8_0:w5.cell? ⟨gb757,0,none⟩ = some (.int .i64 a0_0):=(blk_cell BK757.out 0).trans rfl;have hcz8_1:w5.cell? ⟨gb757,1,none⟩ = some (.slice A0_1 l0_1.length c0_1):=(blk_cell BK757.out 1).trans rfl;have hfz8_0:=blk_frozen BK757.out 0;have hfz8_1:=blk_frozen BK757.out 1;have hnb9:=NB759_758.out;have hnc9:=NB758_759.out;have hcz10_0:w5.cell? ⟨gb759,0,none⟩ = some (.int .i64 0):=(blk_cell BK759.out 0).trans rfl;have hcz10_1:w5.cell? ⟨gb759,1,none⟩ = some (.slice none 0 0):=(blk_cell BK759.out 1).trans rfl;have hfz10_0:=blk_frozen BK759.out 0;have hfz10_1:=blk_frozen BK759.out 1)|((with_reducible refine gate_callee (f:=103) rfl ?_);refine goesL_ (some 9) rfl rfl Try.func103 kR rfl #[.slice A0_1 l0_1.length c0_1] rfl mq ?_;(with_reducible refine (laws_toIntSS.calls k _ _ l0_1 t760 _ ?side1 ?side2 A2.out).mono ?_);(case side1=>exact Kd.C_below HR0_1.out bw);(case side2=>exact HC0_1.out);rintro e w11 ⟨v761,rfl,ho0,hb⟩;refine ⟨_,rfl,?_⟩;have n0_:=aM (Kd.S_lower ho0 (below_size bw));have n1_:=aM (blk_below (g:=gb757) (o:=.cells #[.int .i64 a0_0,.slice A0_1 l0_1.length c0_1] 53 (0,0)) (by (with_reducible repeat (first|refine blk_drewN ?_ _|refine blk_drew ?_|refine blk_alloc ?_ _));refine blk_far ?_ NB757_759.out _;(with_reducible repeat (first|refine blk_drewN ?_ _|refine blk_drew ?_|refine blk_alloc ?_ _));exact BK757.out) hb);have n2_:=aM (blk_below (g:=gb758) (o:=.cells #[.int .i64 0,.slice none 0 0] 57 (0,0)) (by (with_reducible repeat (first|refine blk_drewN ?_ _|refine blk_drew ?_|refine blk_alloc ?_ _));refine blk_far ?_ NB758_759.out _;(with_reducible repeat (first|refine blk_drewN ?_ _|refine blk_drew ?_|refine blk_alloc ?_ _));exact BK758.out) hb);have n3_:=aM (blk_below (g:=gb759) (o:=.cells #[.int .i64 a0_0,.slice none 0 0] 57 (0,0)) (by (with_reducible repeat (first|refine blk_drewN ?_ _|refine blk_drew ?_|refine blk_alloc ?_ _));refine blk_put (cs:=#[.int .i64 0,.slice none 0 0]) ?_ 0 _ rfl;(with_reducible repeat (first|refine blk_drewN ?_ _|refine blk_drew ?_|refine blk_alloc ?_ _));exact BK759.out) hb);have n4_:=aM (below_step bw hb);clear BK757;clear BK758;clear BK759;clear HB;have HO762:=n0_;have BK757:=n1_;have BK758:=n2_;have BK759:=n3_;have HB:=n4_;clear n0_ n1_ n2_ n3_ n4_;(try clear hb);(try clear hb2);(try clear hk);(try clear hi);(try clear ho0);obtain ⟨Ao12,co12,eo12⟩:=Kd.S_slice HO762.out;subst eo12;have hcz13_0:w11.cell? ⟨gb759,0,none⟩ = some (.int .i64 a0_0):=(blk_cell BK759.out 0).trans rfl;have hcz13_1:w11.cell? ⟨gb759,1,none⟩ = some (.slice none 0 0):=(blk_cell BK759.out 1).trans rfl;have hfz13_0:=blk_frozen BK759.out 0;have hfz13_1:=blk_frozen BK759.out 1;have hcz14_0:w11.cell? ⟨gb758,0,none⟩ = some (.int .i64 0):=(blk_cell BK758.out 0).trans rfl;have hcz14_1:w11.cell? ⟨gb758,1,none⟩ = some (.slice none 0 0):=(blk_cell BK758.out 1).trans rfl;have hfz14_0:=blk_frozen BK758.out 0;have hfz14_1:=blk_frozen BK758.out 1))
 refine bodyPost_ret (results_cell_row rfl _ _ gb758 57 #[.int .i64 a0_0,.slice Ao12 t760.length co12] (0,0) _ rfl (by (with_reducible repeat (first|refine blk_drewN ?_ _|refine blk_drew ?_|refine blk_alloc ?_ _));refine blk_put (cs:=#[.int .i64 a0_0,.slice none 0 0]) ?_ 1 _ rfl;(with_reducible repeat (first|refine blk_drewN ?_ _|refine blk_drew ?_|refine blk_alloc ?_ _));refine blk_put (cs:=#[.int .i64 0,.slice none 0 0]) ?_ 0 _ rfl;(with_reducible repeat (first|refine blk_drewN ?_ _|refine blk_drew ?_|refine blk_alloc ?_ _));refine blk_far ?_ NB758_759.out _;(with_reducible repeat (first|refine blk_drewN ?_ _|refine blk_drew ?_|refine blk_alloc ?_ _));exact BK758.out) Try.underlying57 rfl kR) rfl ?_;exact ⟨_,by first|rfl|(simp [errW_none,errW_some] <;> rfl)|(simp [*,errW_none,errW_some] <;> rfl),by (with_reducible repeat (first|apply Kd.S_alloc|apply Kd.S_drewN|apply Kd.S_drew));exact Kd.S_mono (Kd.S_far (p:=⟨gb758,1,none⟩) (Kd.S_far (p:=⟨gb758,0,none⟩) (Kd.S_far (p:=⟨gb759,1,none⟩) (Kd.S_types (Kd.S_types HO762.out BK759.out (by decide)) BK758.out (by decide)) (fun _ hk=>hk.1.2) (.slice Ao12 t760.length co12)) (fun _ hk=>hk.2) (.int .i64 a0_0)) (fun _ hk=>hk.2) (.slice Ao12 t760.length co12)) (fun _ hk=>trivial),by exact bw⟩


/-! ### laws_eqIntS: function 33 -/
def laws_eqIntS.l0:Nat → List Int → List Int → Int → Option (Bool)
 | 0,_,_,_=>none
 | k + 1,x0,x1,x5=>if x5 < (x0.length:Int) then (if 0 ≤ x5 then (if x5 < (x1.length:Int) then (if (rd x0 x5) = (rd x1 x5) then (laws_eqIntS.l0 k x0 x1 (wrap64 (x5 + 1))) else (some false)) else (none)) else (none)) else (some true)
def laws_eqIntS.f (k:Nat) (l0:List Int) (l1:List Int):Option (Bool):=if (l0.length:Int) = (l1.length:Int) then (laws_eqIntS.l0 k l0 l1 0) else (some false)
theorem laws_eqIntS.mono_l:∀ k,(∀ y0 y1 y2,LeO (laws_eqIntS.l0 k y0 y1 y2) (laws_eqIntS.l0 (k + 1) y0 y1 y2))
 | 0=>fun _ _ _ r h=>by simp [laws_eqIntS.l0] at h
 | k + 1=>by
  have ih0:=laws_eqIntS.mono_l k
  ·intro y0 y1 y2;unfold laws_eqIntS.l0
   repeat' with_reducible first|exact ih0 _ _ _|exact LeO.refl _|exact LeO.none _|refine LeO.ite ?_ ?_|refine LeO.bind ?_ (fun _=>?_)
theorem laws_eqIntS.mono:∀ a0 a1 k,LeO (laws_eqIntS.f k a0 a1) (laws_eqIntS.f (k + 1) a0 a1):=by
 intro a0 a1 k;have ih0:=laws_eqIntS.mono_l k;unfold laws_eqIntS.f
 repeat' with_reducible first|exact ih0 _ _ _|exact LeO.refl _|exact LeO.none _|refine LeO.ite ?_ ?_|refine LeO.bind ?_ (fun _=>?_)
set_option maxHeartbeats 8000000 in
set_option maxRecDepth 100000 in
theorem laws_eqIntS.calls (k:Nat) (A0:Option Addr) (c0:Nat) (l0:List Int) (A1:Option Addr) (c1:Nat) (l1:List Int) (r:Bool) (w:World) (hr0:Kd.C (Kd.int .i64) w A0 l0.length l0) (hc0:l0.length ≤ c0) (hr1:Kd.C (Kd.int .i64) w A1 l1.length l1) (hc1:l1.length ≤ c1) (h:laws_eqIntS.f k l0 l1 = some r) :
  Calls Try.prog 33 #[.slice A0 l0.length c0,.slice A1 l1.length c1] w fun e w'=>e = .returned (.bool r) ∧ Drawn0 w w':=by
 have HR0:=aM hr0;have HC0:=aM hc0;clear hr0 hc0;have HR1:=aM hr1;have HC1:=aM hc1;clear hr1 hc1;have H:(if (l0.length:Int) = (l1.length:Int) then (laws_eqIntS.l0 k l0 l1 0) else (some false)) = some r:=h;clear h;by_cases c3:(l0.length:Int) = (l1.length:Int)
 ·rw [if_pos c3] at H;have c3b0:((l0.length:Int) == (l1.length:Int)) = true:=beq_iff_eq.mpr c3;have c3b1:((l0.length:Int) != (l1.length:Int)) = false:=bne_eq_false_iff_eq.mpr c3;have c3b2:(l0.length == l1.length) = true:=by first|simpa using c3|(simp at c3 ⊢;omega)
  clear c3;have H':=aM H;clear H;go_enter Try.func33,Try.ntmps33;go_wp2
  repeat (go_quiet (fail);try go_wp2)
  go_loopg [5] k (fun kq v5 w'=>∃ (x5_1:Int),v5 = .int .i64 x5_1 ∧ Aside0 (laws_eqIntS.l0 kq l0 l1 x5_1 = some r) ∧ Aside0 (kq ≤ k) ∧ Drawn0 w w')
  case atStart=>exact ⟨(0),qrs,H',⟨Nat.le_refl _⟩,by repeat (first|exact Drawn0.refl _|apply Drawn0.step)⟩
  case round =>
   clear H';(try clear c1);(try clear p2);(try clear c3);(try clear c3b0);(try clear c3b1);(try clear c3b2)
   obtain ⟨x5_1,rfl,HA,HK1,⟨m1,rfl⟩⟩:=hrel
   cases gk with
   | zero=>exact absurd HA.out (by simp [laws_eqIntS.l0])
   | succ k1 =>
    have H:=HA.out;clear HA;simp only [laws_eqIntS.l0] at H;by_cases c4:x5_1 < (l0.length:Int)
    ·rw [if_pos c4] at H;have c4b0:decide (x5_1 < (l0.length:Int)) = true:=decide_eq_true c4;clear c4;by_cases c5:0 ≤ x5_1
     ·rw [if_pos c5] at H;have c5b0:decide (0 ≤ x5_1) = true:=decide_eq_true c5;clear c5;by_cases c6:x5_1 < (l1.length:Int)
      ·rw [if_pos c6] at H;have c6b0:decide (x5_1 < (l1.length:Int)) = true:=decide_eq_true c6;clear c6;by_cases c7:(rd l0 x5_1) = (rd l1 x5_1)
       ·rw [if_pos c7] at H;have c7b0:((rd l0 x5_1) == (rd l1 x5_1)) = true:=beq_iff_eq.mpr c7;have c7b1:((rd l0 x5_1) != (rd l1 x5_1)) = false:=bne_eq_false_iff_eq.mpr c7;clear c7;have H':=aM H;clear H;have p208:0 ≤ (x5_1:Int):=of_decide_eq_true ab;have q208:x5_1 < (l0.length:Int):=of_decide_eq_true ab;obtain ⟨ad208,e208,hx208_0⟩:=Kd.at_int HR0.out x5_1 p208 q208;cases e208
        replace p208:=eq_true p208;replace q208:=eq_true q208;have p209:0 ≤ (x5_1:Int):=of_decide_eq_true ab;have q209:x5_1 < (l1.length:Int):=of_decide_eq_true ab;obtain ⟨ad209,e209,hx209_0⟩:=Kd.at_int HR1.out x5_1 p209 q209;cases e209
        replace p209:=eq_true p209;replace q209:=eq_true q209;go_wp2
        repeat (go_quiet (fail);try go_wp2)
        go_roundg k1
        case measure=>have:=HK1.out;omega
        case rel=>exact ⟨(wrap64 (x5_1 + 1)),qrs,H',⟨by have:=HK1.out;omega⟩,by repeat (first|exact Drawn0.refl _|apply Drawn0.step)⟩
       ·rw [if_neg c7] at H;have c7b0:((rd l0 x5_1) == (rd l1 x5_1)) = false:=beq_eq_false_iff_ne.mpr c7;have c7b1:((rd l0 x5_1) != (rd l1 x5_1)) = true:=bne_iff_ne.mpr c7;obtain rfl:=Option.some.inj H;have p208:0 ≤ (x5_1:Int):=of_decide_eq_true ab;have q208:x5_1 < (l0.length:Int):=of_decide_eq_true ab;obtain ⟨ad208,e208,hx208_0⟩:=Kd.at_int HR0.out x5_1 p208 q208;cases e208
        replace p208:=eq_true p208;replace q208:=eq_true q208;have p209:0 ≤ (x5_1:Int):=of_decide_eq_true ab;have q209:x5_1 < (l1.length:Int):=of_decide_eq_true ab;obtain ⟨ad209,e209,hx209_0⟩:=Kd.at_int HR1.out x5_1 p209 q209;cases e209
        replace p209:=eq_true p209;replace q209:=eq_true q209;go_wp2
        repeat (go_quiet (fail);try go_wp2)
        go_ret
        exact ⟨by first|rfl|(simp;done)|(simp [*];done),by repeat (first|exact Drawn0.refl _|apply Drawn0.step)⟩
      ·rw [if_neg c6] at H;exact absurd H (by simp)
     ·rw [if_neg c5] at H;exact absurd H (by simp)
    ·rw [if_neg c4] at H;have c4b0:decide (x5_1 < (l0.length:Int)) = false:=decide_eq_false c4;clear c4;obtain rfl:=Option.some.inj H;go_wp2
     repeat (go_quiet (fail);try go_wp2)
     go_ret
     exact ⟨by first|rfl|(simp;done)|(simp [*];done),by repeat (first|exact Drawn0.refl _|apply Drawn0.step)⟩
 ·rw [if_neg c3] at H;have c3b0:((l0.length:Int) == (l1.length:Int)) = false:=beq_eq_false_iff_ne.mpr c3;have c3b1:((l0.length:Int) != (l1.length:Int)) = true:=bne_iff_ne.mpr c3;have c3b2:(l0.length == l1.length) = false:=by first|simpa using c3|(simp at c3 ⊢;omega)
  obtain rfl:=Option.some.inj H;go_enter Try.func33,Try.ntmps33;go_wp2
  repeat (go_quiet (fail);try go_wp2)
  go_ret
  exact ⟨by first|rfl|(simp;done)|(simp [*];done),by repeat (first|exact Drawn0.refl _|apply Drawn0.step)⟩


/-! ### laws_eqIntSS: function 42 -/
def laws_eqIntSS.l0:Nat → List (List Int) → List (List Int) → Int → Option (Bool)
 | 0,_,_,_=>none
 | k + 1,x0,x1,x5=>if x5 < (x0.length:Int) then (if 0 ≤ x5 then (if x5 < (x1.length:Int) then ((laws_eqIntS.f k (rd_LI x0 x5) (rd_LI x1 x5)).bind fun t844=>(if t844 = true then (laws_eqIntSS.l0 k x0 x1 (wrap64 (x5 + 1))) else (some false))) else (none)) else (none)) else (some true)
def laws_eqIntSS.f (k:Nat) (l0:List (List Int)) (l1:List (List Int)):Option (Bool):=if (l0.length:Int) = (l1.length:Int) then (laws_eqIntSS.l0 k l0 l1 0) else (some false)
theorem laws_eqIntSS.mono_l:∀ k,(∀ y0 y1 y2,LeO (laws_eqIntSS.l0 k y0 y1 y2) (laws_eqIntSS.l0 (k + 1) y0 y1 y2))
 | 0=>fun _ _ _ r h=>by simp [laws_eqIntSS.l0] at h
 | k + 1=>by
  have ih0:=laws_eqIntSS.mono_l k
  ·intro y0 y1 y2;unfold laws_eqIntSS.l0
   repeat' with_reducible first|exact ih0 _ _ _|exact laws_eqIntS.mono _ _ _|exact LeO.refl _|exact LeO.none _|refine LeO.ite ?_ ?_|refine LeO.bind ?_ (fun _=>?_)
theorem laws_eqIntSS.mono:∀ a0 a1 k,LeO (laws_eqIntSS.f k a0 a1) (laws_eqIntSS.f (k + 1) a0 a1):=by
 intro a0 a1 k;have ih0:=laws_eqIntSS.mono_l k;unfold laws_eqIntSS.f
 repeat' with_reducible first|exact ih0 _ _ _|exact laws_eqIntS.mono _ _ _|exact LeO.refl _|exact LeO.none _|refine LeO.ite ?_ ?_|refine LeO.bind ?_ (fun _=>?_)
set_option maxHeartbeats 8000000 in
set_option maxRecDepth 100000 in
theorem laws_eqIntSS.calls (k:Nat) (A0:Option Addr) (c0:Nat) (l0:List (List Int)) (A1:Option Addr) (c1:Nat) (l1:List (List Int)) (r:Bool) (w:World) (hr0:Kd.C (Kd.slice 3 (Kd.int .i64)) w A0 l0.length l0) (hc0:l0.length ≤ c0) (hr1:Kd.C (Kd.slice 3 (Kd.int .i64)) w A1 l1.length l1) (hc1:l1.length ≤ c1) (h:laws_eqIntSS.f k l0 l1 = some r) :
  Calls Try.prog 42 #[.slice A0 l0.length c0,.slice A1 l1.length c1] w fun e w'=>e = .returned (.bool r) ∧ Drawn0 w w':=by
 have HR0:=aM hr0;have HC0:=aM hc0;clear hr0 hc0;have HR1:=aM hr1;have HC1:=aM hc1;clear hr1 hc1;have H:(if (l0.length:Int) = (l1.length:Int) then (laws_eqIntSS.l0 k l0 l1 0) else (some false)) = some r:=h;clear h;by_cases c3:(l0.length:Int) = (l1.length:Int)
 ·rw [if_pos c3] at H;have c3b0:((l0.length:Int) == (l1.length:Int)) = true:=beq_iff_eq.mpr c3;have c3b1:((l0.length:Int) != (l1.length:Int)) = false:=bne_eq_false_iff_eq.mpr c3;have c3b2:(l0.length == l1.length) = true:=by first|simpa using c3|(simp at c3 ⊢;omega)
  clear c3;have H':=aM H;clear H;go_enter Try.func42,Try.ntmps42;go_wp2
  repeat (go_quiet (fail);try go_wp2)
  go_loopg [5] k (fun kq v5 w'=>∃ (x5_1:Int),v5 = .int .i64 x5_1 ∧ Aside0 (laws_eqIntSS.l0 kq l0 l1 x5_1 = some r) ∧ Aside0 (kq ≤ k) ∧ Drawn0 w w')
  case atStart=>exact ⟨(0),qrs,H',⟨Nat.le_refl _⟩,by repeat (first|exact Drawn0.refl _|apply Drawn0.step)⟩
  case round =>
   clear H';(try clear c1);(try clear p2);(try clear c3);(try clear c3b0);(try clear c3b1);(try clear c3b2)
   obtain ⟨x5_1,rfl,HA,HK1,⟨m1,rfl⟩⟩:=hrel
   cases gk with
   | zero=>exact absurd HA.out (by simp [laws_eqIntSS.l0])
   | succ k1 =>
    have H:=HA.out;clear HA;simp only [laws_eqIntSS.l0] at H;by_cases c4:x5_1 < (l0.length:Int)
    ·rw [if_pos c4] at H;have c4b0:decide (x5_1 < (l0.length:Int)) = true:=decide_eq_true c4;clear c4;by_cases c5:0 ≤ x5_1
     ·rw [if_pos c5] at H;have c5b0:decide (0 ≤ x5_1) = true:=decide_eq_true c5;clear c5;by_cases c6:x5_1 < (l1.length:Int)
      ·rw [if_pos c6] at H;have c6b0:decide (x5_1 < (l1.length:Int)) = true:=decide_eq_true c6;clear c6;replace H:=Option.bind_eq_some_iff.mp H;obtain ⟨t844,A70,H⟩:=H;replace H:(if t844 = true then (laws_eqIntSS.l0 k1 l0 l1 (wrap64 (x5_1 + 1))) else (some false)) = some r:=H;have A7:=aM A70;clear A70;by_cases c8:t844 = true
       ·subst c8;have H1:(laws_eqIntSS.l0 k1 l0 l1 (wrap64 (x5_1 + 1))) = some r:=by rw [if_pos rfl] at H;exact H
        clear H;have H:=H1;clear H1;have H':=aM H;clear H;have p842:0 ≤ (x5_1:Int):=of_decide_eq_true ab;have q842:x5_1 < (l0.length:Int):=of_decide_eq_true ab;obtain ⟨ad842,A842_0,c842_0,e842,hx842_0,hl842_0,hi842_0⟩:=at_LI HR0.out x5_1 p842 q842;cases e842
        have HR842_0:=aM hi842_0;have HC842_0:=aM hl842_0;clear hi842_0 hl842_0;replace p842:=eq_true p842;replace q842:=eq_true q842;have p843:0 ≤ (x5_1:Int):=of_decide_eq_true ab;have q843:x5_1 < (l1.length:Int):=of_decide_eq_true ab;obtain ⟨ad843,A843_0,c843_0,e843,hx843_0,hl843_0,hi843_0⟩:=at_LI HR1.out x5_1 p843 q843;cases e843
        have HR843_0:=aM hi843_0;have HC843_0:=aM hl843_0;clear hi843_0 hl843_0;replace p843:=eq_true p843;replace q843:=eq_true q843;go_wp2_with (first|(go_at_call 33;(with_reducible refine (laws_eqIntS.calls k1 _ _ (rd_LI l0 x5_1) _ _ (rd_LI l1 x5_1) true _ ?side1 ?side2 ?side3 ?side4 A7.out).mono ?_);(case side1=>repeat (first|exact HR842_0.out|(with_reducible refine Kd.C_alloc ?_ _)|(with_reducible refine Kd.C_drewN ?_ _)|(with_reducible refine Kd.C_drew ?_)));(case side2=>exact HC842_0.out);(case side3=>repeat (first|exact HR843_0.out|(with_reducible refine Kd.C_alloc ?_ _)|(with_reducible refine Kd.C_drewN ?_ _)|(with_reducible refine Kd.C_drew ?_)));(case side4=>exact HC843_0.out);rintro e w' ⟨rfl,⟨nd,rfl⟩⟩;(try first|exact ⟨rfl,_,World.drewN_drewN _ _ _⟩|exact ⟨rfl,_,Eq.trans (World.drewN_drewN _ _ _) (congrArg (World.drewN _) (Nat.add_assoc _ _ _))⟩)))
        repeat (go_quiet (first|(go_at_call 33;(with_reducible refine (laws_eqIntS.calls k1 _ _ (rd_LI l0 x5_1) _ _ (rd_LI l1 x5_1) true _ ?side1 ?side2 ?side3 ?side4 A7.out).mono ?_);(case side1=>repeat (first|exact HR842_0.out|(with_reducible refine Kd.C_alloc ?_ _)|(with_reducible refine Kd.C_drewN ?_ _)|(with_reducible refine Kd.C_drew ?_)));(case side2=>exact HC842_0.out);(case side3=>repeat (first|exact HR843_0.out|(with_reducible refine Kd.C_alloc ?_ _)|(with_reducible refine Kd.C_drewN ?_ _)|(with_reducible refine Kd.C_drew ?_)));(case side4=>exact HC843_0.out);rintro e w' ⟨rfl,⟨nd,rfl⟩⟩;(try first|exact ⟨rfl,_,World.drewN_drewN _ _ _⟩|exact ⟨rfl,_,Eq.trans (World.drewN_drewN _ _ _) (congrArg (World.drewN _) (Nat.add_assoc _ _ _))⟩)));try go_wp2_with (first|(go_at_call 33;(with_reducible refine (laws_eqIntS.calls k1 _ _ (rd_LI l0 x5_1) _ _ (rd_LI l1 x5_1) true _ ?side1 ?side2 ?side3 ?side4 A7.out).mono ?_);(case side1=>repeat (first|exact HR842_0.out|(with_reducible refine Kd.C_alloc ?_ _)|(with_reducible refine Kd.C_drewN ?_ _)|(with_reducible refine Kd.C_drew ?_)));(case side2=>exact HC842_0.out);(case side3=>repeat (first|exact HR843_0.out|(with_reducible refine Kd.C_alloc ?_ _)|(with_reducible refine Kd.C_drewN ?_ _)|(with_reducible refine Kd.C_drew ?_)));(case side4=>exact HC843_0.out);rintro e w' ⟨rfl,⟨nd,rfl⟩⟩;(try first|exact ⟨rfl,_,World.drewN_drewN _ _ _⟩|exact ⟨rfl,_,Eq.trans (World.drewN_drewN _ _ _) (congrArg (World.drewN _) (Nat.add_assoc _ _ _))⟩))))
        go_roundg k1
        case measure=>have:=HK1.out;omega
        case rel=>exact ⟨(wrap64 (x5_1 + 1)),qrs,H',⟨by have:=HK1.out;omega⟩,by repeat (first|exact Drawn0.refl _|apply Drawn0.step)⟩
       ·replace c8:=Bool.eq_false_iff.mpr c8;subst c8;have H1:(some false) = some r:=by rw [if_neg (show ¬ (false = true) by decide)] at H;exact H
        clear H;have H:=H1;clear H1;obtain rfl:=Option.some.inj H;have p842:0 ≤ (x5_1:Int):=of_decide_eq_true ab;have q842:x5_1 < (l0.length:Int):=of_decide_eq_true ab;obtain ⟨ad842,A842_0,c842_0,e842,hx842_0,hl842_0,hi842_0⟩:=at_LI HR0.out x5_1 p842 q842;cases e842
        have HR842_0:=aM hi842_0;have HC842_0:=aM hl842_0;clear hi842_0 hl842_0;replace p842:=eq_true p842;replace q842:=eq_true q842;have p843:0 ≤ (x5_1:Int):=of_decide_eq_true ab;have q843:x5_1 < (l1.length:Int):=of_decide_eq_true ab;obtain ⟨ad843,A843_0,c843_0,e843,hx843_0,hl843_0,hi843_0⟩:=at_LI HR1.out x5_1 p843 q843;cases e843
        have HR843_0:=aM hi843_0;have HC843_0:=aM hl843_0;clear hi843_0 hl843_0;replace p843:=eq_true p843;replace q843:=eq_true q843;go_wp2_with (first|(go_at_call 33;(with_reducible refine (laws_eqIntS.calls k1 _ _ (rd_LI l0 x5_1) _ _ (rd_LI l1 x5_1) false _ ?side1 ?side2 ?side3 ?side4 A7.out).mono ?_);(case side1=>repeat (first|exact HR842_0.out|(with_reducible refine Kd.C_alloc ?_ _)|(with_reducible refine Kd.C_drewN ?_ _)|(with_reducible refine Kd.C_drew ?_)));(case side2=>exact HC842_0.out);(case side3=>repeat (first|exact HR843_0.out|(with_reducible refine Kd.C_alloc ?_ _)|(with_reducible refine Kd.C_drewN ?_ _)|(with_reducible refine Kd.C_drew ?_)));(case side4=>exact HC843_0.out);rintro e w' ⟨rfl,⟨nd,rfl⟩⟩;(try first|exact ⟨rfl,_,World.drewN_drewN _ _ _⟩|exact ⟨rfl,_,Eq.trans (World.drewN_drewN _ _ _) (congrArg (World.drewN _) (Nat.add_assoc _ _ _))⟩)))
        repeat (go_quiet (first|(go_at_call 33;(with_reducible refine (laws_eqIntS.calls k1 _ _ (rd_LI l0 x5_1) _ _ (rd_LI l1 x5_1) false _ ?side1 ?side2 ?side3 ?side4 A7.out).mono ?_);(case side1=>repeat (first|exact HR842_0.out|(with_reducible refine Kd.C_alloc ?_ _)|(with_reducible refine Kd.C_drewN ?_ _)|(with_reducible refine Kd.C_drew ?_)));(case side2=>exact HC842_0.out);(case side3=>repeat (first|exact HR843_0.out|(with_reducible refine Kd.C_alloc ?_ _)|(with_reducible refine Kd.C_drewN ?_ _)|(with_reducible refine Kd.C_drew ?_)));(case side4=>exact HC843_0.out);rintro e w' ⟨rfl,⟨nd,rfl⟩⟩;(try first|exact ⟨rfl,_,World.drewN_drewN _ _ _⟩|exact ⟨rfl,_,Eq.trans (World.drewN_drewN _ _ _) (congrArg (World.drewN _) (Nat.add_assoc _ _ _))⟩)));try go_wp2_with (first|(go_at_call 33;(with_reducible refine (laws_eqIntS.calls k1 _ _ (rd_LI l0 x5_1) _ _ (rd_LI l1 x5_1) false _ ?side1 ?side2 ?side3 ?side4 A7.out).mono ?_);(case side1=>repeat (first|exact HR842_0.out|(with_reducible refine Kd.C_alloc ?_ _)|(with_reducible refine Kd.C_drewN ?_ _)|(with_reducible refine Kd.C_drew ?_)));(case side2=>exact HC842_0.out);(case side3=>repeat (first|exact HR843_0.out|(with_reducible refine Kd.C_alloc ?_ _)|(with_reducible refine Kd.C_drewN ?_ _)|(with_reducible refine Kd.C_drew ?_)));(case side4=>exact HC843_0.out);rintro e w' ⟨rfl,⟨nd,rfl⟩⟩;(try first|exact ⟨rfl,_,World.drewN_drewN _ _ _⟩|exact ⟨rfl,_,Eq.trans (World.drewN_drewN _ _ _) (congrArg (World.drewN _) (Nat.add_assoc _ _ _))⟩))))
        go_ret
        exact ⟨by first|rfl|(simp;done)|(simp [*];done),by repeat (first|exact Drawn0.refl _|apply Drawn0.step)⟩
      ·rw [if_neg c6] at H;exact absurd H (by simp)
     ·rw [if_neg c5] at H;exact absurd H (by simp)
    ·rw [if_neg c4] at H;have c4b0:decide (x5_1 < (l0.length:Int)) = false:=decide_eq_false c4;clear c4;obtain rfl:=Option.some.inj H;go_wp2
     repeat (go_quiet (fail);try go_wp2)
     go_ret
     exact ⟨by first|rfl|(simp;done)|(simp [*];done),by repeat (first|exact Drawn0.refl _|apply Drawn0.step)⟩
 ·rw [if_neg c3] at H;have c3b0:((l0.length:Int) == (l1.length:Int)) = false:=beq_eq_false_iff_ne.mpr c3;have c3b1:((l0.length:Int) != (l1.length:Int)) = true:=bne_iff_ne.mpr c3;have c3b2:(l0.length == l1.length) = false:=by first|simpa using c3|(simp at c3 ⊢;omega)
  obtain rfl:=Option.some.inj H;go_enter Try.func42,Try.ntmps42;go_wp2
  repeat (go_quiet (fail);try go_wp2)
  go_ret
  exact ⟨by first|rfl|(simp;done)|(simp [*];done),by repeat (first|exact Drawn0.refl _|apply Drawn0.step)⟩


/-! ### laws_eqGame: function 43 -/
def laws_eqGame.f (k:Nat) (a0_0:Int) (l0_1:List (List Int)) (a1_0:Int) (l1_1:List (List Int)):Option (Bool):=if a0_0 = a1_0 then ((laws_eqIntSS.f k l0_1 l1_1).bind fun t847=>(if t847 = true then (some true) else (some false))) else (some false)
theorem laws_eqGame.mono:∀ a0 a1 a2 a3 k,LeO (laws_eqGame.f k a0 a1 a2 a3) (laws_eqGame.f (k + 1) a0 a1 a2 a3):=by
 intro a0 a1 a2 a3 k;unfold laws_eqGame.f
 repeat' with_reducible first|exact laws_eqIntSS.mono _ _ _|exact LeO.refl _|exact LeO.none _|refine LeO.ite ?_ ?_|refine LeO.bind ?_ (fun _=>?_)
set_option maxHeartbeats 8000000 in
set_option maxRecDepth 100000 in
theorem laws_eqGame.calls (k:Nat) (a0_0:Int) (A0_1:Option Addr) (c0_1:Nat) (l0_1:List (List Int)) (a1_0:Int) (A1_1:Option Addr) (c1_1:Nat) (l1_1:List (List Int)) (r:Bool) (w:World) (hr0_1:Kd.C (Kd.slice 3 (Kd.int .i64)) w A0_1 l0_1.length l0_1) (hc0_1:l0_1.length ≤ c0_1) (hr1_1:Kd.C (Kd.slice 3 (Kd.int .i64)) w A1_1 l1_1.length l1_1) (hc1_1:l1_1.length ≤ c1_1) (h:laws_eqGame.f k a0_0 l0_1 a1_0 l1_1 = some r) :
  Calls Try.prog 43 #[.agg #[.int .i64 a0_0,.slice A0_1 l0_1.length c0_1],.agg #[.int .i64 a1_0,.slice A1_1 l1_1.length c1_1]] w fun e w'=>e = .returned (.bool r) ∧ Below w.heap.size w w':=by
 have hu57:=Try.underlying57;have HR0_1:=aM hr0_1;have HC0_1:=aM hc0_1;clear hr0_1 hc0_1;have HR1_1:=aM hr1_1;have HC1_1:=aM hc1_1;clear hr1_1 hc1_1;have HB:=aM (Below.refl w.heap.size w);have H:(if a0_0 = a1_0 then ((laws_eqIntSS.f k l0_1 l1_1).bind fun t847=>(if t847 = true then (some true) else (some false))) else (some false)) = some r:=h;clear h;by_cases c3:a0_0 = a1_0
 ·rw [if_pos c3] at H;have c3b0:(a0_0 == a1_0) = true:=beq_iff_eq.mpr c3;have c3b1:(a0_0 != a1_0) = false:=bne_eq_false_iff_eq.mpr c3;clear c3;replace H:=Option.bind_eq_some_iff.mp H;obtain ⟨t847,A40,H⟩:=H;replace H:(if t847 = true then (some true) else (some false)) = some r:=H;have A4:=aM A40;clear A40;by_cases c5:t847 = true
  ·subst c5;have H1:(some true) = some r:=by rw [if_pos rfl] at H;exact H
   clear H;have H:=H1;clear H1;obtain rfl:=Option.some.inj H;go_enter Try.func43,Try.ntmps43;go_wp2_with (first|((with_reducible refine gate_dst (N:=2) rfl ?_);refine box_event ?hg (N:=2) ?hd (cs:=#[.int .i64 a0_0,.slice A0_1 l0_1.length c0_1]) (t:=57) ?hr ?_;(case hd=>rfl);(case hg=>rfl);(case hr=>first|(go_simp;done)|(go_simp;rfl));intro gb845 hg w6 hbox hb;have n0_:=aM (below_step bw hb);have n1_:=aM (hbox);have n2_:=aM ((by rw [hg];exact (below_size bw):w.heap.size ≤ gb845));have n3_:=aM ((by rw [hg];exact (below_size bw):w.heap.size ≤ gb845));clear HB;have HB:=n0_;have BK845:=n1_;have GW845:=n2_;have GE845:=n3_;clear n0_ n1_ n2_ n3_;clear hb hbox hg)|((with_reducible refine gate_dst (N:=3) rfl ?_);refine box_event ?hg (N:=3) ?hd (cs:=#[.int .i64 a1_0,.slice A1_1 l1_1.length c1_1]) (t:=57) ?hr ?_;(case hd=>rfl);(case hg=>rfl);(case hr=>first|(go_simp;done)|(go_simp;rfl));intro gb846 hg w7 hbox hb;have n0_:=aM (blk_below (g:=gb845) (o:=.cells #[.int .i64 a0_0,.slice A0_1 l0_1.length c0_1] 57 (0,0)) bk hb);have n1_:=aM (below_step bw hb);have n2_:=aM (hbox);have n3_:=aM ((by rw [hg];exact (below_size bw):w.heap.size ≤ gb846));have n4_:=aM ((by rw [hg];exact (below_size bw):w.heap.size ≤ gb846));have n5_:=aM ((by rw [hg];exact Nat.ne_of_lt (blk_lt (g:=gb845) (o:=.cells #[.int .i64 a0_0,.slice A0_1 l0_1.length c0_1] 57 (0,0)) bk):gb845 ≠ gb846));have n6_:=aM ((by rw [hg];exact Nat.ne_of_gt (blk_lt (g:=gb845) (o:=.cells #[.int .i64 a0_0,.slice A0_1 l0_1.length c0_1] 57 (0,0)) bk):gb846 ≠ gb845));clear BK845;clear HB;have BK845:=n0_;have HB:=n1_;have BK846:=n2_;have GW846:=n3_;have GE846:=n4_;have NB845_846:=n5_;have NB846_845:=n6_;clear n0_ n1_ n2_ n3_ n4_ n5_ n6_;clear hb hbox hg;have hnb8:=NB845_846.out;have hnc8:=NB846_845.out;have hcz9_0:w7.cell? ⟨gb845,0,none⟩ = some (.int .i64 a0_0):=(blk_cell BK845.out 0).trans rfl;have hcz9_1:w7.cell? ⟨gb845,1,none⟩ = some (.slice A0_1 l0_1.length c0_1):=(blk_cell BK845.out 1).trans rfl;have hfz9_0:=blk_frozen BK845.out 0;have hfz9_1:=blk_frozen BK845.out 1;have hcz10_0:w7.cell? ⟨gb846,0,none⟩ = some (.int .i64 a1_0):=(blk_cell BK846.out 0).trans rfl;have hcz10_1:w7.cell? ⟨gb846,1,none⟩ = some (.slice A1_1 l1_1.length c1_1):=(blk_cell BK846.out 1).trans rfl;have hfz10_0:=blk_frozen BK846.out 0;have hfz10_1:=blk_frozen BK846.out 1)|((with_reducible refine gate_callee (f:=42) rfl ?_);refine goesL_ (some 14) rfl rfl Try.func42 kR rfl #[.slice A0_1 l0_1.length c0_1,.slice A1_1 l1_1.length c1_1] rfl mq ?_;(with_reducible refine (laws_eqIntSS.calls k _ _ l0_1 _ _ l1_1 true _ ?side1 ?side2 ?side3 ?side4 A4.out).mono ?_);(case side1=>exact qcs HR0_1.out HB.out);(case side2=>exact HC0_1.out);(case side3=>exact qcs HR1_1.out HB.out);(case side4=>exact HC1_1.out);rintro e w' ⟨rfl,⟨nd,rfl⟩⟩;refine ⟨_,rfl,?_⟩))
   go_ret
   exact ⟨by first|rfl|(simp [errW_none,errW_some] <;> rfl)|(simp [*,errW_none,errW_some] <;> rfl),by exact bw⟩
  ·replace c5:=Bool.eq_false_iff.mpr c5;subst c5;have H1:(some false) = some r:=by rw [if_neg (show ¬ (false = true) by decide)] at H;exact H
   clear H;have H:=H1;clear H1;obtain rfl:=Option.some.inj H;go_enter Try.func43,Try.ntmps43;go_wp2_with (first|((with_reducible refine gate_dst (N:=2) rfl ?_);refine box_event ?hg (N:=2) ?hd (cs:=#[.int .i64 a0_0,.slice A0_1 l0_1.length c0_1]) (t:=57) ?hr ?_;(case hd=>rfl);(case hg=>rfl);(case hr=>first|(go_simp;done)|(go_simp;rfl));intro gb845 hg w11 hbox hb;have n0_:=aM (below_step bw hb);have n1_:=aM (hbox);have n2_:=aM ((by rw [hg];exact (below_size bw):w.heap.size ≤ gb845));have n3_:=aM ((by rw [hg];exact (below_size bw):w.heap.size ≤ gb845));clear HB;have HB:=n0_;have BK845:=n1_;have GW845:=n2_;have GE845:=n3_;clear n0_ n1_ n2_ n3_;clear hb hbox hg)|((with_reducible refine gate_dst (N:=3) rfl ?_);refine box_event ?hg (N:=3) ?hd (cs:=#[.int .i64 a1_0,.slice A1_1 l1_1.length c1_1]) (t:=57) ?hr ?_;(case hd=>rfl);(case hg=>rfl);(case hr=>first|(go_simp;done)|(go_simp;rfl));intro gb846 hg w12 hbox hb;have n0_:=aM (blk_below (g:=gb845) (o:=.cells #[.int .i64 a0_0,.slice A0_1 l0_1.length c0_1] 57 (0,0)) bk hb);have n1_:=aM (below_step bw hb);have n2_:=aM (hbox);have n3_:=aM ((by rw [hg];exact (below_size bw):w.heap.size ≤ gb846));have n4_:=aM ((by rw [hg];exact (below_size bw):w.heap.size ≤ gb846));have n5_:=aM ((by rw [hg];exact Nat.ne_of_lt (blk_lt (g:=gb845) (o:=.cells #[.int .i64 a0_0,.slice A0_1 l0_1.length c0_1] 57 (0,0)) bk):gb845 ≠ gb846));have n6_:=aM ((by rw [hg];exact Nat.ne_of_gt (blk_lt (g:=gb845) (o:=.cells #[.int .i64 a0_0,.slice A0_1 l0_1.length c0_1] 57 (0,0)) bk):gb846 ≠ gb845));clear BK845;clear HB;have BK845:=n0_;have HB:=n1_;have BK846:=n2_;have GW846:=n3_;have GE846:=n4_;have NB845_846:=n5_;have NB846_845:=n6_;clear n0_ n1_ n2_ n3_ n4_ n5_ n6_;clear hb hbox hg;have hnb13:=NB845_846.out;have hnc13:=NB846_845.out;have hcz14_0:w12.cell? ⟨gb845,0,none⟩ = some (.int .i64 a0_0):=(blk_cell BK845.out 0).trans rfl;have hcz14_1:w12.cell? ⟨gb845,1,none⟩ = some (.slice A0_1 l0_1.length c0_1):=(blk_cell BK845.out 1).trans rfl;have hfz14_0:=blk_frozen BK845.out 0;have hfz14_1:=blk_frozen BK845.out 1;have hcz15_0:w12.cell? ⟨gb846,0,none⟩ = some (.int .i64 a1_0):=(blk_cell BK846.out 0).trans rfl;have hcz15_1:w12.cell? ⟨gb846,1,none⟩ = some (.slice A1_1 l1_1.length c1_1):=(blk_cell BK846.out 1).trans rfl;have hfz15_0:=blk_frozen BK846.out 0;have hfz15_1:=blk_frozen BK846.out 1)|((with_reducible refine gate_callee (f:=42) rfl ?_);refine goesL_ (some 14) rfl rfl Try.func42 kR rfl #[.slice A0_1 l0_1.length c0_1,.slice A1_1 l1_1.length c1_1] rfl mq ?_;(with_reducible refine (laws_eqIntSS.calls k _ _ l0_1 _ _ l1_1 false _ ?side1 ?side2 ?side3 ?side4 A4.out).mono ?_);(case side1=>exact qcs HR0_1.out HB.out);(case side2=>exact HC0_1.out);(case side3=>exact qcs HR1_1.out HB.out);(case side4=>exact HC1_1.out);rintro e w' ⟨rfl,⟨nd,rfl⟩⟩;refine ⟨_,rfl,?_⟩))
   go_ret
   exact ⟨by first|rfl|(simp [errW_none,errW_some] <;> rfl)|(simp [*,errW_none,errW_some] <;> rfl),by exact bw⟩
 ·rw [if_neg c3] at H;have c3b0:(a0_0 == a1_0) = false:=beq_eq_false_iff_ne.mpr c3;have c3b1:(a0_0 != a1_0) = true:=bne_iff_ne.mpr c3;obtain rfl:=Option.some.inj H;go_enter Try.func43,Try.ntmps43;go_wp2_with (first|((with_reducible refine gate_dst (N:=2) rfl ?_);refine box_event ?hg (N:=2) ?hd (cs:=#[.int .i64 a0_0,.slice A0_1 l0_1.length c0_1]) (t:=57) ?hr ?_;(case hd=>rfl);(case hg=>rfl);(case hr=>first|(go_simp;done)|(go_simp;rfl));intro gb845 hg w16 hbox hb;have n0_:=aM (below_step bw hb);have n1_:=aM (hbox);have n2_:=aM ((by rw [hg];exact (below_size bw):w.heap.size ≤ gb845));have n3_:=aM ((by rw [hg];exact (below_size bw):w.heap.size ≤ gb845));clear HB;have HB:=n0_;have BK845:=n1_;have GW845:=n2_;have GE845:=n3_;clear n0_ n1_ n2_ n3_;clear hb hbox hg)|((with_reducible refine gate_dst (N:=3) rfl ?_);refine box_event ?hg (N:=3) ?hd (cs:=#[.int .i64 a1_0,.slice A1_1 l1_1.length c1_1]) (t:=57) ?hr ?_;(case hd=>rfl);(case hg=>rfl);(case hr=>first|(go_simp;done)|(go_simp;rfl));intro gb846 hg w17 hbox hb;have n0_:=aM (blk_below (g:=gb845) (o:=.cells #[.int .i64 a0_0,.slice A0_1 l0_1.length c0_1] 57 (0,0)) bk hb);have n1_:=aM (below_step bw hb);have n2_:=aM (hbox);have n3_:=aM ((by rw [hg];exact (below_size bw):w.heap.size ≤ gb846));have n4_:=aM ((by rw [hg];exact (below_size bw):w.heap.size ≤ gb846));have n5_:=aM ((by rw [hg];exact Nat.ne_of_lt (blk_lt (g:=gb845) (o:=.cells #[.int .i64 a0_0,.slice A0_1 l0_1.length c0_1] 57 (0,0)) bk):gb845 ≠ gb846));have n6_:=aM ((by rw [hg];exact Nat.ne_of_gt (blk_lt (g:=gb845) (o:=.cells #[.int .i64 a0_0,.slice A0_1 l0_1.length c0_1] 57 (0,0)) bk):gb846 ≠ gb845));clear BK845;clear HB;have BK845:=n0_;have HB:=n1_;have BK846:=n2_;have GW846:=n3_;have GE846:=n4_;have NB845_846:=n5_;have NB846_845:=n6_;clear n0_ n1_ n2_ n3_ n4_ n5_ n6_;clear hb hbox hg;have hnb18:=NB845_846.out;have hnc18:=NB846_845.out;have hcz19_0:w17.cell? ⟨gb845,0,none⟩ = some (.int .i64 a0_0):=(blk_cell BK845.out 0).trans rfl;have hcz19_1:w17.cell? ⟨gb845,1,none⟩ = some (.slice A0_1 l0_1.length c0_1):=(blk_cell BK845.out 1).trans rfl;have hfz19_0:=blk_frozen BK845.out 0;have hfz19_1:=blk_frozen BK845.out 1;have hcz20_0:w17.cell? ⟨gb846,0,none⟩ = some (.int .i64 a1_0):=(blk_cell BK846.out 0).trans rfl;have hcz20_1:w17.cell? ⟨gb846,1,none⟩ = some (.slice A1_1 l1_1.length c1_1):=(blk_cell BK846.out 1).trans rfl;have hfz20_0:=blk_frozen BK846.out 0;have hfz20_1:=blk_frozen BK846.out 1))
  go_ret
  exact ⟨by first|rfl|(simp [errW_none,errW_some] <;> rfl)|(simp [*,errW_none,errW_some] <;> rfl),by exact bw⟩


/-! ### laws_szTrade: function 49 -/
def laws_szTrade.f (k:Nat) (l0_0:List (List Int)) (l0_1:List (List Int)) (a1:Int):Option (Int):=(laws_szIntSS.f k l0_0 a1).bind fun t1033=>(if t1033 < 0 then (some (-1)) else ((laws_szIntSS.f k l0_1 t1033).bind fun t1034=>(if t1034 < 0 then (some (-1)) else (some t1034))))
theorem laws_szTrade.mono:∀ a0 a1 a2 k,LeO (laws_szTrade.f k a0 a1 a2) (laws_szTrade.f (k + 1) a0 a1 a2):=by
 intro a0 a1 a2 k;unfold laws_szTrade.f
 repeat' with_reducible first|exact laws_szIntSS.mono _ _ _|exact LeO.refl _|exact LeO.none _|refine LeO.ite ?_ ?_|refine LeO.bind ?_ (fun _=>?_)
set_option maxHeartbeats 8000000 in
set_option maxRecDepth 100000 in
theorem laws_szTrade.calls (k:Nat) (A0_0:Option Addr) (c0_0:Nat) (l0_0:List (List Int)) (A0_1:Option Addr) (c0_1:Nat) (l0_1:List (List Int)) (a1:Int) (r:Int) (w:World) (hr0_0:Kd.C (Kd.slice 3 (Kd.int .i64)) w A0_0 l0_0.length l0_0) (hc0_0:l0_0.length ≤ c0_0) (hr0_1:Kd.C (Kd.slice 3 (Kd.int .i64)) w A0_1 l0_1.length l0_1) (hc0_1:l0_1.length ≤ c0_1) (h:laws_szTrade.f k l0_0 l0_1 a1 = some r) :
  Calls Try.prog 49 #[.agg #[.slice A0_0 l0_0.length c0_0,.slice A0_1 l0_1.length c0_1],.int .i64 a1] w fun e w'=>e = .returned (.int .i64 r) ∧ Below w.heap.size w w':=by
 have hu67:=Try.underlying67;have HR0_0:=aM hr0_0;have HC0_0:=aM hc0_0;clear hr0_0 hc0_0;have HR0_1:=aM hr0_1;have HC0_1:=aM hc0_1;clear hr0_1 hc0_1;have HB:=aM (Below.refl w.heap.size w);have H:((laws_szIntSS.f k l0_0 a1).bind fun t1033=>(if t1033 < 0 then (some (-1)) else ((laws_szIntSS.f k l0_1 t1033).bind fun t1034=>(if t1034 < 0 then (some (-1)) else (some t1034))))) = some r:=h;clear h;replace H:=Option.bind_eq_some_iff.mp H;obtain ⟨t1033,A30,H⟩:=H;replace H:(if t1033 < 0 then (some (-1)) else ((laws_szIntSS.f k l0_1 t1033).bind fun t1034=>(if t1034 < 0 then (some (-1)) else (some t1034)))) = some r:=H;have A3:=aM A30;clear A30;by_cases c4:t1033 < 0
 ·rw [if_pos c4] at H;have c4b0:decide (t1033 < 0) = true:=decide_eq_true c4;clear c4;obtain rfl:=Option.some.inj H;go_enter Try.func49,Try.ntmps49;go_wp2_with (first|((with_reducible refine gate_dst (N:=2) rfl ?_);refine box_event ?hg (N:=2) ?hd (cs:=#[.slice A0_0 l0_0.length c0_0,.slice A0_1 l0_1.length c0_1]) (t:=67) ?hr ?_;(case hd=>rfl);(case hg=>rfl);(case hr=>first|(go_simp;done)|(go_simp;rfl));intro gb1032 hg w5 hbox hb;have n0_:=aM (below_step bw hb);have n1_:=aM (hbox);have n2_:=aM ((by rw [hg];exact (below_size bw):w.heap.size ≤ gb1032));have n3_:=aM ((by rw [hg];exact (below_size bw):w.heap.size ≤ gb1032));clear HB;have HB:=n0_;have BK1032:=n1_;have GW1032:=n2_;have GE1032:=n3_;clear n0_ n1_ n2_ n3_;clear hb hbox hg;have hcz6_0:w5.cell? ⟨gb1032,0,none⟩ = some (.slice A0_0 l0_0.length c0_0):=(blk_cell BK1032.out 0).trans rfl;have hcz6_1:w5.cell? ⟨gb1032,1,none⟩ = some (.slice A0_1 l0_1.length c0_1):=(blk_cell BK1032.out 1).trans rfl;have hfz6_0:=blk_frozen BK1032.out 0;have hfz6_1:=blk_frozen BK1032.out 1)|((with_reducible refine gate_callee (f:=99) rfl ?_);refine goesL_ (some 8) rfl rfl Try.func99 kR rfl #[.slice A0_0 l0_0.length c0_0,.int .i64 a1] rfl mq ?_;(with_reducible refine (laws_szIntSS.calls k _ _ l0_0 a1 t1033 _ ?side1 ?side2 A3.out).mono ?_);(case side1=>exact qcs HR0_0.out HB.out);(case side2=>exact HC0_0.out);rintro e w' ⟨rfl,⟨nd,rfl⟩⟩;refine ⟨_,rfl,?_⟩))
  go_ret
  exact ⟨by first|rfl|(simp [errW_none,errW_some] <;> rfl)|(simp [*,errW_none,errW_some] <;> rfl),by exact bw⟩
 ·rw [if_neg c4] at H;have c4b0:decide (t1033 < 0) = false:=decide_eq_false c4;clear c4;replace H:=Option.bind_eq_some_iff.mp H;obtain ⟨t1034,A70,H⟩:=H;replace H:(if t1034 < 0 then (some (-1)) else (some t1034)) = some r:=H;have A7:=aM A70;clear A70;by_cases c8:t1034 < 0
  ·rw [if_pos c8] at H;have c8b0:decide (t1034 < 0) = true:=decide_eq_true c8;clear c8;obtain rfl:=Option.some.inj H;go_enter Try.func49,Try.ntmps49;go_wp2_with (first|((with_reducible refine gate_dst (N:=2) rfl ?_);refine box_event ?hg (N:=2) ?hd (cs:=#[.slice A0_0 l0_0.length c0_0,.slice A0_1 l0_1.length c0_1]) (t:=67) ?hr ?_;(case hd=>rfl);(case hg=>rfl);(case hr=>first|(go_simp;done)|(go_simp;rfl));intro gb1032 hg w9 hbox hb;have n0_:=aM (below_step bw hb);have n1_:=aM (hbox);have n2_:=aM ((by rw [hg];exact (below_size bw):w.heap.size ≤ gb1032));have n3_:=aM ((by rw [hg];exact (below_size bw):w.heap.size ≤ gb1032));clear HB;have HB:=n0_;have BK1032:=n1_;have GW1032:=n2_;have GE1032:=n3_;clear n0_ n1_ n2_ n3_;clear hb hbox hg;have hcz10_0:w9.cell? ⟨gb1032,0,none⟩ = some (.slice A0_0 l0_0.length c0_0):=(blk_cell BK1032.out 0).trans rfl;have hcz10_1:w9.cell? ⟨gb1032,1,none⟩ = some (.slice A0_1 l0_1.length c0_1):=(blk_cell BK1032.out 1).trans rfl;have hfz10_0:=blk_frozen BK1032.out 0;have hfz10_1:=blk_frozen BK1032.out 1)|((with_reducible refine gate_callee (f:=99) rfl ?_);refine goesL_ (some 8) rfl rfl Try.func99 kR rfl #[.slice A0_0 l0_0.length c0_0,.int .i64 a1] rfl mq ?_;(with_reducible refine (laws_szIntSS.calls k _ _ l0_0 a1 t1033 _ ?side1 ?side2 A3.out).mono ?_);(case side1=>exact qcs HR0_0.out HB.out);(case side2=>exact HC0_0.out);rintro e w' ⟨rfl,⟨nd,rfl⟩⟩;refine ⟨_,rfl,?_⟩)|((with_reducible refine gate_callee (f:=99) rfl ?_);refine goesL_ (some 14) rfl rfl Try.func99 kR rfl #[.slice A0_1 l0_1.length c0_1,.int .i64 t1033] rfl mq ?_;(with_reducible refine (laws_szIntSS.calls k _ _ l0_1 t1033 t1034 _ ?side1 ?side2 A7.out).mono ?_);(case side1=>repeat (first|exact (Kd.C_below HR0_1.out bw)|(with_reducible refine Kd.C_alloc ?_ _)|(with_reducible refine Kd.C_drewN ?_ _)|(with_reducible refine Kd.C_drew ?_)));(case side2=>exact HC0_1.out);rintro e w' ⟨rfl,⟨nd,rfl⟩⟩;refine ⟨_,rfl,?_⟩))
   go_ret
   exact ⟨by first|rfl|(simp [errW_none,errW_some] <;> rfl)|(simp [*,errW_none,errW_some] <;> rfl),by exact bw⟩
  ·rw [if_neg c8] at H;have c8b0:decide (t1034 < 0) = false:=decide_eq_false c8;clear c8;obtain rfl:=Option.some.inj H;go_enter Try.func49,Try.ntmps49;go_wp2_with (first|((with_reducible refine gate_dst (N:=2) rfl ?_);refine box_event ?hg (N:=2) ?hd (cs:=#[.slice A0_0 l0_0.length c0_0,.slice A0_1 l0_1.length c0_1]) (t:=67) ?hr ?_;(case hd=>rfl);(case hg=>rfl);(case hr=>first|(go_simp;done)|(go_simp;rfl));intro gb1032 hg w11 hbox hb;have n0_:=aM (below_step bw hb);have n1_:=aM (hbox);have n2_:=aM ((by rw [hg];exact (below_size bw):w.heap.size ≤ gb1032));have n3_:=aM ((by rw [hg];exact (below_size bw):w.heap.size ≤ gb1032));clear HB;have HB:=n0_;have BK1032:=n1_;have GW1032:=n2_;have GE1032:=n3_;clear n0_ n1_ n2_ n3_;clear hb hbox hg;have hcz12_0:w11.cell? ⟨gb1032,0,none⟩ = some (.slice A0_0 l0_0.length c0_0):=(blk_cell BK1032.out 0).trans rfl;have hcz12_1:w11.cell? ⟨gb1032,1,none⟩ = some (.slice A0_1 l0_1.length c0_1):=(blk_cell BK1032.out 1).trans rfl;have hfz12_0:=blk_frozen BK1032.out 0;have hfz12_1:=blk_frozen BK1032.out 1)|((with_reducible refine gate_callee (f:=99) rfl ?_);refine goesL_ (some 8) rfl rfl Try.func99 kR rfl #[.slice A0_0 l0_0.length c0_0,.int .i64 a1] rfl mq ?_;(with_reducible refine (laws_szIntSS.calls k _ _ l0_0 a1 t1033 _ ?side1 ?side2 A3.out).mono ?_);(case side1=>exact qcs HR0_0.out HB.out);(case side2=>exact HC0_0.out);rintro e w' ⟨rfl,⟨nd,rfl⟩⟩;refine ⟨_,rfl,?_⟩)|((with_reducible refine gate_callee (f:=99) rfl ?_);refine goesL_ (some 14) rfl rfl Try.func99 kR rfl #[.slice A0_1 l0_1.length c0_1,.int .i64 t1033] rfl mq ?_;(with_reducible refine (laws_szIntSS.calls k _ _ l0_1 t1033 t1034 _ ?side1 ?side2 A7.out).mono ?_);(case side1=>repeat (first|exact (Kd.C_below HR0_1.out bw)|(with_reducible refine Kd.C_alloc ?_ _)|(with_reducible refine Kd.C_drewN ?_ _)|(with_reducible refine Kd.C_drew ?_)));(case side2=>exact HC0_1.out);rintro e w' ⟨rfl,⟨nd,rfl⟩⟩;refine ⟨_,rfl,?_⟩))
   go_ret
   exact ⟨by first|rfl|(simp [errW_none,errW_some] <;> rfl)|(simp [*,errW_none,errW_some] <;> rfl),by exact bw⟩


/-! ### spec_l1In: function 115 -/
def spec_l1In.f (a0:Int) (a1:Int) (a2:Int):Option (Bool):=if a0 ≥ a1 then (some (decide (a0 ≤ a2))) else (some false)
set_option maxHeartbeats 8000000 in
set_option maxRecDepth 100000 in
theorem spec_l1In.calls (a0:Int) (a1:Int) (a2:Int) (r:Bool) (w:World) (h:spec_l1In.f a0 a1 a2 = some r) :
  Calls Try.prog 115 #[.int .i64 a0,.int .i64 a1,.int .i64 a2] w fun e w'=>e = .returned (.bool r) ∧ Drawn0 w w':=by
 have H:(if a0 ≥ a1 then (some (decide (a0 ≤ a2))) else (some false)) = some r:=h;clear h;by_cases c4:a0 ≥ a1
 ·rw [if_pos c4] at H;have c4b0:decide (a1 ≤ a0) = true:=decide_eq_true c4;clear c4;obtain rfl:=Option.some.inj H;go_enter Try.func115,Try.ntmps115;go_wp2
  go_ret
  exact ⟨by first|rfl|(simp;done)|(simp [*];done),by repeat (first|exact Drawn0.refl _|apply Drawn0.step)⟩
 ·rw [if_neg c4] at H;have c4b0:decide (a1 ≤ a0) = false:=decide_eq_false c4;clear c4;obtain rfl:=Option.some.inj H;go_enter Try.func115,Try.ntmps115;go_wp2
  go_ret
  exact ⟨by first|rfl|(simp;done)|(simp [*];done),by repeat (first|exact Drawn0.refl _|apply Drawn0.step)⟩


/-! ### spec_l1Rising: function 200 -/
def spec_l1Rising.l0:Nat → List Int → Int → Int → List Int → Int → Int → Option (Bool)
 | 0,_,_,_,_,_,_=>none
 | k + 1,x0,x1,x2,x9,x10,x11=>if x11 < x10 then (if 0 ≤ x11 then (if x11 < (x9.length:Int) then ((spec_l1In.f (rd x9 x11) x1 x2).bind fun t696=>(if t696 = true then (if x11 > 0 then (if 0 ≤ (wrap64 (x11 - 1)) then (if (wrap64 (x11 - 1)) < (x0.length:Int) then (if (rd x0 (wrap64 (x11 - 1))) ≥ (rd x9 x11) then (some false) else (spec_l1Rising.l0 k x0 x1 x2 x9 x10 (wrap64 (x11 + 1)))) else (none)) else (none)) else (spec_l1Rising.l0 k x0 x1 x2 x9 x10 (wrap64 (x11 + 1)))) else (some false))) else (none)) else (none)) else (some true)
def spec_l1Rising.f (k:Nat) (l0:List Int) (a1:Int) (a2:Int):Option (Bool):=spec_l1Rising.l0 k l0 a1 a2 l0 (l0.length:Int) 0
theorem spec_l1Rising.mono_l:∀ k,(∀ y0 y1 y2 y3 y4 y5,LeO (spec_l1Rising.l0 k y0 y1 y2 y3 y4 y5) (spec_l1Rising.l0 (k + 1) y0 y1 y2 y3 y4 y5))
 | 0=>fun _ _ _ _ _ _ r h=>by simp [spec_l1Rising.l0] at h
 | k + 1=>by
  have ih0:=spec_l1Rising.mono_l k
  ·intro y0 y1 y2 y3 y4 y5;unfold spec_l1Rising.l0
   repeat' with_reducible first|exact ih0 _ _ _ _ _ _|exact LeO.refl _|exact LeO.none _|refine LeO.ite ?_ ?_|refine LeO.bind ?_ (fun _=>?_)
theorem spec_l1Rising.mono:∀ a0 a1 a2 k,LeO (spec_l1Rising.f k a0 a1 a2) (spec_l1Rising.f (k + 1) a0 a1 a2):=by
 intro a0 a1 a2 k;have ih0:=spec_l1Rising.mono_l k;unfold spec_l1Rising.f
 repeat' with_reducible first|exact ih0 _ _ _ _ _ _|exact LeO.refl _|exact LeO.none _|refine LeO.ite ?_ ?_|refine LeO.bind ?_ (fun _=>?_)
set_option maxHeartbeats 8000000 in
set_option maxRecDepth 100000 in
theorem spec_l1Rising.calls (k:Nat) (A0:Option Addr) (c0:Nat) (l0:List Int) (a1:Int) (a2:Int) (r:Bool) (w:World) (hr0:Kd.C (Kd.int .i64) w A0 l0.length l0) (hc0:l0.length ≤ c0) (h:spec_l1Rising.f k l0 a1 a2 = some r) :
  Calls Try.prog 200 #[.slice A0 l0.length c0,.int .i64 a1,.int .i64 a2] w fun e w'=>e = .returned (.bool r) ∧ Drawn0 w w':=by
 have HR0:=aM hr0;have HC0:=aM hc0;clear hr0 hc0;have H:(spec_l1Rising.l0 k l0 a1 a2 l0 (l0.length:Int) 0) = some r:=h;clear h;have H':=aM H;clear H;go_enter Try.func200,Try.ntmps200;go_wp2
 go_loopg [11] k (fun kq v11 w'=>∃ (x11_1:Int),v11 = .int .i64 x11_1 ∧ Aside0 (spec_l1Rising.l0 kq l0 a1 a2 l0 (l0.length:Int) x11_1 = some r) ∧ Aside0 (kq ≤ k) ∧ Drawn0 w w')
 case atStart=>exact ⟨(0),qrs,H',⟨Nat.le_refl _⟩,by repeat (first|exact Drawn0.refl _|apply Drawn0.step)⟩
 case round =>
  clear H';(try clear c2);(try clear p2)
  obtain ⟨x11_1,rfl,HA,HK1,⟨m1,rfl⟩⟩:=hrel
  cases gk with
  | zero=>exact absurd HA.out (by simp [spec_l1Rising.l0])
  | succ k1 =>
   have H:=HA.out;clear HA;simp only [spec_l1Rising.l0] at H;by_cases c4:x11_1 < (l0.length:Int)
   ·rw [if_pos c4] at H;have c4b0:decide (x11_1 < (l0.length:Int)) = true:=decide_eq_true c4;clear c4;by_cases c5:0 ≤ x11_1
    ·rw [if_pos c5] at H;have c5b0:decide (0 ≤ x11_1) = true:=decide_eq_true c5;clear c5;by_cases c6:x11_1 < (l0.length:Int)
     ·rw [if_pos c6] at H;have c6b0:decide (x11_1 < (l0.length:Int)) = true:=decide_eq_true c6;clear c6;replace H:=Option.bind_eq_some_iff.mp H;obtain ⟨t696,A70,H⟩:=H;replace H:(if t696 = true then (if x11_1 > 0 then (if 0 ≤ (wrap64 (x11_1 - 1)) then (if (wrap64 (x11_1 - 1)) < (l0.length:Int) then (if (rd l0 (wrap64 (x11_1 - 1))) ≥ (rd l0 x11_1) then (some false) else (spec_l1Rising.l0 k1 l0 a1 a2 l0 (l0.length:Int) (wrap64 (x11_1 + 1)))) else (none)) else (none)) else (spec_l1Rising.l0 k1 l0 a1 a2 l0 (l0.length:Int) (wrap64 (x11_1 + 1)))) else (some false)) = some r:=H;have A7:=aM A70;clear A70;by_cases c8:t696 = true
      ·subst c8;have H1:(if x11_1 > 0 then (if 0 ≤ (wrap64 (x11_1 - 1)) then (if (wrap64 (x11_1 - 1)) < (l0.length:Int) then (if (rd l0 (wrap64 (x11_1 - 1))) ≥ (rd l0 x11_1) then (some false) else (spec_l1Rising.l0 k1 l0 a1 a2 l0 (l0.length:Int) (wrap64 (x11_1 + 1)))) else (none)) else (none)) else (spec_l1Rising.l0 k1 l0 a1 a2 l0 (l0.length:Int) (wrap64 (x11_1 + 1)))) = some r:=by rw [if_pos rfl] at H;exact H
       clear H;have H:=H1;clear H1;by_cases c9:x11_1 > 0
       ·rw [if_pos c9] at H;have c9b0:decide (0 < x11_1) = true:=decide_eq_true c9;clear c9;obtain ⟨ji10,hji10⟩:∃ j_:Int,(wrap64 (x11_1 - 1)) = j_:=⟨_,rfl⟩;replace H:(if 0 ≤ (ji10) then (if (ji10) < (l0.length:Int) then (if (rd l0 (ji10)) ≥ (rd l0 x11_1) then (some false) else (spec_l1Rising.l0 k1 l0 a1 a2 l0 (l0.length:Int) (wrap64 (x11_1 + 1)))) else (none)) else (none)) = some r:=by first|(rw [hji10] at H;exact H)|(simp only [hji10] at H ⊢;exact H)
        (try rw [hji10] at A7)
        have hji10w:(IntKind.i64.wrap (x11_1 - 1)) = ji10:=(i64_w _).trans hji10;by_cases c11:0 ≤ (ji10)
        ·rw [if_pos c11] at H;have c11b0:decide (0 ≤ (ji10)) = true:=decide_eq_true c11;clear c11;by_cases c12:(ji10) < (l0.length:Int)
         ·rw [if_pos c12] at H;have c12b0:decide ((ji10) < (l0.length:Int)) = true:=decide_eq_true c12;clear c12;by_cases c13:(rd l0 (ji10)) ≥ (rd l0 x11_1)
          ·rw [if_pos c13] at H;have c13b0:decide ((rd l0 x11_1) ≤ (rd l0 (ji10))) = true:=decide_eq_true c13;clear c13;obtain rfl:=Option.some.inj H;have p695:0 ≤ (x11_1:Int):=of_decide_eq_true ab;have q695:x11_1 < (l0.length:Int):=of_decide_eq_true ab;obtain ⟨ad695,e695,hx695_0⟩:=Kd.at_int HR0.out x11_1 p695 q695;cases e695
           replace p695:=eq_true p695;replace q695:=eq_true q695;go_wp2_with (first|((with_reducible refine gate_callee (f:=115) rfl ?_);refine goesL_ (some 19) rfl rfl Try.func115 kR rfl #[.int .i64 (rd l0 x11_1),.int .i64 a1,.int .i64 a2] rfl mq ?_;(with_reducible refine (spec_l1In.calls (rd l0 x11_1) a1 a2 true _ A7.out).mono ?_);rintro e w' ⟨rfl,⟨nd,rfl⟩⟩;refine ⟨_,rfl,?_⟩;have p697:0 ≤ ((ji10):Int):=of_decide_eq_true ab;have q697:(ji10) < (l0.length:Int):=of_decide_eq_true ab;obtain ⟨ad697,e697,hx697_0⟩:=Kd.at_int HR0.out (ji10) p697 q697;obtain rfl:ad695 = ad697:=(by injection e697);replace p697:=eq_true p697;replace q697:=eq_true q697))
           go_ret
           exact ⟨by first|rfl|(simp;done)|(simp only [← hji10] <;> (first|rfl|simp))|(simp [*];done),by repeat (first|exact Drawn0.refl _|apply Drawn0.step)⟩
          ·rw [if_neg c13] at H;have c13b0:decide ((rd l0 x11_1) ≤ (rd l0 (ji10))) = false:=decide_eq_false c13;clear c13;have H':=aM H;clear H;have p695:0 ≤ (x11_1:Int):=of_decide_eq_true ab;have q695:x11_1 < (l0.length:Int):=of_decide_eq_true ab;obtain ⟨ad695,e695,hx695_0⟩:=Kd.at_int HR0.out x11_1 p695 q695;cases e695
           replace p695:=eq_true p695;replace q695:=eq_true q695;go_wp2_with (first|((with_reducible refine gate_callee (f:=115) rfl ?_);refine goesL_ (some 19) rfl rfl Try.func115 kR rfl #[.int .i64 (rd l0 x11_1),.int .i64 a1,.int .i64 a2] rfl mq ?_;(with_reducible refine (spec_l1In.calls (rd l0 x11_1) a1 a2 true _ A7.out).mono ?_);rintro e w' ⟨rfl,⟨nd,rfl⟩⟩;refine ⟨_,rfl,?_⟩;have p697:0 ≤ ((ji10):Int):=of_decide_eq_true ab;have q697:(ji10) < (l0.length:Int):=of_decide_eq_true ab;obtain ⟨ad697,e697,hx697_0⟩:=Kd.at_int HR0.out (ji10) p697 q697;obtain rfl:ad695 = ad697:=(by injection e697);replace p697:=eq_true p697;replace q697:=eq_true q697))
           go_roundg k1
           case measure=>have:=HK1.out;omega
           case rel=>exact ⟨(wrap64 (x11_1 + 1)),qrs,H',⟨by have:=HK1.out;omega⟩,by repeat (first|exact Drawn0.refl _|apply Drawn0.step)⟩
         ·rw [if_neg c12] at H;exact absurd H (by simp)
        ·rw [if_neg c11] at H;exact absurd H (by simp)
       ·rw [if_neg c9] at H;have c9b0:decide (0 < x11_1) = false:=decide_eq_false c9;clear c9;have H':=aM H;clear H;have p695:0 ≤ (x11_1:Int):=of_decide_eq_true ab;have q695:x11_1 < (l0.length:Int):=of_decide_eq_true ab;obtain ⟨ad695,e695,hx695_0⟩:=Kd.at_int HR0.out x11_1 p695 q695;cases e695
        replace p695:=eq_true p695;replace q695:=eq_true q695;go_wp2_with (first|((with_reducible refine gate_callee (f:=115) rfl ?_);refine goesL_ (some 19) rfl rfl Try.func115 kR rfl #[.int .i64 (rd l0 x11_1),.int .i64 a1,.int .i64 a2] rfl mq ?_;(with_reducible refine (spec_l1In.calls (rd l0 x11_1) a1 a2 true _ A7.out).mono ?_);rintro e w' ⟨rfl,⟨nd,rfl⟩⟩;refine ⟨_,rfl,?_⟩))
        go_roundg k1
        case measure=>have:=HK1.out;omega
        case rel=>exact ⟨(wrap64 (x11_1 + 1)),qrs,H',⟨by have:=HK1.out;omega⟩,by repeat (first|exact Drawn0.refl _|apply Drawn0.step)⟩
      ·replace c8:=Bool.eq_false_iff.mpr c8;subst c8;have H1:(some false) = some r:=by rw [if_neg (show ¬ (false = true) by decide)] at H;exact H
       clear H;have H:=H1;clear H1;obtain rfl:=Option.some.inj H;have p695:0 ≤ (x11_1:Int):=of_decide_eq_true ab;have q695:x11_1 < (l0.length:Int):=of_decide_eq_true ab;obtain ⟨ad695,e695,hx695_0⟩:=Kd.at_int HR0.out x11_1 p695 q695;cases e695
       replace p695:=eq_true p695;replace q695:=eq_true q695;go_wp2_with (first|((with_reducible refine gate_callee (f:=115) rfl ?_);refine goesL_ (some 19) rfl rfl Try.func115 kR rfl #[.int .i64 (rd l0 x11_1),.int .i64 a1,.int .i64 a2] rfl mq ?_;(with_reducible refine (spec_l1In.calls (rd l0 x11_1) a1 a2 false _ A7.out).mono ?_);rintro e w' ⟨rfl,⟨nd,rfl⟩⟩;refine ⟨_,rfl,?_⟩))
       go_ret
       exact ⟨by first|rfl|(simp;done)|(simp [*];done),by repeat (first|exact Drawn0.refl _|apply Drawn0.step)⟩
     ·rw [if_neg c6] at H;exact absurd H (by simp)
    ·rw [if_neg c5] at H;exact absurd H (by simp)
   ·rw [if_neg c4] at H;have c4b0:decide (x11_1 < (l0.length:Int)) = false:=decide_eq_false c4;clear c4;obtain rfl:=Option.some.inj H;go_wp2
    go_ret
    exact ⟨by first|rfl|(simp;done)|(simp [*];done),by repeat (first|exact Drawn0.refl _|apply Drawn0.step)⟩


/-! ### spec_voSet: function 175 -/
def spec_voSet.f (k:Nat) (a0:Int) (l1:List Int):Option (Bool):=(spec_l1Rising.f k l1 0 (wrap64 (a0 - 1))).bind fun t698=>(some t698)
theorem spec_voSet.mono:∀ a0 a1 k,LeO (spec_voSet.f k a0 a1) (spec_voSet.f (k + 1) a0 a1):=by
 intro a0 a1 k;unfold spec_voSet.f
 repeat' with_reducible first|exact spec_l1Rising.mono _ _ _ _|exact LeO.refl _|exact LeO.none _|refine LeO.ite ?_ ?_|refine LeO.bind ?_ (fun _=>?_)
set_option maxHeartbeats 8000000 in
set_option maxRecDepth 100000 in
theorem spec_voSet.calls (k:Nat) (a0:Int) (A1:Option Addr) (c1:Nat) (l1:List Int) (r:Bool) (w:World) (hr1:Kd.C (Kd.int .i64) w A1 l1.length l1) (hc1:l1.length ≤ c1) (h:spec_voSet.f k a0 l1 = some r) :
  Calls Try.prog 175 #[.int .i64 a0,.slice A1 l1.length c1] w fun e w'=>e = .returned (.bool r) ∧ Drawn0 w w':=by
 have HR1:=aM hr1;have HC1:=aM hc1;clear hr1 hc1;have H:((spec_l1Rising.f k l1 0 (wrap64 (a0 - 1))).bind fun t698=>(some t698)) = some r:=h;clear h;replace H:=Option.bind_eq_some_iff.mp H;obtain ⟨t698,A30,H⟩:=H;replace H:(some t698) = some r:=H;have A3:=aM A30;clear A30;obtain rfl:=Option.some.inj H;go_enter Try.func175,Try.ntmps175;go_wp2_with (first|((with_reducible refine gate_callee (f:=200) rfl ?_);refine goesL_ (some 8) rfl rfl Try.func200 kR rfl #[.slice A1 l1.length c1,.int .i64 0,.int .i64 (wrap64 (a0 - 1))] rfl mq ?_;(with_reducible refine (spec_l1Rising.calls k _ _ l1 0 (wrap64 (a0 - 1)) t698 _ ?side1 ?side2 A3.out).mono ?_);(case side1=>repeat (first|exact HR1.out|(with_reducible refine Kd.C_alloc ?_ _)|(with_reducible refine Kd.C_drewN ?_ _)|(with_reducible refine Kd.C_drew ?_)));(case side2=>exact HC1.out);rintro e w' ⟨rfl,⟨nd,rfl⟩⟩;refine ⟨_,rfl,?_⟩))
 go_ret
 exact ⟨by first|rfl|(simp;done)|(simp [*];done),by repeat (first|exact Drawn0.refl _|apply Drawn0.step)⟩


/-! ### spec_gmSets: function 164 -/
mutual
def spec_gmSets.j0:Nat → Int → List (List Int) → Bool → Option (Bool)
 | 0,_,_,_=>none
 | k + 1,x0,x1,x18=>if x18 = true then (some false) else (spec_gmSets.l0 k x0 x1 (x1.length:Int) 0)
def spec_gmSets.l0:Nat → Int → List (List Int) → Int → Int → Option (Bool)
 | 0,_,_,_,_=>none
 | k + 1,x0,x19,x20,x21=>if x21 < x20 then (if 0 ≤ x21 then (if x21 < (x19.length:Int) then (if ((rd_LI x19 x21).length:Int) = 0 then (some false) else ((spec_voSet.f k x0 (rd_LI x19 x21)).bind fun t702=>(if t702 = true then (spec_gmSets.l0 k x0 x19 x20 (wrap64 (x21 + 1))) else (some false)))) else (none)) else (none)) else (some true)
end
def spec_gmSets.f (k:Nat) (a0:Int) (l1:List (List Int)) (a2:Int):Option (Bool):=(spec_l1In.f a0 1 9).bind fun t699=>(if t699 = true then ((spec_l1In.f (l1.length:Int) 1 a2).bind fun t700=>(spec_gmSets.j0 k a0 l1 (!t700))) else (spec_gmSets.j0 k a0 l1 true))
theorem spec_gmSets.mono_l:∀ k,(∀ y0 y1 y2,LeO (spec_gmSets.j0 k y0 y1 y2) (spec_gmSets.j0 (k + 1) y0 y1 y2)) ∧ (∀ y0 y1 y2 y3,LeO (spec_gmSets.l0 k y0 y1 y2 y3) (spec_gmSets.l0 (k + 1) y0 y1 y2 y3))
 | 0=>⟨fun _ _ _ r h=>by simp [spec_gmSets.j0] at h,fun _ _ _ _ r h=>by simp [spec_gmSets.l0] at h⟩
 | k + 1=>by
  obtain ⟨ih0,ih1⟩:=spec_gmSets.mono_l k;refine ⟨?_,?_⟩
  ·intro y0 y1 y2;unfold spec_gmSets.j0
   repeat' with_reducible first|exact ih0 _ _ _|exact ih1 _ _ _ _|exact spec_voSet.mono _ _ _|exact LeO.refl _|exact LeO.none _|refine LeO.ite ?_ ?_|refine LeO.bind ?_ (fun _=>?_)
  ·intro y0 y1 y2 y3;unfold spec_gmSets.l0
   repeat' with_reducible first|exact ih0 _ _ _|exact ih1 _ _ _ _|exact spec_voSet.mono _ _ _|exact LeO.refl _|exact LeO.none _|refine LeO.ite ?_ ?_|refine LeO.bind ?_ (fun _=>?_)
theorem spec_gmSets.mono:∀ a0 a1 a2 k,LeO (spec_gmSets.f k a0 a1 a2) (spec_gmSets.f (k + 1) a0 a1 a2):=by
 intro a0 a1 a2 k;obtain ⟨ih0,ih1⟩:=spec_gmSets.mono_l k;unfold spec_gmSets.f
 repeat' with_reducible first|exact ih0 _ _ _|exact ih1 _ _ _ _|exact spec_voSet.mono _ _ _|exact LeO.refl _|exact LeO.none _|refine LeO.ite ?_ ?_|refine LeO.bind ?_ (fun _=>?_)
set_option maxHeartbeats 8000000 in
set_option maxRecDepth 100000 in
theorem spec_gmSets.calls (k:Nat) (a0:Int) (A1:Option Addr) (c1:Nat) (l1:List (List Int)) (a2:Int) (r:Bool) (w:World) (hr1:Kd.C (Kd.slice 3 (Kd.int .i64)) w A1 l1.length l1) (hc1:l1.length ≤ c1) (h:spec_gmSets.f k a0 l1 a2 = some r) :
  Calls Try.prog 164 #[.int .i64 a0,.slice A1 l1.length c1,.int .i64 a2] w fun e w'=>e = .returned (.bool r) ∧ Drawn0 w w':=by
 have HR1:=aM hr1;have HC1:=aM hc1;clear hr1 hc1;have H:((spec_l1In.f a0 1 9).bind fun t699=>(if t699 = true then ((spec_l1In.f (l1.length:Int) 1 a2).bind fun t700=>(spec_gmSets.j0 k a0 l1 (!t700))) else (spec_gmSets.j0 k a0 l1 true))) = some r:=h;clear h;have HC4:=aM H;clear H;go_enter Try.func164,Try.ntmps164;go_upto_region 1 with (fail)
 go_cut [18] (fun v18 wc=>∃ (kq:Nat) (x18_3:Bool),v18 = .bool x18_3 ∧ Aside0 (spec_gmSets.j0 kq a0 l1 x18_3 = some r) ∧ Aside0 (kq ≤ k) ∧ Drawn0 w wc)
 case first =>
  have H:=HC4.out;clear HC4;replace H:=Option.bind_eq_some_iff.mp H;obtain ⟨t699,A50,H⟩:=H;replace H:(if t699 = true then ((spec_l1In.f (l1.length:Int) 1 a2).bind fun t700=>(spec_gmSets.j0 k a0 l1 (!t700))) else (spec_gmSets.j0 k a0 l1 true)) = some r:=H;have A5:=aM A50;clear A50;by_cases c6:t699 = true
  ·subst c6;have H1:((spec_l1In.f (l1.length:Int) 1 a2).bind fun t700=>(spec_gmSets.j0 k a0 l1 (!t700))) = some r:=by rw [if_pos rfl] at H;exact H
   clear H;have H:=H1;clear H1;replace H:=Option.bind_eq_some_iff.mp H;obtain ⟨t700,A70,H⟩:=H;replace H:(spec_gmSets.j0 k a0 l1 (!t700)) = some r:=H;have A7:=aM A70;clear A70;have H':=aM H;clear H;go_wp2_with (first|((with_reducible refine gate_callee (f:=115) rfl ?_);refine goesL_ (some 10) rfl rfl Try.func115 kR rfl #[.int .i64 a0,.int .i64 1,.int .i64 9] rfl mq ?_;(with_reducible refine (spec_l1In.calls a0 1 9 true _ A5.out).mono ?_);rintro e w' ⟨rfl,⟨nd,rfl⟩⟩;refine ⟨_,rfl,?_⟩)|(go_at_call 115;(with_reducible refine (spec_l1In.calls (l1.length:Int) 1 a2 t700 _ A7.out).mono ?_);rintro e w' ⟨rfl,⟨nd,rfl⟩⟩))
   go_meet
   case rel=>exact ⟨_,(!t700),qrs,H',⟨by first|omega|exact Nat.le_refl _⟩,by repeat (first|exact Drawn0.refl _|apply Drawn0.step)⟩
  ·replace c6:=Bool.eq_false_iff.mpr c6;subst c6;have H1:(spec_gmSets.j0 k a0 l1 true) = some r:=by rw [if_neg (show ¬ (false = true) by decide)] at H;exact H
   clear H;have H:=H1;clear H1;have H':=aM H;clear H;go_wp2_with (first|((with_reducible refine gate_callee (f:=115) rfl ?_);refine goesL_ (some 10) rfl rfl Try.func115 kR rfl #[.int .i64 a0,.int .i64 1,.int .i64 9] rfl mq ?_;(with_reducible refine (spec_l1In.calls a0 1 9 false _ A5.out).mono ?_);rintro e w' ⟨rfl,⟨nd,rfl⟩⟩;refine ⟨_,rfl,?_⟩))
   go_meet
   case rel=>exact ⟨_,(true),qrs,H',⟨by first|omega|exact Nat.le_refl _⟩,by repeat (first|exact Drawn0.refl _|apply Drawn0.step)⟩
 case rest =>
  clear HC4;(try clear c1);(try clear p2);(try clear c6)
  obtain ⟨kq,x18_3,rfl,HA,HJ3,⟨mc3,rfl⟩⟩:=hcut
  cases kq with
  | zero=>exact absurd HA.out (by simp [spec_gmSets.j0])
  | succ kj3 =>
   have H:=HA.out;clear HA;simp only [spec_gmSets.j0] at H;by_cases c8:x18_3 = true
   ·subst c8;have H1:(some false) = some r:=by rw [if_pos rfl] at H;exact H
    clear H;have H:=H1;clear H1;obtain rfl:=Option.some.inj H;go_wp2
    go_ret
    exact ⟨by first|rfl|(simp;done)|(simp [*];done),by repeat (first|exact Drawn0.refl _|apply Drawn0.step)⟩
   ·replace c8:=Bool.eq_false_iff.mpr c8;subst c8;have H1:(spec_gmSets.l0 kj3 a0 l1 (l1.length:Int) 0) = some r:=by rw [if_neg (show ¬ (false = true) by decide)] at H;exact H
    clear H;have H:=H1;clear H1;have H':=aM H;clear H;go_wp2
    go_loopg [21] kj3 (fun kq v21 w'=>∃ (x21_2:Int),v21 = .int .i64 x21_2 ∧ Aside0 (spec_gmSets.l0 kq a0 l1 (l1.length:Int) x21_2 = some r) ∧ Aside0 (kq ≤ kj3) ∧ Drawn0 w w')
    case atStart=>exact ⟨(0),qrs,H',⟨Nat.le_refl _⟩,by repeat (first|exact Drawn0.refl _|apply Drawn0.step)⟩
    case round =>
     clear H';(try clear c1);(try clear p2);(try clear c3);(try clear c6);(try clear c8);(try clear p2)
     obtain ⟨x21_2,rfl,HA,HK2,⟨m2,rfl⟩⟩:=hrel
     cases gk with
     | zero=>exact absurd HA.out (by simp [spec_gmSets.l0])
     | succ k2 =>
      have H:=HA.out;clear HA;simp only [spec_gmSets.l0] at H;by_cases c9:x21_2 < (l1.length:Int)
      ·rw [if_pos c9] at H;have c9b0:decide (x21_2 < (l1.length:Int)) = true:=decide_eq_true c9;clear c9;by_cases c10:0 ≤ x21_2
       ·rw [if_pos c10] at H;have c10b0:decide (0 ≤ x21_2) = true:=decide_eq_true c10;clear c10;by_cases c11:x21_2 < (l1.length:Int)
        ·rw [if_pos c11] at H;have c11b0:decide (x21_2 < (l1.length:Int)) = true:=decide_eq_true c11;clear c11;by_cases c12:((rd_LI l1 x21_2).length:Int) = 0
         ·rw [if_pos c12] at H;have c12b0:(((rd_LI l1 x21_2).length:Int) == 0) = true:=beq_iff_eq.mpr c12;have c12b1:(((rd_LI l1 x21_2).length:Int) != 0) = false:=bne_eq_false_iff_eq.mpr c12;clear c12;obtain rfl:=Option.some.inj H;have p701:0 ≤ (x21_2:Int):=of_decide_eq_true ab;have q701:x21_2 < (l1.length:Int):=of_decide_eq_true ab;obtain ⟨ad701,A701_0,c701_0,e701,hx701_0,hl701_0,hi701_0⟩:=at_LI HR1.out x21_2 p701 q701;cases e701
          have HR701_0:=aM hi701_0;have HC701_0:=aM hl701_0;clear hi701_0 hl701_0;replace p701:=eq_true p701;replace q701:=eq_true q701;go_wp2
          go_ret
          exact ⟨by first|rfl|(simp;done)|(simp [*];done),by repeat (first|exact Drawn0.refl _|apply Drawn0.step)⟩
         ·rw [if_neg c12] at H;have c12b0:(((rd_LI l1 x21_2).length:Int) == 0) = false:=beq_eq_false_iff_ne.mpr c12;have c12b1:(((rd_LI l1 x21_2).length:Int) != 0) = true:=bne_iff_ne.mpr c12;have c12b2:¬ ((rd_LI l1 x21_2) = []):=fun h_=>c12 (by rw [h_];rfl)
          replace H:=Option.bind_eq_some_iff.mp H;obtain ⟨t702,A130,H⟩:=H;replace H:(if t702 = true then (spec_gmSets.l0 k2 a0 l1 (l1.length:Int) (wrap64 (x21_2 + 1))) else (some false)) = some r:=H;have A13:=aM A130;clear A130;by_cases c14:t702 = true
          ·subst c14;have H1:(spec_gmSets.l0 k2 a0 l1 (l1.length:Int) (wrap64 (x21_2 + 1))) = some r:=by rw [if_pos rfl] at H;exact H
           clear H;have H:=H1;clear H1;have H':=aM H;clear H;have p701:0 ≤ (x21_2:Int):=of_decide_eq_true ab;have q701:x21_2 < (l1.length:Int):=of_decide_eq_true ab;obtain ⟨ad701,A701_0,c701_0,e701,hx701_0,hl701_0,hi701_0⟩:=at_LI HR1.out x21_2 p701 q701;cases e701
           have HR701_0:=aM hi701_0;have HC701_0:=aM hl701_0;clear hi701_0 hl701_0;replace p701:=eq_true p701;replace q701:=eq_true q701;go_wp2_with (first|(go_at_call 175;(with_reducible refine (spec_voSet.calls k2 a0 _ _ (rd_LI l1 x21_2) true _ ?side1 ?side2 A13.out).mono ?_);(case side1=>repeat (first|exact HR701_0.out|(with_reducible refine Kd.C_alloc ?_ _)|(with_reducible refine Kd.C_drewN ?_ _)|(with_reducible refine Kd.C_drew ?_)));(case side2=>exact HC701_0.out);rintro e w' ⟨rfl,⟨nd,rfl⟩⟩))
           go_roundg k2
           case measure=>have:=HJ3.out;have:=HK2.out;omega
           case rel=>exact ⟨(wrap64 (x21_2 + 1)),qrs,H',⟨by have:=HJ3.out;have:=HK2.out;omega⟩,by repeat (first|exact Drawn0.refl _|apply Drawn0.step)⟩
          ·replace c14:=Bool.eq_false_iff.mpr c14;subst c14;have H1:(some false) = some r:=by rw [if_neg (show ¬ (false = true) by decide)] at H;exact H
           clear H;have H:=H1;clear H1;obtain rfl:=Option.some.inj H;have p701:0 ≤ (x21_2:Int):=of_decide_eq_true ab;have q701:x21_2 < (l1.length:Int):=of_decide_eq_true ab;obtain ⟨ad701,A701_0,c701_0,e701,hx701_0,hl701_0,hi701_0⟩:=at_LI HR1.out x21_2 p701 q701;cases e701
           have HR701_0:=aM hi701_0;have HC701_0:=aM hl701_0;clear hi701_0 hl701_0;replace p701:=eq_true p701;replace q701:=eq_true q701;go_wp2_with (first|(go_at_call 175;(with_reducible refine (spec_voSet.calls k2 a0 _ _ (rd_LI l1 x21_2) false _ ?side1 ?side2 A13.out).mono ?_);(case side1=>repeat (first|exact HR701_0.out|(with_reducible refine Kd.C_alloc ?_ _)|(with_reducible refine Kd.C_drewN ?_ _)|(with_reducible refine Kd.C_drew ?_)));(case side2=>exact HC701_0.out);rintro e w' ⟨rfl,⟨nd,rfl⟩⟩))
           go_ret
           exact ⟨by first|rfl|(simp;done)|(simp [*];done),by repeat (first|exact Drawn0.refl _|apply Drawn0.step)⟩
        ·rw [if_neg c11] at H;exact absurd H (by simp)
       ·rw [if_neg c10] at H;exact absurd H (by simp)
      ·rw [if_neg c9] at H;have c9b0:decide (x21_2 < (l1.length:Int)) = false:=decide_eq_false c9;clear c9;obtain rfl:=Option.some.inj H;go_wp2
       go_ret
       exact ⟨by first|rfl|(simp;done)|(simp [*];done),by repeat (first|exact Drawn0.refl _|apply Drawn0.step)⟩


/-! ### spec_voBefore: function 165 -/
mutual
def spec_voBefore.l0:Nat → List Int → List Int → Int → Option (Bool)
 | 0,_,_,_=>none
 | k + 1,x0,x1,x5=>if x5 < (x0.length:Int) then (spec_voBefore.j1 k x0 x1 x5 (decide (x5 < (x1.length:Int)))) else (spec_voBefore.j1 k x0 x1 x5 false)
def spec_voBefore.j1:Nat → List Int → List Int → Int → Bool → Option (Bool)
 | 0,_,_,_,_=>none
 | k + 1,x0,x1,x5,x15=>if x15 = true then (if 0 ≤ x5 then (if x5 < (x0.length:Int) then (if x5 < (x1.length:Int) then (if (rd x0 x5) = (rd x1 x5) then (spec_voBefore.l0 k x0 x1 (wrap64 (x5 + 1))) else (some (decide ((rd x0 x5) < (rd x1 x5))))) else (none)) else (none)) else (none)) else (some (decide ((x0.length:Int) < (x1.length:Int))))
end
def spec_voBefore.f (k:Nat) (l0:List Int) (l1:List Int):Option (Bool):=spec_voBefore.l0 k l0 l1 0
theorem spec_voBefore.mono_l:∀ k,(∀ y0 y1 y2,LeO (spec_voBefore.l0 k y0 y1 y2) (spec_voBefore.l0 (k + 1) y0 y1 y2)) ∧ (∀ y0 y1 y2 y3,LeO (spec_voBefore.j1 k y0 y1 y2 y3) (spec_voBefore.j1 (k + 1) y0 y1 y2 y3))
 | 0=>⟨fun _ _ _ r h=>by simp [spec_voBefore.l0] at h,fun _ _ _ _ r h=>by simp [spec_voBefore.j1] at h⟩
 | k + 1=>by
  obtain ⟨ih0,ih1⟩:=spec_voBefore.mono_l k;refine ⟨?_,?_⟩
  ·intro y0 y1 y2;unfold spec_voBefore.l0
   repeat' with_reducible first|exact ih0 _ _ _|exact ih1 _ _ _ _|exact LeO.refl _|exact LeO.none _|refine LeO.ite ?_ ?_|refine LeO.bind ?_ (fun _=>?_)
  ·intro y0 y1 y2 y3;unfold spec_voBefore.j1
   repeat' with_reducible first|exact ih0 _ _ _|exact ih1 _ _ _ _|exact LeO.refl _|exact LeO.none _|refine LeO.ite ?_ ?_|refine LeO.bind ?_ (fun _=>?_)
theorem spec_voBefore.mono:∀ a0 a1 k,LeO (spec_voBefore.f k a0 a1) (spec_voBefore.f (k + 1) a0 a1):=by
 intro a0 a1 k;obtain ⟨ih0,ih1⟩:=spec_voBefore.mono_l k;unfold spec_voBefore.f
 repeat' with_reducible first|exact ih0 _ _ _|exact ih1 _ _ _ _|exact LeO.refl _|exact LeO.none _|refine LeO.ite ?_ ?_|refine LeO.bind ?_ (fun _=>?_)
set_option maxHeartbeats 8000000 in
set_option maxRecDepth 100000 in
theorem spec_voBefore.calls (k:Nat) (A0:Option Addr) (c0:Nat) (l0:List Int) (A1:Option Addr) (c1:Nat) (l1:List Int) (r:Bool) (w:World) (hr0:Kd.C (Kd.int .i64) w A0 l0.length l0) (hc0:l0.length ≤ c0) (hr1:Kd.C (Kd.int .i64) w A1 l1.length l1) (hc1:l1.length ≤ c1) (h:spec_voBefore.f k l0 l1 = some r) :
  Calls Try.prog 165 #[.slice A0 l0.length c0,.slice A1 l1.length c1] w fun e w'=>e = .returned (.bool r) ∧ Drawn0 w w':=by
 have HR0:=aM hr0;have HC0:=aM hc0;clear hr0 hc0;have HR1:=aM hr1;have HC1:=aM hc1;clear hr1 hc1;have H:(spec_voBefore.l0 k l0 l1 0) = some r:=h;clear h;have H':=aM H;clear H;go_enter Try.func165,Try.ntmps165;go_wp2
 repeat (go_quiet (fail);try go_wp2)
 go_loopg [5] k (fun kq v5 w'=>∃ (x5_1:Int),v5 = .int .i64 x5_1 ∧ Aside0 (spec_voBefore.l0 kq l0 l1 x5_1 = some r) ∧ Aside0 (kq ≤ k) ∧ Drawn0 w w')
 case atStart=>exact ⟨(0),qrs,H',⟨Nat.le_refl _⟩,by repeat (first|exact Drawn0.refl _|apply Drawn0.step)⟩
 case round =>
  clear H';(try clear c1);(try clear p2)
  obtain ⟨x5_1,rfl,HA,HK1,⟨m1,rfl⟩⟩:=hrel
  cases gk with
  | zero=>exact absurd HA.out (by simp [spec_voBefore.l0])
  | succ k1 =>
   have H:=HA.out;clear HA;simp only [spec_voBefore.l0] at H;have HC3:=aM H;clear H;go_upto_region 2 with (fail)
   repeat (go_quiet (fail);go_upto_region 2 with (fail))
   go_cut [15] (fun v15 wc=>∃ (kq:Nat) (x15_2:Bool),v15 = .bool x15_2 ∧ Aside0 (spec_voBefore.j1 kq l0 l1 x5_1 x15_2 = some r) ∧ Aside0 (kq ≤ k1) ∧ Drawn0 w wc)
   case first =>
    have H:=HC3.out;clear HC3;by_cases c4:x5_1 < (l0.length:Int)
    ·rw [if_pos c4] at H;have c4b0:decide (x5_1 < (l0.length:Int)) = true:=decide_eq_true c4;clear c4;(first|rw [c4b0]|(simp only [i64_w,i32_w];rw [c4b0])|skip)
     have H':=aM H;clear H;go_wp2
     repeat (go_quiet (fail);try go_wp2)
     go_meet
     case rel=>exact ⟨_,(decide (x5_1 < (l1.length:Int))),qrs,H',⟨by have:=HK1.out;first|omega|exact Nat.le_refl _⟩,by repeat (first|exact Drawn0.refl _|apply Drawn0.step)⟩
    ·rw [if_neg c4] at H;have c4b0:decide (x5_1 < (l0.length:Int)) = false:=decide_eq_false c4;clear c4;(first|rw [c4b0]|(simp only [i64_w,i32_w];rw [c4b0])|skip)
     have H':=aM H;clear H;go_wp2
     repeat (go_quiet (fail);try go_wp2)
     go_meet
     case rel=>exact ⟨_,(false),qrs,H',⟨by have:=HK1.out;first|omega|exact Nat.le_refl _⟩,by repeat (first|exact Drawn0.refl _|apply Drawn0.step)⟩
   case rest =>
    clear HC3;(try clear c1);(try clear p2);(try clear c4);(try clear c4b0);(try clear p2)
    obtain ⟨kq,x15_2,rfl,HA,HJ2,⟨mc2,rfl⟩⟩:=hcut
    cases kq with
    | zero=>exact absurd HA.out (by simp [spec_voBefore.j1])
    | succ kj2 =>
     have H:=HA.out;clear HA;simp only [spec_voBefore.j1] at H;by_cases c5:x15_2 = true
     ·subst c5;have H1:(if 0 ≤ x5_1 then (if x5_1 < (l0.length:Int) then (if x5_1 < (l1.length:Int) then (if (rd l0 x5_1) = (rd l1 x5_1) then (spec_voBefore.l0 kj2 l0 l1 (wrap64 (x5_1 + 1))) else (some (decide ((rd l0 x5_1) < (rd l1 x5_1))))) else (none)) else (none)) else (none)) = some r:=by rw [if_pos rfl] at H;exact H
      clear H;have H:=H1;clear H1;by_cases c6:0 ≤ x5_1
      ·rw [if_pos c6] at H;have c6b0:decide (0 ≤ x5_1) = true:=decide_eq_true c6;clear c6;by_cases c7:x5_1 < (l0.length:Int)
       ·rw [if_pos c7] at H;have c7b0:decide (x5_1 < (l0.length:Int)) = true:=decide_eq_true c7;clear c7;by_cases c8:x5_1 < (l1.length:Int)
        ·rw [if_pos c8] at H;have c8b0:decide (x5_1 < (l1.length:Int)) = true:=decide_eq_true c8;clear c8;by_cases c9:(rd l0 x5_1) = (rd l1 x5_1)
         ·rw [if_pos c9] at H;have c9b0:((rd l0 x5_1) == (rd l1 x5_1)) = true:=beq_iff_eq.mpr c9;have c9b1:((rd l0 x5_1) != (rd l1 x5_1)) = false:=bne_eq_false_iff_eq.mpr c9;clear c9;have H':=aM H;clear H;have p703:0 ≤ (x5_1:Int):=of_decide_eq_true ab;have q703:x5_1 < (l0.length:Int):=of_decide_eq_true ab;obtain ⟨ad703,e703,hx703_0⟩:=Kd.at_int HR0.out x5_1 p703 q703;cases e703
          replace p703:=eq_true p703;replace q703:=eq_true q703;have p704:0 ≤ (x5_1:Int):=of_decide_eq_true ab;have q704:x5_1 < (l1.length:Int):=of_decide_eq_true ab;obtain ⟨ad704,e704,hx704_0⟩:=Kd.at_int HR1.out x5_1 p704 q704;cases e704
          replace p704:=eq_true p704;replace q704:=eq_true q704;go_wp2
          repeat (go_quiet (fail);try go_wp2)
          go_roundg kj2
          case measure=>have:=HK1.out;have:=HJ2.out;omega
          case rel=>exact ⟨(wrap64 (x5_1 + 1)),qrs,H',⟨by have:=HK1.out;have:=HJ2.out;omega⟩,by repeat (first|exact Drawn0.refl _|apply Drawn0.step)⟩
         ·rw [if_neg c9] at H;have c9b0:((rd l0 x5_1) == (rd l1 x5_1)) = false:=beq_eq_false_iff_ne.mpr c9;have c9b1:((rd l0 x5_1) != (rd l1 x5_1)) = true:=bne_iff_ne.mpr c9;obtain rfl:=Option.some.inj H;have p703:0 ≤ (x5_1:Int):=of_decide_eq_true ab;have q703:x5_1 < (l0.length:Int):=of_decide_eq_true ab;obtain ⟨ad703,e703,hx703_0⟩:=Kd.at_int HR0.out x5_1 p703 q703;cases e703
          replace p703:=eq_true p703;replace q703:=eq_true q703;have p704:0 ≤ (x5_1:Int):=of_decide_eq_true ab;have q704:x5_1 < (l1.length:Int):=of_decide_eq_true ab;obtain ⟨ad704,e704,hx704_0⟩:=Kd.at_int HR1.out x5_1 p704 q704;cases e704
          replace p704:=eq_true p704;replace q704:=eq_true q704;have p705:0 ≤ (x5_1:Int):=of_decide_eq_true ab;have q705:x5_1 < (l0.length:Int):=of_decide_eq_true ab;obtain ⟨ad705,e705,hx705_0⟩:=Kd.at_int HR0.out x5_1 p705 q705;obtain rfl:ad703 = ad705:=(by injection e705);replace p705:=eq_true p705;replace q705:=eq_true q705;have p706:0 ≤ (x5_1:Int):=of_decide_eq_true ab;have q706:x5_1 < (l1.length:Int):=of_decide_eq_true ab;obtain ⟨ad706,e706,hx706_0⟩:=Kd.at_int HR1.out x5_1 p706 q706;obtain rfl:ad704 = ad706:=(by injection e706);replace p706:=eq_true p706;replace q706:=eq_true q706;go_wp2
          repeat (go_quiet (fail);try go_wp2)
          go_ret
          exact ⟨by first|rfl|(simp;done)|(simp [*];done),by repeat (first|exact Drawn0.refl _|apply Drawn0.step)⟩
        ·rw [if_neg c8] at H;exact absurd H (by simp)
       ·rw [if_neg c7] at H;exact absurd H (by simp)
      ·rw [if_neg c6] at H;exact absurd H (by simp)
     ·replace c5:=Bool.eq_false_iff.mpr c5;subst c5;have H1:(some (decide ((l0.length:Int) < (l1.length:Int)))) = some r:=by rw [if_neg (show ¬ (false = true) by decide)] at H;exact H
      clear H;have H:=H1;clear H1;obtain rfl:=Option.some.inj H;go_wp2
      repeat (go_quiet (fail);try go_wp2)
      go_ret
      exact ⟨by first|rfl|(simp;done)|(simp [*];done),by repeat (first|exact Drawn0.refl _|apply Drawn0.step)⟩


/-! ### spec_voBits: function 166 -/
def spec_voBits.l0:Nat → Int → List Int → Int → Int → Option (Int)
 | 0,_,_,_,_=>none
 | k + 1,x3,x6,x7,x8=>if x8 < x7 then (if 0 ≤ x8 then (if x8 < (x6.length:Int) then (if 0 ≤ (rd x6 x8) then (spec_voBits.l0 k (Go.bits .or .i64 x3 (shl .i64 1 (rd x6 x8))) x6 x7 (wrap64 (x8 + 1))) else (none)) else (none)) else (none)) else (some x3)
def spec_voBits.f (k:Nat) (l0:List Int):Option (Int):=spec_voBits.l0 k 0 l0 (l0.length:Int) 0
theorem spec_voBits.mono_l:∀ k,(∀ y0 y1 y2 y3,LeO (spec_voBits.l0 k y0 y1 y2 y3) (spec_voBits.l0 (k + 1) y0 y1 y2 y3))
 | 0=>fun _ _ _ _ r h=>by simp [spec_voBits.l0] at h
 | k + 1=>by
  have ih0:=spec_voBits.mono_l k
  ·intro y0 y1 y2 y3;unfold spec_voBits.l0
   repeat' with_reducible first|exact ih0 _ _ _ _|exact LeO.refl _|exact LeO.none _|refine LeO.ite ?_ ?_|refine LeO.bind ?_ (fun _=>?_)
theorem spec_voBits.mono:∀ a0 k,LeO (spec_voBits.f k a0) (spec_voBits.f (k + 1) a0):=by
 intro a0 k;have ih0:=spec_voBits.mono_l k;unfold spec_voBits.f
 repeat' with_reducible first|exact ih0 _ _ _ _|exact LeO.refl _|exact LeO.none _|refine LeO.ite ?_ ?_|refine LeO.bind ?_ (fun _=>?_)
set_option maxHeartbeats 8000000 in
set_option maxRecDepth 100000 in
theorem spec_voBits.calls (k:Nat) (A0:Option Addr) (c0:Nat) (l0:List Int) (r:Int) (w:World) (hr0:Kd.C (Kd.int .i64) w A0 l0.length l0) (hc0:l0.length ≤ c0) (h:spec_voBits.f k l0 = some r) :
  Calls Try.prog 166 #[.slice A0 l0.length c0] w fun e w'=>e = .returned (.int .i64 r) ∧ Drawn0 w w':=by
 have HR0:=aM hr0;have HC0:=aM hc0;clear hr0 hc0;have H:(spec_voBits.l0 k 0 l0 (l0.length:Int) 0) = some r:=h;clear h;have H':=aM H;clear H;go_enter Try.func166,Try.ntmps166;go_wp2
 go_loopg [3,8] k (fun kq v3 v8 w'=>∃ (x3_1:Int) (x8_1:Int),v3 = .int .i64 x3_1 ∧ v8 = .int .i64 x8_1 ∧ Aside0 (spec_voBits.l0 kq x3_1 l0 (l0.length:Int) x8_1 = some r) ∧ Aside0 (kq ≤ k) ∧ Drawn0 w w')
 case atStart=>exact ⟨(0),(0),qrs,qrs,H',⟨Nat.le_refl _⟩,by repeat (first|exact Drawn0.refl _|apply Drawn0.step)⟩
 case round =>
  clear H'
  try clear c1
  obtain ⟨x3_1,x8_1,rfl,rfl,HA,HK1,⟨m1,rfl⟩⟩:=hrel
  cases gk with
  | zero=>exact absurd HA.out (by simp [spec_voBits.l0])
  | succ k1 =>
   have H:=HA.out;clear HA;simp only [spec_voBits.l0] at H;by_cases c2:x8_1 < (l0.length:Int)
   ·rw [if_pos c2] at H;have c2b0:decide (x8_1 < (l0.length:Int)) = true:=decide_eq_true c2;clear c2;by_cases c3:0 ≤ x8_1
    ·rw [if_pos c3] at H;have c3b0:decide (0 ≤ x8_1) = true:=decide_eq_true c3;clear c3;by_cases c4:x8_1 < (l0.length:Int)
     ·rw [if_pos c4] at H;have c4b0:decide (x8_1 < (l0.length:Int)) = true:=decide_eq_true c4;clear c4;by_cases c5:0 ≤ (rd l0 x8_1)
      ·rw [if_pos c5] at H;have c5b0:=eq_true c5;have c5b1:decide (0 ≤ (rd l0 x8_1)) = true:=decide_eq_true c5;clear c5;obtain ⟨ji6,hji6⟩:∃ j_:Int,(shl .i64 1 (rd l0 x8_1)) = j_:=⟨_,rfl⟩;replace H:(spec_voBits.l0 k1 (Go.bits .or .i64 x3_1 (ji6)) l0 (l0.length:Int) (wrap64 (x8_1 + 1))) = some r:=by first|(rw [hji6] at H;exact H)|(simp only [hji6] at H ⊢;exact H)
       have hji6_:(IntKind.i64.wrap (1 * 2 ^ min (rd l0 x8_1).toNat 64)) = ji6:=hji6;have hji6z:(rd l0 x8_1) ≤ 64 → (IntKind.i64.wrap (1 * 2 ^ (rd l0 x8_1).toNat)) = ji6:=shl_small hji6;have hji6u:(IntKind.i64.wrap (2 ^ min (rd l0 x8_1).toNat 64)) = ji6:=by have h_:=hji6_;rw [Int.one_mul] at h_;exact h_
       have hji6v:(rd l0 x8_1) ≤ 64 → (IntKind.i64.wrap (2 ^ (rd l0 x8_1).toNat)) = ji6:=fun hle_=>by have h_:=hji6z hle_;rw [Int.one_mul] at h_;exact h_
       have hji6y:(wrap64 (1 * 2 ^ min (rd l0 x8_1).toNat 64)) = ji6:=(i64_w _).symm.trans hji6_;have hji6x:(rd l0 x8_1) ≤ 64 → (wrap64 (1 * 2 ^ (rd l0 x8_1).toNat)) = ji6:=fun h_=>(i64_w _).symm.trans (hji6z h_)
       have H':=aM H;clear H;have p707:0 ≤ (x8_1:Int):=of_decide_eq_true ab;have q707:x8_1 < (l0.length:Int):=of_decide_eq_true ab;obtain ⟨ad707,e707,hx707_0⟩:=Kd.at_int HR0.out x8_1 p707 q707;cases e707
       replace p707:=eq_true p707;replace q707:=eq_true q707;go_wp2
       go_roundg k1
       case measure=>have:=HK1.out;omega
       case rel=>exact ⟨(Go.bits .or .i64 x3_1 (ji6)),(wrap64 (x8_1 + 1)),(by first|rfl|(simp;done)|(simp only [← hji6] <;> (first|rfl|simp))|(simp [*];done)),qrs,H',⟨by have:=HK1.out;omega⟩,by repeat (first|exact Drawn0.refl _|apply Drawn0.step)⟩
      ·rw [if_neg c5] at H;exact absurd H (by simp)
     ·rw [if_neg c4] at H;exact absurd H (by simp)
    ·rw [if_neg c3] at H;exact absurd H (by simp)
   ·rw [if_neg c2] at H;have c2b0:decide (x8_1 < (l0.length:Int)) = false:=decide_eq_false c2;clear c2;obtain rfl:=Option.some.inj H;go_wp2
    go_ret
    exact ⟨by first|rfl|(simp;done)|(simp [*];done),by repeat (first|exact Drawn0.refl _|apply Drawn0.step)⟩


/-! ### spec_gmGood: function 100 -/
mutual
def spec_gmGood.l0:Nat → List (List Int) → Int → Int → Int → List (List Int) → Option (Bool)
 | 0,_,_,_,_,_=>none
 | k + 1,x16,x17,x18,x709000,x709001=>if x18 < x17 then (if 0 ≤ x18 then (if x18 < (x16.length:Int) then (if x18 > 0 then (if 0 ≤ (wrap64 (x18 - 1)) then (if (wrap64 (x18 - 1)) < (x709001.length:Int) then ((spec_voBefore.f k (rd_LI x709001 (wrap64 (x18 - 1))) (rd_LI x16 x18)).bind fun t712=>(spec_gmGood.j1 k x18 (rd_LI x16 x18) x16 x17 x18 (!t712) x709000 x709001)) else (none)) else (none)) else (spec_gmGood.j1 k x18 (rd_LI x16 x18) x16 x17 x18 false x709000 x709001)) else (none)) else (none)) else (some true)
def spec_gmGood.j1:Nat → Int → List Int → List (List Int) → Int → Int → Bool → Int → List (List Int) → Option (Bool)
 | 0,_,_,_,_,_,_,_,_=>none
 | k + 1,x3,x4,x16,x17,x18,x35,x709000,x709001=>if x35 = true then (some false) else ((spec_voBits.f k x4).bind fun t713=>(if 0 ≤ x3 then (if x3 ≤ (x709001.length:Int) then ((some (x709001.take (x3:Int).toNat:List (List Int))).bind fun y714=>(spec_gmGood.l1 k t713 x16 x17 x18 y714 (y714.length:Int) 0 x709000 x709001)) else (none)) else (none)))
def spec_gmGood.l1:Nat → Int → List (List Int) → Int → Int → List (List Int) → Int → Int → Int → List (List Int) → Option (Bool)
 | 0,_,_,_,_,_,_,_,_,_=>none
 | k + 1,x5,x16,x17,x18,x41,x42,x43,x709000,x709001=>if x43 < x42 then (if 0 ≤ x43 then (if x43 < (x41.length:Int) then ((spec_voBits.f k (rd_LI x41 x43)).bind fun t719=>(if (Go.bits .and .i64 x5 t719) = x5 then (some false) else (if (Go.bits .and .i64 x5 t719) = t719 then (some false) else (spec_gmGood.l1 k x5 x16 x17 x18 x41 x42 (wrap64 (x43 + 1)) x709000 x709001)))) else (none)) else (none)) else (spec_gmGood.l0 k x16 x17 (wrap64 (x18 + 1)) x709000 x709001)
end
def spec_gmGood.f (k:Nat) (a0_0:Int) (l0_1:List (List Int)):Option (Bool):=(spec_gmSets.f k a0_0 l0_1 126).bind fun t709=>(if t709 = true then (spec_gmGood.l0 k l0_1 (l0_1.length:Int) 0 a0_0 l0_1) else (some false))
theorem spec_gmGood.mono_l:∀ k,(∀ y0 y1 y2 y3 y4,LeO (spec_gmGood.l0 k y0 y1 y2 y3 y4) (spec_gmGood.l0 (k + 1) y0 y1 y2 y3 y4)) ∧ (∀ y0 y1 y2 y3 y4 y5 y6 y7,LeO (spec_gmGood.j1 k y0 y1 y2 y3 y4 y5 y6 y7) (spec_gmGood.j1 (k + 1) y0 y1 y2 y3 y4 y5 y6 y7)) ∧ (∀ y0 y1 y2 y3 y4 y5 y6 y7 y8,LeO (spec_gmGood.l1 k y0 y1 y2 y3 y4 y5 y6 y7 y8) (spec_gmGood.l1 (k + 1) y0 y1 y2 y3 y4 y5 y6 y7 y8))
 | 0=>⟨fun _ _ _ _ _ r h=>by simp [spec_gmGood.l0] at h,fun _ _ _ _ _ _ _ _ r h=>by simp [spec_gmGood.j1] at h,fun _ _ _ _ _ _ _ _ _ r h=>by simp [spec_gmGood.l1] at h⟩
 | k + 1=>by
  obtain ⟨ih0,ih1,ih2⟩:=spec_gmGood.mono_l k;refine ⟨?_,?_,?_⟩
  ·intro y0 y1 y2 y3 y4;unfold spec_gmGood.l0
   repeat' with_reducible first|exact ih0 _ _ _ _ _|exact ih1 _ _ _ _ _ _ _ _|exact ih2 _ _ _ _ _ _ _ _ _|exact spec_gmSets.mono _ _ _ _|exact spec_voBefore.mono _ _ _|exact spec_voBits.mono _ _|exact LeO.refl _|exact LeO.none _|refine LeO.ite ?_ ?_|refine LeO.bind ?_ (fun _=>?_)
  ·intro y0 y1 y2 y3 y4 y5 y6 y7;unfold spec_gmGood.j1
   repeat' with_reducible first|exact ih0 _ _ _ _ _|exact ih1 _ _ _ _ _ _ _ _|exact ih2 _ _ _ _ _ _ _ _ _|exact spec_gmSets.mono _ _ _ _|exact spec_voBefore.mono _ _ _|exact spec_voBits.mono _ _|exact LeO.refl _|exact LeO.none _|refine LeO.ite ?_ ?_|refine LeO.bind ?_ (fun _=>?_)
  ·intro y0 y1 y2 y3 y4 y5 y6 y7 y8;unfold spec_gmGood.l1
   repeat' with_reducible first|exact ih0 _ _ _ _ _|exact ih1 _ _ _ _ _ _ _ _|exact ih2 _ _ _ _ _ _ _ _ _|exact spec_gmSets.mono _ _ _ _|exact spec_voBefore.mono _ _ _|exact spec_voBits.mono _ _|exact LeO.refl _|exact LeO.none _|refine LeO.ite ?_ ?_|refine LeO.bind ?_ (fun _=>?_)
theorem spec_gmGood.mono:∀ a0 a1 k,LeO (spec_gmGood.f k a0 a1) (spec_gmGood.f (k + 1) a0 a1):=by
 intro a0 a1 k;obtain ⟨ih0,ih1,ih2⟩:=spec_gmGood.mono_l k;unfold spec_gmGood.f
 repeat' with_reducible first|exact ih0 _ _ _ _ _|exact ih1 _ _ _ _ _ _ _ _|exact ih2 _ _ _ _ _ _ _ _ _|exact spec_gmSets.mono _ _ _ _|exact spec_voBefore.mono _ _ _|exact spec_voBits.mono _ _|exact LeO.refl _|exact LeO.none _|refine LeO.ite ?_ ?_|refine LeO.bind ?_ (fun _=>?_)
set_option maxHeartbeats 8000000 in
set_option maxRecDepth 100000 in
theorem spec_gmGood.calls (k:Nat) (a0_0:Int) (A0_1:Option Addr) (c0_1:Nat) (l0_1:List (List Int)) (r:Bool) (w:World) (hr0_1:Kd.C (Kd.slice 3 (Kd.int .i64)) w A0_1 l0_1.length l0_1) (hc0_1:l0_1.length ≤ c0_1) (h:spec_gmGood.f k a0_0 l0_1 = some r) :
  Calls Try.prog 100 #[.agg #[.int .i64 a0_0,.slice A0_1 l0_1.length c0_1]] w fun e w'=>e = .returned (.bool r) ∧ Below w.heap.size w w':=by
 have hu57:=Try.underlying57;have HR0_1:=aM hr0_1;have HC0_1:=aM hc0_1;clear hr0_1 hc0_1;have HB:=aM (Below.refl w.heap.size w);have H:((spec_gmSets.f k a0_0 l0_1 126).bind fun t709=>(if t709 = true then (spec_gmGood.l0 k l0_1 (l0_1.length:Int) 0 a0_0 l0_1) else (some false))) = some r:=h;clear h;replace H:=Option.bind_eq_some_iff.mp H;obtain ⟨t709,A20,H⟩:=H;replace H:(if t709 = true then (spec_gmGood.l0 k l0_1 (l0_1.length:Int) 0 a0_0 l0_1) else (some false)) = some r:=H;have A2:=aM A20;clear A20;by_cases c3:t709 = true
 ·subst c3;have H1:(spec_gmGood.l0 k l0_1 (l0_1.length:Int) 0 a0_0 l0_1) = some r:=by rw [if_pos rfl] at H;exact H
  clear H;have H:=H1;clear H1;have H':=aM H;clear H;go_enter Try.func100,Try.ntmps100;go_wp2_with (first|((with_reducible refine gate_dst (N:=1) rfl ?_);refine box_event ?hg (N:=1) ?hd (cs:=#[.int .i64 a0_0,.slice A0_1 l0_1.length c0_1]) (t:=57) ?hr ?_;(case hd=>rfl);(case hg=>rfl);(case hr=>first|(go_simp;done)|(go_simp;rfl));intro gb708 hg w4 hbox hb;have n0_:=aM (below_step bw hb);have n1_:=aM (hbox);have n2_:=aM ((by rw [hg];exact (below_size bw):w.heap.size ≤ gb708));have n3_:=aM ((by rw [hg];exact (below_size bw):w.heap.size ≤ gb708));clear HB;have HB:=n0_;have BK708:=n1_;have GW708:=n2_;have GE708:=n3_;clear n0_ n1_ n2_ n3_;clear hb hbox hg;have hcz5_0:w4.cell? ⟨gb708,0,none⟩ = some (.int .i64 a0_0):=(blk_cell BK708.out 0).trans rfl;have hcz5_1:w4.cell? ⟨gb708,1,none⟩ = some (.slice A0_1 l0_1.length c0_1):=(blk_cell BK708.out 1).trans rfl;have hfz5_0:=blk_frozen BK708.out 0;have hfz5_1:=blk_frozen BK708.out 1)|((with_reducible refine gate_callee (f:=164) rfl ?_);refine goesL_ (some 13) rfl rfl Try.func164 kR rfl #[.int .i64 a0_0,.slice A0_1 l0_1.length c0_1,.int .i64 126] rfl mq ?_;(with_reducible refine (spec_gmSets.calls k a0_0 _ _ l0_1 126 true _ ?side1 ?side2 A2.out).mono ?_);(case side1=>exact qcs HR0_1.out HB.out);(case side2=>exact HC0_1.out);rintro e w' ⟨rfl,⟨nd,rfl⟩⟩;refine ⟨_,rfl,?_⟩))
  go_loopg [18] k (fun kq v18 w'=>∃ (x18_1:Int),v18 = .int .i64 x18_1 ∧ Aside0 (spec_gmGood.l0 kq l0_1 (l0_1.length:Int) x18_1 a0_0 l0_1 = some r) ∧ Aside0 (kq ≤ k) ∧ Aside0 (w'.heap[gb708]? = some (.cells #[.int .i64 a0_0,(.slice A0_1 l0_1.length c0_1)] 57 (0,0))) ∧ Aside0 (Below w.heap.size w w'))
  case atStart=>exact ⟨(0),qrs,H',⟨Nat.le_refl _⟩,⟨by (with_reducible repeat (first|refine blk_drewN ?_ _|refine blk_drew ?_|refine blk_alloc ?_ _));exact BK708.out⟩,⟨by exact bw⟩⟩
  case round =>
   clear H';(try clear c1);(try clear p2);(try clear c3);(try clear hcz5_0);(try clear hcz5_1);(try clear hfz5_0);(try clear hfz5_1)
   obtain ⟨x18_1,rfl,HA,HK1,BK708,HB⟩:=hrel
   cases gk with
   | zero=>exact absurd HA.out (by simp [spec_gmGood.l0])
   | succ k1 =>
    have H:=HA.out;clear HA;simp only [spec_gmGood.l0] at H;by_cases c6:x18_1 < (l0_1.length:Int)
    ·rw [if_pos c6] at H;have c6b0:decide (x18_1 < (l0_1.length:Int)) = true:=decide_eq_true c6;clear c6;by_cases c7:0 ≤ x18_1
     ·rw [if_pos c7] at H;have c7b0:decide (0 ≤ x18_1) = true:=decide_eq_true c7;clear c7;by_cases c8:x18_1 < (l0_1.length:Int)
      ·rw [if_pos c8] at H;have c8b0:decide (x18_1 < (l0_1.length:Int)) = true:=decide_eq_true c8;clear c8;have HC9:=aM H;clear H;have p710:0 ≤ (x18_1:Int):=of_decide_eq_true ab;have q710:x18_1 < (l0_1.length:Int):=of_decide_eq_true ab;obtain ⟨ad710,A710_0,c710_0,e710,hx710_0,hl710_0,hi710_0⟩:=at_LI HR0_1.out x18_1 p710 q710;cases e710
       replace hx710_0:=(HB.out.cell (World.block_lt_of_cell? w _ hx710_0)).trans hx710_0;have HR710_0:=aM hi710_0;have HC710_0:=aM hl710_0;clear hi710_0 hl710_0;replace p710:=eq_true p710;replace q710:=eq_true q710;go_upto_region 6 with (fail)
       go_cut [35] (fun v35 wc=>∃ (kq:Nat) (x35_8:Bool),v35 = .bool x35_8 ∧ Aside0 (spec_gmGood.j1 kq x18_1 (rd_LI l0_1 x18_1) l0_1 (l0_1.length:Int) x18_1 x35_8 a0_0 l0_1 = some r) ∧ Aside0 (kq ≤ k1) ∧ Aside0 (wc.heap[gb708]? = some (.cells #[.int .i64 a0_0,(.slice (some ad710) l0_1.length c0_1)] 57 (0,0))) ∧ Aside0 (Below w.heap.size w wc))
       case first =>
        have H:=HC9.out;clear HC9;by_cases c10:x18_1 > 0
        ·rw [if_pos c10] at H;have c10b0:decide (0 < x18_1) = true:=decide_eq_true c10;clear c10;(first|rw [c10b0]|(simp only [i64_w,i32_w];rw [c10b0])|skip)
         obtain ⟨ji11,hji11⟩:∃ j_:Int,(wrap64 (x18_1 - 1)) = j_:=⟨_,rfl⟩;replace H:(if 0 ≤ (ji11) then (if (ji11) < (l0_1.length:Int) then ((spec_voBefore.f k1 (rd_LI l0_1 (ji11)) (rd_LI l0_1 x18_1)).bind fun t712=>(spec_gmGood.j1 k1 x18_1 (rd_LI l0_1 x18_1) l0_1 (l0_1.length:Int) x18_1 (!t712) a0_0 l0_1)) else (none)) else (none)) = some r:=by first|(rw [hji11] at H;exact H)|(simp only [hji11] at H ⊢;exact H)
         have hji11w:(IntKind.i64.wrap (x18_1 - 1)) = ji11:=(i64_w _).trans hji11;by_cases c12:0 ≤ (ji11)
         ·rw [if_pos c12] at H;have c12b0:decide (0 ≤ (ji11)) = true:=decide_eq_true c12;clear c12;by_cases c13:(ji11) < (l0_1.length:Int)
          ·rw [if_pos c13] at H;have c13b0:decide ((ji11) < (l0_1.length:Int)) = true:=decide_eq_true c13;clear c13;replace H:=Option.bind_eq_some_iff.mp H;obtain ⟨t712,A140,H⟩:=H;replace H:(spec_gmGood.j1 k1 x18_1 (rd_LI l0_1 x18_1) l0_1 (l0_1.length:Int) x18_1 (!t712) a0_0 l0_1) = some r:=H;have A14:=aM A140;clear A140;have H':=aM H;clear H;have hcz15_0:wr.cell? ⟨gb708,0,none⟩ = some (.int .i64 a0_0):=(blk_cell BK708.out 0).trans rfl;have hcz15_1:wr.cell? ⟨gb708,1,none⟩ = some (.slice (some ad710) l0_1.length c0_1):=(blk_cell BK708.out 1).trans rfl;have hfz15_0:=blk_frozen BK708.out 0;have hfz15_1:=blk_frozen BK708.out 1;have p711:0 ≤ ((ji11):Int):=of_decide_eq_true ab;have q711:(ji11) < (l0_1.length:Int):=of_decide_eq_true ab;obtain ⟨ad711,A711_0,c711_0,e711,hx711_0,hl711_0,hi711_0⟩:=at_LI HR0_1.out (ji11) p711 q711;obtain rfl:ad710 = ad711:=(by injection e711);replace hx711_0:=(HB.out.cell (World.block_lt_of_cell? w _ hx711_0)).trans hx711_0;have HR711_0:=aM hi711_0;have HC711_0:=aM hl711_0;clear hi711_0 hl711_0;replace p711:=eq_true p711;replace q711:=eq_true q711;go_wp2_with (first|(go_at_call 165;(with_reducible refine (spec_voBefore.calls k1 _ _ (rd_LI l0_1 (ji11)) _ _ (rd_LI l0_1 x18_1) t712 _ ?side1 ?side2 ?side3 ?side4 A14.out).mono ?_);(case side1=>exact qcs HR711_0.out HB.out);(case side2=>exact HC711_0.out);(case side3=>exact qcs HR710_0.out HB.out);(case side4=>exact HC710_0.out);rintro e w' ⟨rfl,⟨nd,rfl⟩⟩))
           go_meet
           case rel=>exact ⟨_,(!t712),qrs,H',⟨by have:=HK1.out;first|omega|exact Nat.le_refl _⟩,⟨by (with_reducible repeat (first|refine blk_drewN ?_ _|refine blk_drew ?_|refine blk_alloc ?_ _));exact BK708.out⟩,⟨by exact bw⟩⟩
          ·rw [if_neg c13] at H;exact absurd H (by simp)
         ·rw [if_neg c12] at H;exact absurd H (by simp)
        ·rw [if_neg c10] at H;have c10b0:decide (0 < x18_1) = false:=decide_eq_false c10;clear c10;(first|rw [c10b0]|(simp only [i64_w,i32_w];rw [c10b0])|skip)
         have H':=aM H;clear H;go_wp2
         go_meet
         case rel=>exact ⟨_,(false),qrs,H',⟨by have:=HK1.out;first|omega|exact Nat.le_refl _⟩,⟨by (with_reducible repeat (first|refine blk_drewN ?_ _|refine blk_drew ?_|refine blk_alloc ?_ _));exact BK708.out⟩,⟨by exact bw⟩⟩
       case rest =>
        clear HC9;(try clear c1);(try clear p2);(try clear c3);(try clear c6);(try clear c6b0);(try clear p6);(try clear c7);(try clear c7b0);(try clear p7);(try clear q7);(try clear hx7);(try clear c8);(try clear c8b0);(try clear c10);(try clear c10b0);(try clear c12);(try clear c12b0);(try clear c13);(try clear c13b0);(try clear hcz15_0);(try clear hcz15_1);(try clear hcz5_0);(try clear hcz5_1);(try clear hfz15_0);(try clear hfz15_1);(try clear hfz5_0);(try clear hfz5_1);(try clear hx710_0);(try clear hx711_0);(try clear p2);(try clear p710);(try clear p711);(try clear q710);(try clear q711)
        obtain ⟨kq,x35_8,rfl,HA,HJ8,BK708,HB⟩:=hcut
        cases kq with
        | zero=>exact absurd HA.out (by simp [spec_gmGood.j1])
        | succ kj8 =>
         have H:=HA.out;clear HA;simp only [spec_gmGood.j1] at H;by_cases c16:x35_8 = true
         ·subst c16;have H1:(some false) = some r:=by rw [if_pos rfl] at H;exact H
          clear H;have H:=H1;clear H1;obtain rfl:=Option.some.inj H;go_wp2
          go_ret
          exact ⟨by first|rfl|(simp [errW_none,errW_some] <;> rfl)|(simp [*,errW_none,errW_some] <;> rfl),by exact bw⟩
         ·replace c16:=Bool.eq_false_iff.mpr c16;subst c16;have H1:((spec_voBits.f kj8 (rd_LI l0_1 x18_1)).bind fun t713=>(if 0 ≤ x18_1 then (if x18_1 ≤ (l0_1.length:Int) then ((some (l0_1.take (x18_1:Int).toNat:List (List Int))).bind fun y714=>(spec_gmGood.l1 kj8 t713 l0_1 (l0_1.length:Int) x18_1 y714 (y714.length:Int) 0 a0_0 l0_1)) else (none)) else (none))) = some r:=by rw [if_neg (show ¬ (false = true) by decide)] at H;exact H
          clear H;have H:=H1;clear H1;replace H:=Option.bind_eq_some_iff.mp H;obtain ⟨t713,A170,H⟩:=H;replace H:(if 0 ≤ x18_1 then (if x18_1 ≤ (l0_1.length:Int) then ((some (l0_1.take (x18_1:Int).toNat:List (List Int))).bind fun y714=>(spec_gmGood.l1 kj8 t713 l0_1 (l0_1.length:Int) x18_1 y714 (y714.length:Int) 0 a0_0 l0_1)) else (none)) else (none)) = some r:=H;have A17:=aM A170;clear A170;by_cases c18:0 ≤ x18_1
          ·rw [if_pos c18] at H;have c18b0:=eq_true c18;have c18b1:decide (0 ≤ x18_1) = true:=decide_eq_true c18;clear c18;by_cases c19:x18_1 ≤ (l0_1.length:Int)
           ·rw [if_pos c19] at H;have c19b0:=eq_true c19;have c19b1:decide (x18_1 ≤ (l0_1.length:Int)) = true:=decide_eq_true c19;clear c19;obtain ⟨y714,hy714⟩:∃ y_:List (List Int),y_ = (l0_1.take (x18_1:Int).toNat):=⟨_,rfl⟩;replace H:(spec_gmGood.l1 kj8 t713 l0_1 (l0_1.length:Int) x18_1 y714 (y714.length:Int) 0 a0_0 l0_1) = some r:=by first|(rw [hy714];with_reducible exact H)|(have H2_:=(Option.bind_some _ _).symm.trans H;rw [hy714];with_reducible exact H2_)|(have H2_:=(Option.bind_some _ _).symm.trans H;with_reducible exact H2_)|with_reducible exact H|(rw [hy714];exact H)|exact H
            have Ny714:=aM hy714;clear hy714;have H':=aM H;clear H;go_wp2_with (first|((with_reducible refine gate_callee (f:=166) rfl ?_);refine goesL_ (some 37) rfl rfl Try.func166 kR rfl #[.slice A710_0 (rd_LI l0_1 x18_1).length c710_0] rfl mq ?_;(with_reducible refine (spec_voBits.calls kj8 _ _ (rd_LI l0_1 x18_1) t713 _ ?side1 ?side2 A17.out).mono ?_);(case side1=>exact qcs HR710_0.out HB.out);(case side2=>exact HC710_0.out);rintro e w' ⟨rfl,⟨nd,rfl⟩⟩;refine ⟨_,rfl,?_⟩;have hcz20_0:wc.cell? ⟨gb708,0,none⟩ = some (.int .i64 a0_0):=(blk_cell BK708.out 0).trans rfl;have hcz20_1:wc.cell? ⟨gb708,1,none⟩ = some (.slice (some ad710) l0_1.length c0_1):=(blk_cell BK708.out 1).trans rfl;have hfz20_0:=blk_frozen BK708.out 0;have hfz20_1:=blk_frozen BK708.out 1;have q21:(x18_1:Int) ≤ ((l0_1.length:Int):Int):=of_decide_eq_true ab;obtain ⟨i021,hi021,_,hsz21,_⟩:=info_parts info22;have hroom21:l0_1.length ≤ c0_1:=HC0_1.out;have hC21:Kd.C (Kd.slice 3 (Kd.int .i64)) _ (some ad710) l0_1.length l0_1:=HR0_1.out;have hcut21:=cut_to (P:=Try.prog) 51 22 .i64 Try.underlying51 hi021 (some ad710) l0_1.length c0_1 x18_1 (of_decide_eq_true ab) q21 hroom21;have hr21:=Kd.C_take (m:=(x18_1:Int).toNat) hC21 (by omega);have hy21:y714.length = (x18_1:Int).toNat:=(by rw [Ny714.out,List.length_take];omega);rw [← Ny714.out] at hr21;rw [← hy21] at hcut21;have HR717:=aM hr21;have HC717:=aM (show y714.length ≤ c0_1 from by omega);clear hr21 hC21 hroom21 hi021 hsz21;have KY21:=aM hy21;clear hy21;replace q21:=eq_true q21))
            go_loopg [43] kj8 (fun kq v43 w'=>∃ (x43_3:Int),v43 = .int .i64 x43_3 ∧ Aside0 (spec_gmGood.l1 kq t713 l0_1 (l0_1.length:Int) x18_1 y714 (y714.length:Int) x43_3 a0_0 l0_1 = some r) ∧ Aside0 (kq ≤ kj8) ∧ Aside0 (w'.heap[gb708]? = some (.cells #[.int .i64 a0_0,(.slice (some ad710) l0_1.length c0_1)] 57 (0,0))) ∧ Aside0 (Below w.heap.size w w'))
            case atStart=>exact ⟨(0),qrs,H',⟨Nat.le_refl _⟩,⟨by (with_reducible repeat (first|refine blk_drewN ?_ _|refine blk_drew ?_|refine blk_alloc ?_ _));exact BK708.out⟩,⟨by exact bw⟩⟩
            case round =>
             clear H';(try clear c1);(try clear p2);(try clear q2);(try clear c3);(try clear c6);(try clear c6b0);(try clear p6);(try clear c7);(try clear c7b0);(try clear p7);(try clear q7);(try clear hx7);(try clear c8);(try clear c8b0);(try clear c10);(try clear c10b0);(try clear c12);(try clear c12b0);(try clear c13);(try clear c13b0);(try clear c16);(try clear c18);(try clear c18b0);(try clear c18b1);(try clear c19);(try clear c19b0);(try clear c19b1);(try clear q21);(try clear hcz15_0);(try clear hcz15_1);(try clear hcz20_0);(try clear hcz20_1);(try clear hcz5_0);(try clear hcz5_1);(try clear hfz15_0);(try clear hfz15_1);(try clear hfz20_0);(try clear hfz20_1);(try clear hfz5_0);(try clear hfz5_1);(try clear hx710_0);(try clear hx711_0);(try clear p2);(try clear p6);(try clear p7);(try clear p710);(try clear p711);(try clear q21);(try clear q7);(try clear q710);(try clear q711)
             obtain ⟨x43_3,rfl,HA,HK3,BK708,HB⟩:=hrel
             cases gk with
             | zero=>exact absurd HA.out (by simp [spec_gmGood.l1])
             | succ k3 =>
              have H:=HA.out;clear HA;simp only [spec_gmGood.l1] at H;by_cases c22:x43_3 < (y714.length:Int)
              ·rw [if_pos c22] at H;have c22b0:decide (x43_3 < (y714.length:Int)) = true:=decide_eq_true c22;clear c22;by_cases c23:0 ≤ x43_3
               ·rw [if_pos c23] at H;have c23b0:decide (0 ≤ x43_3) = true:=decide_eq_true c23;clear c23;by_cases c24:x43_3 < (y714.length:Int)
                ·rw [if_pos c24] at H;have c24b0:decide (x43_3 < (y714.length:Int)) = true:=decide_eq_true c24;clear c24;replace H:=Option.bind_eq_some_iff.mp H;obtain ⟨t719,A250,H⟩:=H;replace H:(if (Go.bits .and .i64 t713 t719) = t713 then (some false) else (if (Go.bits .and .i64 t713 t719) = t719 then (some false) else (spec_gmGood.l1 k3 t713 l0_1 (l0_1.length:Int) x18_1 y714 (y714.length:Int) (wrap64 (x43_3 + 1)) a0_0 l0_1))) = some r:=H;have A25:=aM A250;clear A250;by_cases c26:(Go.bits .and .i64 t713 t719) = t713
                 ·rw [if_pos c26] at H;have c26b0:((Go.bits .and .i64 t713 t719) == t713) = true:=beq_iff_eq.mpr c26;have c26b1:((Go.bits .and .i64 t713 t719) != t713) = false:=bne_eq_false_iff_eq.mpr c26;clear c26;obtain rfl:=Option.some.inj H;have p718:0 ≤ (x43_3:Int):=of_decide_eq_true ab;have q718:x43_3 < (y714.length:Int):=of_decide_eq_true ab;obtain ⟨ad718,A718_0,c718_0,e718,hx718_0,hl718_0,hi718_0⟩:=at_LI HR717.out x43_3 p718 q718;obtain rfl:ad710 = ad718:=(by injection e718);replace hx718_0:=(HB.out.cell (World.block_lt_of_cell? w _ hx718_0)).trans hx718_0;have HR718_0:=aM hi718_0;have HC718_0:=aM hl718_0;clear hi718_0 hl718_0;replace p718:=eq_true p718;replace q718:=eq_true q718;go_wp2_with (first|((with_reducible refine gate_callee (f:=166) rfl ?_);refine goesL_ (some 48) rfl rfl Try.func166 kR rfl #[.slice A718_0 (rd_LI y714 x43_3).length c718_0] rfl mq ?_;(with_reducible refine (spec_voBits.calls k3 _ _ (rd_LI y714 x43_3) t719 _ ?side1 ?side2 A25.out).mono ?_);(case side1=>exact qcs HR718_0.out HB.out);(case side2=>exact HC718_0.out);rintro e w' ⟨rfl,⟨nd,rfl⟩⟩;refine ⟨_,rfl,?_⟩))
                  go_ret
                  exact ⟨by first|rfl|(simp [errW_none,errW_some] <;> rfl)|(simp [*,errW_none,errW_some] <;> rfl),by exact bw⟩
                 ·rw [if_neg c26] at H;have c26b0:((Go.bits .and .i64 t713 t719) == t713) = false:=beq_eq_false_iff_ne.mpr c26;have c26b1:((Go.bits .and .i64 t713 t719) != t713) = true:=bne_iff_ne.mpr c26;by_cases c27:(Go.bits .and .i64 t713 t719) = t719
                  ·rw [if_pos c27] at H;have c27b0:((Go.bits .and .i64 t713 t719) == t719) = true:=beq_iff_eq.mpr c27;have c27b1:((Go.bits .and .i64 t713 t719) != t719) = false:=bne_eq_false_iff_eq.mpr c27;clear c27;obtain rfl:=Option.some.inj H;have p718:0 ≤ (x43_3:Int):=of_decide_eq_true ab;have q718:x43_3 < (y714.length:Int):=of_decide_eq_true ab;obtain ⟨ad718,A718_0,c718_0,e718,hx718_0,hl718_0,hi718_0⟩:=at_LI HR717.out x43_3 p718 q718;obtain rfl:ad710 = ad718:=(by injection e718);replace hx718_0:=(HB.out.cell (World.block_lt_of_cell? w _ hx718_0)).trans hx718_0;have HR718_0:=aM hi718_0;have HC718_0:=aM hl718_0;clear hi718_0 hl718_0;replace p718:=eq_true p718;replace q718:=eq_true q718;go_wp2_with (first|((with_reducible refine gate_callee (f:=166) rfl ?_);refine goesL_ (some 48) rfl rfl Try.func166 kR rfl #[.slice A718_0 (rd_LI y714 x43_3).length c718_0] rfl mq ?_;(with_reducible refine (spec_voBits.calls k3 _ _ (rd_LI y714 x43_3) t719 _ ?side1 ?side2 A25.out).mono ?_);(case side1=>exact qcs HR718_0.out HB.out);(case side2=>exact HC718_0.out);rintro e w' ⟨rfl,⟨nd,rfl⟩⟩;refine ⟨_,rfl,?_⟩))
                   go_ret
                   exact ⟨by first|rfl|(simp [errW_none,errW_some] <;> rfl)|(simp [*,errW_none,errW_some] <;> rfl),by exact bw⟩
                  ·rw [if_neg c27] at H;have c27b0:((Go.bits .and .i64 t713 t719) == t719) = false:=beq_eq_false_iff_ne.mpr c27;have c27b1:((Go.bits .and .i64 t713 t719) != t719) = true:=bne_iff_ne.mpr c27;have H':=aM H;clear H;have p718:0 ≤ (x43_3:Int):=of_decide_eq_true ab;have q718:x43_3 < (y714.length:Int):=of_decide_eq_true ab;obtain ⟨ad718,A718_0,c718_0,e718,hx718_0,hl718_0,hi718_0⟩:=at_LI HR717.out x43_3 p718 q718;obtain rfl:ad710 = ad718:=(by injection e718);replace hx718_0:=(HB.out.cell (World.block_lt_of_cell? w _ hx718_0)).trans hx718_0;have HR718_0:=aM hi718_0;have HC718_0:=aM hl718_0;clear hi718_0 hl718_0;replace p718:=eq_true p718;replace q718:=eq_true q718;go_wp2_with (first|((with_reducible refine gate_callee (f:=166) rfl ?_);refine goesL_ (some 48) rfl rfl Try.func166 kR rfl #[.slice A718_0 (rd_LI y714 x43_3).length c718_0] rfl mq ?_;(with_reducible refine (spec_voBits.calls k3 _ _ (rd_LI y714 x43_3) t719 _ ?side1 ?side2 A25.out).mono ?_);(case side1=>exact qcs HR718_0.out HB.out);(case side2=>exact HC718_0.out);rintro e w' ⟨rfl,⟨nd,rfl⟩⟩;refine ⟨_,rfl,?_⟩))
                   go_roundg k3
                   case measure=>have:=HK1.out;have:=HJ8.out;have:=HK3.out;omega
                   case rel=>exact ⟨(wrap64 (x43_3 + 1)),qrs,H',⟨by have:=HK1.out;have:=HJ8.out;have:=HK3.out;omega⟩,⟨by (with_reducible repeat (first|refine blk_drewN ?_ _|refine blk_drew ?_|refine blk_alloc ?_ _));exact BK708.out⟩,⟨by exact bw⟩⟩
                ·rw [if_neg c24] at H;exact absurd H (by simp)
               ·rw [if_neg c23] at H;exact absurd H (by simp)
              ·rw [if_neg c22] at H;have c22b0:decide (x43_3 < (y714.length:Int)) = false:=decide_eq_false c22;clear c22;have H':=aM H;clear H;go_wp2
               go_roundg k3
               case measure=>have:=HK1.out;have:=HJ8.out;have:=HK3.out;omega
               case rel=>exact ⟨(wrap64 (x18_1 + 1)),qrs,H',⟨by have:=HK1.out;have:=HJ8.out;have:=HK3.out;omega⟩,⟨by (with_reducible repeat (first|refine blk_drewN ?_ _|refine blk_drew ?_|refine blk_alloc ?_ _));exact BK708.out⟩,⟨by exact bw⟩⟩
           ·rw [if_neg c19] at H;exact absurd H (by simp)
          ·rw [if_neg c18] at H;exact absurd H (by simp)
      ·rw [if_neg c8] at H;exact absurd H (by simp)
     ·rw [if_neg c7] at H;exact absurd H (by simp)
    ·rw [if_neg c6] at H;have c6b0:decide (x18_1 < (l0_1.length:Int)) = false:=decide_eq_false c6;clear c6;obtain rfl:=Option.some.inj H;go_wp2
     go_ret
     exact ⟨by first|rfl|(simp [errW_none,errW_some] <;> rfl)|(simp [*,errW_none,errW_some] <;> rfl),by exact bw⟩
 ·replace c3:=Bool.eq_false_iff.mpr c3;subst c3;have H1:(some false) = some r:=by rw [if_neg (show ¬ (false = true) by decide)] at H;exact H
  clear H;have H:=H1;clear H1;obtain rfl:=Option.some.inj H;go_enter Try.func100,Try.ntmps100;go_wp2_with (first|((with_reducible refine gate_dst (N:=1) rfl ?_);refine box_event ?hg (N:=1) ?hd (cs:=#[.int .i64 a0_0,.slice A0_1 l0_1.length c0_1]) (t:=57) ?hr ?_;(case hd=>rfl);(case hg=>rfl);(case hr=>first|(go_simp;done)|(go_simp;rfl));intro gb708 hg w28 hbox hb;have n0_:=aM (below_step bw hb);have n1_:=aM (hbox);have n2_:=aM ((by rw [hg];exact (below_size bw):w.heap.size ≤ gb708));have n3_:=aM ((by rw [hg];exact (below_size bw):w.heap.size ≤ gb708));clear HB;have HB:=n0_;have BK708:=n1_;have GW708:=n2_;have GE708:=n3_;clear n0_ n1_ n2_ n3_;clear hb hbox hg;have hcz29_0:w28.cell? ⟨gb708,0,none⟩ = some (.int .i64 a0_0):=(blk_cell BK708.out 0).trans rfl;have hcz29_1:w28.cell? ⟨gb708,1,none⟩ = some (.slice A0_1 l0_1.length c0_1):=(blk_cell BK708.out 1).trans rfl;have hfz29_0:=blk_frozen BK708.out 0;have hfz29_1:=blk_frozen BK708.out 1)|((with_reducible refine gate_callee (f:=164) rfl ?_);refine goesL_ (some 13) rfl rfl Try.func164 kR rfl #[.int .i64 a0_0,.slice A0_1 l0_1.length c0_1,.int .i64 126] rfl mq ?_;(with_reducible refine (spec_gmSets.calls k a0_0 _ _ l0_1 126 false _ ?side1 ?side2 A2.out).mono ?_);(case side1=>exact qcs HR0_1.out HB.out);(case side2=>exact HC0_1.out);rintro e w' ⟨rfl,⟨nd,rfl⟩⟩;refine ⟨_,rfl,?_⟩))
  go_ret
  exact ⟨by first|rfl|(simp [errW_none,errW_some] <;> rfl)|(simp [*,errW_none,errW_some] <;> rfl),by exact bw⟩


/-! ### spec_voAll: function 145 -/
def spec_voAll.f (a0:Int):Option (Int):=if 0 ≤ a0 then (some (wrap64 ((shl .i64 1 a0) - 1))) else (none)
set_option maxHeartbeats 8000000 in
set_option maxRecDepth 100000 in
theorem spec_voAll.calls (a0:Int) (r:Int) (w:World) (h:spec_voAll.f a0 = some r) :
  Calls Try.prog 145 #[.int .i64 a0] w fun e w'=>e = .returned (.int .i64 r) ∧ Drawn0 w w':=by
 have H:(if 0 ≤ a0 then (some (wrap64 ((shl .i64 1 a0) - 1))) else (none)) = some r:=h;clear h;by_cases c2:0 ≤ a0
 ·rw [if_pos c2] at H;have c2b0:=eq_true c2;have c2b1:decide (0 ≤ a0) = true:=decide_eq_true c2;clear c2;obtain ⟨ji3,hji3⟩:∃ j_:Int,(shl .i64 1 a0) = j_:=⟨_,rfl⟩;replace H:(some (wrap64 ((ji3) - 1))) = some r:=by first|(rw [hji3] at H;exact H)|(simp only [hji3] at H ⊢;exact H)
  have hji3_:(IntKind.i64.wrap (1 * 2 ^ min a0.toNat 64)) = ji3:=hji3;have hji3z:a0 ≤ 64 → (IntKind.i64.wrap (1 * 2 ^ a0.toNat)) = ji3:=shl_small hji3;have hji3u:(IntKind.i64.wrap (2 ^ min a0.toNat 64)) = ji3:=by have h_:=hji3_;rw [Int.one_mul] at h_;exact h_
  have hji3v:a0 ≤ 64 → (IntKind.i64.wrap (2 ^ a0.toNat)) = ji3:=fun hle_=>by have h_:=hji3z hle_;rw [Int.one_mul] at h_;exact h_
  have hji3y:(wrap64 (1 * 2 ^ min a0.toNat 64)) = ji3:=(i64_w _).symm.trans hji3_;have hji3x:a0 ≤ 64 → (wrap64 (1 * 2 ^ a0.toNat)) = ji3:=fun h_=>(i64_w _).symm.trans (hji3z h_)
  obtain rfl:=Option.some.inj H;go_enter Try.func145,Try.ntmps145;go_wp2
  go_ret
  exact ⟨by first|rfl|(simp;done)|(simp only [← hji3] <;> (first|rfl|simp))|(simp [*];done),by repeat (first|exact Drawn0.refl _|apply Drawn0.step)⟩
 ·rw [if_neg c2] at H;exact absurd H (by simp)


/-! ### spec_gmWins: function 167 -/
mutual
def spec_gmWins.l0:Nat → List (List Int) → List Bool → Int → Int → Option (List Bool)
 | 0,_,_,_,_=>none
 | k + 1,x1,x5,x15,x16=>if x16 < x15 then (spec_gmWins.l1 k x1 x5 x16 x15 x16 x1 (x1.length:Int) 0) else (some x5)
def spec_gmWins.l1:Nat → List (List Int) → List Bool → Int → Int → Int → List (List Int) → Int → Int → Option (List Bool)
 | 0,_,_,_,_,_,_,_,_=>none
 | k + 1,x1,x5,x6,x15,x16,x19,x20,x21=>if x21 < x20 then (if 0 ≤ x21 then (if x21 < (x19.length:Int) then ((spec_voBits.f k (rd_LI x19 x21)).bind fun t725=>(if 0 ≤ x6 then (if x6 < (x5.length:Int) then (if rdOf false x5 x6 = true then (spec_gmWins.l1 k x1 (x5.set (x6:Int).toNat true) x6 x15 x16 x19 x20 (wrap64 (x21 + 1))) else (spec_gmWins.l1 k x1 (x5.set (x6:Int).toNat ((Go.bits .and .i64 x6 t725) == t725)) x6 x15 x16 x19 x20 (wrap64 (x21 + 1)))) else (none)) else (none))) else (none)) else (none)) else (spec_gmWins.l0 k x1 x5 x15 (wrap64 (x16 + 1)))
end
def spec_gmWins.f (k:Nat) (a0:Int) (l1:List (List Int)):Option (List Bool):=(spec_voAll.f a0).bind fun t720=>(if 0 ≤ (wrap64 (t720 + 1)) then (if (wrap64 (t720 + 1):Int).toNat ≤ 281474976710656 then ((some (List.replicate (wrap64 (t720 + 1):Int).toNat false:List Bool)).bind fun y721=>(spec_gmWins.l0 k l1 y721 (y721.length:Int) 0)) else (none)) else (none))
theorem spec_gmWins.mono_l:∀ k,(∀ y0 y1 y2 y3,LeO (spec_gmWins.l0 k y0 y1 y2 y3) (spec_gmWins.l0 (k + 1) y0 y1 y2 y3)) ∧ (∀ y0 y1 y2 y3 y4 y5 y6 y7,LeO (spec_gmWins.l1 k y0 y1 y2 y3 y4 y5 y6 y7) (spec_gmWins.l1 (k + 1) y0 y1 y2 y3 y4 y5 y6 y7))
 | 0=>⟨fun _ _ _ _ r h=>by simp [spec_gmWins.l0] at h,fun _ _ _ _ _ _ _ _ r h=>by simp [spec_gmWins.l1] at h⟩
 | k + 1=>by
  obtain ⟨ih0,ih1⟩:=spec_gmWins.mono_l k;refine ⟨?_,?_⟩
  ·intro y0 y1 y2 y3;unfold spec_gmWins.l0
   repeat' with_reducible first|exact ih0 _ _ _ _|exact ih1 _ _ _ _ _ _ _ _|exact spec_voBits.mono _ _|exact LeO.refl _|exact LeO.none _|refine LeO.ite ?_ ?_|refine LeO.bind ?_ (fun _=>?_)
  ·intro y0 y1 y2 y3 y4 y5 y6 y7;unfold spec_gmWins.l1
   repeat' with_reducible first|exact ih0 _ _ _ _|exact ih1 _ _ _ _ _ _ _ _|exact spec_voBits.mono _ _|exact LeO.refl _|exact LeO.none _|refine LeO.ite ?_ ?_|refine LeO.bind ?_ (fun _=>?_)
theorem spec_gmWins.mono:∀ a0 a1 k,LeO (spec_gmWins.f k a0 a1) (spec_gmWins.f (k + 1) a0 a1):=by
 intro a0 a1 k;obtain ⟨ih0,ih1⟩:=spec_gmWins.mono_l k;unfold spec_gmWins.f
 repeat' with_reducible first|exact ih0 _ _ _ _|exact ih1 _ _ _ _ _ _ _ _|exact spec_voBits.mono _ _|exact LeO.refl _|exact LeO.none _|refine LeO.ite ?_ ?_|refine LeO.bind ?_ (fun _=>?_)
set_option maxHeartbeats 8000000 in
set_option maxRecDepth 100000 in
theorem spec_gmWins.calls (k:Nat) (a0:Int) (A1:Option Addr) (c1:Nat) (l1:List (List Int)) (r:List Bool) (w:World) (hr1:Kd.C (Kd.slice 3 (Kd.int .i64)) w A1 l1.length l1) (hc1:l1.length ≤ c1) (h:spec_gmWins.f k a0 l1 = some r) :
  Calls Try.prog 167 #[.int .i64 a0,.slice A1 l1.length c1] w fun e w'=>∃ v0_:Value,e = .returned (v0_) ∧ Kd.R Kd.bool 4 w' w.heap.size (fun _=>True) v0_ r ∧ Below w.heap.size w w':=by
 have HR1:=aM hr1;have HC1:=aM hc1;clear hr1 hc1;have HB:=aM (Below.refl w.heap.size w);have H:((spec_voAll.f a0).bind fun t720=>(if 0 ≤ (wrap64 (t720 + 1)) then (if (wrap64 (t720 + 1):Int).toNat ≤ 281474976710656 then ((some (List.replicate (wrap64 (t720 + 1):Int).toNat false:List Bool)).bind fun y721=>(spec_gmWins.l0 k l1 y721 (y721.length:Int) 0)) else (none)) else (none))) = some r:=h;clear h;replace H:=Option.bind_eq_some_iff.mp H;obtain ⟨t720,A30,H⟩:=H;replace H:(if 0 ≤ (wrap64 (t720 + 1)) then (if (wrap64 (t720 + 1):Int).toNat ≤ 281474976710656 then ((some (List.replicate (wrap64 (t720 + 1):Int).toNat false:List Bool)).bind fun y721=>(spec_gmWins.l0 k l1 y721 (y721.length:Int) 0)) else (none)) else (none)) = some r:=H;have A3:=aM A30;clear A30;obtain ⟨ji4,hji4⟩:∃ j_:Int,(wrap64 (t720 + 1)) = j_:=⟨_,rfl⟩;replace H:(if 0 ≤ (ji4) then (if (ji4:Int).toNat ≤ 281474976710656 then ((some (List.replicate (ji4:Int).toNat false:List Bool)).bind fun y721=>(spec_gmWins.l0 k l1 y721 (y721.length:Int) 0)) else (none)) else (none)) = some r:=by first|(rw [hji4] at H;exact H)|(simp only [hji4] at H ⊢;exact H)
 (try rw [hji4] at A3)
 have hji4w:(IntKind.i64.wrap (t720 + 1)) = ji4:=(i64_w _).trans hji4;by_cases c5:0 ≤ (ji4)
 ·rw [if_pos c5] at H;have c5b0:=eq_true c5;have c5b1:decide (0 ≤ (ji4)) = true:=decide_eq_true c5;clear c5;by_cases c6:(ji4:Int).toNat ≤ 281474976710656
  ·rw [if_pos c6] at H;have c6b0:=eq_true c6;have c6b1:decide ((ji4:Int).toNat ≤ 281474976710656) = true:=decide_eq_true c6;clear c6;obtain ⟨y721,hy721⟩:∃ y_:List Bool,y_ = (List.replicate (ji4:Int).toNat false):=⟨_,rfl⟩;replace H:(spec_gmWins.l0 k l1 y721 (y721.length:Int) 0) = some r:=by first|(rw [hy721];with_reducible exact H)|(have H2_:=(Option.bind_some _ _).symm.trans H;rw [hy721];with_reducible exact H2_)|(have H2_:=(Option.bind_some _ _).symm.trans H;with_reducible exact H2_)|with_reducible exact H|(rw [hy721];exact H)|exact H
   have Ny721:=aM hy721;clear hy721;have H':=aM H;clear H;go_enter Try.func167,Try.ntmps167;go_wp2_with (first|((with_reducible refine gate_callee (f:=145) rfl ?_);refine goesL_ (some 11) rfl rfl Try.func145 kR rfl #[.int .i64 a0] rfl mq ?_;(with_reducible refine (spec_voAll.calls a0 t720 _ A3.out).mono ?_);rintro e w' ⟨rfl,⟨nd,rfl⟩⟩;refine ⟨_,rfl,?_⟩)|((with_reducible refine gate_dst (N:=13) rfl ?_);refine Kd.R_make Kd.bool _ 4 rfl (N:=13) rfl 88 _ _ rfl ji4 rfl rfl Try.underlying88 (.bool false) 1 info4 rfl (by decide) (by omega) false (ok:=fun _=>True) (okp:=fun _=>True) rfl (fun _ hk=>hk) trivial (of_decide_eq_true ab) (Nat.le_trans (Nat.mul_le_mul_right _ (of_decide_eq_true ab:ji4.toNat ≤ 281474976710656)) (by omega)) (Below.refl _ _) (Nat.le_refl _) ?_;intro v722 w7 ho8 hb hg_ hnew_;clear hg_ hnew_;(first|rw [← Ny721.out] at ho8|(simp only [Int.reduceToNat] at ho8;rw [← Ny721.out] at ho8));have n0_:=aM (Kd.R_lower ho8 (below_size bw));have n1_:=aM (below_step bw hb);clear HB;have HO723:=n0_;have HB:=n1_;clear n0_ n1_;clear hb ho8;obtain ⟨Ao9,co9,eo9⟩:=Kd.R_slice HO723.out;subst eo9))
   go_loopg [16] k (fun kq v16 w'=>∃ (x5_1:List Bool) (x16_1:Int),v16 = .int .i64 x16_1 ∧ Aside0 (spec_gmWins.l0 kq l1 x5_1 (y721.length:Int) x16_1 = some r) ∧ Aside0 (kq ≤ k) ∧ Aside0 (Kd.R Kd.bool 4 w' w.heap.size (fun _=>True) (.slice Ao9 y721.length co9) x5_1) ∧ Aside0 (Below w.heap.size w w'))
   case atStart=>exact ⟨(y721),(0),qrs,H',⟨Nat.le_refl _⟩,⟨qra HO723.out⟩,⟨by exact bw⟩⟩
   case round =>
    clear H';(try clear c1);(try clear p2);(try clear c5);(try clear c5b0);(try clear c5b1);(try clear c6);(try clear c6b0);(try clear c6b1);(try clear p6)
    obtain ⟨x5_1,x16_1,rfl,HA,HK1,HO_5,HB⟩:=hrel;have hl5_1:=(Kd.R_reads' HO_5.out).1;rw [hl5_1] at HO_5;(try simp only [hl5_1])
    cases gk with
    | zero=>exact absurd HA.out (by simp [spec_gmWins.l0])
    | succ k1 =>
     have H:=HA.out;clear HA;simp only [spec_gmWins.l0] at H;by_cases c10:x16_1 < (y721.length:Int)
     ·rw [if_pos c10] at H;have c10b0:decide (x16_1 < (y721.length:Int)) = true:=decide_eq_true c10;(try simp only [hl5_1] at c10b0)
      clear c10;have H':=aM H;clear H;go_wp2
      go_loopg [21] k1 (fun kq v21 w'=>∃ (x5_2:List Bool) (x21_2:Int),v21 = .int .i64 x21_2 ∧ Aside0 (spec_gmWins.l1 kq l1 x5_2 x16_1 (y721.length:Int) x16_1 l1 (l1.length:Int) x21_2 = some r) ∧ Aside0 (kq ≤ k1) ∧ Aside0 (Kd.R Kd.bool 4 w' w.heap.size (fun _=>True) (.slice Ao9 x5_1.length co9) x5_2) ∧ Aside0 (Below w.heap.size w w'))
      case atStart=>exact ⟨(x5_1),(0),qrs,H',⟨Nat.le_refl _⟩,⟨by (try simp only [hl5_1]);(with_reducible repeat (first|apply Kd.R_alloc|apply Kd.R_drewN|apply Kd.R_drew));exact HO_5.out⟩,⟨by exact bw⟩⟩
      case round =>
       clear H';(try clear c1);(try clear p2);(try clear c5);(try clear c5b0);(try clear c5b1);(try clear c6);(try clear c6b0);(try clear c6b1);(try clear p6);(try clear c10);(try clear c10b0);(try clear p2);(try clear p6)
       obtain ⟨x5_2,x21_2,rfl,HA,HK2,HO_5,HB⟩:=hrel;have hl5_2:=(Kd.R_reads' HO_5.out).1;rw [hl5_2] at HO_5;(try simp only [hl5_2])
       cases gk with
       | zero=>exact absurd HA.out (by simp [spec_gmWins.l1])
       | succ k2 =>
        have H:=HA.out;clear HA;simp only [spec_gmWins.l1] at H;by_cases c11:x21_2 < (l1.length:Int)
        ·rw [if_pos c11] at H;have c11b0:decide (x21_2 < (l1.length:Int)) = true:=decide_eq_true c11;(try simp only [hl5_1,hl5_2] at c11b0)
         clear c11;by_cases c12:0 ≤ x21_2
         ·rw [if_pos c12] at H;have c12b0:decide (0 ≤ x21_2) = true:=decide_eq_true c12;clear c12;by_cases c13:x21_2 < (l1.length:Int)
          ·rw [if_pos c13] at H;have c13b0:decide (x21_2 < (l1.length:Int)) = true:=decide_eq_true c13;(try simp only [hl5_1,hl5_2] at c13b0)
           clear c13;replace H:=Option.bind_eq_some_iff.mp H;obtain ⟨t725,A140,H⟩:=H;replace H:(if 0 ≤ x16_1 then (if x16_1 < (x5_2.length:Int) then (if rdOf false x5_2 x16_1 = true then (spec_gmWins.l1 k2 l1 (x5_2.set (x16_1:Int).toNat true) x16_1 (y721.length:Int) x16_1 l1 (l1.length:Int) (wrap64 (x21_2 + 1))) else (spec_gmWins.l1 k2 l1 (x5_2.set (x16_1:Int).toNat ((Go.bits .and .i64 x16_1 t725) == t725)) x16_1 (y721.length:Int) x16_1 l1 (l1.length:Int) (wrap64 (x21_2 + 1)))) else (none)) else (none)) = some r:=H;have A14:=aM A140;clear A140;by_cases c15:0 ≤ x16_1
           ·rw [if_pos c15] at H;have c15b0:decide (0 ≤ x16_1) = true:=decide_eq_true c15;clear c15;by_cases c16:x16_1 < (x5_2.length:Int)
            ·rw [if_pos c16] at H;have c16b0:decide (x16_1 < (x5_2.length:Int)) = true:=decide_eq_true c16;(try simp only [hl5_1,hl5_2] at c16b0)
             clear c16;obtain ⟨bq17,hbq17⟩:∃ b_:Bool,b_ = (rdOf false x5_2 x16_1):=⟨_,rfl⟩;replace H:(if bq17 = true then (spec_gmWins.l1 k2 l1 (x5_2.set (x16_1:Int).toNat true) x16_1 (y721.length:Int) x16_1 l1 (l1.length:Int) (wrap64 (x21_2 + 1))) else (spec_gmWins.l1 k2 l1 (x5_2.set (x16_1:Int).toNat ((Go.bits .and .i64 x16_1 t725) == t725)) x16_1 (y721.length:Int) x16_1 l1 (l1.length:Int) (wrap64 (x21_2 + 1)))) = some r:=by rw [← hbq17] at H;exact H
             have Nbq17:=aM hbq17;clear hbq17;by_cases c18:bq17 = true
             ·subst c18;have H1:(spec_gmWins.l1 k2 l1 (x5_2.set (x16_1:Int).toNat true) x16_1 (y721.length:Int) x16_1 l1 (l1.length:Int) (wrap64 (x21_2 + 1))) = some r:=by rw [if_pos rfl] at H;exact H
              clear H;have H:=H1;clear H1;obtain ⟨y727,hy727⟩:∃ y_:List Bool,y_ = (x5_2.set (x16_1:Int).toNat true):=⟨_,rfl⟩;replace H:(spec_gmWins.l1 k2 l1 y727 x16_1 (y721.length:Int) x16_1 l1 (l1.length:Int) (wrap64 (x21_2 + 1))) = some r:=by first|(rw [hy727];with_reducible exact H)|(have H2_:=(Option.bind_some _ _).symm.trans H;rw [hy727];with_reducible exact H2_)|(have H2_:=(Option.bind_some _ _).symm.trans H;with_reducible exact H2_)|with_reducible exact H|(rw [hy727];exact H)|exact H
              have Ny727:=aM hy727;clear hy727;have H':=aM H;clear H;have p724:0 ≤ (x21_2:Int):=of_decide_eq_true ab;have q724:x21_2 < (l1.length:Int):=of_decide_eq_true ab;obtain ⟨ad724,A724_0,c724_0,e724,hx724_0,hl724_0,hi724_0⟩:=at_LI HR1.out x21_2 p724 q724;cases e724
              replace hx724_0:=(HB.out.cell (World.block_lt_of_cell? w _ hx724_0)).trans hx724_0;have HR724_0:=aM hi724_0;have HC724_0:=aM hl724_0;clear hi724_0 hl724_0;replace p724:=eq_true p724;replace q724:=eq_true q724;go_wp2_with (first|((with_reducible refine gate_callee (f:=166) rfl ?_);refine goesL_ (some 26) rfl rfl Try.func166 kR rfl #[.slice A724_0 (rd_LI l1 x21_2).length c724_0] rfl mq ?_;(with_reducible refine (spec_voBits.calls k2 _ _ (rd_LI l1 x21_2) t725 _ ?side1 ?side2 A14.out).mono ?_);(case side1=>exact qcs HR724_0.out HB.out);(case side2=>exact HC724_0.out);rintro e w' ⟨rfl,⟨nd,rfl⟩⟩;refine ⟨_,rfl,?_⟩;(try (rw [drewN_self wr];generalize hq_:World.drewN wr _ = wr;have n0_:Aside0 (Kd.R Kd.bool 4 wr w.heap.size (fun _=>True) (.slice Ao9 x5_2.length co9) x5_2):=⟨by rw [← hq_];exact (qra HO_5.out)⟩;have n1_:Aside0 (Below w.heap.size w wr):=⟨by rw [← hq_];exact bw⟩;clear HO_5 HB hq_;have HO_5:=n0_;have HB:=n1_;clear n0_ n1_));have p726:0 ≤ (x16_1:Int):=of_decide_eq_true ab;have q726:x16_1 < (x5_2.length:Int):=of_decide_eq_true ab;obtain ⟨ad726,e726,hx726_0⟩:=Kd.at_bool (Kd.R_reads' HO_5.out).2.2 x16_1 p726 q726;(try rw [← Nbq17.out] at hx726_0);cases e726;replace p726:=eq_true p726;replace q726:=eq_true q726;have p19:0 ≤ (x16_1:Int):=of_decide_eq_true ab;have q19:(x16_1:Int) < ((x5_2.length:Int):Int):=of_decide_eq_true ab;obtain ⟨go19,co19,eo19,gb19,gl19,cl19,HG19⟩:=Kd.R_form HO_5.out (by omega);(first|cases eo19|(injection eo19 with ea_ en_ ec_;(first|subst ea_|(injection ea_ with ea_;subst ea_));subst ec_;clear en_));have GB19:=aM gb19;have GG19:=aM HG19;clear gb19 gl19 HG19;(first|simp only [add_plain] at hx726_0|skip);obtain ⟨hx19_0,hf19_0⟩:=Kd.R_celln false HO_5.out (x16_1:Int) p19 q19;replace p19:=eq_true p19;replace q19:=eq_true q19;obtain ⟨hy20_,hz20_⟩:=Kd.R_celln false HO_5.out (x16_1:Int) (of_decide_eq_true ab) (of_decide_eq_true ab);have HP20:=Kd.R_putg HO_5.out (x16_1:Int) true)|((with_reducible refine gate_store (t:=4) (p:=40) rfl ?_);refine store_event (t:=4) (p:=40) (v:=?vo_w21) (w1:=(wr.setCell ⟨go19,(x16_1:Int).toNat,none⟩ (.bool true))) ?hg ?ho ?hn ?hr ?_;(case ho=>rfl);(case hg=>rfl);(case hn=>rfl);(case hr=>first|(go_simp;done)|(go_simp;rfl));intro w21 hw;have hg:wr.grownBy w21 (some go19):=(by rw [hw];exact HP20.2);have hp_:Kd.R Kd.bool 4 w21 w.heap.size (fun _=>True) (.slice (some ⟨go19,0,none⟩) x5_2.length co9) y727:=(by rw [hw,Ny727.out];exact HP20.1);clear HP20;have n0_:=aM (hp_);have n1_:=aM ((by rw [hw];exact below_set (HB.out) GB19.out:Below w.heap.size w w21));clear HO_5;clear HB;have HO_5:=n0_;have HB:=n1_;clear n0_ n1_;clear hg hw hp_))
              (try simp only [← hl5_2])
              go_roundg k2
              case measure=>have:=HK1.out;have:=HK2.out;omega
              case rel=>exact ⟨(y727),(wrap64 (x21_2 + 1)),qrs,H',⟨by have:=HK1.out;have:=HK2.out;omega⟩,⟨by (try simp only [hl5_1]);(try simp only [hl5_2]);(with_reducible repeat (first|apply Kd.R_alloc|apply Kd.R_drewN|apply Kd.R_drew));exact HO_5.out⟩,⟨by exact bw⟩⟩
             ·replace c18:=Bool.eq_false_iff.mpr c18;subst c18;have H1:(spec_gmWins.l1 k2 l1 (x5_2.set (x16_1:Int).toNat ((Go.bits .and .i64 x16_1 t725) == t725)) x16_1 (y721.length:Int) x16_1 l1 (l1.length:Int) (wrap64 (x21_2 + 1))) = some r:=by rw [if_neg (show ¬ (false = true) by decide)] at H;exact H
              clear H;have H:=H1;clear H1;obtain ⟨y728,hy728⟩:∃ y_:List Bool,y_ = (x5_2.set (x16_1:Int).toNat ((Go.bits .and .i64 x16_1 t725) == t725)):=⟨_,rfl⟩;replace H:(spec_gmWins.l1 k2 l1 y728 x16_1 (y721.length:Int) x16_1 l1 (l1.length:Int) (wrap64 (x21_2 + 1))) = some r:=by first|(rw [hy728];with_reducible exact H)|(have H2_:=(Option.bind_some _ _).symm.trans H;rw [hy728];with_reducible exact H2_)|(have H2_:=(Option.bind_some _ _).symm.trans H;with_reducible exact H2_)|with_reducible exact H|(rw [hy728];exact H)|exact H
              have Ny728:=aM hy728;clear hy728;have H':=aM H;clear H;have p724:0 ≤ (x21_2:Int):=of_decide_eq_true ab;have q724:x21_2 < (l1.length:Int):=of_decide_eq_true ab;obtain ⟨ad724,A724_0,c724_0,e724,hx724_0,hl724_0,hi724_0⟩:=at_LI HR1.out x21_2 p724 q724;cases e724
              replace hx724_0:=(HB.out.cell (World.block_lt_of_cell? w _ hx724_0)).trans hx724_0;have HR724_0:=aM hi724_0;have HC724_0:=aM hl724_0;clear hi724_0 hl724_0;replace p724:=eq_true p724;replace q724:=eq_true q724;go_wp2_with (first|((with_reducible refine gate_callee (f:=166) rfl ?_);refine goesL_ (some 26) rfl rfl Try.func166 kR rfl #[.slice A724_0 (rd_LI l1 x21_2).length c724_0] rfl mq ?_;(with_reducible refine (spec_voBits.calls k2 _ _ (rd_LI l1 x21_2) t725 _ ?side1 ?side2 A14.out).mono ?_);(case side1=>exact qcs HR724_0.out HB.out);(case side2=>exact HC724_0.out);rintro e w' ⟨rfl,⟨nd,rfl⟩⟩;refine ⟨_,rfl,?_⟩;(try (rw [drewN_self wr];generalize hq_:World.drewN wr _ = wr;have n0_:Aside0 (Kd.R Kd.bool 4 wr w.heap.size (fun _=>True) (.slice Ao9 x5_2.length co9) x5_2):=⟨by rw [← hq_];exact (qra HO_5.out)⟩;have n1_:Aside0 (Below w.heap.size w wr):=⟨by rw [← hq_];exact bw⟩;clear HO_5 HB hq_;have HO_5:=n0_;have HB:=n1_;clear n0_ n1_));have p726:0 ≤ (x16_1:Int):=of_decide_eq_true ab;have q726:x16_1 < (x5_2.length:Int):=of_decide_eq_true ab;obtain ⟨ad726,e726,hx726_0⟩:=Kd.at_bool (Kd.R_reads' HO_5.out).2.2 x16_1 p726 q726;(try rw [← Nbq17.out] at hx726_0);cases e726;replace p726:=eq_true p726;replace q726:=eq_true q726;have p22:0 ≤ (x16_1:Int):=of_decide_eq_true ab;have q22:(x16_1:Int) < ((x5_2.length:Int):Int):=of_decide_eq_true ab;obtain ⟨go22,co22,eo22,gb22,gl22,cl22,HG22⟩:=Kd.R_form HO_5.out (by omega);(first|cases eo22|(injection eo22 with ea_ en_ ec_;(first|subst ea_|(injection ea_ with ea_;subst ea_));subst ec_;clear en_));have GB22:=aM gb22;have GG22:=aM HG22;clear gb22 gl22 HG22;(first|simp only [add_plain] at hx726_0|skip);obtain ⟨hx22_0,hf22_0⟩:=Kd.R_celln false HO_5.out (x16_1:Int) p22 q22;replace p22:=eq_true p22;replace q22:=eq_true q22;obtain ⟨hy23_,hz23_⟩:=Kd.R_celln false HO_5.out (x16_1:Int) (of_decide_eq_true ab) (of_decide_eq_true ab);have HP23:=Kd.R_putg HO_5.out (x16_1:Int) ((Go.bits .and .i64 x16_1 t725) == t725))|((with_reducible refine gate_store (t:=4) (p:=40) rfl ?_);refine store_event (t:=4) (p:=40) (v:=?vo_w24) (w1:=(wr.setCell ⟨go22,(x16_1:Int).toNat,none⟩ (.bool ((Go.bits .and .i64 x16_1 t725) == t725)))) ?hg ?ho ?hn ?hr ?_;(case ho=>rfl);(case hg=>rfl);(case hn=>rfl);(case hr=>first|(go_simp;done)|(go_simp;rfl));intro w24 hw;have hg:wr.grownBy w24 (some go22):=(by rw [hw];exact HP23.2);have hp_:Kd.R Kd.bool 4 w24 w.heap.size (fun _=>True) (.slice (some ⟨go22,0,none⟩) x5_2.length co9) y728:=(by rw [hw,Ny728.out];exact HP23.1);clear HP23;have n0_:=aM (hp_);have n1_:=aM ((by rw [hw];exact below_set (HB.out) GB22.out:Below w.heap.size w w24));clear HO_5;clear HB;have HO_5:=n0_;have HB:=n1_;clear n0_ n1_;clear hg hw hp_))
              (try simp only [← hl5_2])
              go_roundg k2
              case measure=>have:=HK1.out;have:=HK2.out;omega
              case rel=>exact ⟨(y728),(wrap64 (x21_2 + 1)),qrs,H',⟨by have:=HK1.out;have:=HK2.out;omega⟩,⟨by (try simp only [hl5_1]);(try simp only [hl5_2]);(with_reducible repeat (first|apply Kd.R_alloc|apply Kd.R_drewN|apply Kd.R_drew));exact HO_5.out⟩,⟨by exact bw⟩⟩
            ·rw [if_neg c16] at H;exact absurd H (by simp)
           ·rw [if_neg c15] at H;exact absurd H (by simp)
          ·rw [if_neg c13] at H;exact absurd H (by simp)
         ·rw [if_neg c12] at H;exact absurd H (by simp)
        ·rw [if_neg c11] at H;have c11b0:decide (x21_2 < (l1.length:Int)) = false:=decide_eq_false c11;(try simp only [hl5_1,hl5_2] at c11b0)
         clear c11;have H':=aM H;clear H;go_wp2
         (try simp only [← hl5_1,← hl5_2])
         go_roundg k2
         case measure=>have:=HK1.out;have:=HK2.out;omega
         case rel=>exact ⟨(x5_2),(wrap64 (x16_1 + 1)),qrs,H',⟨by have:=HK1.out;have:=HK2.out;omega⟩,⟨by (try simp only [hl5_1]);(try simp only [hl5_2]);(with_reducible repeat (first|apply Kd.R_alloc|apply Kd.R_drewN|apply Kd.R_drew));exact HO_5.out⟩,⟨by exact bw⟩⟩
     ·rw [if_neg c10] at H;have c10b0:decide (x16_1 < (y721.length:Int)) = false:=decide_eq_false c10;(try simp only [hl5_1] at c10b0)
      clear c10;obtain rfl:=Option.some.inj H;go_wp2
      go_ret
      exact ⟨_,by first|rfl|(simp [errW_none,errW_some] <;> rfl)|(simp only [← hji4];first|rfl|(simp [errW_none,errW_some] <;> rfl))|(simp [*,errW_none,errW_some] <;> rfl),by (with_reducible repeat (first|apply Kd.R_alloc|apply Kd.R_drewN|apply Kd.R_drew));exact HO_5.out,by exact bw⟩
  ·rw [if_neg c6] at H;exact absurd H (by simp)
 ·rw [if_neg c5] at H;exact absurd H (by simp)


/-! ### spec_gmAll: function 101 -/
def spec_gmAll.f (k:Nat) (a0_0:Int) (l0_1:List (List Int)):Option (List Bool):=(spec_gmWins.f k a0_0 l0_1).bind fun t730=>(some t730)
theorem spec_gmAll.mono:∀ a0 a1 k,LeO (spec_gmAll.f k a0 a1) (spec_gmAll.f (k + 1) a0 a1):=by
 intro a0 a1 k;unfold spec_gmAll.f
 repeat' with_reducible first|exact spec_gmWins.mono _ _ _|exact LeO.refl _|exact LeO.none _|refine LeO.ite ?_ ?_|refine LeO.bind ?_ (fun _=>?_)
set_option maxHeartbeats 8000000 in
set_option maxRecDepth 100000 in
theorem spec_gmAll.calls (k:Nat) (a0_0:Int) (A0_1:Option Addr) (c0_1:Nat) (l0_1:List (List Int)) (r:List Bool) (w:World) (hr0_1:Kd.C (Kd.slice 3 (Kd.int .i64)) w A0_1 l0_1.length l0_1) (hc0_1:l0_1.length ≤ c0_1) (h:spec_gmAll.f k a0_0 l0_1 = some r) :
  Calls Try.prog 101 #[.agg #[.int .i64 a0_0,.slice A0_1 l0_1.length c0_1]] w fun e w'=>∃ v0_:Value,e = .returned (v0_) ∧ Kd.R Kd.bool 4 w' w.heap.size (fun _=>True) v0_ r ∧ Below w.heap.size w w':=by
 have hu57:=Try.underlying57;have HR0_1:=aM hr0_1;have HC0_1:=aM hc0_1;clear hr0_1 hc0_1;have HB:=aM (Below.refl w.heap.size w);have H:((spec_gmWins.f k a0_0 l0_1).bind fun t730=>(some t730)) = some r:=h;clear h;replace H:=Option.bind_eq_some_iff.mp H;obtain ⟨t730,A20,H⟩:=H;replace H:(some t730) = some r:=H;have A2:=aM A20;clear A20;obtain rfl:=Option.some.inj H;go_enter Try.func101,Try.ntmps101;go_wp2_with (first|((with_reducible refine gate_dst (N:=1) rfl ?_);refine box_event ?hg (N:=1) ?hd (cs:=#[.int .i64 a0_0,.slice A0_1 l0_1.length c0_1]) (t:=57) ?hr ?_;(case hd=>rfl);(case hg=>rfl);(case hr=>first|(go_simp;done)|(go_simp;rfl));intro gb729 hg w3 hbox hb;have n0_:=aM (below_step bw hb);have n1_:=aM (hbox);have n2_:=aM ((by rw [hg];exact (below_size bw):w.heap.size ≤ gb729));have n3_:=aM ((by rw [hg];exact (below_size bw):w.heap.size ≤ gb729));clear HB;have HB:=n0_;have BK729:=n1_;have GW729:=n2_;have GE729:=n3_;clear n0_ n1_ n2_ n3_;clear hb hbox hg;have hcz4_0:w3.cell? ⟨gb729,0,none⟩ = some (.int .i64 a0_0):=(blk_cell BK729.out 0).trans rfl;have hcz4_1:w3.cell? ⟨gb729,1,none⟩ = some (.slice A0_1 l0_1.length c0_1):=(blk_cell BK729.out 1).trans rfl;have hfz4_0:=blk_frozen BK729.out 0;have hfz4_1:=blk_frozen BK729.out 1)|((with_reducible refine gate_callee (f:=167) rfl ?_);refine goesL_ (some 7) rfl rfl Try.func167 kR rfl #[.int .i64 a0_0,.slice A0_1 l0_1.length c0_1] rfl mq ?_;(with_reducible refine (spec_gmWins.calls k a0_0 _ _ l0_1 t730 _ ?side1 ?side2 A2.out).mono ?_);(case side1=>exact qcs HR0_1.out HB.out);(case side2=>exact HC0_1.out);rintro e w5 ⟨v731,rfl,ho0,hb⟩;refine ⟨_,rfl,?_⟩;have n0_:=aM (Kd.R_lower ho0 (below_size bw));have n1_:=aM (blk_below (g:=gb729) (o:=.cells #[.int .i64 a0_0,.slice A0_1 l0_1.length c0_1] 57 (0,0)) bk hb);have n2_:=aM (below_step bw hb);clear BK729;clear HB;have HO732:=n0_;have BK729:=n1_;have HB:=n2_;clear n0_ n1_ n2_;(try clear hb);(try clear hb2);(try clear hk);(try clear hi);(try clear ho0)))
 go_ret
 exact ⟨_,by first|rfl|(simp [errW_none,errW_some] <;> rfl)|(simp [*,errW_none,errW_some] <;> rfl),by (with_reducible repeat (first|apply Kd.R_alloc|apply Kd.R_drewN|apply Kd.R_drew));exact HO732.out,by exact bw⟩


/-! ### spec_deLists: function 116 -/
def spec_deLists.l0:Nat → Int → List (List Int) → List Int → List (List Int) → Int → Int → Option (List Int × Bool)
 | 0,_,_,_,_,_,_=>none
 | k + 1,x0,x1,x6,x9,x10,x11=>if x11 < x10 then (if 0 ≤ x11 then (if x11 < (x9.length:Int) then ((spec_voSet.f k x0 (rd_LI x9 x11)).bind fun t1036=>(if t1036 = true then (if x11 > 0 then (if 0 ≤ (wrap64 (x11 - 1)) then (if (wrap64 (x11 - 1)) < (x1.length:Int) then ((spec_voBefore.f k (rd_LI x9 x11) (rd_LI x1 (wrap64 (x11 - 1)))).bind fun t1038=>(if t1038 = true then (some (([]:List Int),false)) else ((spec_voBits.f k (rd_LI x9 x11)).bind fun t1039=>(if x6.length < 17592186044416 then (spec_deLists.l0 k x0 x1 (x6 ++ [t1039]) x9 x10 (wrap64 (x11 + 1))) else (none))))) else (none)) else (none)) else ((spec_voBits.f k (rd_LI x9 x11)).bind fun t1043=>(if x6.length < 17592186044416 then (spec_deLists.l0 k x0 x1 (x6 ++ [t1043]) x9 x10 (wrap64 (x11 + 1))) else (none)))) else (some (([]:List Int),false)))) else (none)) else (none)) else (some (x6,true))
def spec_deLists.f (k:Nat) (a0:Int) (l1:List (List Int)):Option (List Int × Bool):=spec_deLists.l0 k a0 l1 ([]:List Int) l1 (l1.length:Int) 0
theorem spec_deLists.mono_l:∀ k,(∀ y0 y1 y2 y3 y4 y5,LeO (spec_deLists.l0 k y0 y1 y2 y3 y4 y5) (spec_deLists.l0 (k + 1) y0 y1 y2 y3 y4 y5))
 | 0=>fun _ _ _ _ _ _ r h=>by simp [spec_deLists.l0] at h
 | k + 1=>by
  have ih0:=spec_deLists.mono_l k
  ·intro y0 y1 y2 y3 y4 y5;unfold spec_deLists.l0
   repeat' with_reducible first|exact ih0 _ _ _ _ _ _|exact spec_voBefore.mono _ _ _|exact spec_voBits.mono _ _|exact spec_voSet.mono _ _ _|exact LeO.refl _|exact LeO.none _|refine LeO.ite ?_ ?_|refine LeO.bind ?_ (fun _=>?_)
theorem spec_deLists.mono:∀ a0 a1 k,LeO (spec_deLists.f k a0 a1) (spec_deLists.f (k + 1) a0 a1):=by
 intro a0 a1 k;have ih0:=spec_deLists.mono_l k;unfold spec_deLists.f
 repeat' with_reducible first|exact ih0 _ _ _ _ _ _|exact spec_voBefore.mono _ _ _|exact spec_voBits.mono _ _|exact spec_voSet.mono _ _ _|exact LeO.refl _|exact LeO.none _|refine LeO.ite ?_ ?_|refine LeO.bind ?_ (fun _=>?_)
set_option maxHeartbeats 8000000 in
set_option maxRecDepth 100000 in
theorem spec_deLists.calls (k:Nat) (a0:Int) (A1:Option Addr) (c1:Nat) (l1:List (List Int)) (r1:List Int) (r2:Bool) (w:World) (hr1:Kd.C (Kd.slice 3 (Kd.int .i64)) w A1 l1.length l1) (hc1:l1.length ≤ c1) (h:spec_deLists.f k a0 l1 = some (r1,r2)) :
  Calls Try.prog 116 #[.int .i64 a0,.slice A1 l1.length c1] w fun e w'=>∃ v0_:Value,e = .returned (.tuple #[v0_,.bool r2]) ∧ Kd.R (Kd.int .i64) 3 w' w.heap.size (fun _=>True) v0_ r1 ∧ Below w.heap.size w w':=by
 have HR1:=aM hr1;have HC1:=aM hc1;clear hr1 hc1;have HB:=aM (Below.refl w.heap.size w);have H:(spec_deLists.l0 k a0 l1 ([]:List Int) l1 (l1.length:Int) 0) = some (r1,r2):=h;clear h;have H':=aM H;clear H;go_enter Try.func116,Try.ntmps116;go_wp2
 go_loopg [6,11] k (fun kq v6 v11 w'=>∃ (x6_1:List Int) (x11_1:Int),v11 = .int .i64 x11_1 ∧ Aside0 (spec_deLists.l0 kq a0 l1 x6_1 l1 (l1.length:Int) x11_1 = some (r1,r2)) ∧ Aside0 (kq ≤ k) ∧ Aside0 (Kd.R (Kd.int .i64) 3 w' w.heap.size (fun _=>True) v6 x6_1) ∧ Aside0 (Below w.heap.size w w'))
 case atStart=>exact ⟨(([]:List Int)),(0),qrs,H',⟨Nat.le_refl _⟩,⟨by first|exact Kd.R_nil _ _ _ _ _|exact Kd.N_nil _ _ _ _ _|exact Kd.V_nil _ _ _ _ _|exact Kd.Q_nil _ _ _ _ _|exact Kd.S_nil _ _ _ _ _⟩,⟨by exact bw⟩⟩
 case round =>
  clear H';(try clear c1);(try clear p2)
  obtain ⟨x6_1,x11_1,rfl,HA,HK1,HO_6,HB⟩:=hrel
  cases gk with
  | zero=>exact absurd HA.out (by simp [spec_deLists.l0])
  | succ k1 =>
   have H:=HA.out;clear HA;simp only [spec_deLists.l0] at H;by_cases c3:x11_1 < (l1.length:Int)
   ·rw [if_pos c3] at H;have c3b0:decide (x11_1 < (l1.length:Int)) = true:=decide_eq_true c3;clear c3;by_cases c4:0 ≤ x11_1
    ·rw [if_pos c4] at H;have c4b0:decide (0 ≤ x11_1) = true:=decide_eq_true c4;clear c4;by_cases c5:x11_1 < (l1.length:Int)
     ·rw [if_pos c5] at H;have c5b0:decide (x11_1 < (l1.length:Int)) = true:=decide_eq_true c5;clear c5;replace H:=Option.bind_eq_some_iff.mp H;obtain ⟨t1036,A60,H⟩:=H;replace H:(if t1036 = true then (if x11_1 > 0 then (if 0 ≤ (wrap64 (x11_1 - 1)) then (if (wrap64 (x11_1 - 1)) < (l1.length:Int) then ((spec_voBefore.f k1 (rd_LI l1 x11_1) (rd_LI l1 (wrap64 (x11_1 - 1)))).bind fun t1038=>(if t1038 = true then (some (([]:List Int),false)) else ((spec_voBits.f k1 (rd_LI l1 x11_1)).bind fun t1039=>(if x6_1.length < 17592186044416 then (spec_deLists.l0 k1 a0 l1 (x6_1 ++ [t1039]) l1 (l1.length:Int) (wrap64 (x11_1 + 1))) else (none))))) else (none)) else (none)) else ((spec_voBits.f k1 (rd_LI l1 x11_1)).bind fun t1043=>(if x6_1.length < 17592186044416 then (spec_deLists.l0 k1 a0 l1 (x6_1 ++ [t1043]) l1 (l1.length:Int) (wrap64 (x11_1 + 1))) else (none)))) else (some (([]:List Int),false))) = some (r1,r2):=H;have A6:=aM A60;clear A60;by_cases c7:t1036 = true
      ·subst c7;have H1:(if x11_1 > 0 then (if 0 ≤ (wrap64 (x11_1 - 1)) then (if (wrap64 (x11_1 - 1)) < (l1.length:Int) then ((spec_voBefore.f k1 (rd_LI l1 x11_1) (rd_LI l1 (wrap64 (x11_1 - 1)))).bind fun t1038=>(if t1038 = true then (some (([]:List Int),false)) else ((spec_voBits.f k1 (rd_LI l1 x11_1)).bind fun t1039=>(if x6_1.length < 17592186044416 then (spec_deLists.l0 k1 a0 l1 (x6_1 ++ [t1039]) l1 (l1.length:Int) (wrap64 (x11_1 + 1))) else (none))))) else (none)) else (none)) else ((spec_voBits.f k1 (rd_LI l1 x11_1)).bind fun t1043=>(if x6_1.length < 17592186044416 then (spec_deLists.l0 k1 a0 l1 (x6_1 ++ [t1043]) l1 (l1.length:Int) (wrap64 (x11_1 + 1))) else (none)))) = some (r1,r2):=by rw [if_pos rfl] at H;exact H
       clear H;have H:=H1;clear H1;by_cases c8:x11_1 > 0
       ·rw [if_pos c8] at H;have c8b0:decide (0 < x11_1) = true:=decide_eq_true c8;clear c8;obtain ⟨ji9,hji9⟩:∃ j_:Int,(wrap64 (x11_1 - 1)) = j_:=⟨_,rfl⟩;replace H:(if 0 ≤ (ji9) then (if (ji9) < (l1.length:Int) then ((spec_voBefore.f k1 (rd_LI l1 x11_1) (rd_LI l1 (ji9))).bind fun t1038=>(if t1038 = true then (some (([]:List Int),false)) else ((spec_voBits.f k1 (rd_LI l1 x11_1)).bind fun t1039=>(if x6_1.length < 17592186044416 then (spec_deLists.l0 k1 a0 l1 (x6_1 ++ [t1039]) l1 (l1.length:Int) (wrap64 (x11_1 + 1))) else (none))))) else (none)) else (none)) = some (r1,r2):=by first|(rw [hji9] at H;exact H)|(simp only [hji9] at H ⊢;exact H)
        (try rw [hji9] at A6)
        have hji9w:(IntKind.i64.wrap (x11_1 - 1)) = ji9:=(i64_w _).trans hji9;by_cases c10:0 ≤ (ji9)
        ·rw [if_pos c10] at H;have c10b0:decide (0 ≤ (ji9)) = true:=decide_eq_true c10;clear c10;by_cases c11:(ji9) < (l1.length:Int)
         ·rw [if_pos c11] at H;have c11b0:decide ((ji9) < (l1.length:Int)) = true:=decide_eq_true c11;clear c11;replace H:=Option.bind_eq_some_iff.mp H;obtain ⟨t1038,A120,H⟩:=H;replace H:(if t1038 = true then (some (([]:List Int),false)) else ((spec_voBits.f k1 (rd_LI l1 x11_1)).bind fun t1039=>(if x6_1.length < 17592186044416 then (spec_deLists.l0 k1 a0 l1 (x6_1 ++ [t1039]) l1 (l1.length:Int) (wrap64 (x11_1 + 1))) else (none)))) = some (r1,r2):=H;have A12:=aM A120;clear A120;by_cases c13:t1038 = true
          ·subst c13;have H1:(some (([]:List Int),false)) = some (r1,r2):=by rw [if_pos rfl] at H;exact H
           clear H;have H:=H1;clear H1;simp only [Option.some.injEq,Prod.mk.injEq] at H;obtain ⟨rfl,rfl⟩:=H;have p1035:0 ≤ (x11_1:Int):=of_decide_eq_true ab;have q1035:x11_1 < (l1.length:Int):=of_decide_eq_true ab;obtain ⟨ad1035,A1035_0,c1035_0,e1035,hx1035_0,hl1035_0,hi1035_0⟩:=at_LI HR1.out x11_1 p1035 q1035;cases e1035
           replace hx1035_0:=(HB.out.cell (World.block_lt_of_cell? w _ hx1035_0)).trans hx1035_0;have HR1035_0:=aM hi1035_0;have HC1035_0:=aM hl1035_0;clear hi1035_0 hl1035_0;replace p1035:=eq_true p1035;replace q1035:=eq_true q1035;go_wp2_with (first|((with_reducible refine gate_callee (f:=175) rfl ?_);refine goesL_ (some 18) rfl rfl Try.func175 kR rfl #[.int .i64 a0,.slice A1035_0 (rd_LI l1 x11_1).length c1035_0] rfl mq ?_;(with_reducible refine (spec_voSet.calls k1 a0 _ _ (rd_LI l1 x11_1) true _ ?side1 ?side2 A6.out).mono ?_);(case side1=>exact qcs HR1035_0.out HB.out);(case side2=>exact HC1035_0.out);rintro e w' ⟨rfl,⟨nd,rfl⟩⟩;refine ⟨_,rfl,?_⟩;have p1037:0 ≤ ((ji9):Int):=of_decide_eq_true ab;have q1037:(ji9) < (l1.length:Int):=of_decide_eq_true ab;obtain ⟨ad1037,A1037_0,c1037_0,e1037,hx1037_0,hl1037_0,hi1037_0⟩:=at_LI HR1.out (ji9) p1037 q1037;obtain rfl:ad1035 = ad1037:=(by injection e1037);replace hx1037_0:=(HB.out.cell (World.block_lt_of_cell? w _ hx1037_0)).trans hx1037_0;have HR1037_0:=aM hi1037_0;have HC1037_0:=aM hl1037_0;clear hi1037_0 hl1037_0;replace p1037:=eq_true p1037;replace q1037:=eq_true q1037)|(go_at_call 165;(with_reducible refine (spec_voBefore.calls k1 _ _ (rd_LI l1 x11_1) _ _ (rd_LI l1 (ji9)) true _ ?side1 ?side2 ?side3 ?side4 A12.out).mono ?_);(case side1=>repeat (first|exact (Kd.C_below HR1035_0.out bw)|(with_reducible refine Kd.C_alloc ?_ _)|(with_reducible refine Kd.C_drewN ?_ _)|(with_reducible refine Kd.C_drew ?_)));(case side2=>exact HC1035_0.out);(case side3=>repeat (first|exact (Kd.C_below HR1037_0.out bw)|(with_reducible refine Kd.C_alloc ?_ _)|(with_reducible refine Kd.C_drewN ?_ _)|(with_reducible refine Kd.C_drew ?_)));(case side4=>exact HC1037_0.out);rintro e w' ⟨rfl,⟨nd,rfl⟩⟩))
           go_ret2
           exact ⟨_,by first|rfl|(simp [errW_none,errW_some] <;> rfl)|(simp only [← hji9];first|rfl|(simp [errW_none,errW_some] <;> rfl))|(simp [*,errW_none,errW_some] <;> rfl),by first|exact Kd.R_nil _ _ _ _ _|exact Kd.N_nil _ _ _ _ _|exact Kd.V_nil _ _ _ _ _|exact Kd.Q_nil _ _ _ _ _|exact Kd.S_nil _ _ _ _ _,by exact bw⟩
          ·replace c13:=Bool.eq_false_iff.mpr c13;subst c13;have H1:((spec_voBits.f k1 (rd_LI l1 x11_1)).bind fun t1039=>(if x6_1.length < 17592186044416 then (spec_deLists.l0 k1 a0 l1 (x6_1 ++ [t1039]) l1 (l1.length:Int) (wrap64 (x11_1 + 1))) else (none))) = some (r1,r2):=by rw [if_neg (show ¬ (false = true) by decide)] at H;exact H
           clear H;have H:=H1;clear H1;replace H:=Option.bind_eq_some_iff.mp H;obtain ⟨t1039,A140,H⟩:=H;replace H:(if x6_1.length < 17592186044416 then (spec_deLists.l0 k1 a0 l1 (x6_1 ++ [t1039]) l1 (l1.length:Int) (wrap64 (x11_1 + 1))) else (none)) = some (r1,r2):=H;have A14:=aM A140;clear A140;by_cases c15:x6_1.length < 17592186044416
           ·rw [if_pos c15] at H;have LMc15:=aM c15;clear c15;obtain ⟨y1040,hy1040⟩:∃ y_:List Int,y_ = (x6_1 ++ [t1039]):=⟨_,rfl⟩;replace H:(spec_deLists.l0 k1 a0 l1 y1040 l1 (l1.length:Int) (wrap64 (x11_1 + 1))) = some (r1,r2):=by first|(rw [hy1040];with_reducible exact H)|(have H2_:=(Option.bind_some _ _).symm.trans H;rw [hy1040];with_reducible exact H2_)|(have H2_:=(Option.bind_some _ _).symm.trans H;with_reducible exact H2_)|with_reducible exact H|(rw [hy1040];exact H)|exact H
            have Ny1040:=aM hy1040;clear hy1040;have H':=aM H;clear H;have p1035:0 ≤ (x11_1:Int):=of_decide_eq_true ab;have q1035:x11_1 < (l1.length:Int):=of_decide_eq_true ab;obtain ⟨ad1035,A1035_0,c1035_0,e1035,hx1035_0,hl1035_0,hi1035_0⟩:=at_LI HR1.out x11_1 p1035 q1035;cases e1035
            replace hx1035_0:=(HB.out.cell (World.block_lt_of_cell? w _ hx1035_0)).trans hx1035_0;have HR1035_0:=aM hi1035_0;have HC1035_0:=aM hl1035_0;clear hi1035_0 hl1035_0;replace p1035:=eq_true p1035;replace q1035:=eq_true q1035;go_wp2_with (first|((with_reducible refine gate_callee (f:=175) rfl ?_);refine goesL_ (some 18) rfl rfl Try.func175 kR rfl #[.int .i64 a0,.slice A1035_0 (rd_LI l1 x11_1).length c1035_0] rfl mq ?_;(with_reducible refine (spec_voSet.calls k1 a0 _ _ (rd_LI l1 x11_1) true _ ?side1 ?side2 A6.out).mono ?_);(case side1=>exact qcs HR1035_0.out HB.out);(case side2=>exact HC1035_0.out);rintro e w' ⟨rfl,⟨nd,rfl⟩⟩;refine ⟨_,rfl,?_⟩;have p1037:0 ≤ ((ji9):Int):=of_decide_eq_true ab;have q1037:(ji9) < (l1.length:Int):=of_decide_eq_true ab;obtain ⟨ad1037,A1037_0,c1037_0,e1037,hx1037_0,hl1037_0,hi1037_0⟩:=at_LI HR1.out (ji9) p1037 q1037;obtain rfl:ad1035 = ad1037:=(by injection e1037);replace hx1037_0:=(HB.out.cell (World.block_lt_of_cell? w _ hx1037_0)).trans hx1037_0;have HR1037_0:=aM hi1037_0;have HC1037_0:=aM hl1037_0;clear hi1037_0 hl1037_0;replace p1037:=eq_true p1037;replace q1037:=eq_true q1037)|(go_at_call 165;(with_reducible refine (spec_voBefore.calls k1 _ _ (rd_LI l1 x11_1) _ _ (rd_LI l1 (ji9)) false _ ?side1 ?side2 ?side3 ?side4 A12.out).mono ?_);(case side1=>repeat (first|exact (Kd.C_below HR1035_0.out bw)|(with_reducible refine Kd.C_alloc ?_ _)|(with_reducible refine Kd.C_drewN ?_ _)|(with_reducible refine Kd.C_drew ?_)));(case side2=>exact HC1035_0.out);(case side3=>repeat (first|exact (Kd.C_below HR1037_0.out bw)|(with_reducible refine Kd.C_alloc ?_ _)|(with_reducible refine Kd.C_drewN ?_ _)|(with_reducible refine Kd.C_drew ?_)));(case side4=>exact HC1037_0.out);rintro e w' ⟨rfl,⟨nd,rfl⟩⟩)|((with_reducible refine gate_callee (f:=166) rfl ?_);refine goesL_ (some 35) rfl rfl Try.func166 kR rfl #[.slice A1035_0 (rd_LI l1 x11_1).length c1035_0] rfl mq ?_;(with_reducible refine (spec_voBits.calls k1 _ _ (rd_LI l1 x11_1) t1039 _ ?side1 ?side2 A14.out).mono ?_);(case side1=>repeat (first|exact (Kd.C_below HR1035_0.out bw)|(with_reducible refine Kd.C_alloc ?_ _)|(with_reducible refine Kd.C_drewN ?_ _)|(with_reducible refine Kd.C_drew ?_)));(case side2=>exact HC1035_0.out);rintro e w' ⟨rfl,⟨nd,rfl⟩⟩;refine ⟨_,rfl,?_⟩)|((with_reducible refine gate_builtin (b:=.append) (xs:=#[.tmp 33,.tmp 36]) rfl ?_);at_builtin;refine Kd.R_append (Kd.int .i64) (w0:=w) w.heap.size rfl (.tmp 33) (.tmp 36) 22 3 (.int .i64 0) 8 rfl Try.underlying22 info3 rfl (by decide) (by omega) u6 x6_1 t1039 [.int .i64 t1039] (fun _=>True) (fun _=>False) rfl rfl ?aP (fun _ hk=>hk.elim) ?aF ?aO ?aB ?aS ?aL ?_;(case aP=>exact rfl);(case aB=>exact bw);(case aF=>exact (fun _ _=>trivial));(case aO=>exact (qra HO_6.out));(case aS=>exact (below_size bw));(case aL=>have:=LMc15.out;omega);intro v1041 w16 ho hb hg hat;rw [← Ny1040.out] at ho;have n0_:=aM (hb);have n1_:=aM (ho);clear HB;clear HO_6;have HB:=n0_;have HO1042:=n1_;clear n0_ n1_;clear ho hb hg hat))
            go_roundg k1
            case measure=>have:=HK1.out;omega
            case rel=>exact ⟨(y1040),(wrap64 (x11_1 + 1)),qrs,H',⟨by have:=HK1.out;omega⟩,⟨qra HO1042.out⟩,⟨by exact bw⟩⟩
           ·rw [if_neg c15] at H;exact absurd H (by simp)
         ·rw [if_neg c11] at H;exact absurd H (by simp)
        ·rw [if_neg c10] at H;exact absurd H (by simp)
       ·rw [if_neg c8] at H;have c8b0:decide (0 < x11_1) = false:=decide_eq_false c8;clear c8;replace H:=Option.bind_eq_some_iff.mp H;obtain ⟨t1043,A170,H⟩:=H;replace H:(if x6_1.length < 17592186044416 then (spec_deLists.l0 k1 a0 l1 (x6_1 ++ [t1043]) l1 (l1.length:Int) (wrap64 (x11_1 + 1))) else (none)) = some (r1,r2):=H;have A17:=aM A170;clear A170;by_cases c18:x6_1.length < 17592186044416
        ·rw [if_pos c18] at H;have LMc18:=aM c18;clear c18;obtain ⟨y1044,hy1044⟩:∃ y_:List Int,y_ = (x6_1 ++ [t1043]):=⟨_,rfl⟩;replace H:(spec_deLists.l0 k1 a0 l1 y1044 l1 (l1.length:Int) (wrap64 (x11_1 + 1))) = some (r1,r2):=by first|(rw [hy1044];with_reducible exact H)|(have H2_:=(Option.bind_some _ _).symm.trans H;rw [hy1044];with_reducible exact H2_)|(have H2_:=(Option.bind_some _ _).symm.trans H;with_reducible exact H2_)|with_reducible exact H|(rw [hy1044];exact H)|exact H
         have Ny1044:=aM hy1044;clear hy1044;have H':=aM H;clear H;have p1035:0 ≤ (x11_1:Int):=of_decide_eq_true ab;have q1035:x11_1 < (l1.length:Int):=of_decide_eq_true ab;obtain ⟨ad1035,A1035_0,c1035_0,e1035,hx1035_0,hl1035_0,hi1035_0⟩:=at_LI HR1.out x11_1 p1035 q1035;cases e1035
         replace hx1035_0:=(HB.out.cell (World.block_lt_of_cell? w _ hx1035_0)).trans hx1035_0;have HR1035_0:=aM hi1035_0;have HC1035_0:=aM hl1035_0;clear hi1035_0 hl1035_0;replace p1035:=eq_true p1035;replace q1035:=eq_true q1035;go_wp2_with (first|((with_reducible refine gate_callee (f:=175) rfl ?_);refine goesL_ (some 18) rfl rfl Try.func175 kR rfl #[.int .i64 a0,.slice A1035_0 (rd_LI l1 x11_1).length c1035_0] rfl mq ?_;(with_reducible refine (spec_voSet.calls k1 a0 _ _ (rd_LI l1 x11_1) true _ ?side1 ?side2 A6.out).mono ?_);(case side1=>exact qcs HR1035_0.out HB.out);(case side2=>exact HC1035_0.out);rintro e w' ⟨rfl,⟨nd,rfl⟩⟩;refine ⟨_,rfl,?_⟩)|((with_reducible refine gate_callee (f:=166) rfl ?_);refine goesL_ (some 35) rfl rfl Try.func166 kR rfl #[.slice A1035_0 (rd_LI l1 x11_1).length c1035_0] rfl mq ?_;(with_reducible refine (spec_voBits.calls k1 _ _ (rd_LI l1 x11_1) t1043 _ ?side1 ?side2 A17.out).mono ?_);(case side1=>repeat (first|exact (Kd.C_below HR1035_0.out bw)|(with_reducible refine Kd.C_alloc ?_ _)|(with_reducible refine Kd.C_drewN ?_ _)|(with_reducible refine Kd.C_drew ?_)));(case side2=>exact HC1035_0.out);rintro e w' ⟨rfl,⟨nd,rfl⟩⟩;refine ⟨_,rfl,?_⟩)|((with_reducible refine gate_builtin (b:=.append) (xs:=#[.tmp 33,.tmp 36]) rfl ?_);at_builtin;refine Kd.R_append (Kd.int .i64) (w0:=w) w.heap.size rfl (.tmp 33) (.tmp 36) 22 3 (.int .i64 0) 8 rfl Try.underlying22 info3 rfl (by decide) (by omega) u6 x6_1 t1043 [.int .i64 t1043] (fun _=>True) (fun _=>False) rfl rfl ?aP (fun _ hk=>hk.elim) ?aF ?aO ?aB ?aS ?aL ?_;(case aP=>exact rfl);(case aB=>exact bw);(case aF=>exact (fun _ _=>trivial));(case aO=>exact (qra HO_6.out));(case aS=>exact (below_size bw));(case aL=>have:=LMc18.out;omega);intro v1045 w19 ho hb hg hat;rw [← Ny1044.out] at ho;have n0_:=aM (hb);have n1_:=aM (ho);clear HB;clear HO_6;have HB:=n0_;have HO1046:=n1_;clear n0_ n1_;clear ho hb hg hat))
         go_roundg k1
         case measure=>have:=HK1.out;omega
         case rel=>exact ⟨(y1044),(wrap64 (x11_1 + 1)),qrs,H',⟨by have:=HK1.out;omega⟩,⟨qra HO1046.out⟩,⟨by exact bw⟩⟩
        ·rw [if_neg c18] at H;exact absurd H (by simp)
      ·replace c7:=Bool.eq_false_iff.mpr c7;subst c7;have H1:(some (([]:List Int),false)) = some (r1,r2):=by rw [if_neg (show ¬ (false = true) by decide)] at H;exact H
       clear H;have H:=H1;clear H1;simp only [Option.some.injEq,Prod.mk.injEq] at H;obtain ⟨rfl,rfl⟩:=H;have p1035:0 ≤ (x11_1:Int):=of_decide_eq_true ab;have q1035:x11_1 < (l1.length:Int):=of_decide_eq_true ab;obtain ⟨ad1035,A1035_0,c1035_0,e1035,hx1035_0,hl1035_0,hi1035_0⟩:=at_LI HR1.out x11_1 p1035 q1035;cases e1035
       replace hx1035_0:=(HB.out.cell (World.block_lt_of_cell? w _ hx1035_0)).trans hx1035_0;have HR1035_0:=aM hi1035_0;have HC1035_0:=aM hl1035_0;clear hi1035_0 hl1035_0;replace p1035:=eq_true p1035;replace q1035:=eq_true q1035;go_wp2_with (first|((with_reducible refine gate_callee (f:=175) rfl ?_);refine goesL_ (some 18) rfl rfl Try.func175 kR rfl #[.int .i64 a0,.slice A1035_0 (rd_LI l1 x11_1).length c1035_0] rfl mq ?_;(with_reducible refine (spec_voSet.calls k1 a0 _ _ (rd_LI l1 x11_1) false _ ?side1 ?side2 A6.out).mono ?_);(case side1=>exact qcs HR1035_0.out HB.out);(case side2=>exact HC1035_0.out);rintro e w' ⟨rfl,⟨nd,rfl⟩⟩;refine ⟨_,rfl,?_⟩))
       go_ret2
       exact ⟨_,by first|rfl|(simp [errW_none,errW_some] <;> rfl)|(simp [*,errW_none,errW_some] <;> rfl),by first|exact Kd.R_nil _ _ _ _ _|exact Kd.N_nil _ _ _ _ _|exact Kd.V_nil _ _ _ _ _|exact Kd.Q_nil _ _ _ _ _|exact Kd.S_nil _ _ _ _ _,by exact bw⟩
     ·rw [if_neg c5] at H;exact absurd H (by simp)
    ·rw [if_neg c4] at H;exact absurd H (by simp)
   ·rw [if_neg c3] at H;have c3b0:decide (x11_1 < (l1.length:Int)) = false:=decide_eq_false c3;clear c3;simp only [Option.some.injEq,Prod.mk.injEq] at H;obtain ⟨rfl,rfl⟩:=H;go_wp2
    go_ret2
    exact ⟨_,by first|rfl|(simp [errW_none,errW_some] <;> rfl)|(simp [*,errW_none,errW_some] <;> rfl),by (with_reducible repeat (first|apply Kd.R_alloc|apply Kd.R_drewN|apply Kd.R_drew));exact HO_6.out,by exact bw⟩


/-! ### spec_deSpread: function 117 -/
mutual
def spec_deSpread.l0:Nat → Int → List Int → Int → Int → Option (Int)
 | 0,_,_,_,_=>none
 | k + 1,x3,x7,x8,x9=>if x9 < x8 then (if 0 ≤ x9 then (if x9 < (x7.length:Int) then (spec_deSpread.l1 k x3 (rd x7 x9) 1 x7 x8 x9) else (none)) else (none)) else (some x3)
def spec_deSpread.l1:Nat → Int → Int → Int → List Int → Int → Int → Option (Int)
 | 0,_,_,_,_,_,_=>none
 | k + 1,x3,x5,x6,x7,x8,x9=>if x5 > 0 then (spec_deSpread.l1 k (wrap64 (x3 + (wrap64 ((Int.tmod x5 2) * x6)))) (wrap64 (Int.tdiv x5 2)) (wrap64 (x6 * 4)) x7 x8 x9) else (spec_deSpread.l0 k x3 x7 x8 (wrap64 (x9 + 1)))
end
def spec_deSpread.f (k:Nat) (l0:List Int):Option (Int):=spec_deSpread.l0 k 0 l0 (l0.length:Int) 0
theorem spec_deSpread.mono_l:∀ k,(∀ y0 y1 y2 y3,LeO (spec_deSpread.l0 k y0 y1 y2 y3) (spec_deSpread.l0 (k + 1) y0 y1 y2 y3)) ∧ (∀ y0 y1 y2 y3 y4 y5,LeO (spec_deSpread.l1 k y0 y1 y2 y3 y4 y5) (spec_deSpread.l1 (k + 1) y0 y1 y2 y3 y4 y5))
 | 0=>⟨fun _ _ _ _ r h=>by simp [spec_deSpread.l0] at h,fun _ _ _ _ _ _ r h=>by simp [spec_deSpread.l1] at h⟩
 | k + 1=>by
  obtain ⟨ih0,ih1⟩:=spec_deSpread.mono_l k;refine ⟨?_,?_⟩
  ·intro y0 y1 y2 y3;unfold spec_deSpread.l0
   repeat' with_reducible first|exact ih0 _ _ _ _|exact ih1 _ _ _ _ _ _|exact LeO.refl _|exact LeO.none _|refine LeO.ite ?_ ?_|refine LeO.bind ?_ (fun _=>?_)
  ·intro y0 y1 y2 y3 y4 y5;unfold spec_deSpread.l1
   repeat' with_reducible first|exact ih0 _ _ _ _|exact ih1 _ _ _ _ _ _|exact LeO.refl _|exact LeO.none _|refine LeO.ite ?_ ?_|refine LeO.bind ?_ (fun _=>?_)
theorem spec_deSpread.mono:∀ a0 k,LeO (spec_deSpread.f k a0) (spec_deSpread.f (k + 1) a0):=by
 intro a0 k;obtain ⟨ih0,ih1⟩:=spec_deSpread.mono_l k;unfold spec_deSpread.f
 repeat' with_reducible first|exact ih0 _ _ _ _|exact ih1 _ _ _ _ _ _|exact LeO.refl _|exact LeO.none _|refine LeO.ite ?_ ?_|refine LeO.bind ?_ (fun _=>?_)
set_option maxHeartbeats 8000000 in
set_option maxRecDepth 100000 in
theorem spec_deSpread.calls (k:Nat) (A0:Option Addr) (c0:Nat) (l0:List Int) (r:Int) (w:World) (hr0:Kd.C (Kd.int .i64) w A0 l0.length l0) (hc0:l0.length ≤ c0) (h:spec_deSpread.f k l0 = some r) :
  Calls Try.prog 117 #[.slice A0 l0.length c0] w fun e w'=>e = .returned (.int .i64 r) ∧ Drawn0 w w':=by
 have HR0:=aM hr0;have HC0:=aM hc0;clear hr0 hc0;have H:(spec_deSpread.l0 k 0 l0 (l0.length:Int) 0) = some r:=h;clear h;have H':=aM H;clear H;go_enter Try.func117,Try.ntmps117;go_wp2
 go_loopg [3,9] k (fun kq v3 v9 w'=>∃ (x3_1:Int) (x9_1:Int),v3 = .int .i64 x3_1 ∧ v9 = .int .i64 x9_1 ∧ Aside0 (spec_deSpread.l0 kq x3_1 l0 (l0.length:Int) x9_1 = some r) ∧ Aside0 (kq ≤ k) ∧ Drawn0 w w')
 case atStart=>exact ⟨(0),(0),qrs,qrs,H',⟨Nat.le_refl _⟩,by repeat (first|exact Drawn0.refl _|apply Drawn0.step)⟩
 case round =>
  clear H'
  try clear c1
  obtain ⟨x3_1,x9_1,rfl,rfl,HA,HK1,⟨m1,rfl⟩⟩:=hrel
  cases gk with
  | zero=>exact absurd HA.out (by simp [spec_deSpread.l0])
  | succ k1 =>
   have H:=HA.out;clear HA;simp only [spec_deSpread.l0] at H;by_cases c2:x9_1 < (l0.length:Int)
   ·rw [if_pos c2] at H;have c2b0:decide (x9_1 < (l0.length:Int)) = true:=decide_eq_true c2;clear c2;by_cases c3:0 ≤ x9_1
    ·rw [if_pos c3] at H;have c3b0:decide (0 ≤ x9_1) = true:=decide_eq_true c3;clear c3;by_cases c4:x9_1 < (l0.length:Int)
     ·rw [if_pos c4] at H;have c4b0:decide (x9_1 < (l0.length:Int)) = true:=decide_eq_true c4;clear c4;have H':=aM H;clear H;have p1047:0 ≤ (x9_1:Int):=of_decide_eq_true ab;have q1047:x9_1 < (l0.length:Int):=of_decide_eq_true ab;obtain ⟨ad1047,e1047,hx1047_0⟩:=Kd.at_int HR0.out x9_1 p1047 q1047;cases e1047
      replace p1047:=eq_true p1047;replace q1047:=eq_true q1047;go_wp2
      go_loopg [3,5,6] k1 (fun kq v3 v5 v6 w'=>∃ (x3_2:Int) (x5_2:Int) (x6_2:Int),v3 = .int .i64 x3_2 ∧ v5 = .int .i64 x5_2 ∧ v6 = .int .i64 x6_2 ∧ Aside0 (spec_deSpread.l1 kq x3_2 x5_2 x6_2 l0 (l0.length:Int) x9_1 = some r) ∧ Aside0 (kq ≤ k1) ∧ Drawn0 w w')
      case atStart=>exact ⟨(x3_1),(rd l0 x9_1),(1),qrs,qrs,qrs,H',⟨Nat.le_refl _⟩,by repeat (first|exact Drawn0.refl _|apply Drawn0.step)⟩
      case round =>
       clear H';(try clear c1);(try clear p1);(try clear q1);(try clear hx1);(try clear c2);(try clear c2b0);(try clear p2);(try clear c3);(try clear c3b0);(try clear c4);(try clear c4b0);(try clear hx1047_0);(try clear p1047);(try clear q1047)
       obtain ⟨x3_2,x5_2,x6_2,rfl,rfl,rfl,HA,HK2,⟨m2,rfl⟩⟩:=hrel
       cases gk with
       | zero=>exact absurd HA.out (by simp [spec_deSpread.l1])
       | succ k2 =>
        have H:=HA.out;clear HA;simp only [spec_deSpread.l1] at H;by_cases c5:x5_2 > 0
        ·rw [if_pos c5] at H;have c5b0:decide (0 < x5_2) = true:=decide_eq_true c5;clear c5;have H':=aM H;clear H;go_wp2
         go_roundg k2
         case measure=>have:=HK1.out;have:=HK2.out;omega
         case rel=>exact ⟨(wrap64 (x3_2 + (wrap64 ((Int.tmod x5_2 2) * x6_2)))),(wrap64 (Int.tdiv x5_2 2)),(wrap64 (x6_2 * 4)),qrs,qrs,qrs,H',⟨by have:=HK1.out;have:=HK2.out;omega⟩,by repeat (first|exact Drawn0.refl _|apply Drawn0.step)⟩
        ·rw [if_neg c5] at H;have c5b0:decide (0 < x5_2) = false:=decide_eq_false c5;clear c5;have H':=aM H;clear H;go_wp2
         go_roundg k2
         case measure=>have:=HK1.out;have:=HK2.out;omega
         case rel=>exact ⟨(x3_2),(wrap64 (x9_1 + 1)),qrs,qrs,H',⟨by have:=HK1.out;have:=HK2.out;omega⟩,by repeat (first|exact Drawn0.refl _|apply Drawn0.step)⟩
     ·rw [if_neg c4] at H;exact absurd H (by simp)
    ·rw [if_neg c3] at H;exact absurd H (by simp)
   ·rw [if_neg c2] at H;have c2b0:decide (x9_1 < (l0.length:Int)) = false:=decide_eq_false c2;clear c2;obtain rfl:=Option.some.inj H;go_wp2
    go_ret
    exact ⟨by first|rfl|(simp;done)|(simp [*];done),by repeat (first|exact Drawn0.refl _|apply Drawn0.step)⟩


/-! ### spec_IsTrade: function 50 -/
mutual
def spec_IsTrade.j0:Nat → Bool → Int → List (List Int) → List (List Int) → List (List Int) → Option (Bool × Bool)
 | 0,_,_,_,_,_=>none
 | k + 1,x28,x1049000,x1049001,x1050000,x1050001=>if x28 = true then (some (false,true)) else ((spec_deLists.f k x1049000 x1050000).bind fun bt1052=>((spec_deLists.f k x1049000 x1050001).bind fun bt1056=>(if bt1052.2 = true then (if bt1056.2 = true then ((spec_deSpread.f k bt1052.1).bind fun t1060=>((spec_deSpread.f k bt1056.1).bind fun t1061=>(spec_IsTrade.j1 k bt1052.1 bt1056.1 (t1060 != t1061) x1049000 x1049001))) else (spec_IsTrade.j1 k bt1052.1 bt1056.1 true x1049000 x1049001)) else (spec_IsTrade.j1 k bt1052.1 bt1056.1 true x1049000 x1049001))))
def spec_IsTrade.j1:Nat → List Int → List Int → Bool → Int → List (List Int) → Option (Bool × Bool)
 | 0,_,_,_,_,_=>none
 | k + 1,x6,x8,x57,x1049000,x1049001=>if x57 = true then (some (false,true)) else ((spec_gmAll.f k x1049000 x1049001).bind fun t1062=>(spec_IsTrade.l0 k x6 x8 t1062 (x6.length:Int) 0))
def spec_IsTrade.l0:Nat → List Int → List Int → List Bool → Int → Int → Option (Bool × Bool)
 | 0,_,_,_,_,_=>none
 | k + 1,x6,x8,x10,x61,x62=>if x62 < x61 then (if 0 ≤ x62 then (if x62 < (x6.length:Int) then (if 0 ≤ (rd x6 x62) then (if (rd x6 x62) < (x10.length:Int) then (if (rdOf false x10 (rd x6 x62) = true) then (if x62 < (x8.length:Int) then (if 0 ≤ (rd x8 x62) then (if (rd x8 x62) < (x10.length:Int) then (if rdOf false x10 (rd x8 x62) = true then (some (false,true)) else (spec_IsTrade.l0 k x6 x8 x10 x61 (wrap64 (x62 + 1)))) else (none)) else (none)) else (none)) else (some (false,true))) else (none)) else (none)) else (none)) else (none)) else (some (true,true))
end
def spec_IsTrade.f (k:Nat) (a0_0:Int) (l0_1:List (List Int)) (l1_0:List (List Int)) (l1_1:List (List Int)):Option (Bool × Bool):=(spec_gmGood.f k a0_0 l0_1).bind fun t1050=>(if t1050 = true then ((spec_l1In.f (l1_0.length:Int) 2 3).bind fun t1051=>(if t1051 = true then (spec_IsTrade.j0 k ((l1_1.length:Int) != (l1_0.length:Int)) a0_0 l0_1 l1_0 l1_1) else (spec_IsTrade.j0 k true a0_0 l0_1 l1_0 l1_1))) else (some (false,false)))
theorem spec_IsTrade.mono_l:∀ k,(∀ y0 y1 y2 y3 y4,LeO (spec_IsTrade.j0 k y0 y1 y2 y3 y4) (spec_IsTrade.j0 (k + 1) y0 y1 y2 y3 y4)) ∧ (∀ y0 y1 y2 y3 y4,LeO (spec_IsTrade.j1 k y0 y1 y2 y3 y4) (spec_IsTrade.j1 (k + 1) y0 y1 y2 y3 y4)) ∧ (∀ y0 y1 y2 y3 y4,LeO (spec_IsTrade.l0 k y0 y1 y2 y3 y4) (spec_IsTrade.l0 (k + 1) y0 y1 y2 y3 y4))
 | 0=>⟨fun _ _ _ _ _ r h=>by simp [spec_IsTrade.j0] at h,fun _ _ _ _ _ r h=>by simp [spec_IsTrade.j1] at h,fun _ _ _ _ _ r h=>by simp [spec_IsTrade.l0] at h⟩
 | k + 1=>by
  obtain ⟨ih0,ih1,ih2⟩:=spec_IsTrade.mono_l k;refine ⟨?_,?_,?_⟩
  ·intro y0 y1 y2 y3 y4;unfold spec_IsTrade.j0
   repeat' with_reducible first|exact ih0 _ _ _ _ _|exact ih1 _ _ _ _ _|exact ih2 _ _ _ _ _|exact spec_deLists.mono _ _ _|exact spec_deSpread.mono _ _|exact spec_gmAll.mono _ _ _|exact spec_gmGood.mono _ _ _|exact LeO.refl _|exact LeO.none _|refine LeO.ite ?_ ?_|refine LeO.bind ?_ (fun _=>?_)
  ·intro y0 y1 y2 y3 y4;unfold spec_IsTrade.j1
   repeat' with_reducible first|exact ih0 _ _ _ _ _|exact ih1 _ _ _ _ _|exact ih2 _ _ _ _ _|exact spec_deLists.mono _ _ _|exact spec_deSpread.mono _ _|exact spec_gmAll.mono _ _ _|exact spec_gmGood.mono _ _ _|exact LeO.refl _|exact LeO.none _|refine LeO.ite ?_ ?_|refine LeO.bind ?_ (fun _=>?_)
  ·intro y0 y1 y2 y3 y4;unfold spec_IsTrade.l0
   repeat' with_reducible first|exact ih0 _ _ _ _ _|exact ih1 _ _ _ _ _|exact ih2 _ _ _ _ _|exact spec_deLists.mono _ _ _|exact spec_deSpread.mono _ _|exact spec_gmAll.mono _ _ _|exact spec_gmGood.mono _ _ _|exact LeO.refl _|exact LeO.none _|refine LeO.ite ?_ ?_|refine LeO.bind ?_ (fun _=>?_)
theorem spec_IsTrade.mono:∀ a0 a1 a2 a3 k,LeO (spec_IsTrade.f k a0 a1 a2 a3) (spec_IsTrade.f (k + 1) a0 a1 a2 a3):=by
 intro a0 a1 a2 a3 k;obtain ⟨ih0,ih1,ih2⟩:=spec_IsTrade.mono_l k;unfold spec_IsTrade.f
 repeat' with_reducible first|exact ih0 _ _ _ _ _|exact ih1 _ _ _ _ _|exact ih2 _ _ _ _ _|exact spec_deLists.mono _ _ _|exact spec_deSpread.mono _ _|exact spec_gmAll.mono _ _ _|exact spec_gmGood.mono _ _ _|exact LeO.refl _|exact LeO.none _|refine LeO.ite ?_ ?_|refine LeO.bind ?_ (fun _=>?_)
set_option maxHeartbeats 8000000 in
set_option maxRecDepth 100000 in
theorem spec_IsTrade.calls (k:Nat) (a0_0:Int) (A0_1:Option Addr) (c0_1:Nat) (l0_1:List (List Int)) (A1_0:Option Addr) (c1_0:Nat) (l1_0:List (List Int)) (A1_1:Option Addr) (c1_1:Nat) (l1_1:List (List Int)) (r1:Bool) (r2:Bool) (w:World) (hr0_1:Kd.C (Kd.slice 3 (Kd.int .i64)) w A0_1 l0_1.length l0_1) (hc0_1:l0_1.length ≤ c0_1) (hr1_0:Kd.C (Kd.slice 3 (Kd.int .i64)) w A1_0 l1_0.length l1_0) (hc1_0:l1_0.length ≤ c1_0) (hr1_1:Kd.C (Kd.slice 3 (Kd.int .i64)) w A1_1 l1_1.length l1_1) (hc1_1:l1_1.length ≤ c1_1) (h:spec_IsTrade.f k a0_0 l0_1 l1_0 l1_1 = some (r1,r2)) :
  Calls Try.prog 50 #[.agg #[.int .i64 a0_0,.slice A0_1 l0_1.length c0_1],.agg #[.slice A1_0 l1_0.length c1_0,.slice A1_1 l1_1.length c1_1]] w fun e w'=>e = .returned (.tuple #[.bool r1,.bool r2]) ∧ Below w.heap.size w w':=by
 have hu57:=Try.underlying57;have hu71:=Try.underlying71;have HR0_1:=aM hr0_1;have HC0_1:=aM hc0_1;clear hr0_1 hc0_1;have HR1_0:=aM hr1_0;have HC1_0:=aM hc1_0;clear hr1_0 hc1_0;have HR1_1:=aM hr1_1;have HC1_1:=aM hc1_1;clear hr1_1 hc1_1;have HB:=aM (Below.refl w.heap.size w);have H:((spec_gmGood.f k a0_0 l0_1).bind fun t1050=>(if t1050 = true then ((spec_l1In.f (l1_0.length:Int) 2 3).bind fun t1051=>(if t1051 = true then (spec_IsTrade.j0 k ((l1_1.length:Int) != (l1_0.length:Int)) a0_0 l0_1 l1_0 l1_1) else (spec_IsTrade.j0 k true a0_0 l0_1 l1_0 l1_1))) else (some (false,false)))) = some (r1,r2):=h;clear h;replace H:=Option.bind_eq_some_iff.mp H;obtain ⟨t1050,A30,H⟩:=H;replace H:(if t1050 = true then ((spec_l1In.f (l1_0.length:Int) 2 3).bind fun t1051=>(if t1051 = true then (spec_IsTrade.j0 k ((l1_1.length:Int) != (l1_0.length:Int)) a0_0 l0_1 l1_0 l1_1) else (spec_IsTrade.j0 k true a0_0 l0_1 l1_0 l1_1))) else (some (false,false))) = some (r1,r2):=H;have A3:=aM A30;clear A30;by_cases c4:t1050 = true
 ·subst c4;have H1:((spec_l1In.f (l1_0.length:Int) 2 3).bind fun t1051=>(if t1051 = true then (spec_IsTrade.j0 k ((l1_1.length:Int) != (l1_0.length:Int)) a0_0 l0_1 l1_0 l1_1) else (spec_IsTrade.j0 k true a0_0 l0_1 l1_0 l1_1))) = some (r1,r2):=by rw [if_pos rfl] at H;exact H
  clear H;have H:=H1;clear H1;have HC5:=aM H;clear H;go_enter Try.func50,Try.ntmps50;go_upto_region 3 with (first|((with_reducible refine gate_dst (N:=2) rfl ?_);(try (refine gate_guard (by rfl) ?_;dsimp only));refine box_event ?hg (N:=2) ?hd (cs:=#[.int .i64 a0_0,.slice A0_1 l0_1.length c0_1]) (t:=57) ?hr ?_;(case hd=>rfl);(case hg=>rfl);(case hr=>first|(go_simp;done)|(go_simp;rfl));intro gb1048 hg w6 hbox hb;have n0_:=aM (below_step bw hb);have n1_:=aM (hbox);have n2_:=aM ((by rw [hg];exact (below_size bw):w.heap.size ≤ gb1048));have n3_:=aM ((by rw [hg];exact (below_size bw):w.heap.size ≤ gb1048));clear HB;have HB:=n0_;have BK1048:=n1_;have GW1048:=n2_;have GE1048:=n3_;clear n0_ n1_ n2_ n3_;clear hb hbox hg)|((with_reducible refine gate_dst (N:=3) rfl ?_);(try (refine gate_guard (by rfl) ?_;dsimp only));refine box_event ?hg (N:=3) ?hd (cs:=#[.slice A1_0 l1_0.length c1_0,.slice A1_1 l1_1.length c1_1]) (t:=71) ?hr ?_;(case hd=>rfl);(case hg=>rfl);(case hr=>first|(go_simp;done)|(go_simp;rfl));intro gb1049 hg w7 hbox hb;have n0_:=aM (blk_below (g:=gb1048) (o:=.cells #[.int .i64 a0_0,.slice A0_1 l0_1.length c0_1] 57 (0,0)) bk hb);have n1_:=aM (below_step bw hb);have n2_:=aM (hbox);have n3_:=aM ((by rw [hg];exact (below_size bw):w.heap.size ≤ gb1049));have n4_:=aM ((by rw [hg];exact (below_size bw):w.heap.size ≤ gb1049));have n5_:=aM ((by rw [hg];exact Nat.ne_of_lt (blk_lt (g:=gb1048) (o:=.cells #[.int .i64 a0_0,.slice A0_1 l0_1.length c0_1] 57 (0,0)) bk):gb1048 ≠ gb1049));have n6_:=aM ((by rw [hg];exact Nat.ne_of_gt (blk_lt (g:=gb1048) (o:=.cells #[.int .i64 a0_0,.slice A0_1 l0_1.length c0_1] 57 (0,0)) bk):gb1049 ≠ gb1048));clear BK1048;clear HB;have BK1048:=n0_;have HB:=n1_;have BK1049:=n2_;have GW1049:=n3_;have GE1049:=n4_;have NB1048_1049:=n5_;have NB1049_1048:=n6_;clear n0_ n1_ n2_ n3_ n4_ n5_ n6_;clear hb hbox hg;have hnb8:=NB1048_1049.out;have hnc8:=NB1049_1048.out;have hcz9_0:w7.cell? ⟨gb1048,0,none⟩ = some (.int .i64 a0_0):=(blk_cell BK1048.out 0).trans rfl;have hcz9_1:w7.cell? ⟨gb1048,1,none⟩ = some (.slice A0_1 l0_1.length c0_1):=(blk_cell BK1048.out 1).trans rfl;have hfz9_0:=blk_frozen BK1048.out 0;have hfz9_1:=blk_frozen BK1048.out 1)|((with_reducible refine gate_callee (f:=100) rfl ?_);refine goesL_ (some 13) rfl rfl Try.func100 kR rfl #[.agg #[.int .i64 a0_0,.slice A0_1 l0_1.length c0_1]] rfl mq ?_;(with_reducible refine (spec_gmGood.calls k a0_0 _ _ l0_1 true _ ?side1 ?side2 A3.out).mono ?_);(case side1=>exact qcs HR0_1.out HB.out);(case side2=>exact HC0_1.out);rintro e w10 ⟨rfl,hb⟩;refine ⟨_,rfl,?_⟩;have n0_:=aM (blk_below (g:=gb1048) (o:=.cells #[.int .i64 a0_0,.slice A0_1 l0_1.length c0_1] 57 (0,0)) bk hb);have n1_:=aM (blk_below (g:=gb1049) (o:=.cells #[.slice A1_0 l1_0.length c1_0,.slice A1_1 l1_1.length c1_1] 71 (0,0)) bk hb);have n2_:=aM (below_step bw hb);clear BK1048;clear BK1049;clear HB;have BK1048:=n0_;have BK1049:=n1_;have HB:=n2_;clear n0_ n1_ n2_;(try clear hb);(try clear hb2);(try clear hk);(try clear hi)))
  (try simp only [Act.put,sA,sZ,sS])
  go_cut [28] (fun v28 wc=>∃ (kq:Nat) (x28_4:Bool),v28 = .bool x28_4 ∧ Aside0 (spec_IsTrade.j0 kq x28_4 a0_0 l0_1 l1_0 l1_1 = some (r1,r2)) ∧ Aside0 (kq ≤ k) ∧ Aside0 (wc.heap[gb1048]? = some (.cells #[.int .i64 a0_0,(.slice A0_1 l0_1.length c0_1)] 57 (0,0))) ∧ Aside0 (wc.heap[gb1049]? = some (.cells #[(.slice A1_0 l1_0.length c1_0),(.slice A1_1 l1_1.length c1_1)] 71 (0,0))) ∧ Aside0 (Below w.heap.size w wc))
  case first =>
   have H:=HC5.out;clear HC5;replace H:=Option.bind_eq_some_iff.mp H;obtain ⟨t1051,A110,H⟩:=H;replace H:(if t1051 = true then (spec_IsTrade.j0 k ((l1_1.length:Int) != (l1_0.length:Int)) a0_0 l0_1 l1_0 l1_1) else (spec_IsTrade.j0 k true a0_0 l0_1 l1_0 l1_1)) = some (r1,r2):=H;have A11:=aM A110;clear A110;by_cases c12:t1051 = true
   ·subst c12;have H1:(spec_IsTrade.j0 k ((l1_1.length:Int) != (l1_0.length:Int)) a0_0 l0_1 l1_0 l1_1) = some (r1,r2):=by rw [if_pos rfl] at H;exact H
    clear H;have H:=H1;clear H1;have H':=aM H;clear H;have hnb13:=NB1049_1048.out;have hnc13:=NB1048_1049.out;have hcz14_0:w10.cell? ⟨gb1049,0,none⟩ = some (.slice A1_0 l1_0.length c1_0):=(blk_cell BK1049.out 0).trans rfl;have hcz14_1:w10.cell? ⟨gb1049,1,none⟩ = some (.slice A1_1 l1_1.length c1_1):=(blk_cell BK1049.out 1).trans rfl;have hfz14_0:=blk_frozen BK1049.out 0;have hfz14_1:=blk_frozen BK1049.out 1;go_wp2_with (first|((with_reducible refine gate_callee (f:=115) rfl ?_);refine goesL_ (some 18) rfl rfl Try.func115 kR rfl #[.int .i64 (l1_0.length:Int),.int .i64 2,.int .i64 3] rfl mq ?_;(with_reducible refine (spec_l1In.calls (l1_0.length:Int) 2 3 true _ A11.out).mono ?_);rintro e w' ⟨rfl,⟨nd,rfl⟩⟩;refine ⟨_,rfl,?_⟩))
    go_meet
    case rel=>exact ⟨_,(((l1_1.length:Int) != (l1_0.length:Int))),qrs,H',⟨by first|omega|exact Nat.le_refl _⟩,⟨by (with_reducible repeat (first|refine blk_drewN ?_ _|refine blk_drew ?_|refine blk_alloc ?_ _));exact BK1048.out⟩,⟨by (with_reducible repeat (first|refine blk_drewN ?_ _|refine blk_drew ?_|refine blk_alloc ?_ _));exact BK1049.out⟩,⟨by exact bw⟩⟩
   ·replace c12:=Bool.eq_false_iff.mpr c12;subst c12;have H1:(spec_IsTrade.j0 k true a0_0 l0_1 l1_0 l1_1) = some (r1,r2):=by rw [if_neg (show ¬ (false = true) by decide)] at H;exact H
    clear H;have H:=H1;clear H1;have H':=aM H;clear H;have hnb15:=NB1049_1048.out;have hnc15:=NB1048_1049.out;have hcz16_0:w10.cell? ⟨gb1049,0,none⟩ = some (.slice A1_0 l1_0.length c1_0):=(blk_cell BK1049.out 0).trans rfl;have hcz16_1:w10.cell? ⟨gb1049,1,none⟩ = some (.slice A1_1 l1_1.length c1_1):=(blk_cell BK1049.out 1).trans rfl;have hfz16_0:=blk_frozen BK1049.out 0;have hfz16_1:=blk_frozen BK1049.out 1;go_wp2_with (first|((with_reducible refine gate_callee (f:=115) rfl ?_);refine goesL_ (some 18) rfl rfl Try.func115 kR rfl #[.int .i64 (l1_0.length:Int),.int .i64 2,.int .i64 3] rfl mq ?_;(with_reducible refine (spec_l1In.calls (l1_0.length:Int) 2 3 false _ A11.out).mono ?_);rintro e w' ⟨rfl,⟨nd,rfl⟩⟩;refine ⟨_,rfl,?_⟩))
    go_meet
    case rel=>exact ⟨_,(true),qrs,H',⟨by first|omega|exact Nat.le_refl _⟩,⟨by (with_reducible repeat (first|refine blk_drewN ?_ _|refine blk_drew ?_|refine blk_alloc ?_ _));exact BK1048.out⟩,⟨by (with_reducible repeat (first|refine blk_drewN ?_ _|refine blk_drew ?_|refine blk_alloc ?_ _));exact BK1049.out⟩,⟨by exact bw⟩⟩
  case rest =>
   clear HC5;(try clear c1);(try clear p2);(try clear c4);(try clear c5);(try clear c8);(try clear c10);(try clear c11);(try clear c12);(try clear c13);(try clear c15);(try clear hcz14_0);(try clear hcz14_1);(try clear hcz16_0);(try clear hcz16_1);(try clear hcz9_0);(try clear hcz9_1);(try clear hfz14_0);(try clear hfz14_1);(try clear hfz16_0);(try clear hfz16_1);(try clear hfz9_0);(try clear hfz9_1)
   obtain ⟨kq,x28_4,rfl,HA,HJ4,BK1048,BK1049,HB⟩:=hcut
   cases kq with
   | zero=>exact absurd HA.out (by simp [spec_IsTrade.j0])
   | succ kj4 =>
    have H:=HA.out;clear HA;simp only [spec_IsTrade.j0] at H;by_cases c17:x28_4 = true
    ·subst c17;have H1:(some (false,true)) = some (r1,r2):=by rw [if_pos rfl] at H;exact H
     clear H;have H:=H1;clear H1;simp only [Option.some.injEq,Prod.mk.injEq] at H;obtain ⟨rfl,rfl⟩:=H;go_wp2
     go_ret2
     exact ⟨by first|rfl|(simp [errW_none,errW_some] <;> rfl)|(simp [*,errW_none,errW_some] <;> rfl),by exact bw⟩
    ·replace c17:=Bool.eq_false_iff.mpr c17;subst c17;have H1:((spec_deLists.f kj4 a0_0 l1_0).bind fun bt1052=>((spec_deLists.f kj4 a0_0 l1_1).bind fun bt1056=>(if bt1052.2 = true then (if bt1056.2 = true then ((spec_deSpread.f kj4 bt1052.1).bind fun t1060=>((spec_deSpread.f kj4 bt1056.1).bind fun t1061=>(spec_IsTrade.j1 kj4 bt1052.1 bt1056.1 (t1060 != t1061) a0_0 l0_1))) else (spec_IsTrade.j1 kj4 bt1052.1 bt1056.1 true a0_0 l0_1)) else (spec_IsTrade.j1 kj4 bt1052.1 bt1056.1 true a0_0 l0_1)))) = some (r1,r2):=by rw [if_neg (show ¬ (false = true) by decide)] at H;exact H
     clear H;have H:=H1;clear H1;replace H:=Option.bind_eq_some_iff.mp H;obtain ⟨⟨t1052,t1053⟩,A180,H⟩:=H;replace H:((spec_deLists.f kj4 a0_0 l1_1).bind fun bt1056=>(if t1053 = true then (if bt1056.2 = true then ((spec_deSpread.f kj4 t1052).bind fun t1060=>((spec_deSpread.f kj4 bt1056.1).bind fun t1061=>(spec_IsTrade.j1 kj4 t1052 bt1056.1 (t1060 != t1061) a0_0 l0_1))) else (spec_IsTrade.j1 kj4 t1052 bt1056.1 true a0_0 l0_1)) else (spec_IsTrade.j1 kj4 t1052 bt1056.1 true a0_0 l0_1))) = some (r1,r2):=H;have A18:=aM A180;clear A180;replace H:=Option.bind_eq_some_iff.mp H;obtain ⟨⟨t1056,t1057⟩,A190,H⟩:=H;replace H:(if t1053 = true then (if t1057 = true then ((spec_deSpread.f kj4 t1052).bind fun t1060=>((spec_deSpread.f kj4 t1056).bind fun t1061=>(spec_IsTrade.j1 kj4 t1052 t1056 (t1060 != t1061) a0_0 l0_1))) else (spec_IsTrade.j1 kj4 t1052 t1056 true a0_0 l0_1)) else (spec_IsTrade.j1 kj4 t1052 t1056 true a0_0 l0_1)) = some (r1,r2):=H;have A19:=aM A190;clear A190;have HC20:=aM H;clear H;have hnb21:=NB1048_1049.out;have hnc21:=NB1049_1048.out;have hcz22_0:wc.cell? ⟨gb1048,0,none⟩ = some (.int .i64 a0_0):=(blk_cell BK1048.out 0).trans rfl;have hcz22_1:wc.cell? ⟨gb1048,1,none⟩ = some (.slice A0_1 l0_1.length c0_1):=(blk_cell BK1048.out 1).trans rfl;have hfz22_0:=blk_frozen BK1048.out 0;have hfz22_1:=blk_frozen BK1048.out 1;have hcz23_0:wc.cell? ⟨gb1049,0,none⟩ = some (.slice A1_0 l1_0.length c1_0):=(blk_cell BK1049.out 0).trans rfl;have hcz23_1:wc.cell? ⟨gb1049,1,none⟩ = some (.slice A1_1 l1_1.length c1_1):=(blk_cell BK1049.out 1).trans rfl;have hfz23_0:=blk_frozen BK1049.out 0;have hfz23_1:=blk_frozen BK1049.out 1;go_upto_region 7 with (first|((with_reducible refine gate_callee (f:=116) rfl ?_);refine goesL_ (some 34) rfl rfl Try.func116 kR rfl #[.int .i64 a0_0,.slice A1_0 l1_0.length c1_0] rfl mq ?_;(with_reducible refine (spec_deLists.calls kj4 a0_0 _ _ l1_0 t1052 t1053 _ ?side1 ?side2 A18.out).mono ?_);(case side1=>exact qcs HR1_0.out HB.out);(case side2=>exact HC1_0.out);rintro e w24 ⟨v1054,rfl,ho0,hb⟩;refine ⟨_,rfl,?_⟩;have n0_:=aM (Kd.R_lower ho0 (below_size bw));have n1_:=aM (blk_below (g:=gb1048) (o:=.cells #[.int .i64 a0_0,.slice A0_1 l0_1.length c0_1] 57 (0,0)) bk hb);have n2_:=aM (blk_below (g:=gb1049) (o:=.cells #[.slice A1_0 l1_0.length c1_0,.slice A1_1 l1_1.length c1_1] 71 (0,0)) bk hb);have n3_:=aM (below_step bw hb);clear BK1048;clear BK1049;clear HB;have HO1055:=n0_;have BK1048:=n1_;have BK1049:=n2_;have HB:=n3_;clear n0_ n1_ n2_ n3_;(try clear hb);(try clear hb2);(try clear hk);(try clear hi);(try clear ho0);have hcz25_0:w24.cell? ⟨gb1048,0,none⟩ = some (.int .i64 a0_0):=(blk_cell BK1048.out 0).trans rfl;have hcz25_1:w24.cell? ⟨gb1048,1,none⟩ = some (.slice A0_1 l0_1.length c0_1):=(blk_cell BK1048.out 1).trans rfl;have hfz25_0:=blk_frozen BK1048.out 0;have hfz25_1:=blk_frozen BK1048.out 1;have hcz26_0:w24.cell? ⟨gb1049,0,none⟩ = some (.slice A1_0 l1_0.length c1_0):=(blk_cell BK1049.out 0).trans rfl;have hcz26_1:w24.cell? ⟨gb1049,1,none⟩ = some (.slice A1_1 l1_1.length c1_1):=(blk_cell BK1049.out 1).trans rfl;have hfz26_0:=blk_frozen BK1049.out 0;have hfz26_1:=blk_frozen BK1049.out 1)|((with_reducible refine gate_callee (f:=116) rfl ?_);refine goesL_ (some 42) rfl rfl Try.func116 kR rfl #[.int .i64 a0_0,.slice A1_1 l1_1.length c1_1] rfl mq ?_;(with_reducible refine (spec_deLists.calls kj4 a0_0 _ _ l1_1 t1056 t1057 _ ?side1 ?side2 A19.out).mono ?_);(case side1=>exact qcs HR1_1.out HB.out);(case side2=>exact HC1_1.out);rintro e w27 ⟨v1058,rfl,ho0,hb⟩;refine ⟨_,rfl,?_⟩;have n0_:=aM (Kd.R_elder' (qra HO1055.out) (Kd.R_base ho0) hb);have n1_:=aM (Kd.R_lower (Kd.R_new' ho0 (Kd.R_lt (qra HO1055.out))) (below_size bw));have n2_:=aM (blk_below (g:=gb1048) (o:=.cells #[.int .i64 a0_0,.slice A0_1 l0_1.length c0_1] 57 (0,0)) bk hb);have n3_:=aM (blk_below (g:=gb1049) (o:=.cells #[.slice A1_0 l1_0.length c1_0,.slice A1_1 l1_1.length c1_1] 71 (0,0)) bk hb);have n4_:=aM (below_step bw hb);clear HO1055;clear BK1048;clear BK1049;clear HB;have HO1055:=n0_;have HO1059:=n1_;have BK1048:=n2_;have BK1049:=n3_;have HB:=n4_;clear n0_ n1_ n2_ n3_ n4_;(try clear hb);(try clear hb2);(try clear hk);(try clear hi);(try clear ho0)))
     (try simp only [Act.put,sA,sZ,sS])
     go_cut [57] (fun v57 wc=>∃ (kq:Nat) (x57_19:Bool),v57 = .bool x57_19 ∧ Aside0 (spec_IsTrade.j1 kq t1052 t1056 x57_19 a0_0 l0_1 = some (r1,r2)) ∧ Aside0 (kq ≤ kj4) ∧ Aside0 (Kd.R (Kd.int .i64) 3 wc w.heap.size (fun k_=>some k_ ≠ (v1058:Value).ownBlock) v1054 t1052) ∧ Aside0 (Kd.R (Kd.int .i64) 3 wc w.heap.size (fun k_=>some k_ ≠ (v1054:Value).ownBlock) v1058 t1056) ∧ Aside0 (wc.heap[gb1048]? = some (.cells #[.int .i64 a0_0,(.slice A0_1 l0_1.length c0_1)] 57 (0,0))) ∧ Aside0 (wc.heap[gb1049]? = some (.cells #[(.slice A1_0 l1_0.length c1_0),(.slice A1_1 l1_1.length c1_1)] 71 (0,0))) ∧ Aside0 (Below w.heap.size w wc))
     case first =>
      have H:=HC20.out;clear HC20;by_cases c28:t1053 = true
      ·subst c28;have H1:(if t1057 = true then ((spec_deSpread.f kj4 t1052).bind fun t1060=>((spec_deSpread.f kj4 t1056).bind fun t1061=>(spec_IsTrade.j1 kj4 t1052 t1056 (t1060 != t1061) a0_0 l0_1))) else (spec_IsTrade.j1 kj4 t1052 t1056 true a0_0 l0_1)) = some (r1,r2):=by rw [if_pos rfl] at H;exact H
       clear H;have H:=H1;clear H1;by_cases c29:t1057 = true
       ·subst c29;have H1:((spec_deSpread.f kj4 t1052).bind fun t1060=>((spec_deSpread.f kj4 t1056).bind fun t1061=>(spec_IsTrade.j1 kj4 t1052 t1056 (t1060 != t1061) a0_0 l0_1))) = some (r1,r2):=by rw [if_pos rfl] at H;exact H
        clear H;have H:=H1;clear H1;replace H:=Option.bind_eq_some_iff.mp H;obtain ⟨t1060,A300,H⟩:=H;replace H:((spec_deSpread.f kj4 t1056).bind fun t1061=>(spec_IsTrade.j1 kj4 t1052 t1056 (t1060 != t1061) a0_0 l0_1)) = some (r1,r2):=H;have A30:=aM A300;clear A300;replace H:=Option.bind_eq_some_iff.mp H;obtain ⟨t1061,A310,H⟩:=H;replace H:(spec_IsTrade.j1 kj4 t1052 t1056 (t1060 != t1061) a0_0 l0_1) = some (r1,r2):=H;have A31:=aM A310;clear A310;have H':=aM H;clear H;obtain ⟨Ao32,co32,eo32⟩:=Kd.R_slice HO1055.out;subst eo32;go_wp2_with (first|(go_at_call 117;(with_reducible refine (spec_deSpread.calls kj4 _ _ t1052 t1060 _ ?side1 ?side2 A30.out).mono ?_);(case side1=>repeat (first|exact (Kd.R_reads' HO1055.out).2.2|(with_reducible refine Kd.C_alloc ?_ _)|(with_reducible refine Kd.C_drewN ?_ _)|(with_reducible refine Kd.C_drew ?_)));(case side2=>exact (Kd.R_reads' HO1055.out).2.1);rintro e w' ⟨rfl,⟨nd,rfl⟩⟩;obtain ⟨Ao33,co33,eo33⟩:=Kd.R_slice HO1059.out;subst eo33)|(go_at_call 117;(with_reducible refine (spec_deSpread.calls kj4 _ _ t1056 t1061 _ ?side1 ?side2 A31.out).mono ?_);(case side1=>repeat (first|exact (Kd.R_reads' HO1059.out).2.2|(with_reducible refine Kd.C_alloc ?_ _)|(with_reducible refine Kd.C_drewN ?_ _)|(with_reducible refine Kd.C_drew ?_)));(case side2=>exact (Kd.R_reads' HO1059.out).2.1);rintro e w' ⟨rfl,⟨nd,rfl⟩⟩))
        go_meet
        case rel=>exact ⟨_,((t1060 != t1061)),qrs,H',⟨by have:=HJ4.out;first|omega|exact Nat.le_refl _⟩,⟨by (with_reducible repeat (first|apply Kd.R_alloc|apply Kd.R_drewN|apply Kd.R_drew));exact Kd.R_mono HO1055.out (fun _ hk=>hk.2)⟩,⟨by (with_reducible repeat (first|apply Kd.R_alloc|apply Kd.R_drewN|apply Kd.R_drew));exact Kd.R_mono HO1059.out (fun _ hk=>hk.2)⟩,⟨by (with_reducible repeat (first|refine blk_drewN ?_ _|refine blk_drew ?_|refine blk_alloc ?_ _));exact BK1048.out⟩,⟨by (with_reducible repeat (first|refine blk_drewN ?_ _|refine blk_drew ?_|refine blk_alloc ?_ _));exact BK1049.out⟩,⟨by exact bw⟩⟩
       ·replace c29:=Bool.eq_false_iff.mpr c29;subst c29;have H1:(spec_IsTrade.j1 kj4 t1052 t1056 true a0_0 l0_1) = some (r1,r2):=by rw [if_neg (show ¬ (false = true) by decide)] at H;exact H
        clear H;have H:=H1;clear H1;have H':=aM H;clear H;go_wp2
        go_meet
        case rel=>exact ⟨_,(true),qrs,H',⟨by have:=HJ4.out;first|omega|exact Nat.le_refl _⟩,⟨by (with_reducible repeat (first|apply Kd.R_alloc|apply Kd.R_drewN|apply Kd.R_drew));exact Kd.R_mono HO1055.out (fun _ hk=>hk.2)⟩,⟨by (with_reducible repeat (first|apply Kd.R_alloc|apply Kd.R_drewN|apply Kd.R_drew));exact Kd.R_mono HO1059.out (fun _ hk=>hk.2)⟩,⟨by (with_reducible repeat (first|refine blk_drewN ?_ _|refine blk_drew ?_|refine blk_alloc ?_ _));exact BK1048.out⟩,⟨by (with_reducible repeat (first|refine blk_drewN ?_ _|refine blk_drew ?_|refine blk_alloc ?_ _));exact BK1049.out⟩,⟨by exact bw⟩⟩
      ·replace c28:=Bool.eq_false_iff.mpr c28;subst c28;have H1:(spec_IsTrade.j1 kj4 t1052 t1056 true a0_0 l0_1) = some (r1,r2):=by rw [if_neg (show ¬ (false = true) by decide)] at H;exact H
       clear H;have H:=H1;clear H1;have H':=aM H;clear H;go_wp2
       go_meet
       case rel=>exact ⟨_,(true),qrs,H',⟨by have:=HJ4.out;first|omega|exact Nat.le_refl _⟩,⟨by (with_reducible repeat (first|apply Kd.R_alloc|apply Kd.R_drewN|apply Kd.R_drew));exact Kd.R_mono HO1055.out (fun _ hk=>hk.2)⟩,⟨by (with_reducible repeat (first|apply Kd.R_alloc|apply Kd.R_drewN|apply Kd.R_drew));exact Kd.R_mono HO1059.out (fun _ hk=>hk.2)⟩,⟨by (with_reducible repeat (first|refine blk_drewN ?_ _|refine blk_drew ?_|refine blk_alloc ?_ _));exact BK1048.out⟩,⟨by (with_reducible repeat (first|refine blk_drewN ?_ _|refine blk_drew ?_|refine blk_alloc ?_ _));exact BK1049.out⟩,⟨by exact bw⟩⟩
     case rest =>
      clear HC20;(try clear c1);(try clear c2);(try clear p2);(try clear c4);(try clear c5);(try clear c8);(try clear c10);(try clear c11);(try clear c12);(try clear c13);(try clear c15);(try clear c17);(try clear c21);(try clear c28);(try clear c29);(try clear hcz14_0);(try clear hcz14_1);(try clear hcz16_0);(try clear hcz16_1);(try clear hcz22_0);(try clear hcz22_1);(try clear hcz23_0);(try clear hcz23_1);(try clear hcz25_0);(try clear hcz25_1);(try clear hcz26_0);(try clear hcz26_1);(try clear hcz9_0);(try clear hcz9_1);(try clear hfz14_0);(try clear hfz14_1);(try clear hfz16_0);(try clear hfz16_1);(try clear hfz22_0);(try clear hfz22_1);(try clear hfz23_0);(try clear hfz23_1);(try clear hfz25_0);(try clear hfz25_1);(try clear hfz26_0);(try clear hfz26_1);(try clear hfz9_0);(try clear hfz9_1);(try clear p2)
      obtain ⟨kq,x57_19,rfl,HA,HJ19,HO_6,HO_8,BK1048,BK1049,HB⟩:=hcut
      cases kq with
      | zero=>exact absurd HA.out (by simp [spec_IsTrade.j1])
      | succ kj19 =>
       have H:=HA.out;clear HA;simp only [spec_IsTrade.j1] at H;by_cases c34:x57_19 = true
       ·subst c34;have H1:(some (false,true)) = some (r1,r2):=by rw [if_pos rfl] at H;exact H
        clear H;have H:=H1;clear H1;simp only [Option.some.injEq,Prod.mk.injEq] at H;obtain ⟨rfl,rfl⟩:=H;go_wp2
        go_ret2
        exact ⟨by first|rfl|(simp [errW_none,errW_some] <;> rfl)|(simp [*,errW_none,errW_some] <;> rfl),by exact bw⟩
       ·replace c34:=Bool.eq_false_iff.mpr c34;subst c34;have H1:((spec_gmAll.f kj19 a0_0 l0_1).bind fun t1062=>(spec_IsTrade.l0 kj19 t1052 t1056 t1062 (t1052.length:Int) 0)) = some (r1,r2):=by rw [if_neg (show ¬ (false = true) by decide)] at H;exact H
        clear H;have H:=H1;clear H1;replace H:=Option.bind_eq_some_iff.mp H;obtain ⟨t1062,A350,H⟩:=H;replace H:(spec_IsTrade.l0 kj19 t1052 t1056 t1062 (t1052.length:Int) 0) = some (r1,r2):=H;have A35:=aM A350;clear A350;have H':=aM H;clear H;have hnb36:=NB1048_1049.out;have hnc36:=NB1049_1048.out;have hcz37_0:wc.cell? ⟨gb1048,0,none⟩ = some (.int .i64 a0_0):=(blk_cell BK1048.out 0).trans rfl;have hcz37_1:wc.cell? ⟨gb1048,1,none⟩ = some (.slice A0_1 l0_1.length c0_1):=(blk_cell BK1048.out 1).trans rfl;have hfz37_0:=blk_frozen BK1048.out 0;have hfz37_1:=blk_frozen BK1048.out 1;go_wp2_with (first|((with_reducible refine gate_callee (f:=101) rfl ?_);refine goesL_ (some 59) rfl rfl Try.func101 kR rfl #[.agg #[.int .i64 a0_0,.slice A0_1 l0_1.length c0_1]] rfl mq ?_;(with_reducible refine (spec_gmAll.calls kj19 a0_0 _ _ l0_1 t1062 _ ?side1 ?side2 A35.out).mono ?_);(case side1=>exact qcs HR0_1.out HB.out);(case side2=>exact HC0_1.out);rintro e w38 ⟨v1063,rfl,ho0,hb⟩;refine ⟨_,rfl,?_⟩;have n0_:=aM (Kd.R_below (qra HO_6.out) hb);have n1_:=aM (Kd.R_below (qra HO_8.out) hb);have n2_:=aM (Kd.R_lower ho0 (below_size bw));have n3_:=aM (blk_below (g:=gb1048) (o:=.cells #[.int .i64 a0_0,.slice A0_1 l0_1.length c0_1] 57 (0,0)) bk hb);have n4_:=aM (blk_below (g:=gb1049) (o:=.cells #[.slice A1_0 l1_0.length c1_0,.slice A1_1 l1_1.length c1_1] 71 (0,0)) bk hb);have n5_:=aM (below_step bw hb);clear HO_6;clear HO_8;clear BK1048;clear BK1049;clear HB;have HO_6:=n0_;have HO_8:=n1_;have HO1064:=n2_;have BK1048:=n3_;have BK1049:=n4_;have HB:=n5_;clear n0_ n1_ n2_ n3_ n4_ n5_;(try clear hb);(try clear hb2);(try clear hk);(try clear hi);(try clear ho0);obtain ⟨Ao39,co39,eo39⟩:=Kd.R_slice HO_6.out;subst eo39))
        go_loopg [62] kj19 (fun kq v62 w'=>∃ (x62_3:Int),v62 = .int .i64 x62_3 ∧ Aside0 (spec_IsTrade.l0 kq t1052 t1056 t1062 (t1052.length:Int) x62_3 = some (r1,r2)) ∧ Aside0 (kq ≤ kj19) ∧ Aside0 (Kd.R (Kd.int .i64) 3 w' w.heap.size (fun k_=>some k_ ≠ (v1058:Value).ownBlock) (.slice Ao39 t1052.length co39) t1052) ∧ Aside0 (Kd.R (Kd.int .i64) 3 w' w.heap.size (fun k_=>some k_ ≠ ((.slice Ao39 t1052.length co39):Value).ownBlock) v1058 t1056) ∧ Aside0 (Kd.R Kd.bool 4 w' w.heap.size (fun _=>True) v1063 t1062) ∧ Aside0 (w'.heap[gb1048]? = some (.cells #[.int .i64 a0_0,(.slice A0_1 l0_1.length c0_1)] 57 (0,0))) ∧ Aside0 (w'.heap[gb1049]? = some (.cells #[(.slice A1_0 l1_0.length c1_0),(.slice A1_1 l1_1.length c1_1)] 71 (0,0))) ∧ Aside0 (Below w.heap.size w w'))
        case atStart=>exact ⟨(0),qrs,H',⟨Nat.le_refl _⟩,⟨qra HO_6.out⟩,⟨qra HO_8.out⟩,⟨qra HO1064.out⟩,⟨by (with_reducible repeat (first|refine blk_drewN ?_ _|refine blk_drew ?_|refine blk_alloc ?_ _));exact BK1048.out⟩,⟨by (with_reducible repeat (first|refine blk_drewN ?_ _|refine blk_drew ?_|refine blk_alloc ?_ _));exact BK1049.out⟩,⟨by exact bw⟩⟩
        case round =>
         clear H';(try clear c1);(try clear c2);(try clear p2);(try clear c3);(try clear c4);(try clear c5);(try clear c8);(try clear c10);(try clear c11);(try clear c12);(try clear c13);(try clear c15);(try clear c17);(try clear c21);(try clear c28);(try clear c29);(try clear c34);(try clear c36);(try clear hcz14_0);(try clear hcz14_1);(try clear hcz16_0);(try clear hcz16_1);(try clear hcz22_0);(try clear hcz22_1);(try clear hcz23_0);(try clear hcz23_1);(try clear hcz25_0);(try clear hcz25_1);(try clear hcz26_0);(try clear hcz26_1);(try clear hcz37_0);(try clear hcz37_1);(try clear hcz9_0);(try clear hcz9_1);(try clear hfz14_0);(try clear hfz14_1);(try clear hfz16_0);(try clear hfz16_1);(try clear hfz22_0);(try clear hfz22_1);(try clear hfz23_0);(try clear hfz23_1);(try clear hfz25_0);(try clear hfz25_1);(try clear hfz26_0);(try clear hfz26_1);(try clear hfz37_0);(try clear hfz37_1);(try clear hfz9_0);(try clear hfz9_1);(try clear p2)
         obtain ⟨x62_3,rfl,HA,HK3,HO_6,HO_8,HO_10,BK1048,BK1049,HB⟩:=hrel
         cases gk with
         | zero=>exact absurd HA.out (by simp [spec_IsTrade.l0])
         | succ k3 =>
          have H:=HA.out;clear HA;simp only [spec_IsTrade.l0] at H;by_cases c40:x62_3 < (t1052.length:Int)
          ·rw [if_pos c40] at H;have c40b0:decide (x62_3 < (t1052.length:Int)) = true:=decide_eq_true c40;clear c40;by_cases c41:0 ≤ x62_3
           ·rw [if_pos c41] at H;have c41b0:decide (0 ≤ x62_3) = true:=decide_eq_true c41;clear c41;by_cases c42:x62_3 < (t1052.length:Int)
            ·rw [if_pos c42] at H;have c42b0:decide (x62_3 < (t1052.length:Int)) = true:=decide_eq_true c42;clear c42;by_cases c43:0 ≤ (rd t1052 x62_3)
             ·rw [if_pos c43] at H;have c43b0:decide (0 ≤ (rd t1052 x62_3)) = true:=decide_eq_true c43;clear c43;by_cases c44:(rd t1052 x62_3) < (t1062.length:Int)
              ·rw [if_pos c44] at H;have c44b0:decide ((rd t1052 x62_3) < (t1062.length:Int)) = true:=decide_eq_true c44;clear c44;obtain ⟨bq45,hbq45⟩:∃ b_:Bool,b_ = (rdOf false t1062 (rd t1052 x62_3)):=⟨_,rfl⟩;replace H:(if (bq45 = true) then (if x62_3 < (t1056.length:Int) then (if 0 ≤ (rd t1056 x62_3) then (if (rd t1056 x62_3) < (t1062.length:Int) then (if rdOf false t1062 (rd t1056 x62_3) = true then (some (false,true)) else (spec_IsTrade.l0 k3 t1052 t1056 t1062 (t1052.length:Int) (wrap64 (x62_3 + 1)))) else (none)) else (none)) else (none)) else (some (false,true))) = some (r1,r2):=by rw [← hbq45] at H;exact H
               have Nbq45:=aM hbq45;clear hbq45;by_cases c46:(bq45 = true)
               ·subst c46;have H1:(if x62_3 < (t1056.length:Int) then (if 0 ≤ (rd t1056 x62_3) then (if (rd t1056 x62_3) < (t1062.length:Int) then (if rdOf false t1062 (rd t1056 x62_3) = true then (some (false,true)) else (spec_IsTrade.l0 k3 t1052 t1056 t1062 (t1052.length:Int) (wrap64 (x62_3 + 1)))) else (none)) else (none)) else (none)) = some (r1,r2):=by rw [if_pos rfl] at H;exact H
                clear H;have H:=H1;clear H1;by_cases c47:x62_3 < (t1056.length:Int)
                ·rw [if_pos c47] at H;have c47b0:decide (x62_3 < (t1056.length:Int)) = true:=decide_eq_true c47;clear c47;by_cases c48:0 ≤ (rd t1056 x62_3)
                 ·rw [if_pos c48] at H;have c48b0:decide (0 ≤ (rd t1056 x62_3)) = true:=decide_eq_true c48;clear c48;by_cases c49:(rd t1056 x62_3) < (t1062.length:Int)
                  ·rw [if_pos c49] at H;have c49b0:decide ((rd t1056 x62_3) < (t1062.length:Int)) = true:=decide_eq_true c49;clear c49;obtain ⟨bq50,hbq50⟩:∃ b_:Bool,b_ = (rdOf false t1062 (rd t1056 x62_3)):=⟨_,rfl⟩;replace H:(if bq50 = true then (some (false,true)) else (spec_IsTrade.l0 k3 t1052 t1056 t1062 (t1052.length:Int) (wrap64 (x62_3 + 1)))) = some (r1,r2):=by rw [← hbq50] at H;exact H
                   have Nbq50:=aM hbq50;clear hbq50;by_cases c51:bq50 = true
                   ·subst c51;have H1:(some (false,true)) = some (r1,r2):=by rw [if_pos rfl] at H;exact H
                    clear H;have H:=H1;clear H1;simp only [Option.some.injEq,Prod.mk.injEq] at H;obtain ⟨rfl,rfl⟩:=H;have p1065:0 ≤ (x62_3:Int):=of_decide_eq_true ab;have q1065:x62_3 < (t1052.length:Int):=of_decide_eq_true ab;obtain ⟨ad1065,e1065,hx1065_0⟩:=Kd.at_int (Kd.R_reads' HO_6.out).2.2 x62_3 p1065 q1065;cases e1065
                    replace p1065:=eq_true p1065;replace q1065:=eq_true q1065;obtain ⟨Ao52,co52,eo52⟩:=Kd.R_slice HO_10.out;subst eo52;have p1066:0 ≤ ((rd t1052 x62_3):Int):=of_decide_eq_true ab;have q1066:(rd t1052 x62_3) < (t1062.length:Int):=of_decide_eq_true ab;obtain ⟨ad1066,e1066,hx1066_0⟩:=Kd.at_bool (Kd.R_reads' HO_10.out).2.2 (rd t1052 x62_3) p1066 q1066;(try rw [← Nbq45.out] at hx1066_0)
                    (try rw [← Nbq50.out] at hx1066_0)
                    cases e1066
                    replace p1066:=eq_true p1066;replace q1066:=eq_true q1066;obtain ⟨Ao53,co53,eo53⟩:=Kd.R_slice HO_8.out;subst eo53;have p1067:0 ≤ (x62_3:Int):=of_decide_eq_true ab;have q1067:x62_3 < (t1056.length:Int):=of_decide_eq_true ab;obtain ⟨ad1067,e1067,hx1067_0⟩:=Kd.at_int (Kd.R_reads' HO_8.out).2.2 x62_3 p1067 q1067;cases e1067
                    replace p1067:=eq_true p1067;replace q1067:=eq_true q1067;have p1068:0 ≤ ((rd t1056 x62_3):Int):=of_decide_eq_true ab;have q1068:(rd t1056 x62_3) < (t1062.length:Int):=of_decide_eq_true ab;obtain ⟨ad1068,e1068,hx1068_0⟩:=Kd.at_bool (Kd.R_reads' HO_10.out).2.2 (rd t1056 x62_3) p1068 q1068;(try rw [← Nbq45.out] at hx1068_0)
                    (try rw [← Nbq50.out] at hx1068_0)
                    obtain rfl:ad1066 = ad1068:=(by injection e1068);replace p1068:=eq_true p1068;replace q1068:=eq_true q1068;go_wp2
                    go_ret2
                    exact ⟨by first|rfl|(simp [errW_none,errW_some] <;> rfl)|(simp [*,errW_none,errW_some] <;> rfl),by exact bw⟩
                   ·replace c51:=Bool.eq_false_iff.mpr c51;subst c51;have H1:(spec_IsTrade.l0 k3 t1052 t1056 t1062 (t1052.length:Int) (wrap64 (x62_3 + 1))) = some (r1,r2):=by rw [if_neg (show ¬ (false = true) by decide)] at H;exact H
                    clear H;have H:=H1;clear H1;have H':=aM H;clear H;have p1065:0 ≤ (x62_3:Int):=of_decide_eq_true ab;have q1065:x62_3 < (t1052.length:Int):=of_decide_eq_true ab;obtain ⟨ad1065,e1065,hx1065_0⟩:=Kd.at_int (Kd.R_reads' HO_6.out).2.2 x62_3 p1065 q1065;cases e1065
                    replace p1065:=eq_true p1065;replace q1065:=eq_true q1065;obtain ⟨Ao54,co54,eo54⟩:=Kd.R_slice HO_10.out;subst eo54;have p1066:0 ≤ ((rd t1052 x62_3):Int):=of_decide_eq_true ab;have q1066:(rd t1052 x62_3) < (t1062.length:Int):=of_decide_eq_true ab;obtain ⟨ad1066,e1066,hx1066_0⟩:=Kd.at_bool (Kd.R_reads' HO_10.out).2.2 (rd t1052 x62_3) p1066 q1066;(try rw [← Nbq45.out] at hx1066_0)
                    (try rw [← Nbq50.out] at hx1066_0)
                    cases e1066
                    replace p1066:=eq_true p1066;replace q1066:=eq_true q1066;obtain ⟨Ao55,co55,eo55⟩:=Kd.R_slice HO_8.out;subst eo55;have p1067:0 ≤ (x62_3:Int):=of_decide_eq_true ab;have q1067:x62_3 < (t1056.length:Int):=of_decide_eq_true ab;obtain ⟨ad1067,e1067,hx1067_0⟩:=Kd.at_int (Kd.R_reads' HO_8.out).2.2 x62_3 p1067 q1067;cases e1067
                    replace p1067:=eq_true p1067;replace q1067:=eq_true q1067;have p1068:0 ≤ ((rd t1056 x62_3):Int):=of_decide_eq_true ab;have q1068:(rd t1056 x62_3) < (t1062.length:Int):=of_decide_eq_true ab;obtain ⟨ad1068,e1068,hx1068_0⟩:=Kd.at_bool (Kd.R_reads' HO_10.out).2.2 (rd t1056 x62_3) p1068 q1068;(try rw [← Nbq45.out] at hx1068_0)
                    (try rw [← Nbq50.out] at hx1068_0)
                    obtain rfl:ad1066 = ad1068:=(by injection e1068);replace p1068:=eq_true p1068;replace q1068:=eq_true q1068;go_wp2
                    go_roundg k3
                    case measure=>have:=HJ4.out;have:=HJ19.out;have:=HK3.out;omega
                    case rel=>exact ⟨(wrap64 (x62_3 + 1)),qrs,H',⟨by have:=HJ4.out;have:=HJ19.out;have:=HK3.out;omega⟩,⟨qra HO_6.out⟩,⟨qra HO_8.out⟩,⟨qra HO_10.out⟩,⟨by (with_reducible repeat (first|refine blk_drewN ?_ _|refine blk_drew ?_|refine blk_alloc ?_ _));exact BK1048.out⟩,⟨by (with_reducible repeat (first|refine blk_drewN ?_ _|refine blk_drew ?_|refine blk_alloc ?_ _));exact BK1049.out⟩,⟨by exact bw⟩⟩
                  ·rw [if_neg c49] at H;exact absurd H (by simp)
                 ·rw [if_neg c48] at H;exact absurd H (by simp)
                ·rw [if_neg c47] at H;exact absurd H (by simp)
               ·replace c46:=Bool.eq_false_iff.mpr c46;subst c46;have H1:(some (false,true)) = some (r1,r2):=by rw [if_neg (show ¬ (false = true) by decide)] at H;exact H
                clear H;have H:=H1;clear H1;simp only [Option.some.injEq,Prod.mk.injEq] at H;obtain ⟨rfl,rfl⟩:=H;have p1065:0 ≤ (x62_3:Int):=of_decide_eq_true ab;have q1065:x62_3 < (t1052.length:Int):=of_decide_eq_true ab;obtain ⟨ad1065,e1065,hx1065_0⟩:=Kd.at_int (Kd.R_reads' HO_6.out).2.2 x62_3 p1065 q1065;cases e1065
                replace p1065:=eq_true p1065;replace q1065:=eq_true q1065;obtain ⟨Ao56,co56,eo56⟩:=Kd.R_slice HO_10.out;subst eo56;have p1066:0 ≤ ((rd t1052 x62_3):Int):=of_decide_eq_true ab;have q1066:(rd t1052 x62_3) < (t1062.length:Int):=of_decide_eq_true ab;obtain ⟨ad1066,e1066,hx1066_0⟩:=Kd.at_bool (Kd.R_reads' HO_10.out).2.2 (rd t1052 x62_3) p1066 q1066;(try rw [← Nbq45.out] at hx1066_0)
                cases e1066
                replace p1066:=eq_true p1066;replace q1066:=eq_true q1066;go_wp2
                go_ret2
                exact ⟨by first|rfl|(simp [errW_none,errW_some] <;> rfl)|(simp [*,errW_none,errW_some] <;> rfl),by exact bw⟩
              ·rw [if_neg c44] at H;exact absurd H (by simp)
             ·rw [if_neg c43] at H;exact absurd H (by simp)
            ·rw [if_neg c42] at H;exact absurd H (by simp)
           ·rw [if_neg c41] at H;exact absurd H (by simp)
          ·rw [if_neg c40] at H;have c40b0:decide (x62_3 < (t1052.length:Int)) = false:=decide_eq_false c40;clear c40;simp only [Option.some.injEq,Prod.mk.injEq] at H;obtain ⟨rfl,rfl⟩:=H;go_wp2
           go_ret2
           exact ⟨by first|rfl|(simp [errW_none,errW_some] <;> rfl)|(simp [*,errW_none,errW_some] <;> rfl),by exact bw⟩
 ·replace c4:=Bool.eq_false_iff.mpr c4;subst c4;have H1:(some (false,false)) = some (r1,r2):=by rw [if_neg (show ¬ (false = true) by decide)] at H;exact H
  clear H;have H:=H1;clear H1;simp only [Option.some.injEq,Prod.mk.injEq] at H;obtain ⟨rfl,rfl⟩:=H;go_enter Try.func50,Try.ntmps50;go_wp2_with (first|((with_reducible refine gate_dst (N:=2) rfl ?_);(try (refine gate_guard (by rfl) ?_;dsimp only));refine box_event ?hg (N:=2) ?hd (cs:=#[.int .i64 a0_0,.slice A0_1 l0_1.length c0_1]) (t:=57) ?hr ?_;(case hd=>rfl);(case hg=>rfl);(case hr=>first|(go_simp;done)|(go_simp;rfl));intro gb1048 hg w57 hbox hb;have n0_:=aM (below_step bw hb);have n1_:=aM (hbox);have n2_:=aM ((by rw [hg];exact (below_size bw):w.heap.size ≤ gb1048));have n3_:=aM ((by rw [hg];exact (below_size bw):w.heap.size ≤ gb1048));clear HB;have HB:=n0_;have BK1048:=n1_;have GW1048:=n2_;have GE1048:=n3_;clear n0_ n1_ n2_ n3_;clear hb hbox hg)|((with_reducible refine gate_dst (N:=3) rfl ?_);(try (refine gate_guard (by rfl) ?_;dsimp only));refine box_event ?hg (N:=3) ?hd (cs:=#[.slice A1_0 l1_0.length c1_0,.slice A1_1 l1_1.length c1_1]) (t:=71) ?hr ?_;(case hd=>rfl);(case hg=>rfl);(case hr=>first|(go_simp;done)|(go_simp;rfl));intro gb1049 hg w58 hbox hb;have n0_:=aM (blk_below (g:=gb1048) (o:=.cells #[.int .i64 a0_0,.slice A0_1 l0_1.length c0_1] 57 (0,0)) bk hb);have n1_:=aM (below_step bw hb);have n2_:=aM (hbox);have n3_:=aM ((by rw [hg];exact (below_size bw):w.heap.size ≤ gb1049));have n4_:=aM ((by rw [hg];exact (below_size bw):w.heap.size ≤ gb1049));have n5_:=aM ((by rw [hg];exact Nat.ne_of_lt (blk_lt (g:=gb1048) (o:=.cells #[.int .i64 a0_0,.slice A0_1 l0_1.length c0_1] 57 (0,0)) bk):gb1048 ≠ gb1049));have n6_:=aM ((by rw [hg];exact Nat.ne_of_gt (blk_lt (g:=gb1048) (o:=.cells #[.int .i64 a0_0,.slice A0_1 l0_1.length c0_1] 57 (0,0)) bk):gb1049 ≠ gb1048));clear BK1048;clear HB;have BK1048:=n0_;have HB:=n1_;have BK1049:=n2_;have GW1049:=n3_;have GE1049:=n4_;have NB1048_1049:=n5_;have NB1049_1048:=n6_;clear n0_ n1_ n2_ n3_ n4_ n5_ n6_;clear hb hbox hg;have hnb59:=NB1048_1049.out;have hnc59:=NB1049_1048.out;have hcz60_0:w58.cell? ⟨gb1048,0,none⟩ = some (.int .i64 a0_0):=(blk_cell BK1048.out 0).trans rfl;have hcz60_1:w58.cell? ⟨gb1048,1,none⟩ = some (.slice A0_1 l0_1.length c0_1):=(blk_cell BK1048.out 1).trans rfl;have hfz60_0:=blk_frozen BK1048.out 0;have hfz60_1:=blk_frozen BK1048.out 1)|((with_reducible refine gate_callee (f:=100) rfl ?_);refine goesL_ (some 13) rfl rfl Try.func100 kR rfl #[.agg #[.int .i64 a0_0,.slice A0_1 l0_1.length c0_1]] rfl mq ?_;(with_reducible refine (spec_gmGood.calls k a0_0 _ _ l0_1 false _ ?side1 ?side2 A3.out).mono ?_);(case side1=>exact qcs HR0_1.out HB.out);(case side2=>exact HC0_1.out);rintro e w61 ⟨rfl,hb⟩;refine ⟨_,rfl,?_⟩;have n0_:=aM (blk_below (g:=gb1048) (o:=.cells #[.int .i64 a0_0,.slice A0_1 l0_1.length c0_1] 57 (0,0)) bk hb);have n1_:=aM (blk_below (g:=gb1049) (o:=.cells #[.slice A1_0 l1_0.length c1_0,.slice A1_1 l1_1.length c1_1] 71 (0,0)) bk hb);have n2_:=aM (below_step bw hb);clear BK1048;clear BK1049;clear HB;have BK1048:=n0_;have BK1049:=n1_;have HB:=n2_;clear n0_ n1_ n2_;(try clear hb);(try clear hb2);(try clear hk);(try clear hi)))
  go_ret2
  exact ⟨by first|rfl|(simp [errW_none,errW_some] <;> rfl)|(simp [*,errW_none,errW_some] <;> rfl),by exact bw⟩


/-! ### laws_toTrade: function 51 -/
def laws_toTrade.f (k:Nat) (l0_0:List (List Int)) (l0_1:List (List Int)):Option ((List (List Int)) × (List (List Int))):=(laws_toIntSS.f k l0_0).bind fun t1072=>((laws_toIntSS.f k l0_1).bind fun t1075=>(some (t1072,t1075)))
theorem laws_toTrade.mono:∀ a0 a1 k,LeO (laws_toTrade.f k a0 a1) (laws_toTrade.f (k + 1) a0 a1):=by
 intro a0 a1 k;unfold laws_toTrade.f
 repeat' with_reducible first|exact laws_toIntSS.mono _ _|exact LeO.refl _|exact LeO.none _|refine LeO.ite ?_ ?_|refine LeO.bind ?_ (fun _=>?_)
set_option maxHeartbeats 8000000 in
set_option maxRecDepth 100000 in
theorem laws_toTrade.calls (k:Nat) (A0_0:Option Addr) (c0_0:Nat) (l0_0:List (List Int)) (A0_1:Option Addr) (c0_1:Nat) (l0_1:List (List Int)) (r1:List (List Int)) (r2:List (List Int)) (w:World) (hr0_0:Kd.C (Kd.slice 3 (Kd.int .i64)) w A0_0 l0_0.length l0_0) (hc0_0:l0_0.length ≤ c0_0) (hr0_1:Kd.C (Kd.slice 3 (Kd.int .i64)) w A0_1 l0_1.length l0_1) (hc0_1:l0_1.length ≤ c0_1) (h:laws_toTrade.f k l0_0 l0_1 = some (r1,r2)) :
  Calls Try.prog 51 #[.agg #[.slice A0_0 l0_0.length c0_0,.slice A0_1 l0_1.length c0_1]] w fun e w'=>∃ v0_ v1_:Value,e = .returned (.agg #[v0_,v1_]) ∧ Kd.S (Kd.slice 3 (Kd.int .i64)) 22 w' w.heap.size (fun k_=>some k_ ≠ (v1_:Value).ownBlock) v0_ r1 ∧ Kd.S (Kd.slice 3 (Kd.int .i64)) 22 w' w.heap.size (fun k_=>some k_ ≠ (v0_:Value).ownBlock) v1_ r2 ∧ Below w.heap.size w w':=by
 have hu67:=Try.underlying67;have hu71:=Try.underlying71;have HR0_0:=aM hr0_0;have HC0_0:=aM hc0_0;clear hr0_0 hc0_0;have HR0_1:=aM hr0_1;have HC0_1:=aM hc0_1;clear hr0_1 hc0_1;have HB:=aM (Below.refl w.heap.size w);have H:((laws_toIntSS.f k l0_0).bind fun t1072=>((laws_toIntSS.f k l0_1).bind fun t1075=>(some (t1072,t1075)))) = some (r1,r2):=h;clear h;replace H:=Option.bind_eq_some_iff.mp H;obtain ⟨t1072,A20,H⟩:=H;replace H:((laws_toIntSS.f k l0_1).bind fun t1075=>(some (t1072,t1075))) = some (r1,r2):=H;have A2:=aM A20;clear A20;replace H:=Option.bind_eq_some_iff.mp H;obtain ⟨t1075,A30,H⟩:=H;replace H:(some (t1072,t1075)) = some (r1,r2):=H;have A3:=aM A30;clear A30;simp only [Option.some.injEq,Prod.mk.injEq] at H;obtain ⟨rfl,rfl⟩:=H;go_enter Try.func51,Try.ntmps51;go_wp2_with (first|((with_reducible refine gate_dst (N:=1) rfl ?_);refine box_event ?hg (N:=1) ?hd (cs:=#[.slice A0_0 l0_0.length c0_0,.slice A0_1 l0_1.length c0_1]) (t:=67) ?hr ?_;(case hd=>rfl);(case hg=>rfl);(case hr=>first|(go_simp;done)|(go_simp;rfl));intro gb1069 hg w4 hbox hb;have n0_:=aM (below_step bw hb);have n1_:=aM (hbox);have n2_:=aM ((by rw [hg];exact (below_size bw):w.heap.size ≤ gb1069));have n3_:=aM ((by rw [hg];exact (below_size bw):w.heap.size ≤ gb1069));clear HB;have HB:=n0_;have BK1069:=n1_;have GW1069:=n2_;have GE1069:=n3_;clear n0_ n1_ n2_ n3_;clear hb hbox hg)|((with_reducible refine gate_dst (N:=2) rfl ?_);refine box_event ?hg (N:=2) ?hd (cs:=#[.slice none 0 0,.slice none 0 0]) (t:=71) ?hr ?_;(case hd=>rfl);(case hg=>rfl);(case hr=>first|(go_simp;done)|(go_simp;rfl));intro gb1070 hg w5 hbox hb;have n0_:=aM (blk_below (g:=gb1069) (o:=.cells #[.slice A0_0 l0_0.length c0_0,.slice A0_1 l0_1.length c0_1] 67 (0,0)) bk hb);have n1_:=aM (below_step bw hb);have n2_:=aM (hbox);have n3_:=aM ((by rw [hg];exact (below_size bw):w.heap.size ≤ gb1070));have n4_:=aM ((by rw [hg];exact (below_size bw):w.heap.size ≤ gb1070));have n5_:=aM ((by rw [hg];exact Nat.ne_of_lt (blk_lt (g:=gb1069) (o:=.cells #[.slice A0_0 l0_0.length c0_0,.slice A0_1 l0_1.length c0_1] 67 (0,0)) bk):gb1069 ≠ gb1070));have n6_:=aM ((by rw [hg];exact Nat.ne_of_gt (blk_lt (g:=gb1069) (o:=.cells #[.slice A0_0 l0_0.length c0_0,.slice A0_1 l0_1.length c0_1] 67 (0,0)) bk):gb1070 ≠ gb1069));clear BK1069;clear HB;have BK1069:=n0_;have HB:=n1_;have BK1070:=n2_;have GW1070:=n3_;have GE1070:=n4_;have NB1069_1070:=n5_;have NB1070_1069:=n6_;clear n0_ n1_ n2_ n3_ n4_ n5_ n6_;clear hb hbox hg)|((with_reducible refine gate_dst (N:=3) rfl ?_);refine box_event ?hg (N:=3) ?hd (cs:=#[.slice none 0 0,.slice none 0 0]) (t:=71) ?hr ?_;(case hd=>rfl);(case hg=>rfl);(case hr=>first|(go_simp;done)|(go_simp;rfl));intro gb1071 hg w6 hbox hb;have n0_:=aM (blk_below (g:=gb1069) (o:=.cells #[.slice A0_0 l0_0.length c0_0,.slice A0_1 l0_1.length c0_1] 67 (0,0)) bk hb);have n1_:=aM (blk_below (g:=gb1070) (o:=.cells #[.slice none 0 0,.slice none 0 0] 71 (0,0)) bk hb);have n2_:=aM (below_step bw hb);have n3_:=aM (hbox);have n4_:=aM ((by rw [hg];exact (below_size bw):w.heap.size ≤ gb1071));have n5_:=aM ((by rw [hg];exact (below_size bw):w.heap.size ≤ gb1071));have n6_:=aM ((by rw [hg];exact Nat.ne_of_lt (blk_lt (g:=gb1069) (o:=.cells #[.slice A0_0 l0_0.length c0_0,.slice A0_1 l0_1.length c0_1] 67 (0,0)) bk):gb1069 ≠ gb1071));have n7_:=aM ((by rw [hg];exact Nat.ne_of_gt (blk_lt (g:=gb1069) (o:=.cells #[.slice A0_0 l0_0.length c0_0,.slice A0_1 l0_1.length c0_1] 67 (0,0)) bk):gb1071 ≠ gb1069));have n8_:=aM ((by rw [hg];exact Nat.ne_of_lt (blk_lt (g:=gb1070) (o:=.cells #[.slice none 0 0,.slice none 0 0] 71 (0,0)) bk):gb1070 ≠ gb1071));have n9_:=aM ((by rw [hg];exact Nat.ne_of_gt (blk_lt (g:=gb1070) (o:=.cells #[.slice none 0 0,.slice none 0 0] 71 (0,0)) bk):gb1071 ≠ gb1070));clear BK1069;clear BK1070;clear HB;have BK1069:=n0_;have BK1070:=n1_;have HB:=n2_;have BK1071:=n3_;have GW1071:=n4_;have GE1071:=n5_;have NB1069_1071:=n6_;have NB1071_1069:=n7_;have NB1070_1071:=n8_;have NB1071_1070:=n9_;clear n0_ n1_ n2_ n3_ n4_ n5_ n6_ n7_ n8_ n9_;clear hb hbox hg;have hnb7:=NB1069_1070.out;have hnc7:=NB1070_1069.out;have hnb8:=NB1069_1071.out;have hnc8:=NB1071_1069.out;have hcz9_0:w6.cell? ⟨gb1069,0,none⟩ = some (.slice A0_0 l0_0.length c0_0):=(blk_cell BK1069.out 0).trans rfl;have hcz9_1:w6.cell? ⟨gb1069,1,none⟩ = some (.slice A0_1 l0_1.length c0_1):=(blk_cell BK1069.out 1).trans rfl;have hfz9_0:=blk_frozen BK1069.out 0;have hfz9_1:=blk_frozen BK1069.out 1)|((with_reducible refine gate_callee (f:=103) rfl ?_);refine goesL_ (some 6) rfl rfl Try.func103 kR rfl #[.slice A0_0 l0_0.length c0_0] rfl mq ?_;(with_reducible refine (laws_toIntSS.calls k _ _ l0_0 t1072 _ ?side1 ?side2 A2.out).mono ?_);(case side1=>exact qcs HR0_0.out HB.out);(case side2=>exact HC0_0.out);rintro e w10 ⟨v1073,rfl,ho0,hb⟩;refine ⟨_,rfl,?_⟩;have n0_:=aM (Kd.S_lower ho0 (below_size bw));have n1_:=aM (blk_below (g:=gb1069) (o:=.cells #[.slice A0_0 l0_0.length c0_0,.slice A0_1 l0_1.length c0_1] 67 (0,0)) bk hb);have n2_:=aM (blk_below (g:=gb1070) (o:=.cells #[.slice none 0 0,.slice none 0 0] 71 (0,0)) bk hb);have n3_:=aM (blk_below (g:=gb1071) (o:=.cells #[.slice none 0 0,.slice none 0 0] 71 (0,0)) bk hb);have n4_:=aM (below_step bw hb);clear BK1069;clear BK1070;clear BK1071;clear HB;have HO1074:=n0_;have BK1069:=n1_;have BK1070:=n2_;have BK1071:=n3_;have HB:=n4_;clear n0_ n1_ n2_ n3_ n4_;(try clear hb);(try clear hb2);(try clear hk);(try clear hi);(try clear ho0);obtain ⟨Ao11,co11,eo11⟩:=Kd.S_slice HO1074.out;subst eo11;have hnb12:=NB1071_1070.out;have hnc12:=NB1070_1071.out;have hcz13_0:w10.cell? ⟨gb1071,0,none⟩ = some (.slice none 0 0):=(blk_cell BK1071.out 0).trans rfl;have hcz13_1:w10.cell? ⟨gb1071,1,none⟩ = some (.slice none 0 0):=(blk_cell BK1071.out 1).trans rfl;have hfz13_0:=blk_frozen BK1071.out 0;have hfz13_1:=blk_frozen BK1071.out 1;have hcz14_0:w10.cell? ⟨gb1069,0,none⟩ = some (.slice A0_0 l0_0.length c0_0):=(blk_cell BK1069.out 0).trans rfl;have hcz14_1:w10.cell? ⟨gb1069,1,none⟩ = some (.slice A0_1 l0_1.length c0_1):=(blk_cell BK1069.out 1).trans rfl;have hfz14_0:=blk_frozen BK1069.out 0;have hfz14_1:=blk_frozen BK1069.out 1)|((with_reducible refine gate_callee (f:=103) rfl ?_);refine goesL_ (some 10) rfl rfl Try.func103 kR rfl #[.slice A0_1 l0_1.length c0_1] rfl mq ?_;(with_reducible refine (laws_toIntSS.calls k _ _ l0_1 t1075 _ ?side1 ?side2 A3.out).mono ?_);(case side1=>exact Kd.C_below HR0_1.out bw);(case side2=>exact HC0_1.out);rintro e w15 ⟨v1076,rfl,ho0,hb⟩;refine ⟨_,rfl,?_⟩;have n0_:=aM (Kd.S_elder' (by (with_reducible repeat (first|apply Kd.S_alloc|apply Kd.S_drewN|apply Kd.S_drew));exact (Kd.S_mono (Kd.S_far (p:=⟨gb1071,0,none⟩) (Kd.S_types HO1074.out BK1071.out (by decide)) (fun _ hk=>hk.2) (.slice Ao11 t1072.length co11)) (fun _ h_=>h_.1))) (Kd.S_base ho0) hb);have n1_:=aM (Kd.S_lower (Kd.S_new' ho0 (Kd.S_lt (by (with_reducible repeat (first|apply Kd.S_alloc|apply Kd.S_drewN|apply Kd.S_drew));exact (Kd.S_mono (Kd.S_far (p:=⟨gb1071,0,none⟩) (Kd.S_types HO1074.out BK1071.out (by decide)) (fun _ hk=>hk.2) (.slice Ao11 t1072.length co11)) (fun _ h_=>h_.1))))) (below_size bw));have n2_:=aM (blk_below (g:=gb1069) (o:=.cells #[.slice A0_0 l0_0.length c0_0,.slice A0_1 l0_1.length c0_1] 67 (0,0)) (by (with_reducible repeat (first|refine blk_drewN ?_ _|refine blk_drew ?_|refine blk_alloc ?_ _));refine blk_far ?_ NB1069_1071.out _;(with_reducible repeat (first|refine blk_drewN ?_ _|refine blk_drew ?_|refine blk_alloc ?_ _));exact BK1069.out) hb);have n3_:=aM (blk_below (g:=gb1070) (o:=.cells #[.slice none 0 0,.slice none 0 0] 71 (0,0)) (by (with_reducible repeat (first|refine blk_drewN ?_ _|refine blk_drew ?_|refine blk_alloc ?_ _));refine blk_far ?_ NB1070_1071.out _;(with_reducible repeat (first|refine blk_drewN ?_ _|refine blk_drew ?_|refine blk_alloc ?_ _));exact BK1070.out) hb);have n4_:=aM (blk_below (g:=gb1071) (o:=.cells #[.slice Ao11 t1072.length co11,.slice none 0 0] 71 (0,0)) (by (with_reducible repeat (first|refine blk_drewN ?_ _|refine blk_drew ?_|refine blk_alloc ?_ _));refine blk_put (cs:=#[.slice none 0 0,.slice none 0 0]) ?_ 0 _ rfl;(with_reducible repeat (first|refine blk_drewN ?_ _|refine blk_drew ?_|refine blk_alloc ?_ _));exact BK1071.out) hb);have n5_:=aM (below_step bw hb);clear HO1074;clear BK1069;clear BK1070;clear BK1071;clear HB;have HO1074:=n0_;have HO1077:=n1_;have BK1069:=n2_;have BK1070:=n3_;have BK1071:=n4_;have HB:=n5_;clear n0_ n1_ n2_ n3_ n4_ n5_;(try clear hb);(try clear hb2);(try clear hk);(try clear hi);(try clear ho0);obtain ⟨Ao16,co16,eo16⟩:=Kd.S_slice HO1077.out;subst eo16;have hcz17_0:w15.cell? ⟨gb1071,0,none⟩ = some (.slice Ao11 t1072.length co11):=(blk_cell BK1071.out 0).trans rfl;have hcz17_1:w15.cell? ⟨gb1071,1,none⟩ = some (.slice none 0 0):=(blk_cell BK1071.out 1).trans rfl;have hfz17_0:=blk_frozen BK1071.out 0;have hfz17_1:=blk_frozen BK1071.out 1;have hcz18_0:w15.cell? ⟨gb1070,0,none⟩ = some (.slice none 0 0):=(blk_cell BK1070.out 0).trans rfl;have hcz18_1:w15.cell? ⟨gb1070,1,none⟩ = some (.slice none 0 0):=(blk_cell BK1070.out 1).trans rfl;have hfz18_0:=blk_frozen BK1070.out 0;have hfz18_1:=blk_frozen BK1070.out 1))
 refine bodyPost_ret (results_cell_row rfl _ _ gb1070 71 #[.slice Ao11 t1072.length co11,.slice Ao16 t1075.length co16] (0,0) _ rfl (by (with_reducible repeat (first|refine blk_drewN ?_ _|refine blk_drew ?_|refine blk_alloc ?_ _));refine blk_put (cs:=#[.slice Ao11 t1072.length co11,.slice none 0 0]) ?_ 1 _ rfl;(with_reducible repeat (first|refine blk_drewN ?_ _|refine blk_drew ?_|refine blk_alloc ?_ _));refine blk_put (cs:=#[.slice none 0 0,.slice none 0 0]) ?_ 0 _ rfl;(with_reducible repeat (first|refine blk_drewN ?_ _|refine blk_drew ?_|refine blk_alloc ?_ _));refine blk_far ?_ NB1070_1071.out _;(with_reducible repeat (first|refine blk_drewN ?_ _|refine blk_drew ?_|refine blk_alloc ?_ _));exact BK1070.out) Try.underlying71 rfl kR) rfl ?_;exact ⟨_,_,by first|rfl|(simp [errW_none,errW_some] <;> rfl)|(simp [*,errW_none,errW_some] <;> rfl),by (with_reducible repeat (first|apply Kd.S_alloc|apply Kd.S_drewN|apply Kd.S_drew));exact Kd.S_mono (Kd.S_far (p:=⟨gb1070,1,none⟩) (Kd.S_far (p:=⟨gb1070,0,none⟩) (Kd.S_far (p:=⟨gb1071,1,none⟩) (Kd.S_types (Kd.S_types HO1074.out BK1071.out (by decide)) BK1070.out (by decide)) (fun _ hk=>hk.1.2) (.slice Ao16 t1075.length co16)) (fun _ hk=>hk.2) (.slice Ao11 t1072.length co11)) (fun _ hk=>hk.2) (.slice Ao16 t1075.length co16)) (fun _ hk=>hk.1.1.2),by (with_reducible repeat (first|apply Kd.S_alloc|apply Kd.S_drewN|apply Kd.S_drew));exact Kd.S_mono (Kd.S_far (p:=⟨gb1070,1,none⟩) (Kd.S_far (p:=⟨gb1070,0,none⟩) (Kd.S_far (p:=⟨gb1071,1,none⟩) (Kd.S_types (Kd.S_types HO1077.out BK1071.out (by decide)) BK1070.out (by decide)) (fun _ hk=>hk.1.2) (.slice Ao16 t1075.length co16)) (fun _ hk=>hk.2) (.slice Ao11 t1072.length co11)) (fun _ hk=>hk.2) (.slice Ao16 t1075.length co16)) (fun _ hk=>hk.1.1.2),by exact bw⟩


/-! ### impl_within: function 69 -/
def impl_within.f (a0:Int) (a1:Int) (a2:Int):Option (Bool):=if a0 ≥ a1 then (some (decide (a0 ≤ a2))) else (some false)
set_option maxHeartbeats 8000000 in
set_option maxRecDepth 100000 in
theorem impl_within.calls (a0:Int) (a1:Int) (a2:Int) (r:Bool) (w:World) (h:impl_within.f a0 a1 a2 = some r) :
  Calls Try.prog 69 #[.int .i64 a0,.int .i64 a1,.int .i64 a2] w fun e w'=>e = .returned (.bool r) ∧ Drawn0 w w':=by
 have H:(if a0 ≥ a1 then (some (decide (a0 ≤ a2))) else (some false)) = some r:=h;clear h;by_cases c4:a0 ≥ a1
 ·rw [if_pos c4] at H;have c4b0:decide (a1 ≤ a0) = true:=decide_eq_true c4;clear c4;obtain rfl:=Option.some.inj H;go_enter Try.func69,Try.ntmps69;go_wp2
  go_ret
  exact ⟨by first|rfl|(simp;done)|(simp [*];done),by repeat (first|exact Drawn0.refl _|apply Drawn0.step)⟩
 ·rw [if_neg c4] at H;have c4b0:decide (a1 ≤ a0) = false:=decide_eq_false c4;clear c4;obtain rfl:=Option.some.inj H;go_enter Try.func69,Try.ntmps69;go_wp2
  go_ret
  exact ⟨by first|rfl|(simp;done)|(simp [*];done),by repeat (first|exact Drawn0.refl _|apply Drawn0.step)⟩

end Go.Proofs.Ythkbaolpiigioaa.P
