/- Part 1 of the texts below the law FnExactCountWeighted. Printed by this session's driver over the kit's printer, but for the hand contracts and the plain laws. -/
import Derived.Below
import Derived.Tactics
import Derived.WalkKit
import Derived.KernelRfl
import Derived.Deep.LoopGhost
import Derived.Shelf.Abstract
import Derived.Lib.SliceRun
import Derived.Test.YtokelcedamegbaaProg
import Derived.Deep.Draws
import Derived.Deep.AppendLies
import Derived.Maps.AppendAt
import Derived.OwnWalk
import Derived.Laws.BytesArg
import Derived.Laws.MakeOwn
import Derived.Laws.OwnMore
import Derived.Deep.OwnRows
import Derived.Lib.ConvBytes
import Derived.Laws.Slices
import Derived.RowKit3
import Derived.Deep.QuietTactic
import Derived.BigQuiet
import Derived.WideLaws
import Derived.Deep.DeepCutAuto
import Derived.Deep.CutBlock
import Derived.Deep.RegionHeld3
import Derived.Laws.Rows
import Derived.Lib.AppendStr
import Derived.ArgAppend
import Derived.Laws.IdiomCopy
import Derived.OrdersHeld
import Derived.Laws.BitsLemmas
import Derived.RowKit
import Derived.Test.YtokelcedamegbaaCCountWeighted0
set_option linter.unusedVariables false
set_option linter.unusedSimpArgs false
/- Words of this session's own for hand contracts: what is asked of a function value, and small laws. No program in sight. -/
namespace Go.Proofs.Ytokelcedamegbaa.P
open Go.RowKit Go.Proofs.YtokelcedamegbaaW.PrintWords Go.Proofs.YtokelcedamegbaaW.PrintLast Go.Proofs.YtokelcedamegbaaW.PrintMore

theorem all_any {α : Type} (p : α → Bool) (l : List α) : l.all p = !(l.any fun x => !p x) := by
  induction l with
  | nil => rfl
  | cons x l ih => rw [List.all_cons, List.any_cons, ih]; cases p x <;> simp

theorem box_new (w : World) (v : Value) (t : TypeId) : (w.alloc (.cells #[v] t (0, 0))).heap[w.heap.size]? = some (.cells #[v] t (0, 0)) := blk_new w _
theorem box_old {w : World} {g : Nat} {o : Obj} (h : w.heap[g]? = some o) (o' : Obj) : (w.alloc o').heap[g]? = some o := by
  exact (Below.heap_alloc w o' g (blk_lt h)).trans h
theorem box_later {w W : World} {g : Nat} {o : Obj} (h : w.heap[g]? = some o) (hb : Below w.heap.size w W) : W.heap[g]? = some o := (hb.block g (blk_lt h)).trans h
theorem box_cell {w : World} {g : Nat} {t : TypeId} {v : Value} (h : w.heap[g]? = some (.cells #[v] t (0, 0))) : w.cell? ⟨g, 0, none⟩ = some v := (blk_cell h 0).trans rfl

section
variable {P : Program} {ops : Array Oper} {Q : Exit → Act → World → Prop}
theorem gate_fn {o : Oper} {rest : List Oper} {a : Act} {W : World} {t : Tmp} {ao : Array Operand} {ts : Array TypeId} (_ho : o.op = .call { callee := .value (.tmp t), args := ao, argTypes := ts }) (h : wpList P ops Q (o :: rest) a W) : wpList P ops Q (o :: rest) a W := h
theorem run_fn {oi : Oper} {a : Act} {w : World} {g : FuncId} {lb : Array Value} {t : Tmp} {ao : Array Operand} {ts : Array TypeId} (eg : ∀ (args : Array Value) (w : World), (callFunc g args).run P w = .ok (.enter g args) w) (args : Array Value)
    (hop : oi.op = .call { callee := .value (.tmp t), args := ao, argTypes := ts }) (hfn : a.eval (.tmp t) = .func (.func g) #[] lb) (hargs : ao.map a.eval = args) : (execOp a.eval oi).run P w = .ok (.enter g (args ++ lb)) w := by
  unfold execOp
  simp [hop, resolve, Deferred.ofValue, invoke, hfn, hargs, eg]
theorem goesFL_ {rest : List Oper} {oi : Oper} {a : Act} {w : World} (N : Option Tmp) (hd : oi.dst = N) (hg : oi.guard = none) {g : FuncId} {lb : Array Value} {t : Tmp} {ao : Array Operand} {ts : Array TypeId} (eg : ∀ (args : Array Value) (w : World), (callFunc g args).run P w = .ok (.enter g args) w) (args : Array Value)
    (hop : oi.op = .call { callee := .value (.tmp t), args := ao, argTypes := ts }) (hfn : a.eval (.tmp t) = .func (.func g) #[] lb) (hargs : ao.map a.eval = args)
    (h : Calls P g (args ++ lb) w fun e w' => ∃ v, e = .returned v ∧ wpList P ops Q rest (a.put N v) w') : wpList P ops Q (oi :: rest) a w := by
  refine wpList_plain hg fun K hK => ?_
  have hrun := run_fn (w := w) eg args hop hfn hargs
  unfold Oper.wp
  rw [hrun, Oper.upon_enter]
  refine h.mono fun e w'' hh => ?_
  obtain ⟨v, rfl, hk⟩ := hh
  subst hd
  exact hK _ _ hk
theorem goesFr_ {oi : Oper} {N : Option Tmp} {a : Act} {w : World} {K : Act → World → Prop} {g : FuncId} {lb : Array Value} {t : Tmp} {ao : Array Operand} {ts : Array TypeId} (eg : ∀ (args : Array Value) (w : World), (callFunc g args).run P w = .ok (.enter g args) w) (args : Array Value)
    (hw : Region.wanted oi (yielded ops a.tmps) = true) (hN : oi.dst = N) (hop : oi.op = .call { callee := .value (.tmp t), args := ao, argTypes := ts }) (hfn : a.eval (.tmp t) = .func (.func g) #[] lb) (hargs : ao.map a.eval = args)
    (h : Calls P g (args ++ lb) w fun e w' => ∃ v, e = .returned v ∧ K (a.put N v) w') : if Region.wanted oi (yielded ops a.tmps) = true then Oper.wp P oi a w K Q else K (a.put N undef) w :=
  call_ g (args ++ lb) hw hN (run_fn eg args hop hfn hargs) h
end
theorem S_split {α : Type} {d : Kd α} {e : Nat} {W w1 : World} {v : Value} {xs : List α} (h : Kd.S d e w1 W.heap.size (fun _ => True) v xs) : ∃ n, n = W.heap.size ∧ Kd.S d e w1 W.heap.size (fun k_ => n ≤ k_) v xs := ⟨_, rfl, Kd.S_mono (Kd.S_bound h) (fun _ hk => hk.2.1)⟩
theorem S_elderN {α : Type} {d : Kd α} {e base n : Nat} {ok : Nat → Prop} {W w1 : World} {u : Value} {xs : List α} (h : Kd.S d e W base ok u xs) (hb : Below W.heap.size W w1) (hn : n = W.heap.size) : Kd.S d e w1 base (fun k_ => ok k_ ∧ k_ < n) u xs := by subst hn; exact Kd.S_old h hb
theorem drop_cons {α : Type} (l : List α) (d : α) (i : Nat) (h : i < l.length) : l.drop i = l.getD i d :: l.drop (i + 1) := by
  rw [List.drop_eq_getElem_cons h, List.getD_eq_getElem?_getD, List.getElem?_eq_getElem h]; rfl

/-- Short names of the printed walks' own searches: each is proved by its own default. -/
theorem bw {p : Prop} (h : p := by repeat (first | (with_reducible first | exact Aside0.out (by assumption) | apply below_alloc | apply pw_below_drewN | apply below_drew1 | refine below_set ?_ (Aside0.out (by assumption))) | exact Aside0.out (by assumption))) : p := h
theorem bk {p : Prop} (h : p := by (with_reducible repeat (first | refine blk_drewN ?_ _ | refine blk_drew ?_ | refine blk_alloc ?_ _)); exact Aside0.out (by assumption)) : p := h
theorem mq {p : Prop} (h : p := by (try simp only [List.map_toArray, List.map_cons, List.map_nil]); first | done | rfl | (simp only [List.length_drop, List.length_take]; rfl)) : p := h
theorem ab {p : Prop} (h : p := by first | (with_reducible assumption) | assumption) : p := h
theorem sA {α : Type _} (l : List α) (i : Nat) (a : α) : l.toArray.setIfInBounds i a = (l.set i a).toArray := List.setIfInBounds_toArray ..
theorem sZ {α : Type _} {x : α} {xs : List α} {a : α} : (x :: xs).set 0 a = a :: xs := rfl
theorem sS {α : Type _} {x : α} {xs : List α} {i : Nat} {a : α} : (x :: xs).set (i + 1) a = x :: xs.set i a := rfl
theorem qra {p q : Prop} (h : p) (hh : p → q := by intro h; (with_reducible repeat (first | apply Kd.R_alloc | apply Kd.R_drewN | apply Kd.R_drew)); exact h) : q := hh h
theorem qsa {p q : Prop} (h : p) (hh : p → q := by intro h; (with_reducible repeat (first | apply Kd.S_alloc | apply Kd.S_drewN | apply Kd.S_drew)); exact h) : q := hh h
theorem qcs {p r q : Prop} (h : p) (b : r) (hh : p → r → q := by intro h b; repeat (first | exact (Kd.C_below h b) | (with_reducible refine Kd.C_alloc ?_ _) | (with_reducible refine Kd.C_drewN ?_ _) | (with_reducible refine Kd.C_drew ?_))) : q := hh h b
theorem qrs {p : Prop} (h : p := by first | rfl | (simp; done) | (simp [*]; done)) : p := h
/-- What has come up in a region, by a number's bits. -/
def mbits : Nat → Nat → List Bool
  | 0, _ => []
  | n + 1, k => (k % 2 == 1) :: mbits n (k / 2)
def mA (n k : Nat) : Array Bool := (mbits n k).toArray
theorem aM {p : Prop} (h : p) : Aside0 p := ⟨h⟩
theorem kR {p : Prop} (h : p := by kernel_rfl) : p := h
end Go.Proofs.Ytokelcedamegbaa.P

namespace Go.Proofs.Ytokelcedamegbaa.P
open Go.RowKit Go.Proofs.YtokelcedamegbaaW.PrintWords Go.Proofs.YtokelcedamegbaaW.PrintLast Go.Proofs.YtokelcedamegbaaW.PrintMore
attribute [local go_sem] max2_int min2_int max_two min_two max_three min_three max_four min_four   -- for this text's walks alone
set_option linter.unusedVariables false
set_option linter.unusedSimpArgs false



def errW : Option Int → Value
  | none => .nilIface
  | some c => .iface 0 (.int .i64 c)
theorem errW_none : errW none = .nilIface := rfl
theorem errW_some (c : Int) : errW (some c) = .iface 0 (.int .i64 c) := rfl

theorem info3 : (Try.prog.info? 3).map (fun i => (i.zero, i.size, i.bytes)) = some (some (.int .i64 0), 1, 8) := by kernel_rfl
theorem info4 : (Try.prog.info? 4).map (fun i => (i.zero, i.size, i.bytes)) = some (some (.bool false), 1, 1) := by kernel_rfl
theorem info28 : (Try.prog.info? 28).map (fun i => (i.zero, i.size, i.bytes)) = some (some (.agg #[(.int .i64 0), (.slice none 0 0)]), 2, 32) := by kernel_rfl
theorem info40 : (Try.prog.info? 40).map (fun i => (i.zero, i.size, i.bytes)) = some (some (.slice none 0 0), 1, 24) := by kernel_rfl
theorem info46 : (Try.prog.info? 46).map (fun i => (i.zero, i.size, i.bytes)) = some (some (.agg #[(.int .i64 0), (.slice none 0 0)]), 2, 32) := by kernel_rfl
theorem info68 : (Try.prog.info? 68).map (fun i => (i.zero, i.size, i.bytes)) = some (some (.agg #[(.int .i64 0), (.slice none 0 0)]), 2, 32) := by kernel_rfl
-- the values' own types
def rd_LI (xs : List (List Int)) (i : Int) : (List Int) := xs.getD i.toNat ([] : List Int)
theorem at_LI {w : World} {A : Option Addr} {n : Nat} {xs : List (List Int)} (h : Kd.C (Kd.slice 3 (Kd.int .i64)) w A n xs) (i : Int) (h0 : 0 ≤ i) (h1 : i < n) : ∃ ad A0 c0, A = some ad ∧ w.cell? (ad.add i.toNat) = some (.slice A0 (rd_LI xs i).length c0) ∧ (rd_LI xs i).length ≤ c0 ∧ (Kd.int .i64).C w A0 (rd_LI xs i).length (rd_LI xs i) := by
  obtain ⟨ad, c, e, _, hK, hc0⟩ := Kd.C_get h ([] : List Int) i h0 h1
  have hc : ∀ j u, c[j]? = some u → w.cell? (ad.add (i.toNat * 1 + j)) = some u := hc0
  obtain ⟨A0, c0, rfl, l0, g0⟩ := hK
  exact ⟨ad, A0, c0, e, by have hq := hc 0 _ rfl; rwa [Nat.mul_one, Nat.add_zero] at hq, l0, g0⟩

def rd_LLI (xs : List (List (List Int))) (i : Int) : (List (List Int)) := xs.getD i.toNat ([] : List (List Int))
theorem at_LLI {w : World} {A : Option Addr} {n : Nat} {xs : List (List (List Int))} (h : Kd.C (Kd.slice 40 (Kd.slice 3 (Kd.int .i64))) w A n xs) (i : Int) (h0 : 0 ≤ i) (h1 : i < n) : ∃ ad A0 c0, A = some ad ∧ w.cell? (ad.add i.toNat) = some (.slice A0 (rd_LLI xs i).length c0) ∧ (rd_LLI xs i).length ≤ c0 ∧ (Kd.slice 3 (Kd.int .i64)).C w A0 (rd_LLI xs i).length (rd_LLI xs i) := by
  obtain ⟨ad, c, e, _, hK, hc0⟩ := Kd.C_get h ([] : List (List Int)) i h0 h1
  have hc : ∀ j u, c[j]? = some u → w.cell? (ad.add (i.toNat * 1 + j)) = some u := hc0
  obtain ⟨A0, c0, rfl, l0, g0⟩ := hK
  exact ⟨ad, A0, c0, e, by have hq := hc 0 _ rfl; rwa [Nat.mul_one, Nat.add_zero] at hq, l0, g0⟩

/-! #### struct type 24 -/
structure S_laws_Game where
  f0 : Int
  f1 : (List (List Int))
def z_laws_Game : S_laws_Game := ⟨(0 : Int), ([] : List (List Int))⟩
def k_laws_Game : Kd S_laws_Game := Kd.iso (Kd.pair (Kd.int .i64) (Kd.slice 40 (Kd.slice 3 (Kd.int .i64)))) (fun x : S_laws_Game => (x.f0, x.f1))
theorem k_laws_Game_open {w : World} {x : S_laws_Game} {cs : List Value} (h : k_laws_Game.K w x cs) : ∃ A1 c1, cs = [.int .i64 x.f0, .slice A1 x.f1.length c1] ∧ x.f1.length ≤ c1 ∧ (Kd.slice 3 (Kd.int .i64)).C w A1 x.f1.length x.f1 := by
  obtain ⟨_, _, rfl, rfl, ⟨A1, c1, rfl, l1, g1⟩⟩ := h
  exact ⟨A1, c1, rfl, l1, g1⟩
theorem k_laws_Game_openM {w : World} {base : Nat} {ok : Nat → Prop} {x : S_laws_Game} {cs : List Value} (h : k_laws_Game.M w base ok x cs) : ∃ v1, cs = [.int .i64 x.f0, v1] ∧ (Kd.slice 3 (Kd.int .i64)).R 40 w base ok v1 x.f1 := by
  obtain ⟨_, _, rfl, rfl, ⟨v1, rfl, g1⟩⟩ := h
  exact ⟨v1, rfl, g1⟩
theorem k_laws_Game_mk (w : World) (x : S_laws_Game) {A1 : Option Addr} {c1 : Nat} (l1 : x.f1.length ≤ c1) (g1 : (Kd.slice 3 (Kd.int .i64)).C w A1 x.f1.length x.f1) : k_laws_Game.K w x [.int .i64 x.f0, .slice A1 x.f1.length c1] := ⟨[.int .i64 x.f0], [.slice A1 x.f1.length c1], rfl, rfl, ⟨A1, c1, rfl, l1, g1⟩⟩
theorem k_laws_Game_mkM (w : World) (base : Nat) (ok : Nat → Prop) (x : S_laws_Game) {v1 : Value} (g1 : (Kd.slice 3 (Kd.int .i64)).R 40 w base ok v1 x.f1) : k_laws_Game.M w base ok x [.int .i64 x.f0, v1] := ⟨[.int .i64 x.f0], [v1], rfl, rfl, ⟨v1, rfl, g1⟩⟩
def rd_laws_Game (xs : List S_laws_Game) (i : Int) : S_laws_Game := xs.getD i.toNat z_laws_Game
theorem at_laws_Game {w : World} {A : Option Addr} {n : Nat} {xs : List S_laws_Game} (h : Kd.C k_laws_Game w A n xs) (i : Int) (h0 : 0 ≤ i) (h1 : i < n) : ∃ ad A1 c1, A = some ad ∧ w.cell? (ad.add (i.toNat * 2)) = some (.int .i64 (rd_laws_Game xs i).f0) ∧ w.cell? ⟨(ad.add (i.toNat * 2)).block, (ad.add (i.toNat * 2)).off + 1, none⟩ = some (.slice A1 (rd_laws_Game xs i).f1.length c1) ∧ (rd_laws_Game xs i).f1.length ≤ c1 ∧ (Kd.slice 3 (Kd.int .i64)).C w A1 (rd_laws_Game xs i).f1.length (rd_laws_Game xs i).f1 := by
  obtain ⟨ad, c, e, _, hK, hc0⟩ := Kd.C_get h z_laws_Game i h0 h1
  have hc : ∀ j u, c[j]? = some u → w.cell? (ad.add (i.toNat * 2 + j)) = some u := hc0
  obtain ⟨A1, c1, rfl, l1, g1⟩ := k_laws_Game_open hK
  exact ⟨ad, A1, c1, e, hc 0 _ rfl, by rw [← add_field _ _ 1 (by omega)]; exact hc 1 _ rfl, l1, g1⟩

def rd_LB (xs : List (List Bool)) (i : Int) : (List Bool) := xs.getD i.toNat ([] : List Bool)
theorem at_LB {w : World} {A : Option Addr} {n : Nat} {xs : List (List Bool)} (h : Kd.C (Kd.slice 4 Kd.bool) w A n xs) (i : Int) (h0 : 0 ≤ i) (h1 : i < n) : ∃ ad A0 c0, A = some ad ∧ w.cell? (ad.add i.toNat) = some (.slice A0 (rd_LB xs i).length c0) ∧ (rd_LB xs i).length ≤ c0 ∧ Kd.bool.C w A0 (rd_LB xs i).length (rd_LB xs i) := by
  obtain ⟨ad, c, e, _, hK, hc0⟩ := Kd.C_get h ([] : List Bool) i h0 h1
  have hc : ∀ j u, c[j]? = some u → w.cell? (ad.add (i.toNat * 1 + j)) = some u := hc0
  obtain ⟨A0, c0, rfl, l0, g0⟩ := hK
  exact ⟨ad, A0, c0, e, by have hq := hc 0 _ rfl; rwa [Nat.mul_one, Nat.add_zero] at hq, l0, g0⟩

/-! #### struct type 28 -/
structure S_impl_Game where
  f0 : Int
  f1 : (List (List Int))
def z_impl_Game : S_impl_Game := ⟨(0 : Int), ([] : List (List Int))⟩
def k_impl_Game : Kd S_impl_Game := Kd.iso (Kd.pair (Kd.int .i64) (Kd.slice 40 (Kd.slice 3 (Kd.int .i64)))) (fun x : S_impl_Game => (x.f0, x.f1))
theorem k_impl_Game_open {w : World} {x : S_impl_Game} {cs : List Value} (h : k_impl_Game.K w x cs) : ∃ A1 c1, cs = [.int .i64 x.f0, .slice A1 x.f1.length c1] ∧ x.f1.length ≤ c1 ∧ (Kd.slice 3 (Kd.int .i64)).C w A1 x.f1.length x.f1 := by
  obtain ⟨_, _, rfl, rfl, ⟨A1, c1, rfl, l1, g1⟩⟩ := h
  exact ⟨A1, c1, rfl, l1, g1⟩
theorem k_impl_Game_openM {w : World} {base : Nat} {ok : Nat → Prop} {x : S_impl_Game} {cs : List Value} (h : k_impl_Game.M w base ok x cs) : ∃ v1, cs = [.int .i64 x.f0, v1] ∧ (Kd.slice 3 (Kd.int .i64)).R 40 w base ok v1 x.f1 := by
  obtain ⟨_, _, rfl, rfl, ⟨v1, rfl, g1⟩⟩ := h
  exact ⟨v1, rfl, g1⟩
theorem k_impl_Game_mk (w : World) (x : S_impl_Game) {A1 : Option Addr} {c1 : Nat} (l1 : x.f1.length ≤ c1) (g1 : (Kd.slice 3 (Kd.int .i64)).C w A1 x.f1.length x.f1) : k_impl_Game.K w x [.int .i64 x.f0, .slice A1 x.f1.length c1] := ⟨[.int .i64 x.f0], [.slice A1 x.f1.length c1], rfl, rfl, ⟨A1, c1, rfl, l1, g1⟩⟩
theorem k_impl_Game_mkM (w : World) (base : Nat) (ok : Nat → Prop) (x : S_impl_Game) {v1 : Value} (g1 : (Kd.slice 3 (Kd.int .i64)).R 40 w base ok v1 x.f1) : k_impl_Game.M w base ok x [.int .i64 x.f0, v1] := ⟨[.int .i64 x.f0], [v1], rfl, rfl, ⟨v1, rfl, g1⟩⟩
def rd_impl_Game (xs : List S_impl_Game) (i : Int) : S_impl_Game := xs.getD i.toNat z_impl_Game
theorem at_impl_Game {w : World} {A : Option Addr} {n : Nat} {xs : List S_impl_Game} (h : Kd.C k_impl_Game w A n xs) (i : Int) (h0 : 0 ≤ i) (h1 : i < n) : ∃ ad A1 c1, A = some ad ∧ w.cell? (ad.add (i.toNat * 2)) = some (.int .i64 (rd_impl_Game xs i).f0) ∧ w.cell? ⟨(ad.add (i.toNat * 2)).block, (ad.add (i.toNat * 2)).off + 1, none⟩ = some (.slice A1 (rd_impl_Game xs i).f1.length c1) ∧ (rd_impl_Game xs i).f1.length ≤ c1 ∧ (Kd.slice 3 (Kd.int .i64)).C w A1 (rd_impl_Game xs i).f1.length (rd_impl_Game xs i).f1 := by
  obtain ⟨ad, c, e, _, hK, hc0⟩ := Kd.C_get h z_impl_Game i h0 h1
  have hc : ∀ j u, c[j]? = some u → w.cell? (ad.add (i.toNat * 2 + j)) = some u := hc0
  obtain ⟨A1, c1, rfl, l1, g1⟩ := k_impl_Game_open hK
  exact ⟨ad, A1, c1, e, hc 0 _ rfl, by rw [← add_field _ _ 1 (by omega)]; exact hc 1 _ rfl, l1, g1⟩

def rd_Limpl_Game (xs : List (List S_impl_Game)) (i : Int) : (List S_impl_Game) := xs.getD i.toNat ([] : List S_impl_Game)
theorem at_Limpl_Game {w : World} {A : Option Addr} {n : Nat} {xs : List (List S_impl_Game)} (h : Kd.C (Kd.slice 28 k_impl_Game) w A n xs) (i : Int) (h0 : 0 ≤ i) (h1 : i < n) : ∃ ad A0 c0, A = some ad ∧ w.cell? (ad.add i.toNat) = some (.slice A0 (rd_Limpl_Game xs i).length c0) ∧ (rd_Limpl_Game xs i).length ≤ c0 ∧ k_impl_Game.C w A0 (rd_Limpl_Game xs i).length (rd_Limpl_Game xs i) := by
  obtain ⟨ad, c, e, _, hK, hc0⟩ := Kd.C_get h ([] : List S_impl_Game) i h0 h1
  have hc : ∀ j u, c[j]? = some u → w.cell? (ad.add (i.toNat * 1 + j)) = some u := hc0
  obtain ⟨A0, c0, rfl, l0, g0⟩ := hK
  exact ⟨ad, A0, c0, e, by have hq := hc 0 _ rfl; rwa [Nat.mul_one, Nat.add_zero] at hq, l0, g0⟩

/-! #### struct type 42 -/
structure S_laws_Committee where
  f0 : Int
  f1 : (List Int)
def z_laws_Committee : S_laws_Committee := ⟨(0 : Int), ([] : List Int)⟩
def k_laws_Committee : Kd S_laws_Committee := Kd.iso (Kd.pair (Kd.int .i64) (Kd.slice 3 (Kd.int .i64))) (fun x : S_laws_Committee => (x.f0, x.f1))
theorem k_laws_Committee_open {w : World} {x : S_laws_Committee} {cs : List Value} (h : k_laws_Committee.K w x cs) : ∃ A1 c1, cs = [.int .i64 x.f0, .slice A1 x.f1.length c1] ∧ x.f1.length ≤ c1 ∧ (Kd.int .i64).C w A1 x.f1.length x.f1 := by
  obtain ⟨_, _, rfl, rfl, ⟨A1, c1, rfl, l1, g1⟩⟩ := h
  exact ⟨A1, c1, rfl, l1, g1⟩
theorem k_laws_Committee_openM {w : World} {base : Nat} {ok : Nat → Prop} {x : S_laws_Committee} {cs : List Value} (h : k_laws_Committee.M w base ok x cs) : ∃ v1, cs = [.int .i64 x.f0, v1] ∧ (Kd.int .i64).R 3 w base ok v1 x.f1 := by
  obtain ⟨_, _, rfl, rfl, ⟨v1, rfl, g1⟩⟩ := h
  exact ⟨v1, rfl, g1⟩
theorem k_laws_Committee_mk (w : World) (x : S_laws_Committee) {A1 : Option Addr} {c1 : Nat} (l1 : x.f1.length ≤ c1) (g1 : (Kd.int .i64).C w A1 x.f1.length x.f1) : k_laws_Committee.K w x [.int .i64 x.f0, .slice A1 x.f1.length c1] := ⟨[.int .i64 x.f0], [.slice A1 x.f1.length c1], rfl, rfl, ⟨A1, c1, rfl, l1, g1⟩⟩
theorem k_laws_Committee_mkM (w : World) (base : Nat) (ok : Nat → Prop) (x : S_laws_Committee) {v1 : Value} (g1 : (Kd.int .i64).R 3 w base ok v1 x.f1) : k_laws_Committee.M w base ok x [.int .i64 x.f0, v1] := ⟨[.int .i64 x.f0], [v1], rfl, rfl, ⟨v1, rfl, g1⟩⟩
def rd_laws_Committee (xs : List S_laws_Committee) (i : Int) : S_laws_Committee := xs.getD i.toNat z_laws_Committee
theorem at_laws_Committee {w : World} {A : Option Addr} {n : Nat} {xs : List S_laws_Committee} (h : Kd.C k_laws_Committee w A n xs) (i : Int) (h0 : 0 ≤ i) (h1 : i < n) : ∃ ad A1 c1, A = some ad ∧ w.cell? (ad.add (i.toNat * 2)) = some (.int .i64 (rd_laws_Committee xs i).f0) ∧ w.cell? ⟨(ad.add (i.toNat * 2)).block, (ad.add (i.toNat * 2)).off + 1, none⟩ = some (.slice A1 (rd_laws_Committee xs i).f1.length c1) ∧ (rd_laws_Committee xs i).f1.length ≤ c1 ∧ (Kd.int .i64).C w A1 (rd_laws_Committee xs i).f1.length (rd_laws_Committee xs i).f1 := by
  obtain ⟨ad, c, e, _, hK, hc0⟩ := Kd.C_get h z_laws_Committee i h0 h1
  have hc : ∀ j u, c[j]? = some u → w.cell? (ad.add (i.toNat * 2 + j)) = some u := hc0
  obtain ⟨A1, c1, rfl, l1, g1⟩ := k_laws_Committee_open hK
  exact ⟨ad, A1, c1, e, hc 0 _ rfl, by rw [← add_field _ _ 1 (by omega)]; exact hc 1 _ rfl, l1, g1⟩

/-! #### struct type 46 -/
structure S_impl_Committee where
  f0 : Int
  f1 : (List Int)
def z_impl_Committee : S_impl_Committee := ⟨(0 : Int), ([] : List Int)⟩
def k_impl_Committee : Kd S_impl_Committee := Kd.iso (Kd.pair (Kd.int .i64) (Kd.slice 3 (Kd.int .i64))) (fun x : S_impl_Committee => (x.f0, x.f1))
theorem k_impl_Committee_open {w : World} {x : S_impl_Committee} {cs : List Value} (h : k_impl_Committee.K w x cs) : ∃ A1 c1, cs = [.int .i64 x.f0, .slice A1 x.f1.length c1] ∧ x.f1.length ≤ c1 ∧ (Kd.int .i64).C w A1 x.f1.length x.f1 := by
  obtain ⟨_, _, rfl, rfl, ⟨A1, c1, rfl, l1, g1⟩⟩ := h
  exact ⟨A1, c1, rfl, l1, g1⟩
theorem k_impl_Committee_openM {w : World} {base : Nat} {ok : Nat → Prop} {x : S_impl_Committee} {cs : List Value} (h : k_impl_Committee.M w base ok x cs) : ∃ v1, cs = [.int .i64 x.f0, v1] ∧ (Kd.int .i64).R 3 w base ok v1 x.f1 := by
  obtain ⟨_, _, rfl, rfl, ⟨v1, rfl, g1⟩⟩ := h
  exact ⟨v1, rfl, g1⟩
theorem k_impl_Committee_mk (w : World) (x : S_impl_Committee) {A1 : Option Addr} {c1 : Nat} (l1 : x.f1.length ≤ c1) (g1 : (Kd.int .i64).C w A1 x.f1.length x.f1) : k_impl_Committee.K w x [.int .i64 x.f0, .slice A1 x.f1.length c1] := ⟨[.int .i64 x.f0], [.slice A1 x.f1.length c1], rfl, rfl, ⟨A1, c1, rfl, l1, g1⟩⟩
theorem k_impl_Committee_mkM (w : World) (base : Nat) (ok : Nat → Prop) (x : S_impl_Committee) {v1 : Value} (g1 : (Kd.int .i64).R 3 w base ok v1 x.f1) : k_impl_Committee.M w base ok x [.int .i64 x.f0, v1] := ⟨[.int .i64 x.f0], [v1], rfl, rfl, ⟨v1, rfl, g1⟩⟩
def rd_impl_Committee (xs : List S_impl_Committee) (i : Int) : S_impl_Committee := xs.getD i.toNat z_impl_Committee
theorem at_impl_Committee {w : World} {A : Option Addr} {n : Nat} {xs : List S_impl_Committee} (h : Kd.C k_impl_Committee w A n xs) (i : Int) (h0 : 0 ≤ i) (h1 : i < n) : ∃ ad A1 c1, A = some ad ∧ w.cell? (ad.add (i.toNat * 2)) = some (.int .i64 (rd_impl_Committee xs i).f0) ∧ w.cell? ⟨(ad.add (i.toNat * 2)).block, (ad.add (i.toNat * 2)).off + 1, none⟩ = some (.slice A1 (rd_impl_Committee xs i).f1.length c1) ∧ (rd_impl_Committee xs i).f1.length ≤ c1 ∧ (Kd.int .i64).C w A1 (rd_impl_Committee xs i).f1.length (rd_impl_Committee xs i).f1 := by
  obtain ⟨ad, c, e, _, hK, hc0⟩ := Kd.C_get h z_impl_Committee i h0 h1
  have hc : ∀ j u, c[j]? = some u → w.cell? (ad.add (i.toNat * 2 + j)) = some u := hc0
  obtain ⟨A1, c1, rfl, l1, g1⟩ := k_impl_Committee_open hK
  exact ⟨ad, A1, c1, e, hc 0 _ rfl, by rw [← add_field _ _ 1 (by omega)]; exact hc 1 _ rfl, l1, g1⟩

/-! #### struct type 68 -/
structure S_impl_votes where
  f0 : Int
  f1 : (List Bool)
def z_impl_votes : S_impl_votes := ⟨(0 : Int), ([] : List Bool)⟩
def k_impl_votes : Kd S_impl_votes := Kd.iso (Kd.pair (Kd.int .i64) (Kd.slice 4 Kd.bool)) (fun x : S_impl_votes => (x.f0, x.f1))
theorem k_impl_votes_open {w : World} {x : S_impl_votes} {cs : List Value} (h : k_impl_votes.K w x cs) : ∃ A1 c1, cs = [.int .i64 x.f0, .slice A1 x.f1.length c1] ∧ x.f1.length ≤ c1 ∧ Kd.bool.C w A1 x.f1.length x.f1 := by
  obtain ⟨_, _, rfl, rfl, ⟨A1, c1, rfl, l1, g1⟩⟩ := h
  exact ⟨A1, c1, rfl, l1, g1⟩
theorem k_impl_votes_openM {w : World} {base : Nat} {ok : Nat → Prop} {x : S_impl_votes} {cs : List Value} (h : k_impl_votes.M w base ok x cs) : ∃ v1, cs = [.int .i64 x.f0, v1] ∧ Kd.bool.R 4 w base ok v1 x.f1 := by
  obtain ⟨_, _, rfl, rfl, ⟨v1, rfl, g1⟩⟩ := h
  exact ⟨v1, rfl, g1⟩
theorem k_impl_votes_mk (w : World) (x : S_impl_votes) {A1 : Option Addr} {c1 : Nat} (l1 : x.f1.length ≤ c1) (g1 : Kd.bool.C w A1 x.f1.length x.f1) : k_impl_votes.K w x [.int .i64 x.f0, .slice A1 x.f1.length c1] := ⟨[.int .i64 x.f0], [.slice A1 x.f1.length c1], rfl, rfl, ⟨A1, c1, rfl, l1, g1⟩⟩
theorem k_impl_votes_mkM (w : World) (base : Nat) (ok : Nat → Prop) (x : S_impl_votes) {v1 : Value} (g1 : Kd.bool.R 4 w base ok v1 x.f1) : k_impl_votes.M w base ok x [.int .i64 x.f0, v1] := ⟨[.int .i64 x.f0], [v1], rfl, rfl, ⟨v1, rfl, g1⟩⟩
def rd_impl_votes (xs : List S_impl_votes) (i : Int) : S_impl_votes := xs.getD i.toNat z_impl_votes
theorem at_impl_votes {w : World} {A : Option Addr} {n : Nat} {xs : List S_impl_votes} (h : Kd.C k_impl_votes w A n xs) (i : Int) (h0 : 0 ≤ i) (h1 : i < n) : ∃ ad A1 c1, A = some ad ∧ w.cell? (ad.add (i.toNat * 2)) = some (.int .i64 (rd_impl_votes xs i).f0) ∧ w.cell? ⟨(ad.add (i.toNat * 2)).block, (ad.add (i.toNat * 2)).off + 1, none⟩ = some (.slice A1 (rd_impl_votes xs i).f1.length c1) ∧ (rd_impl_votes xs i).f1.length ≤ c1 ∧ Kd.bool.C w A1 (rd_impl_votes xs i).f1.length (rd_impl_votes xs i).f1 := by
  obtain ⟨ad, c, e, _, hK, hc0⟩ := Kd.C_get h z_impl_votes i h0 h1
  have hc : ∀ j u, c[j]? = some u → w.cell? (ad.add (i.toNat * 2 + j)) = some u := hc0
  obtain ⟨A1, c1, rfl, l1, g1⟩ := k_impl_votes_open hK
  exact ⟨ad, A1, c1, e, hc 0 _ rfl, by rw [← add_field _ _ 1 (by omega)]; exact hc 1 _ rfl, l1, g1⟩

def rd_Limpl_Committee (xs : List (List S_impl_Committee)) (i : Int) : (List S_impl_Committee) := xs.getD i.toNat ([] : List S_impl_Committee)
theorem at_Limpl_Committee {w : World} {A : Option Addr} {n : Nat} {xs : List (List S_impl_Committee)} (h : Kd.C (Kd.slice 46 k_impl_Committee) w A n xs) (i : Int) (h0 : 0 ≤ i) (h1 : i < n) : ∃ ad A0 c0, A = some ad ∧ w.cell? (ad.add i.toNat) = some (.slice A0 (rd_Limpl_Committee xs i).length c0) ∧ (rd_Limpl_Committee xs i).length ≤ c0 ∧ k_impl_Committee.C w A0 (rd_Limpl_Committee xs i).length (rd_Limpl_Committee xs i) := by
  obtain ⟨ad, c, e, _, hK, hc0⟩ := Kd.C_get h ([] : List S_impl_Committee) i h0 h1
  have hc : ∀ j u, c[j]? = some u → w.cell? (ad.add (i.toNat * 1 + j)) = some u := hc0
  obtain ⟨A0, c0, rfl, l0, g0⟩ := hK
  exact ⟨ad, A0, c0, e, by have hq := hc 0 _ rfl; rwa [Nat.mul_one, Nat.add_zero] at hq, l0, g0⟩

def rd_Llaws_Committee (xs : List (List S_laws_Committee)) (i : Int) : (List S_laws_Committee) := xs.getD i.toNat ([] : List S_laws_Committee)
theorem at_Llaws_Committee {w : World} {A : Option Addr} {n : Nat} {xs : List (List S_laws_Committee)} (h : Kd.C (Kd.slice 42 k_laws_Committee) w A n xs) (i : Int) (h0 : 0 ≤ i) (h1 : i < n) : ∃ ad A0 c0, A = some ad ∧ w.cell? (ad.add i.toNat) = some (.slice A0 (rd_Llaws_Committee xs i).length c0) ∧ (rd_Llaws_Committee xs i).length ≤ c0 ∧ k_laws_Committee.C w A0 (rd_Llaws_Committee xs i).length (rd_Llaws_Committee xs i) := by
  obtain ⟨ad, c, e, _, hK, hc0⟩ := Kd.C_get h ([] : List S_laws_Committee) i h0 h1
  have hc : ∀ j u, c[j]? = some u → w.cell? (ad.add (i.toNat * 1 + j)) = some u := hc0
  obtain ⟨A0, c0, rfl, l0, g0⟩ := hK
  exact ⟨ad, A0, c0, e, by have hq := hc 0 _ rfl; rwa [Nat.mul_one, Nat.add_zero] at hq, l0, g0⟩


/-! ### spec_l1In: function 54 -/
def spec_l1In.f (a0:Int) (a1:Int) (a2:Int):Option (Bool):=if a0 ≥ a1 then (some (decide (a0 ≤ a2))) else (some false)
set_option maxHeartbeats 8000000 in
set_option maxRecDepth 100000 in
theorem spec_l1In.calls (a0:Int) (a1:Int) (a2:Int) (r:Bool) (w:World) (h:spec_l1In.f a0 a1 a2 = some r) :
  Calls Try.prog 54 #[.int .i64 a0,.int .i64 a1,.int .i64 a2] w fun e w'=>e = .returned (.bool r) ∧ Drawn0 w w':=by
 have H:(if a0 ≥ a1 then (some (decide (a0 ≤ a2))) else (some false)) = some r:=h;clear h;by_cases c4:a0 ≥ a1
 ·rw [if_pos c4] at H;have c4b0:decide (a1 ≤ a0) = true:=decide_eq_true c4;clear c4;obtain rfl:=Option.some.inj H;go_enter Try.func54,Try.ntmps54;go_wp2
  go_ret
  exact ⟨by first|rfl|(simp;done)|(simp [*];done),by repeat (first|exact Drawn0.refl _|apply Drawn0.step)⟩
 ·rw [if_neg c4] at H;have c4b0:decide (a1 ≤ a0) = false:=decide_eq_false c4;clear c4;obtain rfl:=Option.some.inj H;go_enter Try.func54,Try.ntmps54;go_wp2
  go_ret
  exact ⟨by first|rfl|(simp;done)|(simp [*];done),by repeat (first|exact Drawn0.refl _|apply Drawn0.step)⟩


/-! ### spec_deWorth: function 90 -/
def spec_deWorth.l0:Nat → List Bool → Int → Int → Int → Int → Option (Bool)
 | 0,_,_,_,_,_=>none
 | k + 1,x0,x1,x2,x9,x10=>if x10 < x9 then (if 0 ≤ x1 then (if (Int.tmod (shr .i64 x10 x1) 2) = 0 then (if 0 ≤ x2 then (if (Int.tmod (shr .i64 x10 x2) 2) = 0 then (if 0 ≤ (wrap64 (x10 + (shl .i64 1 x2))) then (if (wrap64 (x10 + (shl .i64 1 x2))) < (x0.length:Int) then (if rdOf false x0 (wrap64 (x10 + (shl .i64 1 x2))) = true then (if 0 ≤ (wrap64 (x10 + (shl .i64 1 x1))) then (if (wrap64 (x10 + (shl .i64 1 x1))) < (x0.length:Int) then (if (rdOf false x0 (wrap64 (x10 + (shl .i64 1 x1))) = true) then (spec_deWorth.l0 k x0 x1 x2 x9 (wrap64 (x10 + 1))) else (some false)) else (none)) else (none)) else (spec_deWorth.l0 k x0 x1 x2 x9 (wrap64 (x10 + 1)))) else (none)) else (none)) else (spec_deWorth.l0 k x0 x1 x2 x9 (wrap64 (x10 + 1)))) else (none)) else (spec_deWorth.l0 k x0 x1 x2 x9 (wrap64 (x10 + 1)))) else (none)) else (some true)
def spec_deWorth.f (k:Nat) (l0:List Bool) (a1:Int) (a2:Int):Option (Bool):=spec_deWorth.l0 k l0 a1 a2 (l0.length:Int) 0
theorem spec_deWorth.mono_l:∀ k,(∀ y0 y1 y2 y3 y4,LeO (spec_deWorth.l0 k y0 y1 y2 y3 y4) (spec_deWorth.l0 (k + 1) y0 y1 y2 y3 y4))
 | 0=>fun _ _ _ _ _ r h=>by simp [spec_deWorth.l0] at h
 | k + 1=>by
  have ih0:=spec_deWorth.mono_l k
  ·intro y0 y1 y2 y3 y4;unfold spec_deWorth.l0
   repeat' with_reducible first|exact ih0 _ _ _ _ _|exact LeO.refl _|exact LeO.none _|refine LeO.ite ?_ ?_|refine LeO.bind ?_ (fun _=>?_)
theorem spec_deWorth.mono:∀ a0 a1 a2 k,LeO (spec_deWorth.f k a0 a1 a2) (spec_deWorth.f (k + 1) a0 a1 a2):=by
 intro a0 a1 a2 k;have ih0:=spec_deWorth.mono_l k;unfold spec_deWorth.f
 repeat' with_reducible first|exact ih0 _ _ _ _ _|exact LeO.refl _|exact LeO.none _|refine LeO.ite ?_ ?_|refine LeO.bind ?_ (fun _=>?_)
set_option maxHeartbeats 8000000 in
set_option maxRecDepth 100000 in
theorem spec_deWorth.calls (k:Nat) (A0:Option Addr) (c0:Nat) (l0:List Bool) (a1:Int) (a2:Int) (r:Bool) (w:World) (hr0:Kd.C Kd.bool w A0 l0.length l0) (hc0:l0.length ≤ c0) (h:spec_deWorth.f k l0 a1 a2 = some r) :
  Calls Try.prog 90 #[.slice A0 l0.length c0,.int .i64 a1,.int .i64 a2] w fun e w'=>e = .returned (.bool r) ∧ Drawn0 w w':=by
 have HR0:=aM hr0;have HC0:=aM hc0;clear hr0 hc0;have H:(spec_deWorth.l0 k l0 a1 a2 (l0.length:Int) 0) = some r:=h;clear h;have H':=aM H;clear H;go_enter Try.func90,Try.ntmps90;go_wp2
 go_loopg [10] k (fun kq v10 w'=>∃ (x10_1:Int),v10 = .int .i64 x10_1 ∧ Aside0 (spec_deWorth.l0 kq l0 a1 a2 (l0.length:Int) x10_1 = some r) ∧ Aside0 (kq ≤ k) ∧ Drawn0 w w')
 case atStart=>exact ⟨(0),qrs,H',⟨Nat.le_refl _⟩,by repeat (first|exact Drawn0.refl _|apply Drawn0.step)⟩
 case round =>
  clear H'
  try clear p2
  obtain ⟨x10_1,rfl,HA,HK1,⟨m1,rfl⟩⟩:=hrel
  cases gk with
  | zero=>exact absurd HA.out (by simp [spec_deWorth.l0])
  | succ k1 =>
   have H:=HA.out;clear HA;simp only [spec_deWorth.l0] at H;by_cases c4:x10_1 < (l0.length:Int)
   ·rw [if_pos c4] at H;have c4b0:decide (x10_1 < (l0.length:Int)) = true:=decide_eq_true c4;clear c4;by_cases c5:0 ≤ a1
    ·rw [if_pos c5] at H;have c5b0:=eq_true c5;have c5b1:decide (0 ≤ a1) = true:=decide_eq_true c5;clear c5;obtain ⟨ji6,hji6⟩:∃ j_:Int,(shr .i64 x10_1 a1) = j_:=⟨_,rfl⟩;replace H:(if (Int.tmod (ji6) 2) = 0 then (if 0 ≤ a2 then (if (Int.tmod (shr .i64 x10_1 a2) 2) = 0 then (if 0 ≤ (wrap64 (x10_1 + (shl .i64 1 a2))) then (if (wrap64 (x10_1 + (shl .i64 1 a2))) < (l0.length:Int) then (if rdOf false l0 (wrap64 (x10_1 + (shl .i64 1 a2))) = true then (if 0 ≤ (wrap64 (x10_1 + (shl .i64 1 a1))) then (if (wrap64 (x10_1 + (shl .i64 1 a1))) < (l0.length:Int) then (if (rdOf false l0 (wrap64 (x10_1 + (shl .i64 1 a1))) = true) then (spec_deWorth.l0 k1 l0 a1 a2 (l0.length:Int) (wrap64 (x10_1 + 1))) else (some false)) else (none)) else (none)) else (spec_deWorth.l0 k1 l0 a1 a2 (l0.length:Int) (wrap64 (x10_1 + 1)))) else (none)) else (none)) else (spec_deWorth.l0 k1 l0 a1 a2 (l0.length:Int) (wrap64 (x10_1 + 1)))) else (none)) else (spec_deWorth.l0 k1 l0 a1 a2 (l0.length:Int) (wrap64 (x10_1 + 1)))) = some r:=by first|(rw [hji6] at H;exact H)|(simp only [hji6] at H ⊢;exact H)
     have hji6_:(x10_1 / 2 ^ min a1.toNat 64) = ji6:=hji6;have hji6z:a1 ≤ 64 → (x10_1 / 2 ^ a1.toNat) = ji6:=shr_small hji6;by_cases c7:(Int.tmod (ji6) 2) = 0
     ·rw [if_pos c7] at H;have c7b0:((Int.tmod (ji6) 2) == 0) = true:=beq_iff_eq.mpr c7;have c7b1:((Int.tmod (ji6) 2) != 0) = false:=bne_eq_false_iff_eq.mpr c7;clear c7;by_cases c8:0 ≤ a2
      ·rw [if_pos c8] at H;have c8b0:=eq_true c8;have c8b1:decide (0 ≤ a2) = true:=decide_eq_true c8;clear c8;obtain ⟨ji9,hji9⟩:∃ j_:Int,(shr .i64 x10_1 a2) = j_:=⟨_,rfl⟩;replace H:(if (Int.tmod (ji9) 2) = 0 then (if 0 ≤ (wrap64 (x10_1 + (shl .i64 1 a2))) then (if (wrap64 (x10_1 + (shl .i64 1 a2))) < (l0.length:Int) then (if rdOf false l0 (wrap64 (x10_1 + (shl .i64 1 a2))) = true then (if 0 ≤ (wrap64 (x10_1 + (shl .i64 1 a1))) then (if (wrap64 (x10_1 + (shl .i64 1 a1))) < (l0.length:Int) then (if (rdOf false l0 (wrap64 (x10_1 + (shl .i64 1 a1))) = true) then (spec_deWorth.l0 k1 l0 a1 a2 (l0.length:Int) (wrap64 (x10_1 + 1))) else (some false)) else (none)) else (none)) else (spec_deWorth.l0 k1 l0 a1 a2 (l0.length:Int) (wrap64 (x10_1 + 1)))) else (none)) else (none)) else (spec_deWorth.l0 k1 l0 a1 a2 (l0.length:Int) (wrap64 (x10_1 + 1)))) = some r:=by first|(rw [hji9] at H;exact H)|(simp only [hji9] at H ⊢;exact H)
       have hji9_:(x10_1 / 2 ^ min a2.toNat 64) = ji9:=hji9;have hji9z:a2 ≤ 64 → (x10_1 / 2 ^ a2.toNat) = ji9:=shr_small hji9;by_cases c10:(Int.tmod (ji9) 2) = 0
       ·rw [if_pos c10] at H;have c10b0:((Int.tmod (ji9) 2) == 0) = true:=beq_iff_eq.mpr c10;have c10b1:((Int.tmod (ji9) 2) != 0) = false:=bne_eq_false_iff_eq.mpr c10;clear c10;have c11b0:=eq_true (of_decide_eq_true ab:0 ≤ a2);obtain ⟨ji12,hji12⟩:∃ j_:Int,(shl .i64 1 a2) = j_:=⟨_,rfl⟩;replace H:(if 0 ≤ (wrap64 (x10_1 + (ji12))) then (if (wrap64 (x10_1 + (ji12))) < (l0.length:Int) then (if rdOf false l0 (wrap64 (x10_1 + (ji12))) = true then (if 0 ≤ (wrap64 (x10_1 + (shl .i64 1 a1))) then (if (wrap64 (x10_1 + (shl .i64 1 a1))) < (l0.length:Int) then (if (rdOf false l0 (wrap64 (x10_1 + (shl .i64 1 a1))) = true) then (spec_deWorth.l0 k1 l0 a1 a2 (l0.length:Int) (wrap64 (x10_1 + 1))) else (some false)) else (none)) else (none)) else (spec_deWorth.l0 k1 l0 a1 a2 (l0.length:Int) (wrap64 (x10_1 + 1)))) else (none)) else (none)) = some r:=by first|(rw [hji12] at H;exact H)|(simp only [hji12] at H ⊢;exact H)
        have hji12_:(IntKind.i64.wrap (1 * 2 ^ min a2.toNat 64)) = ji12:=hji12;have hji12z:a2 ≤ 64 → (IntKind.i64.wrap (1 * 2 ^ a2.toNat)) = ji12:=shl_small hji12;have hji12u:(IntKind.i64.wrap (2 ^ min a2.toNat 64)) = ji12:=by have h_:=hji12_;rw [Int.one_mul] at h_;exact h_
        have hji12v:a2 ≤ 64 → (IntKind.i64.wrap (2 ^ a2.toNat)) = ji12:=fun hle_=>by have h_:=hji12z hle_;rw [Int.one_mul] at h_;exact h_
        have hji12y:(wrap64 (1 * 2 ^ min a2.toNat 64)) = ji12:=(i64_w _).symm.trans hji12_;have hji12x:a2 ≤ 64 → (wrap64 (1 * 2 ^ a2.toNat)) = ji12:=fun h_=>(i64_w _).symm.trans (hji12z h_)
        obtain ⟨ji13,hji13⟩:∃ j_:Int,(wrap64 (x10_1 + (ji12))) = j_:=⟨_,rfl⟩;replace H:(if 0 ≤ (ji13) then (if (ji13) < (l0.length:Int) then (if rdOf false l0 (ji13) = true then (if 0 ≤ (wrap64 (x10_1 + (shl .i64 1 a1))) then (if (wrap64 (x10_1 + (shl .i64 1 a1))) < (l0.length:Int) then (if (rdOf false l0 (wrap64 (x10_1 + (shl .i64 1 a1))) = true) then (spec_deWorth.l0 k1 l0 a1 a2 (l0.length:Int) (wrap64 (x10_1 + 1))) else (some false)) else (none)) else (none)) else (spec_deWorth.l0 k1 l0 a1 a2 (l0.length:Int) (wrap64 (x10_1 + 1)))) else (none)) else (none)) = some r:=by first|(rw [hji13] at H;exact H)|(simp only [hji13] at H ⊢;exact H)
        have hji13w:(IntKind.i64.wrap (x10_1 + (ji12))) = ji13:=(i64_w _).trans hji13;by_cases c14:0 ≤ (ji13)
        ·rw [if_pos c14] at H;have c14b0:decide (0 ≤ (ji13)) = true:=decide_eq_true c14;clear c14;by_cases c15:(ji13) < (l0.length:Int)
         ·rw [if_pos c15] at H;have c15b0:decide ((ji13) < (l0.length:Int)) = true:=decide_eq_true c15;clear c15;obtain ⟨bq16,hbq16⟩:∃ b_:Bool,b_ = (rdOf false l0 (ji13)):=⟨_,rfl⟩;replace H:(if bq16 = true then (if 0 ≤ (wrap64 (x10_1 + (shl .i64 1 a1))) then (if (wrap64 (x10_1 + (shl .i64 1 a1))) < (l0.length:Int) then (if (rdOf false l0 (wrap64 (x10_1 + (shl .i64 1 a1))) = true) then (spec_deWorth.l0 k1 l0 a1 a2 (l0.length:Int) (wrap64 (x10_1 + 1))) else (some false)) else (none)) else (none)) else (spec_deWorth.l0 k1 l0 a1 a2 (l0.length:Int) (wrap64 (x10_1 + 1)))) = some r:=by rw [← hbq16] at H;exact H
          have Nbq16:=aM hbq16;clear hbq16;by_cases c17:bq16 = true
          ·subst c17;have H1:(if 0 ≤ (wrap64 (x10_1 + (shl .i64 1 a1))) then (if (wrap64 (x10_1 + (shl .i64 1 a1))) < (l0.length:Int) then (if (rdOf false l0 (wrap64 (x10_1 + (shl .i64 1 a1))) = true) then (spec_deWorth.l0 k1 l0 a1 a2 (l0.length:Int) (wrap64 (x10_1 + 1))) else (some false)) else (none)) else (none)) = some r:=by rw [if_pos rfl] at H;exact H
           clear H;have H:=H1;clear H1;have c18b0:=eq_true (of_decide_eq_true ab:0 ≤ a1);obtain ⟨ji19,hji19⟩:∃ j_:Int,(shl .i64 1 a1) = j_:=⟨_,rfl⟩;replace H:(if 0 ≤ (wrap64 (x10_1 + (ji19))) then (if (wrap64 (x10_1 + (ji19))) < (l0.length:Int) then (if (rdOf false l0 (wrap64 (x10_1 + (ji19))) = true) then (spec_deWorth.l0 k1 l0 a1 a2 (l0.length:Int) (wrap64 (x10_1 + 1))) else (some false)) else (none)) else (none)) = some r:=by first|(rw [hji19] at H;exact H)|(simp only [hji19] at H ⊢;exact H)
           have hji19_:(IntKind.i64.wrap (1 * 2 ^ min a1.toNat 64)) = ji19:=hji19;have hji19z:a1 ≤ 64 → (IntKind.i64.wrap (1 * 2 ^ a1.toNat)) = ji19:=shl_small hji19;have hji19u:(IntKind.i64.wrap (2 ^ min a1.toNat 64)) = ji19:=by have h_:=hji19_;rw [Int.one_mul] at h_;exact h_
           have hji19v:a1 ≤ 64 → (IntKind.i64.wrap (2 ^ a1.toNat)) = ji19:=fun hle_=>by have h_:=hji19z hle_;rw [Int.one_mul] at h_;exact h_
           have hji19y:(wrap64 (1 * 2 ^ min a1.toNat 64)) = ji19:=(i64_w _).symm.trans hji19_;have hji19x:a1 ≤ 64 → (wrap64 (1 * 2 ^ a1.toNat)) = ji19:=fun h_=>(i64_w _).symm.trans (hji19z h_)
           obtain ⟨ji20,hji20⟩:∃ j_:Int,(wrap64 (x10_1 + (ji19))) = j_:=⟨_,rfl⟩;replace H:(if 0 ≤ (ji20) then (if (ji20) < (l0.length:Int) then (if (rdOf false l0 (ji20) = true) then (spec_deWorth.l0 k1 l0 a1 a2 (l0.length:Int) (wrap64 (x10_1 + 1))) else (some false)) else (none)) else (none)) = some r:=by first|(rw [hji20] at H;exact H)|(simp only [hji20] at H ⊢;exact H)
           have hji20w:(IntKind.i64.wrap (x10_1 + (ji19))) = ji20:=(i64_w _).trans hji20;by_cases c21:0 ≤ (ji20)
           ·rw [if_pos c21] at H;have c21b0:decide (0 ≤ (ji20)) = true:=decide_eq_true c21;clear c21;by_cases c22:(ji20) < (l0.length:Int)
            ·rw [if_pos c22] at H;have c22b0:decide ((ji20) < (l0.length:Int)) = true:=decide_eq_true c22;clear c22;obtain ⟨bq23,hbq23⟩:∃ b_:Bool,b_ = (rdOf false l0 (ji20)):=⟨_,rfl⟩;replace H:(if (bq23 = true) then (spec_deWorth.l0 k1 l0 a1 a2 (l0.length:Int) (wrap64 (x10_1 + 1))) else (some false)) = some r:=by rw [← hbq23] at H;exact H
             have Nbq23:=aM hbq23;clear hbq23;by_cases c24:(bq23 = true)
             ·subst c24;have H1:(spec_deWorth.l0 k1 l0 a1 a2 (l0.length:Int) (wrap64 (x10_1 + 1))) = some r:=by rw [if_pos rfl] at H;exact H
              clear H;have H:=H1;clear H1;have H':=aM H;clear H;have p119:0 ≤ ((ji13):Int):=of_decide_eq_true ab;have q119:(ji13) < (l0.length:Int):=of_decide_eq_true ab;obtain ⟨ad119,e119,hx119_0⟩:=Kd.at_bool HR0.out (ji13) p119 q119;(try rw [← Nbq16.out] at hx119_0)
              (try rw [← Nbq23.out] at hx119_0)
              cases e119
              replace p119:=eq_true p119;replace q119:=eq_true q119;have p120:0 ≤ ((ji20):Int):=of_decide_eq_true ab;have q120:(ji20) < (l0.length:Int):=of_decide_eq_true ab;obtain ⟨ad120,e120,hx120_0⟩:=Kd.at_bool HR0.out (ji20) p120 q120;(try rw [← Nbq16.out] at hx120_0)
              (try rw [← Nbq23.out] at hx120_0)
              obtain rfl:ad119 = ad120:=(by injection e120);replace p120:=eq_true p120;replace q120:=eq_true q120;go_wp2
              go_roundg k1
              case measure=>have:=HK1.out;omega
              case rel=>exact ⟨(wrap64 (x10_1 + 1)),qrs,H',⟨by have:=HK1.out;omega⟩,by repeat (first|exact Drawn0.refl _|apply Drawn0.step)⟩
             ·replace c24:=Bool.eq_false_iff.mpr c24;subst c24;have H1:(some false) = some r:=by rw [if_neg (show ¬ (false = true) by decide)] at H;exact H
              clear H;have H:=H1;clear H1;obtain rfl:=Option.some.inj H;have p119:0 ≤ ((ji13):Int):=of_decide_eq_true ab;have q119:(ji13) < (l0.length:Int):=of_decide_eq_true ab;obtain ⟨ad119,e119,hx119_0⟩:=Kd.at_bool HR0.out (ji13) p119 q119;(try rw [← Nbq16.out] at hx119_0)
              (try rw [← Nbq23.out] at hx119_0)
              cases e119
              replace p119:=eq_true p119;replace q119:=eq_true q119;have p120:0 ≤ ((ji20):Int):=of_decide_eq_true ab;have q120:(ji20) < (l0.length:Int):=of_decide_eq_true ab;obtain ⟨ad120,e120,hx120_0⟩:=Kd.at_bool HR0.out (ji20) p120 q120;(try rw [← Nbq16.out] at hx120_0)
              (try rw [← Nbq23.out] at hx120_0)
              obtain rfl:ad119 = ad120:=(by injection e120);replace p120:=eq_true p120;replace q120:=eq_true q120;go_wp2
              go_ret
              exact ⟨by first|rfl|(simp;done)|(simp only [← hji6,← hji9,← hji12,← hji13,← hji19,← hji20] <;> (first|rfl|simp))|(simp [*];done),by repeat (first|exact Drawn0.refl _|apply Drawn0.step)⟩
            ·rw [if_neg c22] at H;exact absurd H (by simp)
           ·rw [if_neg c21] at H;exact absurd H (by simp)
          ·replace c17:=Bool.eq_false_iff.mpr c17;subst c17;have H1:(spec_deWorth.l0 k1 l0 a1 a2 (l0.length:Int) (wrap64 (x10_1 + 1))) = some r:=by rw [if_neg (show ¬ (false = true) by decide)] at H;exact H
           clear H;have H:=H1;clear H1;have H':=aM H;clear H;have p119:0 ≤ ((ji13):Int):=of_decide_eq_true ab;have q119:(ji13) < (l0.length:Int):=of_decide_eq_true ab;obtain ⟨ad119,e119,hx119_0⟩:=Kd.at_bool HR0.out (ji13) p119 q119;(try rw [← Nbq16.out] at hx119_0)
           cases e119
           replace p119:=eq_true p119;replace q119:=eq_true q119;go_wp2
           go_roundg k1
           case measure=>have:=HK1.out;omega
           case rel=>exact ⟨(wrap64 (x10_1 + 1)),qrs,H',⟨by have:=HK1.out;omega⟩,by repeat (first|exact Drawn0.refl _|apply Drawn0.step)⟩
         ·rw [if_neg c15] at H;exact absurd H (by simp)
        ·rw [if_neg c14] at H;exact absurd H (by simp)
       ·rw [if_neg c10] at H;have c10b0:((Int.tmod (ji9) 2) == 0) = false:=beq_eq_false_iff_ne.mpr c10;have c10b1:((Int.tmod (ji9) 2) != 0) = true:=bne_iff_ne.mpr c10;have H':=aM H;clear H;go_wp2
        go_roundg k1
        case measure=>have:=HK1.out;omega
        case rel=>exact ⟨(wrap64 (x10_1 + 1)),qrs,H',⟨by have:=HK1.out;omega⟩,by repeat (first|exact Drawn0.refl _|apply Drawn0.step)⟩
      ·rw [if_neg c8] at H;exact absurd H (by simp)
     ·rw [if_neg c7] at H;have c7b0:((Int.tmod (ji6) 2) == 0) = false:=beq_eq_false_iff_ne.mpr c7;have c7b1:((Int.tmod (ji6) 2) != 0) = true:=bne_iff_ne.mpr c7;have H':=aM H;clear H;go_wp2
      go_roundg k1
      case measure=>have:=HK1.out;omega
      case rel=>exact ⟨(wrap64 (x10_1 + 1)),qrs,H',⟨by have:=HK1.out;omega⟩,by repeat (first|exact Drawn0.refl _|apply Drawn0.step)⟩
    ·rw [if_neg c5] at H;exact absurd H (by simp)
   ·rw [if_neg c4] at H;have c4b0:decide (x10_1 < (l0.length:Int)) = false:=decide_eq_false c4;clear c4;obtain rfl:=Option.some.inj H;go_wp2
    go_ret
    exact ⟨by first|rfl|(simp;done)|(simp [*];done),by repeat (first|exact Drawn0.refl _|apply Drawn0.step)⟩


/-! ### spec_deUnlike: function 102 -/
def spec_deUnlike.f (k:Nat) (l0:List Bool) (a1:Int) (a2:Int):Option (Bool):=(spec_deWorth.f k l0 a1 a2).bind fun t121=>(if t121 = true then (some false) else ((spec_deWorth.f k l0 a2 a1).bind fun t122=>(some (!t122))))
theorem spec_deUnlike.mono:∀ a0 a1 a2 k,LeO (spec_deUnlike.f k a0 a1 a2) (spec_deUnlike.f (k + 1) a0 a1 a2):=by
 intro a0 a1 a2 k;unfold spec_deUnlike.f
 repeat' with_reducible first|exact spec_deWorth.mono _ _ _ _|exact LeO.refl _|exact LeO.none _|refine LeO.ite ?_ ?_|refine LeO.bind ?_ (fun _=>?_)
set_option maxHeartbeats 8000000 in
set_option maxRecDepth 100000 in
theorem spec_deUnlike.calls (k:Nat) (A0:Option Addr) (c0:Nat) (l0:List Bool) (a1:Int) (a2:Int) (r:Bool) (w:World) (hr0:Kd.C Kd.bool w A0 l0.length l0) (hc0:l0.length ≤ c0) (h:spec_deUnlike.f k l0 a1 a2 = some r) :
  Calls Try.prog 102 #[.slice A0 l0.length c0,.int .i64 a1,.int .i64 a2] w fun e w'=>e = .returned (.bool r) ∧ Drawn0 w w':=by
 have HR0:=aM hr0;have HC0:=aM hc0;clear hr0 hc0;have H:((spec_deWorth.f k l0 a1 a2).bind fun t121=>(if t121 = true then (some false) else ((spec_deWorth.f k l0 a2 a1).bind fun t122=>(some (!t122))))) = some r:=h;clear h;replace H:=Option.bind_eq_some_iff.mp H;obtain ⟨t121,A40,H⟩:=H;replace H:(if t121 = true then (some false) else ((spec_deWorth.f k l0 a2 a1).bind fun t122=>(some (!t122)))) = some r:=H;have A4:=aM A40;clear A40;by_cases c5:t121 = true
 ·subst c5;have H1:(some false) = some r:=by rw [if_pos rfl] at H;exact H
  clear H;have H:=H1;clear H1;obtain rfl:=Option.some.inj H;go_enter Try.func102,Try.ntmps102;go_wp2_with (first|((with_reducible refine gate_callee (f:=90) rfl ?_);refine goesL_ (some 10) rfl rfl Try.func90 kR rfl #[.slice A0 l0.length c0,.int .i64 a1,.int .i64 a2] rfl mq ?_;(with_reducible refine (spec_deWorth.calls k _ _ l0 a1 a2 true _ ?side1 ?side2 A4.out).mono ?_);(case side1=>repeat (first|exact HR0.out|(with_reducible refine Kd.C_alloc ?_ _)|(with_reducible refine Kd.C_drewN ?_ _)|(with_reducible refine Kd.C_drew ?_)));(case side2=>exact HC0.out);rintro e w' ⟨rfl,⟨nd,rfl⟩⟩;refine ⟨_,rfl,?_⟩))
  go_ret
  exact ⟨by first|rfl|(simp;done)|(simp [*];done),by repeat (first|exact Drawn0.refl _|apply Drawn0.step)⟩
 ·replace c5:=Bool.eq_false_iff.mpr c5;subst c5;have H1:((spec_deWorth.f k l0 a2 a1).bind fun t122=>(some (!t122))) = some r:=by rw [if_neg (show ¬ (false = true) by decide)] at H;exact H
  clear H;have H:=H1;clear H1;replace H:=Option.bind_eq_some_iff.mp H;obtain ⟨t122,A60,H⟩:=H;replace H:(some (!t122)) = some r:=H;have A6:=aM A60;clear A60;obtain rfl:=Option.some.inj H;go_enter Try.func102,Try.ntmps102;go_wp2_with (first|((with_reducible refine gate_callee (f:=90) rfl ?_);refine goesL_ (some 10) rfl rfl Try.func90 kR rfl #[.slice A0 l0.length c0,.int .i64 a1,.int .i64 a2] rfl mq ?_;(with_reducible refine (spec_deWorth.calls k _ _ l0 a1 a2 false _ ?side1 ?side2 A4.out).mono ?_);(case side1=>repeat (first|exact HR0.out|(with_reducible refine Kd.C_alloc ?_ _)|(with_reducible refine Kd.C_drewN ?_ _)|(with_reducible refine Kd.C_drew ?_)));(case side2=>exact HC0.out);rintro e w' ⟨rfl,⟨nd,rfl⟩⟩;refine ⟨_,rfl,?_⟩)|(go_at_call 90;(with_reducible refine (spec_deWorth.calls k _ _ l0 a2 a1 t122 _ ?side1 ?side2 A6.out).mono ?_);(case side1=>repeat (first|exact HR0.out|(with_reducible refine Kd.C_alloc ?_ _)|(with_reducible refine Kd.C_drewN ?_ _)|(with_reducible refine Kd.C_drew ?_)));(case side2=>exact HC0.out);rintro e w' ⟨rfl,⟨nd,rfl⟩⟩))
  go_ret
  exact ⟨by first|rfl|(simp;done)|(simp [*];done),by repeat (first|exact Drawn0.refl _|apply Drawn0.step)⟩


/-! ### spec_deComplete: function 60 -/
mutual
def spec_deComplete.l0:Nat → List Bool → Int → Int → Option (Bool)
 | 0,_,_,_=>none
 | k + 1,x0,x1,x5=>if x5 < x1 then (spec_deComplete.l1 k x0 x1 x5 0) else (some true)
def spec_deComplete.l1:Nat → List Bool → Int → Int → Int → Option (Bool)
 | 0,_,_,_,_=>none
 | k + 1,x0,x1,x5,x6=>if x6 < x5 then ((spec_deUnlike.f k x0 x5 x6).bind fun t123=>(if t123 = true then (some false) else (spec_deComplete.l1 k x0 x1 x5 (wrap64 (x6 + 1))))) else (spec_deComplete.l0 k x0 x1 (wrap64 (x5 + 1)))
end
def spec_deComplete.f (k:Nat) (l0:List Bool) (a1:Int):Option (Bool):=spec_deComplete.l0 k l0 a1 0
theorem spec_deComplete.mono_l:∀ k,(∀ y0 y1 y2,LeO (spec_deComplete.l0 k y0 y1 y2) (spec_deComplete.l0 (k + 1) y0 y1 y2)) ∧ (∀ y0 y1 y2 y3,LeO (spec_deComplete.l1 k y0 y1 y2 y3) (spec_deComplete.l1 (k + 1) y0 y1 y2 y3))
 | 0=>⟨fun _ _ _ r h=>by simp [spec_deComplete.l0] at h,fun _ _ _ _ r h=>by simp [spec_deComplete.l1] at h⟩
 | k + 1=>by
  obtain ⟨ih0,ih1⟩:=spec_deComplete.mono_l k;refine ⟨?_,?_⟩
  ·intro y0 y1 y2;unfold spec_deComplete.l0
   repeat' with_reducible first|exact ih0 _ _ _|exact ih1 _ _ _ _|exact spec_deUnlike.mono _ _ _ _|exact LeO.refl _|exact LeO.none _|refine LeO.ite ?_ ?_|refine LeO.bind ?_ (fun _=>?_)
  ·intro y0 y1 y2 y3;unfold spec_deComplete.l1
   repeat' with_reducible first|exact ih0 _ _ _|exact ih1 _ _ _ _|exact spec_deUnlike.mono _ _ _ _|exact LeO.refl _|exact LeO.none _|refine LeO.ite ?_ ?_|refine LeO.bind ?_ (fun _=>?_)
theorem spec_deComplete.mono:∀ a0 a1 k,LeO (spec_deComplete.f k a0 a1) (spec_deComplete.f (k + 1) a0 a1):=by
 intro a0 a1 k;obtain ⟨ih0,ih1⟩:=spec_deComplete.mono_l k;unfold spec_deComplete.f
 repeat' with_reducible first|exact ih0 _ _ _|exact ih1 _ _ _ _|exact spec_deUnlike.mono _ _ _ _|exact LeO.refl _|exact LeO.none _|refine LeO.ite ?_ ?_|refine LeO.bind ?_ (fun _=>?_)
set_option maxHeartbeats 8000000 in
set_option maxRecDepth 100000 in
theorem spec_deComplete.calls (k:Nat) (A0:Option Addr) (c0:Nat) (l0:List Bool) (a1:Int) (r:Bool) (w:World) (hr0:Kd.C Kd.bool w A0 l0.length l0) (hc0:l0.length ≤ c0) (h:spec_deComplete.f k l0 a1 = some r) :
  Calls Try.prog 60 #[.slice A0 l0.length c0,.int .i64 a1] w fun e w'=>e = .returned (.bool r) ∧ Drawn0 w w':=by
 have HR0:=aM hr0;have HC0:=aM hc0;clear hr0 hc0;have H:(spec_deComplete.l0 k l0 a1 0) = some r:=h;clear h;have H':=aM H;clear H;go_enter Try.func60,Try.ntmps60;go_wp2
 go_loopg [5] k (fun kq v5 w'=>∃ (x5_1:Int),v5 = .int .i64 x5_1 ∧ Aside0 (spec_deComplete.l0 kq l0 a1 x5_1 = some r) ∧ Aside0 (kq ≤ k) ∧ Drawn0 w w')
 case atStart=>exact ⟨(0),qrs,H',⟨Nat.le_refl _⟩,by repeat (first|exact Drawn0.refl _|apply Drawn0.step)⟩
 case round =>
  clear H'
  try clear p2
  obtain ⟨x5_1,rfl,HA,HK1,⟨m1,rfl⟩⟩:=hrel
  cases gk with
  | zero=>exact absurd HA.out (by simp [spec_deComplete.l0])
  | succ k1 =>
   have H:=HA.out;clear HA;simp only [spec_deComplete.l0] at H;by_cases c3:x5_1 < a1
   ·rw [if_pos c3] at H;have c3b0:decide (x5_1 < a1) = true:=decide_eq_true c3;clear c3;have H':=aM H;clear H;go_wp2
    go_loopg [6] k1 (fun kq v6 w'=>∃ (x6_2:Int),v6 = .int .i64 x6_2 ∧ Aside0 (spec_deComplete.l1 kq l0 a1 x5_1 x6_2 = some r) ∧ Aside0 (kq ≤ k1) ∧ Drawn0 w w')
    case atStart=>exact ⟨(0),qrs,H',⟨Nat.le_refl _⟩,by repeat (first|exact Drawn0.refl _|apply Drawn0.step)⟩
    case round =>
     clear H';(try clear p2);(try clear c3);(try clear c3b0);(try clear p2)
     obtain ⟨x6_2,rfl,HA,HK2,⟨m2,rfl⟩⟩:=hrel
     cases gk with
     | zero=>exact absurd HA.out (by simp [spec_deComplete.l1])
     | succ k2 =>
      have H:=HA.out;clear HA;simp only [spec_deComplete.l1] at H;by_cases c4:x6_2 < x5_1
      ·rw [if_pos c4] at H;have c4b0:decide (x6_2 < x5_1) = true:=decide_eq_true c4;clear c4;replace H:=Option.bind_eq_some_iff.mp H;obtain ⟨t123,A50,H⟩:=H;replace H:(if t123 = true then (some false) else (spec_deComplete.l1 k2 l0 a1 x5_1 (wrap64 (x6_2 + 1)))) = some r:=H;have A5:=aM A50;clear A50;by_cases c6:t123 = true
       ·subst c6;have H1:(some false) = some r:=by rw [if_pos rfl] at H;exact H
        clear H;have H:=H1;clear H1;obtain rfl:=Option.some.inj H;go_wp2_with (first|((with_reducible refine gate_callee (f:=102) rfl ?_);refine goesL_ (some 20) rfl rfl Try.func102 kR rfl #[.slice A0 l0.length c0,.int .i64 x5_1,.int .i64 x6_2] rfl mq ?_;(with_reducible refine (spec_deUnlike.calls k2 _ _ l0 x5_1 x6_2 true _ ?side1 ?side2 A5.out).mono ?_);(case side1=>repeat (first|exact HR0.out|(with_reducible refine Kd.C_alloc ?_ _)|(with_reducible refine Kd.C_drewN ?_ _)|(with_reducible refine Kd.C_drew ?_)));(case side2=>exact HC0.out);rintro e w' ⟨rfl,⟨nd,rfl⟩⟩;refine ⟨_,rfl,?_⟩))
        go_ret
        exact ⟨by first|rfl|(simp;done)|(simp [*];done),by repeat (first|exact Drawn0.refl _|apply Drawn0.step)⟩
       ·replace c6:=Bool.eq_false_iff.mpr c6;subst c6;have H1:(spec_deComplete.l1 k2 l0 a1 x5_1 (wrap64 (x6_2 + 1))) = some r:=by rw [if_neg (show ¬ (false = true) by decide)] at H;exact H
        clear H;have H:=H1;clear H1;have H':=aM H;clear H;go_wp2_with (first|((with_reducible refine gate_callee (f:=102) rfl ?_);refine goesL_ (some 20) rfl rfl Try.func102 kR rfl #[.slice A0 l0.length c0,.int .i64 x5_1,.int .i64 x6_2] rfl mq ?_;(with_reducible refine (spec_deUnlike.calls k2 _ _ l0 x5_1 x6_2 false _ ?side1 ?side2 A5.out).mono ?_);(case side1=>repeat (first|exact HR0.out|(with_reducible refine Kd.C_alloc ?_ _)|(with_reducible refine Kd.C_drewN ?_ _)|(with_reducible refine Kd.C_drew ?_)));(case side2=>exact HC0.out);rintro e w' ⟨rfl,⟨nd,rfl⟩⟩;refine ⟨_,rfl,?_⟩))
        go_roundg k2
        case measure=>have:=HK1.out;have:=HK2.out;omega
        case rel=>exact ⟨(wrap64 (x6_2 + 1)),qrs,H',⟨by have:=HK1.out;have:=HK2.out;omega⟩,by repeat (first|exact Drawn0.refl _|apply Drawn0.step)⟩
      ·rw [if_neg c4] at H;have c4b0:decide (x6_2 < x5_1) = false:=decide_eq_false c4;clear c4;have H':=aM H;clear H;go_wp2
       go_roundg k2
       case measure=>have:=HK1.out;have:=HK2.out;omega
       case rel=>exact ⟨(wrap64 (x5_1 + 1)),qrs,H',⟨by have:=HK1.out;have:=HK2.out;omega⟩,by repeat (first|exact Drawn0.refl _|apply Drawn0.step)⟩
   ·rw [if_neg c3] at H;have c3b0:decide (x5_1 < a1) = false:=decide_eq_false c3;clear c3;obtain rfl:=Option.some.inj H;go_wp2
    go_ret
    exact ⟨by first|rfl|(simp;done)|(simp [*];done),by repeat (first|exact Drawn0.refl _|apply Drawn0.step)⟩


/-! ### spec_voList: function 65 -/
def spec_voList.l0:Nat → Int → List Int → Int → Option (List Int)
 | 0,_,_,_=>none
 | k + 1,x0,x3,x4=>if 0 ≤ x4 then (if (shr .i64 x0 x4) > 0 then (if (Int.tmod (shr .i64 x0 x4) 2) = 1 then (if x3.length < 17592186044416 then (spec_voList.l0 k x0 (x3 ++ [x4]) (wrap64 (x4 + 1))) else (none)) else (spec_voList.l0 k x0 x3 (wrap64 (x4 + 1)))) else (some x3)) else (none)
def spec_voList.f (k:Nat) (a0:Int):Option (List Int):=spec_voList.l0 k a0 ([]:List Int) 0
theorem spec_voList.mono_l:∀ k,(∀ y0 y1 y2,LeO (spec_voList.l0 k y0 y1 y2) (spec_voList.l0 (k + 1) y0 y1 y2))
 | 0=>fun _ _ _ r h=>by simp [spec_voList.l0] at h
 | k + 1=>by
  have ih0:=spec_voList.mono_l k
  ·intro y0 y1 y2;unfold spec_voList.l0
   repeat' with_reducible first|exact ih0 _ _ _|exact LeO.refl _|exact LeO.none _|refine LeO.ite ?_ ?_|refine LeO.bind ?_ (fun _=>?_)
theorem spec_voList.mono:∀ a0 k,LeO (spec_voList.f k a0) (spec_voList.f (k + 1) a0):=by
 intro a0 k;have ih0:=spec_voList.mono_l k;unfold spec_voList.f
 repeat' with_reducible first|exact ih0 _ _ _|exact LeO.refl _|exact LeO.none _|refine LeO.ite ?_ ?_|refine LeO.bind ?_ (fun _=>?_)
set_option maxHeartbeats 8000000 in
set_option maxRecDepth 100000 in
theorem spec_voList.calls (k:Nat) (a0:Int) (r:List Int) (w:World) (h:spec_voList.f k a0 = some r) :
  Calls Try.prog 65 #[.int .i64 a0] w fun e w'=>∃ v0_:Value,e = .returned (v0_) ∧ Kd.R (Kd.int .i64) 3 w' w.heap.size (fun _=>True) v0_ r ∧ Below w.heap.size w w':=by
 have HB:=aM (Below.refl w.heap.size w);have H:(spec_voList.l0 k a0 ([]:List Int) 0) = some r:=h;clear h;have H':=aM H;clear H;go_enter Try.func65,Try.ntmps65;go_wp2
 go_loopg [3,4] k (fun kq v3 v4 w'=>∃ (x3_1:List Int) (x4_1:Int),v4 = .int .i64 x4_1 ∧ Aside0 (spec_voList.l0 kq a0 x3_1 x4_1 = some r) ∧ Aside0 (kq ≤ k) ∧ Aside0 (Kd.R (Kd.int .i64) 3 w' w.heap.size (fun _=>True) v3 x3_1) ∧ Aside0 (Below w.heap.size w w'))
 case atStart=>exact ⟨(([]:List Int)),(0),qrs,H',⟨Nat.le_refl _⟩,⟨by first|exact Kd.R_nil _ _ _ _ _|exact Kd.N_nil _ _ _ _ _|exact Kd.V_nil _ _ _ _ _|exact Kd.Q_nil _ _ _ _ _|exact Kd.S_nil _ _ _ _ _⟩,⟨by exact bw⟩⟩
 case round =>
  clear H';obtain ⟨x3_1,x4_1,rfl,HA,HK1,HO_3,HB⟩:=hrel
  cases gk with
  | zero=>exact absurd HA.out (by simp [spec_voList.l0])
  | succ k1 =>
   have H:=HA.out;clear HA;simp only [spec_voList.l0] at H;by_cases c2:0 ≤ x4_1
   ·rw [if_pos c2] at H;have c2b0:=eq_true c2;have c2b1:decide (0 ≤ x4_1) = true:=decide_eq_true c2;clear c2;obtain ⟨ji3,hji3⟩:∃ j_:Int,(shr .i64 a0 x4_1) = j_:=⟨_,rfl⟩;replace H:(if (ji3) > 0 then (if (Int.tmod (ji3) 2) = 1 then (if x3_1.length < 17592186044416 then (spec_voList.l0 k1 a0 (x3_1 ++ [x4_1]) (wrap64 (x4_1 + 1))) else (none)) else (spec_voList.l0 k1 a0 x3_1 (wrap64 (x4_1 + 1)))) else (some x3_1)) = some r:=by first|(rw [hji3] at H;exact H)|(simp only [hji3] at H ⊢;exact H)
    have hji3_:(a0 / 2 ^ min x4_1.toNat 64) = ji3:=hji3;have hji3z:x4_1 ≤ 64 → (a0 / 2 ^ x4_1.toNat) = ji3:=shr_small hji3;by_cases c4:(ji3) > 0
    ·rw [if_pos c4] at H;have c4b0:decide (0 < (ji3)) = true:=decide_eq_true c4;clear c4;have c5b0:=eq_true (of_decide_eq_true ab:0 ≤ x4_1);by_cases c6:(Int.tmod (ji3) 2) = 1
     ·rw [if_pos c6] at H;have c6b0:((Int.tmod (ji3) 2) == 1) = true:=beq_iff_eq.mpr c6;have c6b1:((Int.tmod (ji3) 2) != 1) = false:=bne_eq_false_iff_eq.mpr c6;clear c6;by_cases c7:x3_1.length < 17592186044416
      ·rw [if_pos c7] at H;have LMc7:=aM c7;clear c7;obtain ⟨y457,hy457⟩:∃ y_:List Int,y_ = (x3_1 ++ [x4_1]):=⟨_,rfl⟩;replace H:(spec_voList.l0 k1 a0 y457 (wrap64 (x4_1 + 1))) = some r:=by first|(rw [hy457];with_reducible exact H)|(have H2_:=(Option.bind_some _ _).symm.trans H;rw [hy457];with_reducible exact H2_)|(have H2_:=(Option.bind_some _ _).symm.trans H;with_reducible exact H2_)|with_reducible exact H|(rw [hy457];exact H)|exact H
       have Ny457:=aM hy457;clear hy457;have H':=aM H;clear H;go_wp2_with (first|((with_reducible refine gate_builtin (b:=.append) (xs:=#[.tmp 16,.tmp 18]) rfl ?_);at_builtin;refine Kd.R_append (Kd.int .i64) (w0:=w) w.heap.size rfl (.tmp 16) (.tmp 18) 40 3 (.int .i64 0) 8 rfl Try.underlying40 info3 rfl (by decide) (by omega) u3 x3_1 x4_1 [.int .i64 x4_1] (fun _=>True) (fun _=>False) rfl rfl ?aP (fun _ hk=>hk.elim) ?aF ?aO ?aB ?aS ?aL ?_;(case aP=>exact rfl);(case aB=>exact bw);(case aF=>exact (fun _ _=>trivial));(case aO=>exact (qra HO_3.out));(case aS=>exact (below_size bw));(case aL=>have:=LMc7.out;omega);intro v458 w8 ho hb hg hat;rw [← Ny457.out] at ho;have n0_:=aM (hb);have n1_:=aM (ho);clear HB;clear HO_3;have HB:=n0_;have HO459:=n1_;clear n0_ n1_;clear ho hb hg hat))
       go_roundg k1
       case measure=>have:=HK1.out;omega
       case rel=>exact ⟨(y457),(wrap64 (x4_1 + 1)),qrs,H',⟨by have:=HK1.out;omega⟩,⟨qra HO459.out⟩,⟨by exact bw⟩⟩
      ·rw [if_neg c7] at H;exact absurd H (by simp)
     ·rw [if_neg c6] at H;have c6b0:((Int.tmod (ji3) 2) == 1) = false:=beq_eq_false_iff_ne.mpr c6;have c6b1:((Int.tmod (ji3) 2) != 1) = true:=bne_iff_ne.mpr c6;have H':=aM H;clear H;go_wp2
      go_roundg k1
      case measure=>have:=HK1.out;omega
      case rel=>exact ⟨(x3_1),(wrap64 (x4_1 + 1)),qrs,H',⟨by have:=HK1.out;omega⟩,⟨qra HO_3.out⟩,⟨by exact bw⟩⟩
    ·rw [if_neg c4] at H;have c4b0:decide (0 < (ji3)) = false:=decide_eq_false c4;clear c4;obtain rfl:=Option.some.inj H;go_wp2
     go_ret
     exact ⟨_,by first|rfl|(simp [errW_none,errW_some] <;> rfl)|(simp only [← hji3];first|rfl|(simp [errW_none,errW_some] <;> rfl))|(simp [*,errW_none,errW_some] <;> rfl),by (with_reducible repeat (first|apply Kd.R_alloc|apply Kd.R_drewN|apply Kd.R_drew));exact HO_3.out,by exact bw⟩
   ·rw [if_neg c2] at H;exact absurd H (by simp)


/-! ### spec_weCount: function 55 -/
mutual
def spec_weCount.l0:Nat → List Bool → Int → Int → Bool → List Int → Int → Int → Option (Int × List Bool)
 | 0,_,_,_,_,_,_,_=>none
 | k + 1,x0,x1,x2,x7,x33,x34,x35=>if x35 < x34 then (if 0 ≤ x35 then (if x35 < (x33.length:Int) then (if x7 = true then (spec_weCount.l0 k x0 x1 x2 true x33 x34 (wrap64 (x35 + 1))) else (if 0 ≤ (rd x33 x35) then (if 0 ≤ (wrap64 (x1 - (shl .i64 1 (rd x33 x35)))) then (if (wrap64 (x1 - (shl .i64 1 (rd x33 x35)))) < (x0.length:Int) then (spec_weCount.l0 k x0 x1 x2 (rdOf false x0 (wrap64 (x1 - (shl .i64 1 (rd x33 x35))))) x33 x34 (wrap64 (x35 + 1))) else (none)) else (none)) else (none))) else (none)) else (none)) else (if 0 ≤ x1 then (if x1 < (x0.length:Int) then ((spec_weCount.f k (x0.set (x1:Int).toNat true) (wrap64 (x1 + 1)) x2).bind fun bt469=>(if x7 = true then (some (bt469.1,bt469.2)) else ((spec_weCount.f k (bt469.2.set (x1:Int).toNat false) (wrap64 (x1 + 1)) x2).bind fun bt472=>(some (wrap64 (bt469.1 + bt472.1),bt472.2))))) else (none)) else (none))
def spec_weCount.f:Nat → List Bool → Int → Int → Option (Int × List Bool)
 | 0,_,_,_=>none
 | k + 1,l0,a1,a2=>if a1 = (l0.length:Int) then (if 0 ≤ (wrap64 (a1 - 1)) then (if (wrap64 (a1 - 1)) < (l0.length:Int) then (if (rdOf false l0 (wrap64 (a1 - 1)) = true) then (if 0 < (l0.length:Int) then (if rdOf false l0 0 = true then (some (0,l0)) else ((spec_deComplete.f k l0 a2).bind fun t462=>(if t462 = true then (some (1,l0)) else (some (0,l0))))) else (none)) else (some (0,l0))) else (none)) else (none)) else ((spec_voList.f k a1).bind fun t463=>(spec_weCount.l0 k l0 a1 a2 false t463 (t463.length:Int) 0))
end
theorem spec_weCount.mono_l:∀ k,(∀ y0 y1 y2,LeO (spec_weCount.f k y0 y1 y2) (spec_weCount.f (k + 1) y0 y1 y2)) ∧ (∀ y0 y1 y2 y3 y4 y5 y6,LeO (spec_weCount.l0 k y0 y1 y2 y3 y4 y5 y6) (spec_weCount.l0 (k + 1) y0 y1 y2 y3 y4 y5 y6))
 | 0=>⟨fun _ _ _ r h=>by simp [spec_weCount.f] at h,fun _ _ _ _ _ _ _ r h=>by simp [spec_weCount.l0] at h⟩
 | k + 1=>by
  obtain ⟨ih0,ih1⟩:=spec_weCount.mono_l k;refine ⟨?_,?_⟩
  ·intro y0 y1 y2;unfold spec_weCount.f
   repeat' with_reducible first|exact ih0 _ _ _|exact ih1 _ _ _ _ _ _ _|exact spec_deComplete.mono _ _ _|exact spec_voList.mono _ _|exact LeO.refl _|exact LeO.none _|refine LeO.ite ?_ ?_|refine LeO.bind ?_ (fun _=>?_)
  ·intro y0 y1 y2 y3 y4 y5 y6;unfold spec_weCount.l0
   repeat' with_reducible first|exact ih0 _ _ _|exact ih1 _ _ _ _ _ _ _|exact spec_deComplete.mono _ _ _|exact spec_voList.mono _ _|exact LeO.refl _|exact LeO.none _|refine LeO.ite ?_ ?_|refine LeO.bind ?_ (fun _=>?_)
theorem spec_weCount.mono:∀ a0 a1 a2 k,LeO (spec_weCount.f k a0 a1 a2) (spec_weCount.f (k + 1) a0 a1 a2):=by
 intro a0 a1 a2 k;obtain ⟨ih0,ih1⟩:=spec_weCount.mono_l k;exact ih0 a0 a1 a2
set_option maxHeartbeats 8000000 in
set_option maxRecDepth 100000 in
theorem spec_weCount.calls (k:Nat):∀ (P0_:Nat → Prop) (u9000_:Value) (l0:List Bool) (a1:Int) (a2:Int) (r1:Int) (r2:List Bool) (w0 w:World) (hB:Below w0.heap.size w0 w) (ho0:Kd.R Kd.bool 4 w w0.heap.size P0_ u9000_ l0) (h:spec_weCount.f k l0 a1 a2 = some (r1,r2)),
  Calls Try.prog 55 #[u9000_,.int .i64 a1,.int .i64 a2] w fun e w'=>e = .returned (.int .i64 r1) ∧ Kd.R Kd.bool 4 w' w0.heap.size (fun k_=>(P0_ k_ ∨ w.heap.size ≤ k_)) u9000_ r2 ∧ Below w0.heap.size w0 w' ∧ Kept w w' (fun k_=>P0_ k_):=by
 induction k using Nat.strongRecOn with
 | _ k ih =>
 intro P0_ u9000_ l0 a1 a2 r1 r2 w0 w hB ho0 h
 cases k with
 | zero=>exact absurd h (by simp [spec_weCount.f])
 | succ k =>
 simp only [spec_weCount.f] at h;have HO0:=aM (show Kd.R Kd.bool 4 w w0.heap.size (fun k_=>(P0_ k_ ∨ w.heap.size ≤ k_)) u9000_ l0 from Kd.R_mono ho0 (fun k_ hk=>(.inl hk)));have HK:=aM (Kept.refl w (fun k_=>P0_ k_));have HW0:=aM hB.size;have HB:=aM hB;clear hB;have H:(if a1 = (l0.length:Int) then (if 0 ≤ (wrap64 (a1 - 1)) then (if (wrap64 (a1 - 1)) < (l0.length:Int) then (if (rdOf false l0 (wrap64 (a1 - 1)) = true) then (if 0 < (l0.length:Int) then (if rdOf false l0 0 = true then (some (0,l0)) else ((spec_deComplete.f k l0 a2).bind fun t462=>(if t462 = true then (some (1,l0)) else (some (0,l0))))) else (none)) else (some (0,l0))) else (none)) else (none)) else ((spec_voList.f k a1).bind fun t463=>(spec_weCount.l0 k l0 a1 a2 false t463 (t463.length:Int) 0))) = some (r1,r2):=h;clear h;by_cases c4:a1 = (l0.length:Int)
 ·rw [if_pos c4] at H;have c4b0:(a1 == (l0.length:Int)) = true:=beq_iff_eq.mpr c4;have c4b1:(a1 != (l0.length:Int)) = false:=bne_eq_false_iff_eq.mpr c4;clear c4;obtain ⟨ji5,hji5⟩:∃ j_:Int,(wrap64 (a1 - 1)) = j_:=⟨_,rfl⟩;replace H:(if 0 ≤ (ji5) then (if (ji5) < (l0.length:Int) then (if (rdOf false l0 (ji5) = true) then (if 0 < (l0.length:Int) then (if rdOf false l0 0 = true then (some (0,l0)) else ((spec_deComplete.f k l0 a2).bind fun t462=>(if t462 = true then (some (1,l0)) else (some (0,l0))))) else (none)) else (some (0,l0))) else (none)) else (none)) = some (r1,r2):=by first|(rw [hji5] at H;exact H)|(simp only [hji5] at H ⊢;exact H)
  have hji5w:(IntKind.i64.wrap (a1 - 1)) = ji5:=(i64_w _).trans hji5;by_cases c6:0 ≤ (ji5)
  ·rw [if_pos c6] at H;have c6b0:decide (0 ≤ (ji5)) = true:=decide_eq_true c6;clear c6;by_cases c7:(ji5) < (l0.length:Int)
   ·rw [if_pos c7] at H;have c7b0:decide ((ji5) < (l0.length:Int)) = true:=decide_eq_true c7;clear c7;obtain ⟨bq8,hbq8⟩:∃ b_:Bool,b_ = (rdOf false l0 (ji5)):=⟨_,rfl⟩;replace H:(if (bq8 = true) then (if 0 < (l0.length:Int) then (if rdOf false l0 0 = true then (some (0,l0)) else ((spec_deComplete.f k l0 a2).bind fun t462=>(if t462 = true then (some (1,l0)) else (some (0,l0))))) else (none)) else (some (0,l0))) = some (r1,r2):=by rw [← hbq8] at H;exact H
    have Nbq8:=aM hbq8;clear hbq8;by_cases c9:(bq8 = true)
    ·subst c9;have H1:(if 0 < (l0.length:Int) then (if rdOf false l0 0 = true then (some (0,l0)) else ((spec_deComplete.f k l0 a2).bind fun t462=>(if t462 = true then (some (1,l0)) else (some (0,l0))))) else (none)) = some (r1,r2):=by rw [if_pos rfl] at H;exact H
     clear H;have H:=H1;clear H1;by_cases c10:0 < (l0.length:Int)
     ·rw [if_pos c10] at H;have c10b0:decide (0 < (l0.length:Int)) = true:=decide_eq_true c10;have c10b1:decide (0 < l0.length) = true:=decide_eq_true (by omega);clear c10;obtain ⟨bq11,hbq11⟩:∃ b_:Bool,b_ = (rdOf false l0 0):=⟨_,rfl⟩;replace H:(if bq11 = true then (some (0,l0)) else ((spec_deComplete.f k l0 a2).bind fun t462=>(if t462 = true then (some (1,l0)) else (some (0,l0))))) = some (r1,r2):=by rw [← hbq11] at H;exact H
      have Nbq11:=aM hbq11;clear hbq11;by_cases c12:bq11 = true
      ·subst c12;have H1:(some (0,l0)) = some (r1,r2):=by rw [if_pos rfl] at H;exact H
       clear H;have H:=H1;clear H1;simp only [Option.some.injEq,Prod.mk.injEq] at H;obtain ⟨rfl,rfl⟩:=H;obtain ⟨Ao13,co13,eo13⟩:=Kd.R_slice HO0.out;subst eo13;have p460:0 ≤ ((ji5):Int):=of_decide_eq_true ab;have q460:(ji5) < (l0.length:Int):=of_decide_eq_true ab;obtain ⟨ad460,e460,hx460_0⟩:=Kd.at_bool (Kd.R_reads' HO0.out).2.2 (ji5) p460 q460;(try rw [← Nbq8.out] at hx460_0)
       (try rw [← Nbq11.out] at hx460_0)
       cases e460
       replace p460:=eq_true p460;replace q460:=eq_true q460;have p461:0 ≤ (0:Int):=(by omega);have q461:0 < (l0.length:Int):=of_decide_eq_true ab;obtain ⟨ad461,e461,hx461_0⟩:=Kd.at_bool (Kd.R_reads' HO0.out).2.2 0 p461 q461;(try rw [← Nbq8.out] at hx461_0)
       (try rw [← Nbq11.out] at hx461_0)
       obtain rfl:ad460 = ad461:=(by injection e461);have qi461:(0 < l0.length) = True:=eq_true (by omega);(try rw [show ((0:Int)).toNat = 0 from rfl] at hx461_0)
       (try rw [Addr.add_zero'] at hx461_0)
       replace p461:=eq_true p461;replace q461:=eq_true q461;go_enter Try.func55,Try.ntmps55;go_wp2
       go_ret
       exact ⟨by first|rfl|(simp [errW_none,errW_some] <;> rfl)|(simp only [← hji5];first|rfl|(simp [errW_none,errW_some] <;> rfl))|(simp [*,errW_none,errW_some] <;> rfl),by (with_reducible repeat (first|apply Kd.R_alloc|apply Kd.R_drewN|apply Kd.R_drew));exact HO0.out,by exact bw,by repeat (first|(with_reducible first|exact HK.out|apply Kept.alloc|apply Kept.drewN|apply Kept.drew)|exact HK.out)⟩
      ·replace c12:=Bool.eq_false_iff.mpr c12;subst c12;have H1:((spec_deComplete.f k l0 a2).bind fun t462=>(if t462 = true then (some (1,l0)) else (some (0,l0)))) = some (r1,r2):=by rw [if_neg (show ¬ (false = true) by decide)] at H;exact H
       clear H;have H:=H1;clear H1;replace H:=Option.bind_eq_some_iff.mp H;obtain ⟨t462,A140,H⟩:=H;replace H:(if t462 = true then (some (1,l0)) else (some (0,l0))) = some (r1,r2):=H;have A14:=aM A140;clear A140;by_cases c15:t462 = true
       ·subst c15;have H1:(some (1,l0)) = some (r1,r2):=by rw [if_pos rfl] at H;exact H
        clear H;have H:=H1;clear H1;simp only [Option.some.injEq,Prod.mk.injEq] at H;obtain ⟨rfl,rfl⟩:=H;obtain ⟨Ao16,co16,eo16⟩:=Kd.R_slice HO0.out;subst eo16;have p460:0 ≤ ((ji5):Int):=of_decide_eq_true ab;have q460:(ji5) < (l0.length:Int):=of_decide_eq_true ab;obtain ⟨ad460,e460,hx460_0⟩:=Kd.at_bool (Kd.R_reads' HO0.out).2.2 (ji5) p460 q460;(try rw [← Nbq8.out] at hx460_0)
        (try rw [← Nbq11.out] at hx460_0)
        cases e460
        replace p460:=eq_true p460;replace q460:=eq_true q460;have p461:0 ≤ (0:Int):=(by omega);have q461:0 < (l0.length:Int):=of_decide_eq_true ab;obtain ⟨ad461,e461,hx461_0⟩:=Kd.at_bool (Kd.R_reads' HO0.out).2.2 0 p461 q461;(try rw [← Nbq8.out] at hx461_0)
        (try rw [← Nbq11.out] at hx461_0)
        obtain rfl:ad460 = ad461:=(by injection e461);have qi461:(0 < l0.length) = True:=eq_true (by omega);(try rw [show ((0:Int)).toNat = 0 from rfl] at hx461_0)
        (try rw [Addr.add_zero'] at hx461_0)
        replace p461:=eq_true p461;replace q461:=eq_true q461;go_enter Try.func55,Try.ntmps55;go_wp2_with (first|(go_at_call 60;(with_reducible refine (spec_deComplete.calls k _ _ l0 a2 true _ ?side1 ?side2 A14.out).mono ?_);(case side1=>repeat (first|exact (Kd.R_reads' HO0.out).2.2|(with_reducible refine Kd.C_alloc ?_ _)|(with_reducible refine Kd.C_drewN ?_ _)|(with_reducible refine Kd.C_drew ?_)));(case side2=>exact (Kd.R_reads' HO0.out).2.1);rintro e w' ⟨rfl,⟨nd,rfl⟩⟩))
        go_ret
        exact ⟨by first|rfl|(simp [errW_none,errW_some] <;> rfl)|(simp only [← hji5];first|rfl|(simp [errW_none,errW_some] <;> rfl))|(simp [*,errW_none,errW_some] <;> rfl),by (with_reducible repeat (first|apply Kd.R_alloc|apply Kd.R_drewN|apply Kd.R_drew));exact HO0.out,by exact bw,by repeat (first|(with_reducible first|exact HK.out|apply Kept.alloc|apply Kept.drewN|apply Kept.drew)|exact HK.out)⟩
       ·replace c15:=Bool.eq_false_iff.mpr c15;subst c15;have H1:(some (0,l0)) = some (r1,r2):=by rw [if_neg (show ¬ (false = true) by decide)] at H;exact H
        clear H;have H:=H1;clear H1;simp only [Option.some.injEq,Prod.mk.injEq] at H;obtain ⟨rfl,rfl⟩:=H;obtain ⟨Ao17,co17,eo17⟩:=Kd.R_slice HO0.out;subst eo17;have p460:0 ≤ ((ji5):Int):=of_decide_eq_true ab;have q460:(ji5) < (l0.length:Int):=of_decide_eq_true ab;obtain ⟨ad460,e460,hx460_0⟩:=Kd.at_bool (Kd.R_reads' HO0.out).2.2 (ji5) p460 q460;(try rw [← Nbq8.out] at hx460_0)
        (try rw [← Nbq11.out] at hx460_0)
        cases e460
        replace p460:=eq_true p460;replace q460:=eq_true q460;have p461:0 ≤ (0:Int):=(by omega);have q461:0 < (l0.length:Int):=of_decide_eq_true ab;obtain ⟨ad461,e461,hx461_0⟩:=Kd.at_bool (Kd.R_reads' HO0.out).2.2 0 p461 q461;(try rw [← Nbq8.out] at hx461_0)
        (try rw [← Nbq11.out] at hx461_0)
        obtain rfl:ad460 = ad461:=(by injection e461);have qi461:(0 < l0.length) = True:=eq_true (by omega);(try rw [show ((0:Int)).toNat = 0 from rfl] at hx461_0)
        (try rw [Addr.add_zero'] at hx461_0)
        replace p461:=eq_true p461;replace q461:=eq_true q461;go_enter Try.func55,Try.ntmps55;go_wp2_with (first|(go_at_call 60;(with_reducible refine (spec_deComplete.calls k _ _ l0 a2 false _ ?side1 ?side2 A14.out).mono ?_);(case side1=>repeat (first|exact (Kd.R_reads' HO0.out).2.2|(with_reducible refine Kd.C_alloc ?_ _)|(with_reducible refine Kd.C_drewN ?_ _)|(with_reducible refine Kd.C_drew ?_)));(case side2=>exact (Kd.R_reads' HO0.out).2.1);rintro e w' ⟨rfl,⟨nd,rfl⟩⟩))
        go_ret
        exact ⟨by first|rfl|(simp [errW_none,errW_some] <;> rfl)|(simp only [← hji5];first|rfl|(simp [errW_none,errW_some] <;> rfl))|(simp [*,errW_none,errW_some] <;> rfl),by (with_reducible repeat (first|apply Kd.R_alloc|apply Kd.R_drewN|apply Kd.R_drew));exact HO0.out,by exact bw,by repeat (first|(with_reducible first|exact HK.out|apply Kept.alloc|apply Kept.drewN|apply Kept.drew)|exact HK.out)⟩
     ·rw [if_neg c10] at H;exact absurd H (by simp)
    ·replace c9:=Bool.eq_false_iff.mpr c9;subst c9;have H1:(some (0,l0)) = some (r1,r2):=by rw [if_neg (show ¬ (false = true) by decide)] at H;exact H
     clear H;have H:=H1;clear H1;simp only [Option.some.injEq,Prod.mk.injEq] at H;obtain ⟨rfl,rfl⟩:=H;obtain ⟨Ao18,co18,eo18⟩:=Kd.R_slice HO0.out;subst eo18;have p460:0 ≤ ((ji5):Int):=of_decide_eq_true ab;have q460:(ji5) < (l0.length:Int):=of_decide_eq_true ab;obtain ⟨ad460,e460,hx460_0⟩:=Kd.at_bool (Kd.R_reads' HO0.out).2.2 (ji5) p460 q460;(try rw [← Nbq8.out] at hx460_0)
     cases e460
     replace p460:=eq_true p460;replace q460:=eq_true q460;go_enter Try.func55,Try.ntmps55;go_wp2
     go_ret
     exact ⟨by first|rfl|(simp [errW_none,errW_some] <;> rfl)|(simp only [← hji5];first|rfl|(simp [errW_none,errW_some] <;> rfl))|(simp [*,errW_none,errW_some] <;> rfl),by (with_reducible repeat (first|apply Kd.R_alloc|apply Kd.R_drewN|apply Kd.R_drew));exact HO0.out,by exact bw,by repeat (first|(with_reducible first|exact HK.out|apply Kept.alloc|apply Kept.drewN|apply Kept.drew)|exact HK.out)⟩
   ·rw [if_neg c7] at H;exact absurd H (by simp)
  ·rw [if_neg c6] at H;exact absurd H (by simp)
 ·rw [if_neg c4] at H;have c4b0:(a1 == (l0.length:Int)) = false:=beq_eq_false_iff_ne.mpr c4;have c4b1:(a1 != (l0.length:Int)) = true:=bne_iff_ne.mpr c4;replace H:=Option.bind_eq_some_iff.mp H;obtain ⟨t463,A190,H⟩:=H;replace H:(spec_weCount.l0 k l0 a1 a2 false t463 (t463.length:Int) 0) = some (r1,r2):=H;have A19:=aM A190;clear A190;have H':=aM H;clear H;obtain ⟨Ao20,co20,eo20⟩:=Kd.R_slice HO0.out;subst eo20;go_enter Try.func55,Try.ntmps55;go_wp2_with (first|((with_reducible refine gate_callee (f:=65) rfl ?_);refine goesL_ (some 33) rfl rfl Try.func65 kR rfl #[.int .i64 a1] rfl mq ?_;(with_reducible refine (spec_voList.calls k a1 t463 _ A19.out).mono ?_);rintro e w21 ⟨v464,rfl,ho0,hb⟩;refine ⟨_,rfl,?_⟩;have n0_:=aM (Kd.R_below (qra HO0.out) hb);have n1_:=aM (Kd.R_lower (Kd.R_newM (M:=fun k_=>(P0_ k_ ∨ w.heap.size ≤ k_)) ho0 (by first|exact HK.out.1|exact (show Kept w _ (fun k_=>P0_ k_) from by repeat (first|(with_reducible first|exact HK.out|apply Kept.alloc|apply Kept.drewN|apply Kept.drew)|exact HK.out)).1) (fun k_ h_=>.inr h_)) (below_size bw));have n2_:=aM (Kept.below (S:=(fun k_=>P0_ k_)) (by repeat (first|(with_reducible first|exact HK.out|apply Kept.alloc|apply Kept.drewN|apply Kept.drew)|exact HK.out)) hb);have n3_:=aM (below_step bw hb);clear HO0;clear HK;clear HB;have HO0:=n0_;have HO465:=n1_;have HK:=n2_;have HB:=n3_;clear n0_ n1_ n2_ n3_;(try clear hb);(try clear hb2);(try clear hk);(try clear hi);(try clear ho0);obtain ⟨Ao22,co22,eo22⟩:=Kd.R_slice HO465.out;subst eo22))
  go_loopg [7,35] k (fun kq v7 v35 w'=>∃ (x7_1:Bool) (x35_1:Int),v7 = .bool x7_1 ∧ v35 = .int .i64 x35_1 ∧ Aside0 (spec_weCount.l0 kq l0 a1 a2 x7_1 t463 (t463.length:Int) x35_1 = some (r1,r2)) ∧ Aside0 (kq ≤ k) ∧ Aside0 (Kd.R Kd.bool 4 w' w0.heap.size (fun k_=>(P0_ k_ ∨ w.heap.size ≤ k_)) (.slice Ao20 l0.length co20) l0) ∧ Aside0 (Kd.R (Kd.int .i64) 3 w' w0.heap.size (fun k_=>(P0_ k_ ∨ w.heap.size ≤ k_)) (.slice Ao22 t463.length co22) t463) ∧ Aside0 (Kept w w' (fun k_=>P0_ k_)) ∧ Aside0 (Below w0.heap.size w0 w'))
  case atStart=>exact ⟨(false),(0),qrs,qrs,H',⟨Nat.le_refl _⟩,⟨qra HO0.out⟩,⟨by (with_reducible repeat (first|apply Kd.R_alloc|apply Kd.R_drewN|apply Kd.R_drew));exact Kd.R_mono HO465.out (fun _ hk=>hk.1)⟩,⟨by repeat (first|(with_reducible first|exact HK.out|apply Kept.alloc|apply Kept.drewN|apply Kept.drew)|exact HK.out)⟩,⟨by exact bw⟩⟩
  case round =>
   clear H';(try clear c1);(try clear q1);(try clear p2);(try clear c4);(try clear c4b0);(try clear c4b1);(try clear p4);(try clear q4);(try clear hx4);(try clear qi4);(try clear c5);(try clear c6);(try clear c6b0);(try clear p6);(try clear c7);(try clear c7b0);(try clear q8);(try clear c9);(try clear c10);(try clear c10b0);(try clear c10b1);(try clear q11);(try clear c12);(try clear c15);(try clear hx460_0);(try clear hx461_0);(try clear p460);(try clear p461);(try clear q460);(try clear q461)
   obtain ⟨x7_1,x35_1,rfl,rfl,HA,HK1,HO_0,HO_33,HK,HB⟩:=hrel
   cases gk with
   | zero=>exact absurd HA.out (by simp [spec_weCount.l0])
   | succ k1 =>
    have H:=HA.out;clear HA;simp only [spec_weCount.l0] at H;by_cases c23:x35_1 < (t463.length:Int)
    ·rw [if_pos c23] at H;have c23b0:decide (x35_1 < (t463.length:Int)) = true:=decide_eq_true c23;clear c23;by_cases c24:0 ≤ x35_1
     ·rw [if_pos c24] at H;have c24b0:decide (0 ≤ x35_1) = true:=decide_eq_true c24;clear c24;by_cases c25:x35_1 < (t463.length:Int)
      ·rw [if_pos c25] at H;have c25b0:decide (x35_1 < (t463.length:Int)) = true:=decide_eq_true c25;clear c25;by_cases c26:x7_1 = true
       ·subst c26;have H1:(spec_weCount.l0 k1 l0 a1 a2 true t463 (t463.length:Int) (wrap64 (x35_1 + 1))) = some (r1,r2):=by rw [if_pos rfl] at H;exact H
        clear H;have H:=H1;clear H1;have H':=aM H;clear H;have p466:0 ≤ (x35_1:Int):=of_decide_eq_true ab;have q466:x35_1 < (t463.length:Int):=of_decide_eq_true ab;obtain ⟨ad466,e466,hx466_0⟩:=Kd.at_int (Kd.R_reads' HO_33.out).2.2 x35_1 p466 q466;cases e466
        replace p466:=eq_true p466;replace q466:=eq_true q466;go_wp2
        go_roundg k1
        case measure=>have:=HK1.out;omega
        case rel=>exact ⟨(true),(wrap64 (x35_1 + 1)),qrs,qrs,H',⟨by have:=HK1.out;omega⟩,⟨qra HO_0.out⟩,⟨qra HO_33.out⟩,⟨by repeat (first|(with_reducible first|exact HK.out|apply Kept.alloc|apply Kept.drewN|apply Kept.drew)|exact HK.out)⟩,⟨by exact bw⟩⟩
       ·replace c26:=Bool.eq_false_iff.mpr c26;subst c26;have H1:(if 0 ≤ (rd t463 x35_1) then (if 0 ≤ (wrap64 (a1 - (shl .i64 1 (rd t463 x35_1)))) then (if (wrap64 (a1 - (shl .i64 1 (rd t463 x35_1)))) < (l0.length:Int) then (spec_weCount.l0 k1 l0 a1 a2 (rdOf false l0 (wrap64 (a1 - (shl .i64 1 (rd t463 x35_1))))) t463 (t463.length:Int) (wrap64 (x35_1 + 1))) else (none)) else (none)) else (none)) = some (r1,r2):=by rw [if_neg (show ¬ (false = true) by decide)] at H;exact H
        clear H;have H:=H1;clear H1;by_cases c27:0 ≤ (rd t463 x35_1)
        ·rw [if_pos c27] at H;have c27b0:=eq_true c27;have c27b1:decide (0 ≤ (rd t463 x35_1)) = true:=decide_eq_true c27;clear c27;obtain ⟨ji28,hji28⟩:∃ j_:Int,(shl .i64 1 (rd t463 x35_1)) = j_:=⟨_,rfl⟩;replace H:(if 0 ≤ (wrap64 (a1 - (ji28))) then (if (wrap64 (a1 - (ji28))) < (l0.length:Int) then (spec_weCount.l0 k1 l0 a1 a2 (rdOf false l0 (wrap64 (a1 - (ji28)))) t463 (t463.length:Int) (wrap64 (x35_1 + 1))) else (none)) else (none)) = some (r1,r2):=by first|(rw [hji28] at H;exact H)|(simp only [hji28] at H ⊢;exact H)
         have hji28_:(IntKind.i64.wrap (1 * 2 ^ min (rd t463 x35_1).toNat 64)) = ji28:=hji28;have hji28z:(rd t463 x35_1) ≤ 64 → (IntKind.i64.wrap (1 * 2 ^ (rd t463 x35_1).toNat)) = ji28:=shl_small hji28;have hji28u:(IntKind.i64.wrap (2 ^ min (rd t463 x35_1).toNat 64)) = ji28:=by have h_:=hji28_;rw [Int.one_mul] at h_;exact h_
         have hji28v:(rd t463 x35_1) ≤ 64 → (IntKind.i64.wrap (2 ^ (rd t463 x35_1).toNat)) = ji28:=fun hle_=>by have h_:=hji28z hle_;rw [Int.one_mul] at h_;exact h_
         have hji28y:(wrap64 (1 * 2 ^ min (rd t463 x35_1).toNat 64)) = ji28:=(i64_w _).symm.trans hji28_;have hji28x:(rd t463 x35_1) ≤ 64 → (wrap64 (1 * 2 ^ (rd t463 x35_1).toNat)) = ji28:=fun h_=>(i64_w _).symm.trans (hji28z h_)
         obtain ⟨ji29,hji29⟩:∃ j_:Int,(wrap64 (a1 - (ji28))) = j_:=⟨_,rfl⟩;replace H:(if 0 ≤ (ji29) then (if (ji29) < (l0.length:Int) then (spec_weCount.l0 k1 l0 a1 a2 (rdOf false l0 (ji29)) t463 (t463.length:Int) (wrap64 (x35_1 + 1))) else (none)) else (none)) = some (r1,r2):=by first|(rw [hji29] at H;exact H)|(simp only [hji29] at H ⊢;exact H)
         have hji29w:(IntKind.i64.wrap (a1 - (ji28))) = ji29:=(i64_w _).trans hji29;by_cases c30:0 ≤ (ji29)
         ·rw [if_pos c30] at H;have c30b0:decide (0 ≤ (ji29)) = true:=decide_eq_true c30;clear c30;by_cases c31:(ji29) < (l0.length:Int)
          ·rw [if_pos c31] at H;have c31b0:decide ((ji29) < (l0.length:Int)) = true:=decide_eq_true c31;clear c31;have H':=aM H;clear H;have p466:0 ≤ (x35_1:Int):=of_decide_eq_true ab;have q466:x35_1 < (t463.length:Int):=of_decide_eq_true ab;obtain ⟨ad466,e466,hx466_0⟩:=Kd.at_int (Kd.R_reads' HO_33.out).2.2 x35_1 p466 q466;cases e466
           replace p466:=eq_true p466;replace q466:=eq_true q466;have p467:0 ≤ ((ji29):Int):=of_decide_eq_true ab;have q467:(ji29) < (l0.length:Int):=of_decide_eq_true ab;obtain ⟨ad467,e467,hx467_0⟩:=Kd.at_bool (Kd.R_reads' HO_0.out).2.2 (ji29) p467 q467;cases e467
           replace p467:=eq_true p467;replace q467:=eq_true q467;go_wp2
           go_roundg k1
           case measure=>have:=HK1.out;omega
           case rel=>exact ⟨(rdOf false l0 (ji29)),(wrap64 (x35_1 + 1)),(by first|rfl|(simp;done)|(simp only [← hji29] <;> (first|rfl|simp))|(simp [*];done)),qrs,H',⟨by have:=HK1.out;omega⟩,⟨qra HO_0.out⟩,⟨qra HO_33.out⟩,⟨by repeat (first|(with_reducible first|exact HK.out|apply Kept.alloc|apply Kept.drewN|apply Kept.drew)|exact HK.out)⟩,⟨by exact bw⟩⟩
          ·rw [if_neg c31] at H;exact absurd H (by simp)
         ·rw [if_neg c30] at H;exact absurd H (by simp)
        ·rw [if_neg c27] at H;exact absurd H (by simp)
      ·rw [if_neg c25] at H;exact absurd H (by simp)
     ·rw [if_neg c24] at H;exact absurd H (by simp)
    ·rw [if_neg c23] at H;have c23b0:decide (x35_1 < (t463.length:Int)) = false:=decide_eq_false c23;clear c23;by_cases c32:0 ≤ a1
     ·rw [if_pos c32] at H;have c32b0:decide (0 ≤ a1) = true:=decide_eq_true c32;clear c32;by_cases c33:a1 < (l0.length:Int)
      ·rw [if_pos c33] at H;have c33b0:decide (a1 < (l0.length:Int)) = true:=decide_eq_true c33;clear c33;obtain ⟨y468,hy468⟩:∃ y_:List Bool,y_ = (l0.set (a1:Int).toNat true):=⟨_,rfl⟩;replace H:((spec_weCount.f k1 y468 (wrap64 (a1 + 1)) a2).bind fun bt469=>(if x7_1 = true then (some (bt469.1,bt469.2)) else ((spec_weCount.f k1 (bt469.2.set (a1:Int).toNat false) (wrap64 (a1 + 1)) a2).bind fun bt472=>(some (wrap64 (bt469.1 + bt472.1),bt472.2))))) = some (r1,r2):=by first|(rw [hy468];with_reducible exact H)|(have H2_:=(Option.bind_some _ _).symm.trans H;rw [hy468];with_reducible exact H2_)|(have H2_:=(Option.bind_some _ _).symm.trans H;with_reducible exact H2_)|with_reducible exact H|(rw [hy468];exact H)|exact H
       have Ny468:=aM hy468;clear hy468;replace H:=Option.bind_eq_some_iff.mp H;obtain ⟨⟨t469,t470⟩,A350,H⟩:=H;replace H:(if x7_1 = true then (some (t469,t470)) else ((spec_weCount.f k1 (t470.set (a1:Int).toNat false) (wrap64 (a1 + 1)) a2).bind fun bt472=>(some (wrap64 (t469 + bt472.1),bt472.2)))) = some (r1,r2):=H;have A35:=aM A350;clear A350;by_cases c36:x7_1 = true
       ·subst c36;have H1:(some (t469,t470)) = some (r1,r2):=by rw [if_pos rfl] at H;exact H
        clear H;have H:=H1;clear H1;simp only [Option.some.injEq,Prod.mk.injEq] at H;obtain ⟨rfl,rfl⟩:=H;have p34:0 ≤ (a1:Int):=of_decide_eq_true ab;have q34:(a1:Int) < ((l0.length:Int):Int):=of_decide_eq_true ab;obtain ⟨go34,co34,eo34,gb34,gl34,cl34,HG34⟩:=Kd.R_form HO_0.out (by omega);(first|cases eo34|(injection eo34 with ea_ en_ ec_;(first|subst ea_|(injection ea_ with ea_;subst ea_));subst ec_;clear en_))
        have GB34:=aM gb34;have GG34:=aM HG34;clear gb34 gl34 HG34;have HMgo34:=aM (show (P0_ go34 ∨ w.heap.size ≤ go34) from (HO_0.out.1 _ rfl));obtain ⟨hx34_0,hf34_0⟩:=Kd.R_celln false HO_0.out (a1:Int) p34 q34;replace p34:=eq_true p34;replace q34:=eq_true q34;have HP37:=Kd.R_putg HO_0.out (a1:Int) true;go_wp2_with (first|((with_reducible refine gate_store (t:=4) (p:=52) rfl ?_);refine store_event (t:=4) (p:=52) (v:=?vo_w38) (w1:=(wr.setCell ⟨go34,(a1:Int).toNat,none⟩ (.bool true))) ?hg ?ho ?hn ?hr ?_;(case ho=>rfl);(case hg=>rfl);(case hn=>rfl);(case hr=>first|(go_simp;done)|(go_simp;rfl));intro w38 hw;have hg:wr.grownBy w38 (some go34):=(by rw [hw];exact HP37.2);have hp_:Kd.R Kd.bool 4 w38 w0.heap.size (fun k_=>(P0_ k_ ∨ w.heap.size ≤ k_)) (.slice (some ⟨go34,0,none⟩) l0.length co20) y468:=(by rw [hw,Ny468.out];exact HP37.1);clear HP37;have n0_:=aM (hp_);have n1_:=aM (Kd.R_over' (v:=(.slice (some ⟨go34,0,none⟩) l0.length co20)) (qra HO_33.out) (Kd.R_typed HO_0.out) (by decide) hg);have n2_:=aM ((by rw [hw];exact below_set (HB.out) GB34.out:Below w0.heap.size w0 w38));have n3_:=aM (Kept.of_grown (S:=(fun k_=>P0_ k_)) hg (by repeat (first|(with_reducible first|exact HK.out|apply Kept.alloc|apply Kept.drewN|apply Kept.drew)|exact HK.out)) (fun k_ e_=>(HO_0.out.1 k_ e_)));clear HO_0;clear HO_33;clear HB;clear HK;have HO_0:=n0_;have HO_33:=n1_;have HB:=n2_;have HK:=n3_;clear n0_ n1_ n2_ n3_;clear hg hw hp_)|((with_reducible refine gate_callee (f:=55) rfl ?_);refine goesL_ (some 57) rfl rfl Try.func55 kR rfl #[.slice (some ⟨go34,0,none⟩) l0.length co20,.int .i64 (wrap64 (a1 + 1)),.int .i64 a2] rfl mq ?_;(with_reducible refine (ih k1 (by have:=HK1.out;omega) (fun k_=>some k_ = (.slice (some ⟨go34,0,none⟩) l0.length co20:Value).ownBlock) (.slice (some ⟨go34,0,none⟩) l0.length co20) y468 (wrap64 (a1 + 1)) a2 t469 t470 w0 _ ?side1 ?side2 A35.out).mono ?_);(case side1=>exact bw);(case side2=>exact Kd.R_tight rfl HO_0.out);rintro e w39 ⟨rfl,hy0,hb,hkp⟩;refine ⟨_,rfl,?_⟩;have n0_:=aM (Kd.R_reok rfl hy0 (fun k_ e_=>HO_0.out.1 k_ e_));have n1_:=aM (Kd.R_mono (ok':=fun k_=>(P0_ k_ ∨ w.heap.size ≤ k_)) (Kd.R_keptB ((Kd.R_apart' HO_33.out (Kd.R_typed HO_0.out) (by decide))) hkp (fun k_ hk_ hs_=>(hk_.2) hs_)) (fun k_ hk_=>hk_.1.1));have n2_:=aM (Kept.then_ (S:=(fun k_=>P0_ k_)) (by repeat (first|(with_reducible first|exact HK.out|apply Kept.alloc|apply Kept.drewN|apply Kept.drew)|exact HK.out)) hkp (fun k_ hs_=>(fun e_=>(HO_0.out.1 k_ e_.symm)) hs_));have n3_:=aM (hb);clear HO_0;clear HO_33;clear HK;clear HB;have HO_0:=n0_;have HO_33:=n1_;have HK:=n2_;have HB:=n3_;clear n0_ n1_ n2_ n3_;(try clear hb);(try clear hkp);(try clear hy0)))
        go_ret
        exact ⟨by first|rfl|(simp [errW_none,errW_some] <;> rfl)|(simp [*,errW_none,errW_some] <;> rfl),by (with_reducible repeat (first|apply Kd.R_alloc|apply Kd.R_drewN|apply Kd.R_drew));exact HO_0.out,by exact bw,by repeat (first|(with_reducible first|exact HK.out|apply Kept.alloc|apply Kept.drewN|apply Kept.drew)|exact HK.out)⟩
       ·replace c36:=Bool.eq_false_iff.mpr c36;subst c36;have H1:((spec_weCount.f k1 (t470.set (a1:Int).toNat false) (wrap64 (a1 + 1)) a2).bind fun bt472=>(some (wrap64 (t469 + bt472.1),bt472.2))) = some (r1,r2):=by rw [if_neg (show ¬ (false = true) by decide)] at H;exact H
        clear H;have H:=H1;clear H1;obtain ⟨y471,hy471⟩:∃ y_:List Bool,y_ = (t470.set (a1:Int).toNat false):=⟨_,rfl⟩;replace H:((spec_weCount.f k1 y471 (wrap64 (a1 + 1)) a2).bind fun bt472=>(some (wrap64 (t469 + bt472.1),bt472.2))) = some (r1,r2):=by first|(rw [hy471];with_reducible exact H)|(have H2_:=(Option.bind_some _ _).symm.trans H;rw [hy471];with_reducible exact H2_)|(have H2_:=(Option.bind_some _ _).symm.trans H;with_reducible exact H2_)|with_reducible exact H|(rw [hy471];exact H)|exact H
        have Ny471:=aM hy471;clear hy471;replace H:=Option.bind_eq_some_iff.mp H;obtain ⟨⟨t472,t473⟩,A410,H⟩:=H;replace H:(some (wrap64 (t469 + t472),t473)) = some (r1,r2):=H;have A41:=aM A410;clear A410;simp only [Option.some.injEq,Prod.mk.injEq] at H;obtain ⟨rfl,rfl⟩:=H;have p34:0 ≤ (a1:Int):=of_decide_eq_true ab;have q34:(a1:Int) < ((l0.length:Int):Int):=of_decide_eq_true ab;obtain ⟨go34,co34,eo34,gb34,gl34,cl34,HG34⟩:=Kd.R_form HO_0.out (by omega);(first|cases eo34|(injection eo34 with ea_ en_ ec_;(first|subst ea_|(injection ea_ with ea_;subst ea_));subst ec_;clear en_))
        have GB34:=aM gb34;have GG34:=aM HG34;clear gb34 gl34 HG34;have HMgo34:=aM (show (P0_ go34 ∨ w.heap.size ≤ go34) from (HO_0.out.1 _ rfl));obtain ⟨hx34_0,hf34_0⟩:=Kd.R_celln false HO_0.out (a1:Int) p34 q34;replace p34:=eq_true p34;replace q34:=eq_true q34;have HP42:=Kd.R_putg HO_0.out (a1:Int) true;go_wp2_with (first|((with_reducible refine gate_store (t:=4) (p:=52) rfl ?_);refine store_event (t:=4) (p:=52) (v:=?vo_w43) (w1:=(wr.setCell ⟨go34,(a1:Int).toNat,none⟩ (.bool true))) ?hg ?ho ?hn ?hr ?_;(case ho=>rfl);(case hg=>rfl);(case hn=>rfl);(case hr=>first|(go_simp;done)|(go_simp;rfl));intro w43 hw;have hg:wr.grownBy w43 (some go34):=(by rw [hw];exact HP42.2);have hp_:Kd.R Kd.bool 4 w43 w0.heap.size (fun k_=>(P0_ k_ ∨ w.heap.size ≤ k_)) (.slice (some ⟨go34,0,none⟩) l0.length co20) y468:=(by rw [hw,Ny468.out];exact HP42.1);clear HP42;have n0_:=aM (hp_);have n1_:=aM (Kd.R_over' (v:=(.slice (some ⟨go34,0,none⟩) l0.length co20)) (qra HO_33.out) (Kd.R_typed HO_0.out) (by decide) hg);have n2_:=aM ((by rw [hw];exact below_set (HB.out) GB34.out:Below w0.heap.size w0 w43));have n3_:=aM (Kept.of_grown (S:=(fun k_=>P0_ k_)) hg (by repeat (first|(with_reducible first|exact HK.out|apply Kept.alloc|apply Kept.drewN|apply Kept.drew)|exact HK.out)) (fun k_ e_=>(HO_0.out.1 k_ e_)));clear HO_0;clear HO_33;clear HB;clear HK;have HO_0:=n0_;have HO_33:=n1_;have HB:=n2_;have HK:=n3_;clear n0_ n1_ n2_ n3_;clear hg hw hp_)|((with_reducible refine gate_callee (f:=55) rfl ?_);refine goesL_ (some 57) rfl rfl Try.func55 kR rfl #[.slice (some ⟨go34,0,none⟩) l0.length co20,.int .i64 (wrap64 (a1 + 1)),.int .i64 a2] rfl mq ?_;(with_reducible refine (ih k1 (by have:=HK1.out;omega) (fun k_=>some k_ = (.slice (some ⟨go34,0,none⟩) l0.length co20:Value).ownBlock) (.slice (some ⟨go34,0,none⟩) l0.length co20) y468 (wrap64 (a1 + 1)) a2 t469 t470 w0 _ ?side1 ?side2 A35.out).mono ?_);(case side1=>exact bw);(case side2=>exact Kd.R_tight rfl HO_0.out);rintro e w44 ⟨rfl,hy0,hb,hkp⟩;refine ⟨_,rfl,?_⟩;have n0_:=aM (Kd.R_reok rfl hy0 (fun k_ e_=>HO_0.out.1 k_ e_));have n1_:=aM (Kd.R_mono (ok':=fun k_=>(P0_ k_ ∨ w.heap.size ≤ k_)) (Kd.R_keptB ((Kd.R_apart' HO_33.out (Kd.R_typed HO_0.out) (by decide))) hkp (fun k_ hk_ hs_=>(hk_.2) hs_)) (fun k_ hk_=>hk_.1.1));have n2_:=aM (Kept.then_ (S:=(fun k_=>P0_ k_)) (by repeat (first|(with_reducible first|exact HK.out|apply Kept.alloc|apply Kept.drewN|apply Kept.drew)|exact HK.out)) hkp (fun k_ hs_=>(fun e_=>(HO_0.out.1 k_ e_.symm)) hs_));have n3_:=aM (hb);clear HO_0;clear HO_33;clear HK;clear HB;have HO_0:=n0_;have HO_33:=n1_;have HK:=n2_;have HB:=n3_;clear n0_ n1_ n2_ n3_;(try clear hb);(try clear hkp);(try clear hy0);have p40:0 ≤ (a1:Int):=of_decide_eq_true ab;have q40:(a1:Int) < ((l0.length:Int):Int):=of_decide_eq_true ab;obtain ⟨hx40_0,hf40_0⟩:=Kd.R_celln false HO_0.out (a1:Int) p40 q40;replace p40:=eq_true p40;replace q40:=eq_true q40;obtain ⟨hy45_,hz45_⟩:=Kd.R_celln false HO_0.out (a1:Int) (of_decide_eq_true ab) (of_decide_eq_true ab);have HP45:=Kd.R_putg HO_0.out (a1:Int) false)|((with_reducible refine gate_store (t:=4) (p:=62) rfl ?_);refine store_event (t:=4) (p:=62) (v:=?vo_w46) (w1:=(w44.setCell ⟨go34,(a1:Int).toNat,none⟩ (.bool false))) ?hg ?ho ?hn ?hr ?_;(case ho=>rfl);(case hg=>rfl);(case hn=>rfl);(case hr=>first|(go_simp;done)|(go_simp;rfl));intro w46 hw;have hg:w44.grownBy w46 (some go34):=(by rw [hw];exact HP45.2);have hp_:Kd.R Kd.bool 4 w46 w0.heap.size (fun k_=>(P0_ k_ ∨ w.heap.size ≤ k_)) (.slice (some ⟨go34,0,none⟩) l0.length co20) y471:=(by rw [hw,Ny471.out];exact HP45.1);clear HP45;have n0_:=aM (hp_);have n1_:=aM (Kd.R_over' (v:=(.slice (some ⟨go34,0,none⟩) l0.length co20)) (qra HO_33.out) (Kd.R_typed HO_0.out) (by decide) hg);have n2_:=aM ((by rw [hw];exact below_set (HB.out) GB34.out:Below w0.heap.size w0 w46));have n3_:=aM (Kept.of_grown (S:=(fun k_=>P0_ k_)) hg (by repeat (first|(with_reducible first|exact HK.out|apply Kept.alloc|apply Kept.drewN|apply Kept.drew)|exact HK.out)) (fun k_ e_=>(HO_0.out.1 k_ e_)));clear HO_0;clear HO_33;clear HB;clear HK;have HO_0:=n0_;have HO_33:=n1_;have HB:=n2_;have HK:=n3_;clear n0_ n1_ n2_ n3_;clear hg hw hp_)|((with_reducible refine gate_callee (f:=55) rfl ?_);refine goesL_ (some 68) rfl rfl Try.func55 kR rfl #[.slice (some ⟨go34,0,none⟩) l0.length co20,.int .i64 (wrap64 (a1 + 1)),.int .i64 a2] rfl mq ?_;(with_reducible refine (ih k1 (by have:=HK1.out;omega) (fun k_=>some k_ = (.slice (some ⟨go34,0,none⟩) l0.length co20:Value).ownBlock) (.slice (some ⟨go34,0,none⟩) l0.length co20) y471 (wrap64 (a1 + 1)) a2 t472 t473 w0 _ ?side1 ?side2 A41.out).mono ?_);(case side1=>exact bw);(case side2=>exact Kd.R_tight rfl HO_0.out);rintro e w47 ⟨rfl,hy0,hb,hkp⟩;refine ⟨_,rfl,?_⟩;have n0_:=aM (Kd.R_reok rfl hy0 (fun k_ e_=>HO_0.out.1 k_ e_));have n1_:=aM (Kd.R_mono (ok':=fun k_=>(P0_ k_ ∨ w.heap.size ≤ k_)) (Kd.R_keptB ((Kd.R_apart' HO_33.out (Kd.R_typed HO_0.out) (by decide))) hkp (fun k_ hk_ hs_=>(hk_.2) hs_)) (fun k_ hk_=>hk_.1.1));have n2_:=aM (Kept.then_ (S:=(fun k_=>P0_ k_)) (by repeat (first|(with_reducible first|exact HK.out|apply Kept.alloc|apply Kept.drewN|apply Kept.drew)|exact HK.out)) hkp (fun k_ hs_=>(fun e_=>(HO_0.out.1 k_ e_.symm)) hs_));have n3_:=aM (hb);clear HO_0;clear HO_33;clear HK;clear HB;have HO_0:=n0_;have HO_33:=n1_;have HK:=n2_;have HB:=n3_;clear n0_ n1_ n2_ n3_;(try clear hb);(try clear hkp);(try clear hy0)))
        go_ret
        exact ⟨by first|rfl|(simp [errW_none,errW_some] <;> rfl)|(simp [*,errW_none,errW_some] <;> rfl),by (with_reducible repeat (first|apply Kd.R_alloc|apply Kd.R_drewN|apply Kd.R_drew));exact HO_0.out,by exact bw,by repeat (first|(with_reducible first|exact HK.out|apply Kept.alloc|apply Kept.drewN|apply Kept.drew)|exact HK.out)⟩
      ·rw [if_neg c33] at H;exact absurd H (by simp)
     ·rw [if_neg c32] at H;exact absurd H (by simp)


/-! ### spec_CountWeighted: function 20 -/
def spec_CountWeighted.f (k:Nat) (a0:Int):Option (Int × Bool):=(spec_l1In.f a0 1 4).bind fun t474=>(if t474 = true then (if 0 ≤ a0 then (if 0 ≤ (shl .i64 1 a0) then (if (shl .i64 1 a0:Int).toNat ≤ 281474976710656 then ((spec_weCount.f k (List.replicate (shl .i64 1 a0:Int).toNat false) 0 a0).bind fun bt478=>(some (bt478.1,true))) else (none)) else (none)) else (none)) else (some (0,false)))
theorem spec_CountWeighted.mono:∀ a0 k,LeO (spec_CountWeighted.f k a0) (spec_CountWeighted.f (k + 1) a0):=by
 intro a0 k;unfold spec_CountWeighted.f
 repeat' with_reducible first|exact spec_weCount.mono _ _ _ _|exact LeO.refl _|exact LeO.none _|refine LeO.ite ?_ ?_|refine LeO.bind ?_ (fun _=>?_)
set_option maxHeartbeats 8000000 in
set_option maxRecDepth 100000 in
theorem spec_CountWeighted.calls (k:Nat) (a0:Int) (r1:Int) (r2:Bool) (w:World) (h:spec_CountWeighted.f k a0 = some (r1,r2)) :
  Calls Try.prog 20 #[.int .i64 a0] w fun e w'=>e = .returned (.tuple #[.int .i64 r1,.bool r2]) ∧ Below w.heap.size w w':=by
 have HB:=aM (Below.refl w.heap.size w);have H:((spec_l1In.f a0 1 4).bind fun t474=>(if t474 = true then (if 0 ≤ a0 then (if 0 ≤ (shl .i64 1 a0) then (if (shl .i64 1 a0:Int).toNat ≤ 281474976710656 then ((spec_weCount.f k (List.replicate (shl .i64 1 a0:Int).toNat false) 0 a0).bind fun bt478=>(some (bt478.1,true))) else (none)) else (none)) else (none)) else (some (0,false)))) = some (r1,r2):=h;clear h;replace H:=Option.bind_eq_some_iff.mp H;obtain ⟨t474,A20,H⟩:=H;replace H:(if t474 = true then (if 0 ≤ a0 then (if 0 ≤ (shl .i64 1 a0) then (if (shl .i64 1 a0:Int).toNat ≤ 281474976710656 then ((spec_weCount.f k (List.replicate (shl .i64 1 a0:Int).toNat false) 0 a0).bind fun bt478=>(some (bt478.1,true))) else (none)) else (none)) else (none)) else (some (0,false))) = some (r1,r2):=H;have A2:=aM A20;clear A20;by_cases c3:t474 = true
 ·subst c3;have H1:(if 0 ≤ a0 then (if 0 ≤ (shl .i64 1 a0) then (if (shl .i64 1 a0:Int).toNat ≤ 281474976710656 then ((spec_weCount.f k (List.replicate (shl .i64 1 a0:Int).toNat false) 0 a0).bind fun bt478=>(some (bt478.1,true))) else (none)) else (none)) else (none)) = some (r1,r2):=by rw [if_pos rfl] at H;exact H
  clear H;have H:=H1;clear H1;by_cases c4:0 ≤ a0
  ·rw [if_pos c4] at H;have c4b0:=eq_true c4;have c4b1:decide (0 ≤ a0) = true:=decide_eq_true c4;clear c4;obtain ⟨ji5,hji5⟩:∃ j_:Int,(shl .i64 1 a0) = j_:=⟨_,rfl⟩;replace H:(if 0 ≤ (ji5) then (if (ji5:Int).toNat ≤ 281474976710656 then ((spec_weCount.f k (List.replicate (ji5:Int).toNat false) 0 a0).bind fun bt478=>(some (bt478.1,true))) else (none)) else (none)) = some (r1,r2):=by first|(rw [hji5] at H;exact H)|(simp only [hji5] at H ⊢;exact H)
   (try rw [hji5] at A2)
   have hji5_:(IntKind.i64.wrap (1 * 2 ^ min a0.toNat 64)) = ji5:=hji5;have hji5z:a0 ≤ 64 → (IntKind.i64.wrap (1 * 2 ^ a0.toNat)) = ji5:=shl_small hji5;have hji5u:(IntKind.i64.wrap (2 ^ min a0.toNat 64)) = ji5:=by have h_:=hji5_;rw [Int.one_mul] at h_;exact h_
   have hji5v:a0 ≤ 64 → (IntKind.i64.wrap (2 ^ a0.toNat)) = ji5:=fun hle_=>by have h_:=hji5z hle_;rw [Int.one_mul] at h_;exact h_
   have hji5y:(wrap64 (1 * 2 ^ min a0.toNat 64)) = ji5:=(i64_w _).symm.trans hji5_;have hji5x:a0 ≤ 64 → (wrap64 (1 * 2 ^ a0.toNat)) = ji5:=fun h_=>(i64_w _).symm.trans (hji5z h_)
   by_cases c6:0 ≤ (ji5)
   ·rw [if_pos c6] at H;have c6b0:=eq_true c6;have c6b1:decide (0 ≤ (ji5)) = true:=decide_eq_true c6;clear c6;by_cases c7:(ji5:Int).toNat ≤ 281474976710656
    ·rw [if_pos c7] at H;have c7b0:=eq_true c7;have c7b1:decide ((ji5:Int).toNat ≤ 281474976710656) = true:=decide_eq_true c7;clear c7;obtain ⟨y475,hy475⟩:∃ y_:List Bool,y_ = (List.replicate (ji5:Int).toNat false):=⟨_,rfl⟩;replace H:((spec_weCount.f k y475 0 a0).bind fun bt478=>(some (bt478.1,true))) = some (r1,r2):=by first|(rw [hy475];with_reducible exact H)|(have H2_:=(Option.bind_some _ _).symm.trans H;rw [hy475];with_reducible exact H2_)|(have H2_:=(Option.bind_some _ _).symm.trans H;with_reducible exact H2_)|with_reducible exact H|(rw [hy475];exact H)|exact H
     have Ny475:=aM hy475;clear hy475;replace H:=Option.bind_eq_some_iff.mp H;obtain ⟨⟨t478,t479⟩,A80,H⟩:=H;replace H:(some (t478,true)) = some (r1,r2):=H;have A8:=aM A80;clear A80;simp only [Option.some.injEq,Prod.mk.injEq] at H;obtain ⟨rfl,rfl⟩:=H;go_enter Try.func20,Try.ntmps20;go_wp2_with (first|((with_reducible refine gate_callee (f:=54) rfl ?_);refine goesL_ (some 5) rfl rfl Try.func54 kR rfl #[.int .i64 a0,.int .i64 1,.int .i64 4] rfl mq ?_;(with_reducible refine (spec_l1In.calls a0 1 4 true _ A2.out).mono ?_);rintro e w' ⟨rfl,⟨nd,rfl⟩⟩;refine ⟨_,rfl,?_⟩)|((with_reducible refine gate_dst (N:=9) rfl ?_);refine Kd.R_make Kd.bool _ 4 rfl (N:=9) rfl 63 _ _ rfl ji5 rfl rfl Try.underlying63 (.bool false) 1 info4 rfl (by decide) (by omega) false (ok:=fun _=>True) (okp:=fun _=>True) rfl (fun _ hk=>hk) trivial (of_decide_eq_true ab) (Nat.le_trans (Nat.mul_le_mul_right _ (of_decide_eq_true ab:ji5.toNat ≤ 281474976710656)) (by omega)) (Below.refl _ _) (Nat.le_refl _) ?_;intro v476 w9 ho10 hb hg_ hnew_;clear hg_ hnew_;(first|rw [← Ny475.out] at ho10|(simp only [Int.reduceToNat] at ho10;rw [← Ny475.out] at ho10));have n0_:=aM (Kd.R_lower ho10 (below_size bw));have n1_:=aM (below_step bw hb);clear HB;have HO477:=n0_;have HB:=n1_;clear n0_ n1_;clear hb ho10;obtain ⟨Ao11,co11,eo11⟩:=Kd.R_slice HO477.out;subst eo11)|((with_reducible refine gate_callee (f:=55) rfl ?_);refine goesL_ (some 11) rfl rfl Try.func55 kR rfl #[.slice Ao11 y475.length co11,.int .i64 0,.int .i64 a0] rfl mq ?_;(with_reducible refine (spec_weCount.calls k (fun k_=>some k_ = (.slice Ao11 y475.length co11:Value).ownBlock) (.slice Ao11 y475.length co11) y475 0 a0 t478 t479 w _ ?side1 ?side2 A8.out).mono ?_);(case side1=>exact bw);(case side2=>exact Kd.R_tight rfl HO477.out);rintro e w12 ⟨rfl,hy0,hb,hkp⟩;refine ⟨_,rfl,?_⟩;have n0_:=aM (Kd.R_reok rfl hy0 (fun k_ e_=>HO477.out.1 k_ e_));have n1_:=aM (hb);clear HO477;clear HB;have HO477:=n0_;have HB:=n1_;clear n0_ n1_;(try clear hb);(try clear hkp);(try clear hy0)))
     go_ret2
     exact ⟨by first|rfl|(simp [errW_none,errW_some] <;> rfl)|(simp only [← hji5];first|rfl|(simp [errW_none,errW_some] <;> rfl))|(simp [*,errW_none,errW_some] <;> rfl),by exact bw⟩
    ·rw [if_neg c7] at H;exact absurd H (by simp)
   ·rw [if_neg c6] at H;exact absurd H (by simp)
  ·rw [if_neg c4] at H;exact absurd H (by simp)
 ·replace c3:=Bool.eq_false_iff.mpr c3;subst c3;have H1:(some (0,false)) = some (r1,r2):=by rw [if_neg (show ¬ (false = true) by decide)] at H;exact H
  clear H;have H:=H1;clear H1;simp only [Option.some.injEq,Prod.mk.injEq] at H;obtain ⟨rfl,rfl⟩:=H;go_enter Try.func20,Try.ntmps20;go_wp2_with (first|((with_reducible refine gate_callee (f:=54) rfl ?_);refine goesL_ (some 5) rfl rfl Try.func54 kR rfl #[.int .i64 a0,.int .i64 1,.int .i64 4] rfl mq ?_;(with_reducible refine (spec_l1In.calls a0 1 4 false _ A2.out).mono ?_);rintro e w' ⟨rfl,⟨nd,rfl⟩⟩;refine ⟨_,rfl,?_⟩))
  go_ret2
  exact ⟨by first|rfl|(simp [errW_none,errW_some] <;> rfl)|(simp [*,errW_none,errW_some] <;> rfl),by exact bw⟩


/-! ### impl_within: function 69 -/
def impl_within.f (a0:Int) (a1:Int) (a2:Int):Option (Bool):=if a0 ≥ a1 then (some (decide (a0 ≤ a2))) else (some false)
set_option maxHeartbeats 8000000 in
set_option maxRecDepth 100000 in
theorem impl_within.calls (a0:Int) (a1:Int) (a2:Int) (r:Bool) (w:World) (h:impl_within.f a0 a1 a2 = some r) :
  Calls Try.prog 69 #[.int .i64 a0,.int .i64 a1,.int .i64 a2] w fun e w'=>e = .returned (.bool r) ∧ Drawn0 w w':=by
 have H:(if a0 ≥ a1 then (some (decide (a0 ≤ a2))) else (some false)) = some r:=h;clear h;by_cases c4:a0 ≥ a1
 ·rw [if_pos c4] at H;have c4b0:decide (a1 ≤ a0) = true:=decide_eq_true c4;clear c4;obtain rfl:=Option.some.inj H;go_enter Try.func69,Try.ntmps69;go_wp2
  go_ret
  exact ⟨by first|rfl|(simp;done)|(simp [*];done),by repeat (first|exact Drawn0.refl _|apply Drawn0.step)⟩
 ·rw [if_neg c4] at H;have c4b0:decide (a1 ≤ a0) = false:=decide_eq_false c4;clear c4;obtain rfl:=Option.some.inj H;go_enter Try.func69,Try.ntmps69;go_wp2
  go_ret
  exact ⟨by first|rfl|(simp;done)|(simp [*];done),by repeat (first|exact Drawn0.refl _|apply Drawn0.step)⟩


/-! ### impl_votesOf: function 71 -/
def impl_votesOf.l0:Nat → (Int → Option (Bool)) → Int → Int → Int → List Bool → Option (Int × List Bool)
 | 0,_,_,_,_,_=>none
 | k + 1,x1,x14,x15,x253000,x253001=>if x15 < x14 then ((x1 x15).bind fun t253=>(if 0 ≤ x15 then (if x15 < (x253001.length:Int) then (impl_votesOf.l0 k x1 x14 (wrap64 (x15 + 1)) x253000 (x253001.set (x15:Int).toNat t253)) else (none)) else (none))) else (some (x253000,x253001))
def impl_votesOf.f (k:Nat) (a0:Int) (a1:(Int → Option (Bool))):Option (Int × List Bool):=if 0 ≤ a0 then (if 0 ≤ (shl .i64 1 a0) then (if (shl .i64 1 a0:Int).toNat ≤ 281474976710656 then ((some (List.replicate (shl .i64 1 a0:Int).toNat false:List Bool)).bind fun y249=>(impl_votesOf.l0 k a1 (y249.length:Int) 0 a0 y249)) else (none)) else (none)) else (none)
theorem impl_votesOf.mono_l:∀ k,(∀ y0 y1 y2 y3 y4,LeO (impl_votesOf.l0 k y0 y1 y2 y3 y4) (impl_votesOf.l0 (k + 1) y0 y1 y2 y3 y4))
 | 0=>fun _ _ _ _ _ r h=>by simp [impl_votesOf.l0] at h
 | k + 1=>by
  have ih0:=impl_votesOf.mono_l k
  ·intro y0 y1 y2 y3 y4;unfold impl_votesOf.l0
   repeat' with_reducible first|exact ih0 _ _ _ _ _|exact LeO.refl _|exact LeO.none _|refine LeO.ite ?_ ?_|refine LeO.bind ?_ (fun _=>?_)
theorem impl_votesOf.mono:∀ a0 a1 k,LeO (impl_votesOf.f k a0 a1) (impl_votesOf.f (k + 1) a0 a1):=by
 intro a0 a1 k;have ih0:=impl_votesOf.mono_l k;unfold impl_votesOf.f
 repeat' with_reducible first|exact ih0 _ _ _ _ _|exact LeO.refl _|exact LeO.none _|refine LeO.ite ?_ ?_|refine LeO.bind ?_ (fun _=>?_)
theorem impl_votesOf.monop_l {p_ q_:(Int → Option (Bool))} (h_:∀ x0_,LeO (p_ x0_) (q_ x0_)):∀ k,(∀ y1 y2 y3 y4,LeO (impl_votesOf.l0 k p_ y1 y2 y3 y4) (impl_votesOf.l0 k q_ y1 y2 y3 y4))
 | 0=>fun _ _ _ _ r hz=>by simp [impl_votesOf.l0] at hz
 | k + 1=>by
  have ih0:=impl_votesOf.monop_l h_ k
  ·intro y0 y1 y2 y3;unfold impl_votesOf.l0
   repeat' with_reducible first|exact ih0 _ _ _ _|exact h_ _|exact LeO.refl _|refine LeO.ite ?_ ?_|refine LeO.bind ?_ (fun _=>?_)
theorem impl_votesOf.mono_p {p_ q_:(Int → Option (Bool))} (h_:∀ x0_,LeO (p_ x0_) (q_ x0_)):∀ a0 k,LeO (impl_votesOf.f k a0 p_) (impl_votesOf.f k a0 q_):=by
 intro a0 k;have ih0:=impl_votesOf.monop_l h_ k;unfold impl_votesOf.f
 repeat' with_reducible first|exact ih0 _ _ _ _|exact h_ _|exact LeO.refl _|refine LeO.ite ?_ ?_|refine LeO.bind ?_ (fun _=>?_)
def impl_votesOf.T5:Bool × List (List Nat × List Nat):=(true,[([],[]),([0],[0]),([],[]),([],[]),([],[]),([3,4],[3,4]),([1,2,0,1,2,3,4,5],[1,2]),([6,5,5,0,1,2,3,4,5],[5,6])])
def impl_votesOf.B5:List Nat:=[0,1,0,0,0,24,63,127]
theorem impl_votesOf.tab5:rtab .any (opsOf Try.f71 5) = impl_votesOf.T5:=by kernel_rfl
theorem impl_votesOf.bits5:waitsOk impl_votesOf.T5.2 impl_votesOf.B5 = true:=by kernel_rfl
set_option maxHeartbeats 8000000 in
set_option maxRecDepth 100000 in
theorem impl_votesOf.calls (k:Nat) (a0:Int) (a1:(Int → Option (Bool))) (g1_:Nat) (lb1_:Array Value) (eg1_:∀ (args:Array Value) (w:World),(callFunc g1_ args).run Try.prog w = .ok (.enter g1_ args) w) (r1:Int) (r2:List Bool) (w:World) (hp1:∀ (W:World) (b0_:Int) (r0_:Bool),a1 b0_ = some r0_ → Below w.heap.size w W → Calls Try.prog g1_ (#[.int .i64 b0_] ++ lb1_) W fun e w'=>e = .returned (.bool r0_) ∧ Below W.heap.size W w') (h:impl_votesOf.f k a0 a1 = some (r1,r2)) :
  Calls Try.prog 71 #[.int .i64 a0,.func (.func g1_) #[] lb1_] w fun e w'=>∃ v1_:Value,e = .returned (.agg #[.int .i64 r1,v1_]) ∧ Kd.R Kd.bool 4 w' w.heap.size (fun _=>True) v1_ r2 ∧ Below w.heap.size w w':=by
 have hu68:=Try.underlying68;have HP1:=aM hp1;clear hp1;have HB:=aM (Below.refl w.heap.size w);have H:(if 0 ≤ a0 then (if 0 ≤ (shl .i64 1 a0) then (if (shl .i64 1 a0:Int).toNat ≤ 281474976710656 then ((some (List.replicate (shl .i64 1 a0:Int).toNat false:List Bool)).bind fun y249=>(impl_votesOf.l0 k a1 (y249.length:Int) 0 a0 y249)) else (none)) else (none)) else (none)) = some (r1,r2):=h;clear h;by_cases c3:0 ≤ a0
 ·rw [if_pos c3] at H;have c3b0:=eq_true c3;have c3b1:decide (0 ≤ a0) = true:=decide_eq_true c3;clear c3;obtain ⟨ji4,hji4⟩:∃ j_:Int,(shl .i64 1 a0) = j_:=⟨_,rfl⟩;replace H:(if 0 ≤ (ji4) then (if (ji4:Int).toNat ≤ 281474976710656 then ((some (List.replicate (ji4:Int).toNat false:List Bool)).bind fun y249=>(impl_votesOf.l0 k a1 (y249.length:Int) 0 a0 y249)) else (none)) else (none)) = some (r1,r2):=by first|(rw [hji4] at H;exact H)|(simp only [hji4] at H ⊢;exact H)
  have hji4_:(IntKind.i64.wrap (1 * 2 ^ min a0.toNat 64)) = ji4:=hji4;have hji4z:a0 ≤ 64 → (IntKind.i64.wrap (1 * 2 ^ a0.toNat)) = ji4:=shl_small hji4;have hji4u:(IntKind.i64.wrap (2 ^ min a0.toNat 64)) = ji4:=by have h_:=hji4_;rw [Int.one_mul] at h_;exact h_
  have hji4v:a0 ≤ 64 → (IntKind.i64.wrap (2 ^ a0.toNat)) = ji4:=fun hle_=>by have h_:=hji4z hle_;rw [Int.one_mul] at h_;exact h_
  have hji4y:(wrap64 (1 * 2 ^ min a0.toNat 64)) = ji4:=(i64_w _).symm.trans hji4_;have hji4x:a0 ≤ 64 → (wrap64 (1 * 2 ^ a0.toNat)) = ji4:=fun h_=>(i64_w _).symm.trans (hji4z h_)
  by_cases c5:0 ≤ (ji4)
  ·rw [if_pos c5] at H;have c5b0:=eq_true c5;have c5b1:decide (0 ≤ (ji4)) = true:=decide_eq_true c5;clear c5;by_cases c6:(ji4:Int).toNat ≤ 281474976710656
   ·rw [if_pos c6] at H;have c6b0:=eq_true c6;have c6b1:decide ((ji4:Int).toNat ≤ 281474976710656) = true:=decide_eq_true c6;clear c6;obtain ⟨y249,hy249⟩:∃ y_:List Bool,y_ = (List.replicate (ji4:Int).toNat false):=⟨_,rfl⟩;replace H:(impl_votesOf.l0 k a1 (y249.length:Int) 0 a0 y249) = some (r1,r2):=by first|(rw [hy249];with_reducible exact H)|(have H2_:=(Option.bind_some _ _).symm.trans H;rw [hy249];with_reducible exact H2_)|(have H2_:=(Option.bind_some _ _).symm.trans H;with_reducible exact H2_)|with_reducible exact H|(rw [hy249];exact H)|exact H
    have Ny249:=aM hy249;clear hy249;have H':=aM H;clear H;go_enter Try.func71,Try.ntmps71;go_wp2_with (first|((with_reducible refine gate_dst (N:=4) rfl ?_);refine box_event ?hg (N:=4) ?hd (cs:=#[.int .i64 0,.slice none 0 0]) (t:=68) ?hr ?_;(case hd=>rfl);(case hg=>rfl);(case hr=>first|(go_simp;done)|(go_simp;rfl));intro gb248 hg w7 hbox hb;have n0_:=aM (below_step bw hb);have n1_:=aM (hbox);have n2_:=aM ((by rw [hg];exact (below_size bw):w.heap.size ≤ gb248));have n3_:=aM ((by rw [hg];exact (below_size bw):w.heap.size ≤ gb248));clear HB;have HB:=n0_;have BK248:=n1_;have GW248:=n2_;have GE248:=n3_;clear n0_ n1_ n2_ n3_;clear hb hbox hg)|((with_reducible refine gate_dst (N:=10) rfl ?_);refine Kd.R_make Kd.bool _ 4 rfl (N:=10) rfl 63 _ _ rfl ji4 rfl rfl Try.underlying63 (.bool false) 1 info4 rfl (by decide) (by omega) false (ok:=fun _=>True) (okp:=fun _=>True) rfl (fun _ hk=>hk) trivial (of_decide_eq_true ab) (Nat.le_trans (Nat.mul_le_mul_right _ (of_decide_eq_true ab:ji4.toNat ≤ 281474976710656)) (by omega)) (Below.refl _ _) (Nat.le_refl _) ?_;intro v250 w8 ho9 hb hg_ hnew_;clear hg_ hnew_;(first|rw [← Ny249.out] at ho9|(simp only [Int.reduceToNat] at ho9;rw [← Ny249.out] at ho9));have n0_:=aM (Kd.R_lower ho9 (below_size bw));have n1_:=aM (blk_below (g:=gb248) (o:=.cells #[.int .i64 0,.slice none 0 0] 68 (0,0)) bk hb);have n2_:=aM (below_step bw hb);clear BK248;clear HB;have HO251:=n0_;have BK248:=n1_;have HB:=n2_;clear n0_ n1_ n2_;clear hb ho9;obtain ⟨Ao10,co10,eo10⟩:=Kd.R_slice HO251.out;subst eo10)|((with_reducible refine gate_dst (N:=5) rfl ?_);refine box_event ?hg (N:=5) ?hd (cs:=#[.int .i64 0,.slice none 0 0]) (t:=68) ?hr ?_;(case hd=>rfl);(case hg=>rfl);(case hr=>first|(go_simp;done)|(go_simp;rfl));intro gb252 hg w11 hbox hb;have n0_:=aM (Kd.R_below (qra HO251.out) hb);have n1_:=aM (blk_below (g:=gb248) (o:=.cells #[.int .i64 0,.slice none 0 0] 68 (0,0)) bk hb);have n2_:=aM (below_step bw hb);have n3_:=aM (hbox);have n4_:=aM ((by rw [hg];exact (below_size bw):w.heap.size ≤ gb252));have n5_:=aM ((by rw [hg];exact (below_size bw):w.heap.size ≤ gb252));have n6_:=aM ((by rw [hg];exact Nat.ne_of_lt (blk_lt (g:=gb248) (o:=.cells #[.int .i64 0,.slice none 0 0] 68 (0,0)) bk):gb248 ≠ gb252));have n7_:=aM ((by rw [hg];exact Nat.ne_of_gt (blk_lt (g:=gb248) (o:=.cells #[.int .i64 0,.slice none 0 0] 68 (0,0)) bk):gb252 ≠ gb248));clear HO251;clear BK248;clear HB;have HO251:=n0_;have BK248:=n1_;have HB:=n2_;have BK252:=n3_;have GW252:=n4_;have GE252:=n5_;have NB248_252:=n6_;have NB252_248:=n7_;clear n0_ n1_ n2_ n3_ n4_ n5_ n6_ n7_;clear hb hbox hg;have hnb12:=NB252_248.out;have hnc12:=NB248_252.out;have hcz13_0:w11.cell? ⟨gb252,0,none⟩ = some (.int .i64 0):=(blk_cell BK252.out 0).trans rfl;have hcz13_1:w11.cell? ⟨gb252,1,none⟩ = some (.slice none 0 0):=(blk_cell BK252.out 1).trans rfl;have hfz13_0:=blk_frozen BK252.out 0;have hfz13_1:=blk_frozen BK252.out 1))
    go_loopg [15] k (fun kq v15 w'=>∃ (x15_1:Int) (x253001_1:List Bool) (u253001:Value),v15 = .int .i64 x15_1 ∧ Aside0 (impl_votesOf.l0 kq a1 (y249.length:Int) x15_1 a0 x253001_1 = some (r1,r2)) ∧ Aside0 (kq ≤ k) ∧ Aside0 (Kd.R Kd.bool 4 w' w.heap.size (fun _=>True) u253001 x253001_1) ∧ Aside0 (w'.heap[gb248]? = some (.cells #[.int .i64 0,(.slice none 0 0)] 68 (0,0))) ∧ Aside0 (w'.heap[gb252]? = some (.cells #[.int .i64 a0,u253001] 68 (0,0))) ∧ Aside0 (Below w.heap.size w w'))
    case atStart=>exact ⟨(0),(y249),(.slice Ao10 y249.length co10),qrs,H',⟨Nat.le_refl _⟩,⟨by (with_reducible repeat (first|apply Kd.R_alloc|apply Kd.R_drewN|apply Kd.R_drew));exact Kd.R_mono (Kd.R_far (p:=⟨gb252,1,none⟩) (Kd.R_far (p:=⟨gb252,0,none⟩) (Kd.R_types HO251.out BK252.out (by decide)) (fun _ hk=>hk.2) (.int .i64 a0)) (fun _ hk=>hk.2) (.slice Ao10 y249.length co10)) (fun _ hk=>trivial)⟩,⟨by (with_reducible repeat (first|refine blk_drewN ?_ _|refine blk_drew ?_|refine blk_alloc ?_ _));refine blk_far ?_ NB248_252.out _;(with_reducible repeat (first|refine blk_drewN ?_ _|refine blk_drew ?_|refine blk_alloc ?_ _));refine blk_far ?_ NB248_252.out _;(with_reducible repeat (first|refine blk_drewN ?_ _|refine blk_drew ?_|refine blk_alloc ?_ _));exact BK248.out⟩,⟨by (with_reducible repeat (first|refine blk_drewN ?_ _|refine blk_drew ?_|refine blk_alloc ?_ _));refine blk_put (cs:=#[.int .i64 a0,.slice none 0 0]) ?_ 1 _ rfl;(with_reducible repeat (first|refine blk_drewN ?_ _|refine blk_drew ?_|refine blk_alloc ?_ _));refine blk_put (cs:=#[.int .i64 0,.slice none 0 0]) ?_ 0 _ rfl;(with_reducible repeat (first|refine blk_drewN ?_ _|refine blk_drew ?_|refine blk_alloc ?_ _));exact BK252.out⟩,⟨by exact bw⟩⟩
    case round =>
     clear H';(try clear c1);(try clear p1);(try clear p2);(try clear c3);(try clear c3b0);(try clear c3b1);(try clear c5);(try clear c5b0);(try clear c5b1);(try clear c6);(try clear c6b0);(try clear c6b1);(try clear p6);(try clear c7);(try clear c12);(try clear hcz13_0);(try clear hcz13_1);(try clear hfz13_0);(try clear hfz13_1)
     obtain ⟨x15_1,x253001_1,u253001,rfl,HA,HK1,HO_253001,BK248,BK252,HB⟩:=hrel
     cases gk with
     | zero=>exact absurd HA.out (by simp [impl_votesOf.l0])
     | succ k1 =>
      have H:=HA.out;clear HA;simp only [impl_votesOf.l0] at H;by_cases c14:x15_1 < (y249.length:Int)
      ·rw [if_pos c14] at H;have c14b0:decide (x15_1 < (y249.length:Int)) = true:=decide_eq_true c14;clear c14;replace H:=Option.bind_eq_some_iff.mp H;obtain ⟨t253,A150,H⟩:=H;replace H:(if 0 ≤ x15_1 then (if x15_1 < (x253001_1.length:Int) then (impl_votesOf.l0 k1 a1 (y249.length:Int) (wrap64 (x15_1 + 1)) a0 (x253001_1.set (x15_1:Int).toNat t253)) else (none)) else (none)) = some (r1,r2):=H;have A15:=aM A150;clear A150;by_cases c16:0 ≤ x15_1
       ·rw [if_pos c16] at H;have c16b0:decide (0 ≤ x15_1) = true:=decide_eq_true c16;clear c16;by_cases c17:x15_1 < (x253001_1.length:Int)
        ·rw [if_pos c17] at H;have c17b0:decide (x15_1 < (x253001_1.length:Int)) = true:=decide_eq_true c17;clear c17;obtain ⟨y254,hy254⟩:∃ y_:List Bool,y_ = (x253001_1.set (x15_1:Int).toNat t253):=⟨_,rfl⟩;replace H:(impl_votesOf.l0 k1 a1 (y249.length:Int) (wrap64 (x15_1 + 1)) a0 y254) = some (r1,r2):=by first|(rw [hy254];with_reducible exact H)|(have H2_:=(Option.bind_some _ _).symm.trans H;rw [hy254];with_reducible exact H2_)|(have H2_:=(Option.bind_some _ _).symm.trans H;with_reducible exact H2_)|with_reducible exact H|(rw [hy254];exact H)|exact H
         have Ny254:=aM hy254;clear hy254;have H':=aM H;clear H
         try go_wp2
         have n0_:=aM (Kd.R_drew HO_253001.out);have n1_:=aM (blk_drew BK248.out);have n2_:=aM (blk_drew BK252.out);have n3_:=aM (below_drew1 HB.out);clear HO_253001;clear BK248;clear BK252;clear HB;have HO_253001:=n0_;have BK248:=n1_;have BK252:=n2_;have HB:=n3_;clear n0_ n1_ n2_ n3_;refine start_ (n:=8) (S:=fun w'=>w'.cell? ⟨gb252,0,none⟩ = some (.int .i64 a0) ∧ w'.cell? ⟨gb252,1,none⟩ = some (u253001)) (ds:=[7]) (mA 8 0) kR rfl rfl ⟨(blk_cell BK252.out 0).trans rfl,(blk_cell BK252.out 1).trans rfl⟩ (fun hHeld=>?_);refine with_tabW impl_votesOf.tab5 impl_votesOf.bits5 (fun HT_ HW_=>?_)
         generalize wr.drew = w19 at HO_253001 BK248 BK252 HB hHeld ⊢
         refine pure_ (i:=0) (N:=some 18) (v:=?_) (a':=?_) (mA 8 1) rfl rfl (any_of HT_.out kR) (fun _ _ _ h=>h) (Or.inl ⟨by rfl,?_⟩) ?_ ?_;rotate_left
         ·intro w';go_simp
          with_reducible rfl
         rotate_left
         ·simp only [Act.put,sA,sZ,sS,i64_w,i32_w];rfl
         refine pure_ (i:=2) (N:=some 20) (v:=?_) (a':=?_) (mA 8 5) rfl rfl (any_of HT_.out kR) (fun _ _ _ h=>h) (Or.inl ⟨by rfl,?_⟩) ?_ ?_;rotate_left
         ·intro w';go_simp
          with_reducible rfl
         rotate_left
         ·simp only [Act.put,sA,sZ,sS,i64_w,i32_w];rfl
         refine pure_ (i:=3) (N:=some 21) (v:=?_) (a':=?_) (mA 8 13) rfl rfl (any_of HT_.out kR) (fun _ _ _ h=>h) (Or.inl ⟨by rfl,?_⟩) ?_ ?_;rotate_left
         ·intro w';go_simp
          with_reducible rfl
         rotate_left
         ·simp only [Act.put,sA,sZ,sS,i64_w,i32_w];rfl
         refine pure_ (i:=4) (N:=some 22) (v:=?_) (a':=?_) (mA 8 29) rfl rfl (any_of HT_.out kR) (fun _ _ _ h=>h) (Or.inl ⟨by rfl,?_⟩) ?_ ?_;rotate_left
         ·intro w';go_simp
          with_reducible rfl
         rotate_left
         ·simp only [Act.put,sA,sZ,sS,i64_w,i32_w];rfl
         refine take_ (i:=1) (N:=some 19) (v:=?_) (a':=?_) (mA 8 31) rfl rfl (take_ofW HT_.out HW_.out kR) (fun _ _ _ h=>h) (Or.inl ⟨by rfl,?_⟩) hHeld ?_ ?_;rotate_left
         ·rintro w' ⟨s0,s1⟩
          go_simp
          with_reducible rfl
         rotate_left
         ·simp only [Act.put,sA,sZ,sS,i64_w,i32_w];rfl
         refine one_ (i:=5) (N:=some 23) (mA 8 63) rfl rfl (one_of HT_.out kR) (by decide) (fun K hK=>?_);refine goesFr_ eg1_ #[.int .i64 x15_1] (by rfl) rfl rfl (by rfl) mq ?_
         with_reducible refine (HP1.out _ x15_1 t253 A15.out ?side1).mono ?_
         (case side1=>exact bw)
         rintro e w20 ⟨rfl,hb⟩
         refine ⟨_,rfl,?_⟩;have n0_:=aM (Kd.R_below (qra HO_253001.out) hb);have n1_:=aM (blk_below (g:=gb248) (o:=.cells #[.int .i64 0,.slice none 0 0] 68 (0,0)) bk hb);have n2_:=aM (blk_below (g:=gb252) (o:=.cells #[.int .i64 a0,u253001] 68 (0,0)) bk hb);have n3_:=aM (below_step bw hb);clear HO_253001;clear BK248;clear BK252;clear HB;have HO_253001:=n0_;have BK248:=n1_;have BK252:=n2_;have HB:=n3_;clear n0_ n1_ n2_ n3_;(try clear hb)
         (try clear hb2)
         (try clear hk)
         (try clear hi)
         have p18:0 ≤ (x15_1:Int):=of_decide_eq_true ab;have q18:(x15_1:Int) < ((x253001_1.length:Int):Int):=of_decide_eq_true ab;obtain ⟨go18,co18,eo18,gb18,gl18,cl18,HG18⟩:=Kd.R_form HO_253001.out (by omega);(first|cases eo18|(injection eo18 with ea_ en_ ec_;(first|subst ea_|(injection ea_ with ea_;subst ea_));subst ec_;clear en_))
         have GB18:=aM gb18;have GG18:=aM HG18;clear gb18 gl18 HG18;obtain ⟨hx18_0,hf18_0⟩:=Kd.R_celln false HO_253001.out (x15_1:Int) p18 q18;replace p18:=eq_true p18;replace q18:=eq_true q18;have HP21:=Kd.R_putn HO_253001.out (x15_1:Int) t253;rw [← Ny254.out] at HP21;have HQ21:=aM HP21;clear HP21;refine hK.out _ _ ⟨(blk_cell BK252.out 0).trans rfl,(blk_cell BK252.out 1).trans rfl⟩ (fun hHeld=>?_);clear hK K;refine norm_ (a':=?_) ?_ ?_;rotate_left
         ·show Act.put _ (some 23) _ = _;simp only [Act.put,sA,sZ,sS,i64_w,i32_w];rfl
         refine pure_ (i:=6) (N:=some 24) (v:=?_) (a':=?_) (mA 8 127) rfl rfl (any_of HT_.out kR) (fun _ _ _ h=>h) (Or.inl ⟨by rfl,?_⟩) ?_ ?_;rotate_left
         ·intro w';go_simp
          with_reducible rfl
         rotate_left
         ·simp only [Act.put,sA,sZ,sS,i64_w,i32_w];rfl
         refine last_ (i:=7) (N:=none) (mA 8 255) rfl rfl (one_of HT_.out kR) (by decide) (fun K hK=>?_);refine skip_ (w1:=?_) (by rfl) rfl ?_ ?_;rotate_left
         ·go_simp
          rfl
         refine hK.out _ _ ?_;clear hK K;refine done_ (done_of HT_.out kR) ?_
         try go_wp2
         go_roundg k1
         case measure=>have:=HK1.out;omega
         case rel=>exact ⟨(wrap64 (x15_1 + 1)),(y254),(.slice (some ⟨go18,0,none⟩) x253001_1.length co18),qrs,H',⟨by have:=HK1.out;omega⟩,⟨qra HQ21.out⟩,⟨by (with_reducible repeat (first|refine blk_drewN ?_ _|refine blk_drew ?_|refine blk_alloc ?_ _));refine blk_far ?_ (by have h_:=Kd.R_ne HO_253001.out BK248.out (by decide);intro e_;exact h_ (by rw [e_];rfl)) _;(with_reducible repeat (first|refine blk_drewN ?_ _|refine blk_drew ?_|refine blk_alloc ?_ _));exact BK248.out⟩,⟨by (with_reducible repeat (first|refine blk_drewN ?_ _|refine blk_drew ?_|refine blk_alloc ?_ _));refine blk_far ?_ (by have h_:=Kd.R_ne HO_253001.out BK252.out (by decide);intro e_;exact h_ (by rw [e_];rfl)) _;(with_reducible repeat (first|refine blk_drewN ?_ _|refine blk_drew ?_|refine blk_alloc ?_ _));exact BK252.out⟩,⟨by repeat (first|(with_reducible first|exact HB.out|apply below_alloc|apply pw_below_drewN|apply below_drew1|refine below_set ?_ GB18.out|refine below_set ?_ GE248.out|refine below_set ?_ GE252.out)|exact HB.out)⟩⟩
        ·rw [if_neg c17] at H;exact absurd H (by simp)
       ·rw [if_neg c16] at H;exact absurd H (by simp)
      ·rw [if_neg c14] at H;have c14b0:decide (x15_1 < (y249.length:Int)) = false:=decide_eq_false c14;clear c14;simp only [Option.some.injEq,Prod.mk.injEq] at H;obtain ⟨rfl,rfl⟩:=H;have hnb22:=NB252_248.out;have hnc22:=NB248_252.out;have hcz23_0:wr.cell? ⟨gb252,0,none⟩ = some (.int .i64 a0):=(blk_cell BK252.out 0).trans rfl;have hcz23_1:wr.cell? ⟨gb252,1,none⟩ = some (u253001):=(blk_cell BK252.out 1).trans rfl;have hfz23_0:=blk_frozen BK252.out 0;have hfz23_1:=blk_frozen BK252.out 1;have hcz24_0:wr.cell? ⟨gb248,0,none⟩ = some (.int .i64 0):=(blk_cell BK248.out 0).trans rfl;have hcz24_1:wr.cell? ⟨gb248,1,none⟩ = some (.slice none 0 0):=(blk_cell BK248.out 1).trans rfl;have hfz24_0:=blk_frozen BK248.out 0;have hfz24_1:=blk_frozen BK248.out 1;obtain ⟨Ao25,co25,eo25⟩:=Kd.R_slice HO_253001.out;subst eo25;go_wp2
       refine bodyPost_ret (results_cell_row rfl _ _ gb248 68 #[.int .i64 a0,.slice Ao25 x253001_1.length co25] (0,0) _ rfl (by (with_reducible repeat (first|refine blk_drewN ?_ _|refine blk_drew ?_|refine blk_alloc ?_ _));refine blk_put (cs:=#[.int .i64 a0,.slice none 0 0]) ?_ 1 _ rfl;(with_reducible repeat (first|refine blk_drewN ?_ _|refine blk_drew ?_|refine blk_alloc ?_ _));refine blk_put (cs:=#[.int .i64 0,.slice none 0 0]) ?_ 0 _ rfl;(with_reducible repeat (first|refine blk_drewN ?_ _|refine blk_drew ?_|refine blk_alloc ?_ _));exact BK248.out) Try.underlying68 rfl kR) rfl ?_;exact ⟨_,by first|rfl|(simp [errW_none,errW_some] <;> rfl)|(simp only [← hji4];first|rfl|(simp [errW_none,errW_some] <;> rfl))|(simp [*,errW_none,errW_some] <;> rfl),by (with_reducible repeat (first|apply Kd.R_alloc|apply Kd.R_drewN|apply Kd.R_drew));exact Kd.R_mono (Kd.R_far (p:=⟨gb248,1,none⟩) (Kd.R_far (p:=⟨gb248,0,none⟩) (Kd.R_types HO_253001.out BK248.out (by decide)) (fun _ hk=>hk.2) (.int .i64 a0)) (fun _ hk=>hk.2) (.slice Ao25 x253001_1.length co25)) (fun _ hk=>trivial),by exact bw⟩
   ·rw [if_neg c6] at H;exact absurd H (by simp)
  ·rw [if_neg c5] at H;exact absurd H (by simp)
 ·rw [if_neg c3] at H;exact absurd H (by simp)


/-! ### cmp_isNaN_int: function 169 -/
def cmp_isNaN_int.f (a0:Int):Option (Bool):=some (a0 != a0)
set_option maxHeartbeats 8000000 in
set_option maxRecDepth 100000 in
theorem cmp_isNaN_int.calls (a0:Int) (r:Bool) (w:World) (h:cmp_isNaN_int.f a0 = some r) :
  Calls Try.prog 169 #[.int .i64 a0] w fun e w'=>e = .returned (.bool r) ∧ Drawn0 w w':=by
 have H:(some (a0 != a0)) = some r:=h;clear h;obtain rfl:=Option.some.inj H;go_enter Try.func169,Try.ntmps169;go_wp2
 go_ret
 exact ⟨by first|rfl|(simp;done)|(simp [*];done),by repeat (first|exact Drawn0.refl _|apply Drawn0.step)⟩


/-! ### cmp_Compare_int: function 155 -/
def cmp_Compare_int.f (a0:Int) (a1:Int):Option (Int):=(cmp_isNaN_int.f a0).bind fun t295=>((cmp_isNaN_int.f a1).bind fun t296=>(if t295 = true then (if t296 = true then (some 0) else (some (-1))) else (if t296 = true then (some 1) else (if a0 < a1 then (some (-1)) else (if a0 > a1 then (some 1) else (some 0))))))
set_option maxHeartbeats 8000000 in
set_option maxRecDepth 100000 in
theorem cmp_Compare_int.calls (a0:Int) (a1:Int) (r:Int) (w:World) (h:cmp_Compare_int.f a0 a1 = some r) :
  Calls Try.prog 155 #[.int .i64 a0,.int .i64 a1] w fun e w'=>e = .returned (.int .i64 r) ∧ Drawn0 w w':=by
 have H:((cmp_isNaN_int.f a0).bind fun t295=>((cmp_isNaN_int.f a1).bind fun t296=>(if t295 = true then (if t296 = true then (some 0) else (some (-1))) else (if t296 = true then (some 1) else (if a0 < a1 then (some (-1)) else (if a0 > a1 then (some 1) else (some 0))))))) = some r:=h;clear h;replace H:=Option.bind_eq_some_iff.mp H;obtain ⟨t295,A30,H⟩:=H;replace H:((cmp_isNaN_int.f a1).bind fun t296=>(if t295 = true then (if t296 = true then (some 0) else (some (-1))) else (if t296 = true then (some 1) else (if a0 < a1 then (some (-1)) else (if a0 > a1 then (some 1) else (some 0)))))) = some r:=H;have A3:=aM A30;clear A30;replace H:=Option.bind_eq_some_iff.mp H;obtain ⟨t296,A40,H⟩:=H;replace H:(if t295 = true then (if t296 = true then (some 0) else (some (-1))) else (if t296 = true then (some 1) else (if a0 < a1 then (some (-1)) else (if a0 > a1 then (some 1) else (some 0))))) = some r:=H;have A4:=aM A40;clear A40;by_cases c5:t295 = true
 ·subst c5;have H1:(if t296 = true then (some 0) else (some (-1))) = some r:=by rw [if_pos rfl] at H;exact H
  clear H;have H:=H1;clear H1;by_cases c6:t296 = true
  ·subst c6;have H1:(some 0) = some r:=by rw [if_pos rfl] at H;exact H
   clear H;have H:=H1;clear H1;obtain rfl:=Option.some.inj H;go_enter Try.func155,Try.ntmps155;go_wp2_with (first|((with_reducible refine gate_callee (f:=169) rfl ?_);refine goesL_ (some 8) rfl rfl Try.func169 kR rfl #[.int .i64 a0] rfl mq ?_;(with_reducible refine (cmp_isNaN_int.calls a0 true _ A3.out).mono ?_);rintro e w' ⟨rfl,⟨nd,rfl⟩⟩;refine ⟨_,rfl,?_⟩)|((with_reducible refine gate_callee (f:=169) rfl ?_);refine goesL_ (some 10) rfl rfl Try.func169 kR rfl #[.int .i64 a1] rfl mq ?_;(with_reducible refine (cmp_isNaN_int.calls a1 true _ A4.out).mono ?_);rintro e w' ⟨rfl,⟨nd,rfl⟩⟩;refine ⟨_,rfl,?_⟩))
   go_ret
   exact ⟨by first|rfl|(simp;done)|(simp [*];done),by repeat (first|exact Drawn0.refl _|apply Drawn0.step)⟩
  ·replace c6:=Bool.eq_false_iff.mpr c6;subst c6;have H1:(some (-1)) = some r:=by rw [if_neg (show ¬ (false = true) by decide)] at H;exact H
   clear H;have H:=H1;clear H1;obtain rfl:=Option.some.inj H;go_enter Try.func155,Try.ntmps155;go_wp2_with (first|((with_reducible refine gate_callee (f:=169) rfl ?_);refine goesL_ (some 8) rfl rfl Try.func169 kR rfl #[.int .i64 a0] rfl mq ?_;(with_reducible refine (cmp_isNaN_int.calls a0 true _ A3.out).mono ?_);rintro e w' ⟨rfl,⟨nd,rfl⟩⟩;refine ⟨_,rfl,?_⟩)|((with_reducible refine gate_callee (f:=169) rfl ?_);refine goesL_ (some 10) rfl rfl Try.func169 kR rfl #[.int .i64 a1] rfl mq ?_;(with_reducible refine (cmp_isNaN_int.calls a1 false _ A4.out).mono ?_);rintro e w' ⟨rfl,⟨nd,rfl⟩⟩;refine ⟨_,rfl,?_⟩))
   go_ret
   exact ⟨by first|rfl|(simp;done)|(simp [*];done),by repeat (first|exact Drawn0.refl _|apply Drawn0.step)⟩
 ·replace c5:=Bool.eq_false_iff.mpr c5;subst c5;have H1:(if t296 = true then (some 1) else (if a0 < a1 then (some (-1)) else (if a0 > a1 then (some 1) else (some 0)))) = some r:=by rw [if_neg (show ¬ (false = true) by decide)] at H;exact H
  clear H;have H:=H1;clear H1;by_cases c7:t296 = true
  ·subst c7;have H1:(some 1) = some r:=by rw [if_pos rfl] at H;exact H
   clear H;have H:=H1;clear H1;obtain rfl:=Option.some.inj H;go_enter Try.func155,Try.ntmps155;go_wp2_with (first|((with_reducible refine gate_callee (f:=169) rfl ?_);refine goesL_ (some 8) rfl rfl Try.func169 kR rfl #[.int .i64 a0] rfl mq ?_;(with_reducible refine (cmp_isNaN_int.calls a0 false _ A3.out).mono ?_);rintro e w' ⟨rfl,⟨nd,rfl⟩⟩;refine ⟨_,rfl,?_⟩)|((with_reducible refine gate_callee (f:=169) rfl ?_);refine goesL_ (some 10) rfl rfl Try.func169 kR rfl #[.int .i64 a1] rfl mq ?_;(with_reducible refine (cmp_isNaN_int.calls a1 true _ A4.out).mono ?_);rintro e w' ⟨rfl,⟨nd,rfl⟩⟩;refine ⟨_,rfl,?_⟩))
   go_ret
   exact ⟨by first|rfl|(simp;done)|(simp [*];done),by repeat (first|exact Drawn0.refl _|apply Drawn0.step)⟩
  ·replace c7:=Bool.eq_false_iff.mpr c7;subst c7;have H1:(if a0 < a1 then (some (-1)) else (if a0 > a1 then (some 1) else (some 0))) = some r:=by rw [if_neg (show ¬ (false = true) by decide)] at H;exact H
   clear H;have H:=H1;clear H1;by_cases c8:a0 < a1
   ·rw [if_pos c8] at H;have c8b0:decide (a0 < a1) = true:=decide_eq_true c8;clear c8;obtain rfl:=Option.some.inj H;go_enter Try.func155,Try.ntmps155;go_wp2_with (first|((with_reducible refine gate_callee (f:=169) rfl ?_);refine goesL_ (some 8) rfl rfl Try.func169 kR rfl #[.int .i64 a0] rfl mq ?_;(with_reducible refine (cmp_isNaN_int.calls a0 false _ A3.out).mono ?_);rintro e w' ⟨rfl,⟨nd,rfl⟩⟩;refine ⟨_,rfl,?_⟩)|((with_reducible refine gate_callee (f:=169) rfl ?_);refine goesL_ (some 10) rfl rfl Try.func169 kR rfl #[.int .i64 a1] rfl mq ?_;(with_reducible refine (cmp_isNaN_int.calls a1 false _ A4.out).mono ?_);rintro e w' ⟨rfl,⟨nd,rfl⟩⟩;refine ⟨_,rfl,?_⟩))
    go_ret
    exact ⟨by first|rfl|(simp;done)|(simp [*];done),by repeat (first|exact Drawn0.refl _|apply Drawn0.step)⟩
   ·rw [if_neg c8] at H;have c8b0:decide (a0 < a1) = false:=decide_eq_false c8;clear c8;by_cases c9:a0 > a1
    ·rw [if_pos c9] at H;have c9b0:decide (a1 < a0) = true:=decide_eq_true c9;clear c9;obtain rfl:=Option.some.inj H;go_enter Try.func155,Try.ntmps155;go_wp2_with (first|((with_reducible refine gate_callee (f:=169) rfl ?_);refine goesL_ (some 8) rfl rfl Try.func169 kR rfl #[.int .i64 a0] rfl mq ?_;(with_reducible refine (cmp_isNaN_int.calls a0 false _ A3.out).mono ?_);rintro e w' ⟨rfl,⟨nd,rfl⟩⟩;refine ⟨_,rfl,?_⟩)|((with_reducible refine gate_callee (f:=169) rfl ?_);refine goesL_ (some 10) rfl rfl Try.func169 kR rfl #[.int .i64 a1] rfl mq ?_;(with_reducible refine (cmp_isNaN_int.calls a1 false _ A4.out).mono ?_);rintro e w' ⟨rfl,⟨nd,rfl⟩⟩;refine ⟨_,rfl,?_⟩))
     go_ret
     exact ⟨by first|rfl|(simp;done)|(simp [*];done),by repeat (first|exact Drawn0.refl _|apply Drawn0.step)⟩
    ·rw [if_neg c9] at H;have c9b0:decide (a1 < a0) = false:=decide_eq_false c9;clear c9;obtain rfl:=Option.some.inj H;go_enter Try.func155,Try.ntmps155;go_wp2_with (first|((with_reducible refine gate_callee (f:=169) rfl ?_);refine goesL_ (some 8) rfl rfl Try.func169 kR rfl #[.int .i64 a0] rfl mq ?_;(with_reducible refine (cmp_isNaN_int.calls a0 false _ A3.out).mono ?_);rintro e w' ⟨rfl,⟨nd,rfl⟩⟩;refine ⟨_,rfl,?_⟩)|((with_reducible refine gate_callee (f:=169) rfl ?_);refine goesL_ (some 10) rfl rfl Try.func169 kR rfl #[.int .i64 a1] rfl mq ?_;(with_reducible refine (cmp_isNaN_int.calls a1 false _ A4.out).mono ?_);rintro e w' ⟨rfl,⟨nd,rfl⟩⟩;refine ⟨_,rfl,?_⟩))
     go_ret
     exact ⟨by first|rfl|(simp;done)|(simp [*];done),by repeat (first|exact Drawn0.refl _|apply Drawn0.step)⟩


/-! ### slices_Compare_int_int: function 128 -/
def slices_Compare_int_int.l0:Nat → List Int → List Int → List Int → Int → Int → Option (Int)
 | 0,_,_,_,_,_=>none
 | k + 1,x0,x1,x9,x10,x11=>if x11 < x10 then (if 0 ≤ x11 then (if x11 < (x9.length:Int) then (if x11 ≥ (x1.length:Int) then (some 1) else (if x11 < (x1.length:Int) then ((cmp_Compare_int.f (rd x9 x11) (rd x1 x11)).bind fun t299=>(if t299 = 0 then (slices_Compare_int_int.l0 k x0 x1 x9 x10 (wrap64 (x11 + 1))) else (some t299))) else (none))) else (none)) else (none)) else (if (x0.length:Int) < (x1.length:Int) then (some (-1)) else (some 0))
def slices_Compare_int_int.f (k:Nat) (l0:List Int) (l1:List Int):Option (Int):=slices_Compare_int_int.l0 k l0 l1 l0 (l0.length:Int) 0
theorem slices_Compare_int_int.mono_l:∀ k,(∀ y0 y1 y2 y3 y4,LeO (slices_Compare_int_int.l0 k y0 y1 y2 y3 y4) (slices_Compare_int_int.l0 (k + 1) y0 y1 y2 y3 y4))
 | 0=>fun _ _ _ _ _ r h=>by simp [slices_Compare_int_int.l0] at h
 | k + 1=>by
  have ih0:=slices_Compare_int_int.mono_l k
  ·intro y0 y1 y2 y3 y4;unfold slices_Compare_int_int.l0
   repeat' with_reducible first|exact ih0 _ _ _ _ _|exact LeO.refl _|exact LeO.none _|refine LeO.ite ?_ ?_|refine LeO.bind ?_ (fun _=>?_)
theorem slices_Compare_int_int.mono:∀ a0 a1 k,LeO (slices_Compare_int_int.f k a0 a1) (slices_Compare_int_int.f (k + 1) a0 a1):=by
 intro a0 a1 k;have ih0:=slices_Compare_int_int.mono_l k;unfold slices_Compare_int_int.f
 repeat' with_reducible first|exact ih0 _ _ _ _ _|exact LeO.refl _|exact LeO.none _|refine LeO.ite ?_ ?_|refine LeO.bind ?_ (fun _=>?_)
set_option maxHeartbeats 8000000 in
set_option maxRecDepth 100000 in
theorem slices_Compare_int_int.calls (k:Nat) (A0:Option Addr) (c0:Nat) (l0:List Int) (A1:Option Addr) (c1:Nat) (l1:List Int) (r:Int) (w:World) (hr0:Kd.C (Kd.int .i64) w A0 l0.length l0) (hc0:l0.length ≤ c0) (hr1:Kd.C (Kd.int .i64) w A1 l1.length l1) (hc1:l1.length ≤ c1) (h:slices_Compare_int_int.f k l0 l1 = some r) :
  Calls Try.prog 128 #[.slice A0 l0.length c0,.slice A1 l1.length c1] w fun e w'=>e = .returned (.int .i64 r) ∧ Drawn0 w w':=by
 have HR0:=aM hr0;have HC0:=aM hc0;clear hr0 hc0;have HR1:=aM hr1;have HC1:=aM hc1;clear hr1 hc1;have H:(slices_Compare_int_int.l0 k l0 l1 l0 (l0.length:Int) 0) = some r:=h;clear h;have H':=aM H;clear H;go_enter Try.func128,Try.ntmps128;go_wp2
 go_loopg [11] k (fun kq v11 w'=>∃ (x11_1:Int),v11 = .int .i64 x11_1 ∧ Aside0 (slices_Compare_int_int.l0 kq l0 l1 l0 (l0.length:Int) x11_1 = some r) ∧ Aside0 (kq ≤ k) ∧ Drawn0 w w')
 case atStart=>exact ⟨(0),qrs,H',⟨Nat.le_refl _⟩,by repeat (first|exact Drawn0.refl _|apply Drawn0.step)⟩
 case round =>
  clear H';(try clear c1);(try clear p2)
  obtain ⟨x11_1,rfl,HA,HK1,⟨m1,rfl⟩⟩:=hrel
  cases gk with
  | zero=>exact absurd HA.out (by simp [slices_Compare_int_int.l0])
  | succ k1 =>
   have H:=HA.out;clear HA;simp only [slices_Compare_int_int.l0] at H;by_cases c3:x11_1 < (l0.length:Int)
   ·rw [if_pos c3] at H;have c3b0:decide (x11_1 < (l0.length:Int)) = true:=decide_eq_true c3;clear c3;by_cases c4:0 ≤ x11_1
    ·rw [if_pos c4] at H;have c4b0:decide (0 ≤ x11_1) = true:=decide_eq_true c4;clear c4;by_cases c5:x11_1 < (l0.length:Int)
     ·rw [if_pos c5] at H;have c5b0:decide (x11_1 < (l0.length:Int)) = true:=decide_eq_true c5;clear c5;by_cases c6:x11_1 ≥ (l1.length:Int)
      ·rw [if_pos c6] at H;have c6b0:decide ((l1.length:Int) ≤ x11_1) = true:=decide_eq_true c6;clear c6;obtain rfl:=Option.some.inj H;have p297:0 ≤ (x11_1:Int):=of_decide_eq_true ab;have q297:x11_1 < (l0.length:Int):=of_decide_eq_true ab;obtain ⟨ad297,e297,hx297_0⟩:=Kd.at_int HR0.out x11_1 p297 q297;cases e297
       replace p297:=eq_true p297;replace q297:=eq_true q297;go_wp2
       go_ret
       exact ⟨by first|rfl|(simp;done)|(simp [*];done),by repeat (first|exact Drawn0.refl _|apply Drawn0.step)⟩
      ·rw [if_neg c6] at H;have c6b0:decide ((l1.length:Int) ≤ x11_1) = false:=decide_eq_false c6;clear c6;by_cases c7:x11_1 < (l1.length:Int)
       ·rw [if_pos c7] at H;have c7b0:decide (x11_1 < (l1.length:Int)) = true:=decide_eq_true c7;clear c7;replace H:=Option.bind_eq_some_iff.mp H;obtain ⟨t299,A80,H⟩:=H;replace H:(if t299 = 0 then (slices_Compare_int_int.l0 k1 l0 l1 l0 (l0.length:Int) (wrap64 (x11_1 + 1))) else (some t299)) = some r:=H;have A8:=aM A80;clear A80;by_cases c9:t299 = 0
        ·rw [if_pos c9] at H;have c9b0:(t299 == 0) = true:=beq_iff_eq.mpr c9;have c9b1:(t299 != 0) = false:=bne_eq_false_iff_eq.mpr c9;clear c9;have H':=aM H;clear H;have p297:0 ≤ (x11_1:Int):=of_decide_eq_true ab;have q297:x11_1 < (l0.length:Int):=of_decide_eq_true ab;obtain ⟨ad297,e297,hx297_0⟩:=Kd.at_int HR0.out x11_1 p297 q297;cases e297
         replace p297:=eq_true p297;replace q297:=eq_true q297;have p298:0 ≤ (x11_1:Int):=of_decide_eq_true ab;have q298:x11_1 < (l1.length:Int):=of_decide_eq_true ab;obtain ⟨ad298,e298,hx298_0⟩:=Kd.at_int HR1.out x11_1 p298 q298;cases e298
         replace p298:=eq_true p298;replace q298:=eq_true q298;go_wp2_with (first|((with_reducible refine gate_callee (f:=155) rfl ?_);refine goesL_ (some 26) rfl rfl Try.func155 kR rfl #[.int .i64 (rd l0 x11_1),.int .i64 (rd l1 x11_1)] rfl mq ?_;(with_reducible refine (cmp_Compare_int.calls (rd l0 x11_1) (rd l1 x11_1) t299 _ A8.out).mono ?_);rintro e w' ⟨rfl,⟨nd,rfl⟩⟩;refine ⟨_,rfl,?_⟩))
         go_roundg k1
         case measure=>have:=HK1.out;omega
         case rel=>exact ⟨(wrap64 (x11_1 + 1)),qrs,H',⟨by have:=HK1.out;omega⟩,by repeat (first|exact Drawn0.refl _|apply Drawn0.step)⟩
        ·rw [if_neg c9] at H;have c9b0:(t299 == 0) = false:=beq_eq_false_iff_ne.mpr c9;have c9b1:(t299 != 0) = true:=bne_iff_ne.mpr c9;obtain rfl:=Option.some.inj H;have p297:0 ≤ (x11_1:Int):=of_decide_eq_true ab;have q297:x11_1 < (l0.length:Int):=of_decide_eq_true ab;obtain ⟨ad297,e297,hx297_0⟩:=Kd.at_int HR0.out x11_1 p297 q297;cases e297
         replace p297:=eq_true p297;replace q297:=eq_true q297;have p298:0 ≤ (x11_1:Int):=of_decide_eq_true ab;have q298:x11_1 < (l1.length:Int):=of_decide_eq_true ab;obtain ⟨ad298,e298,hx298_0⟩:=Kd.at_int HR1.out x11_1 p298 q298;cases e298
         replace p298:=eq_true p298;replace q298:=eq_true q298;go_wp2_with (first|((with_reducible refine gate_callee (f:=155) rfl ?_);refine goesL_ (some 26) rfl rfl Try.func155 kR rfl #[.int .i64 (rd l0 x11_1),.int .i64 (rd l1 x11_1)] rfl mq ?_;(with_reducible refine (cmp_Compare_int.calls (rd l0 x11_1) (rd l1 x11_1) t299 _ A8.out).mono ?_);rintro e w' ⟨rfl,⟨nd,rfl⟩⟩;refine ⟨_,rfl,?_⟩))
         go_ret
         exact ⟨by first|rfl|(simp;done)|(simp [*];done),by repeat (first|exact Drawn0.refl _|apply Drawn0.step)⟩
       ·rw [if_neg c7] at H;exact absurd H (by simp)
     ·rw [if_neg c5] at H;exact absurd H (by simp)
    ·rw [if_neg c4] at H;exact absurd H (by simp)
   ·rw [if_neg c3] at H;have c3b0:decide (x11_1 < (l0.length:Int)) = false:=decide_eq_false c3;clear c3;by_cases c10:(l0.length:Int) < (l1.length:Int)
    ·rw [if_pos c10] at H;have c10b0:decide ((l0.length:Int) < (l1.length:Int)) = true:=decide_eq_true c10;have c10b1:decide (l0.length < l1.length) = true:=decide_eq_true (Int.ofNat_lt.mp c10);clear c10;obtain rfl:=Option.some.inj H;go_wp2
     go_ret
     exact ⟨by first|rfl|(simp;done)|(simp [*];done),by repeat (first|exact Drawn0.refl _|apply Drawn0.step)⟩
    ·rw [if_neg c10] at H;have c10b0:decide ((l0.length:Int) < (l1.length:Int)) = false:=decide_eq_false c10;have c10b1:decide (l0.length < l1.length) = false:=decide_eq_false (fun h=>c10 (Int.ofNat_lt.mpr h));clear c10;obtain rfl:=Option.some.inj H;go_wp2
     go_ret
     exact ⟨by first|rfl|(simp;done)|(simp [*];done),by repeat (first|exact Drawn0.refl _|apply Drawn0.step)⟩
theorem slices_Compare_int_int.enters:∀ (args:Array Value) (w:World),(callFunc 128 args).run Try.prog w = .ok (.enter 128 args) w:=enters_of Try.func128 kR rfl


/-! ### impl_setOf: function 164 -/
def impl_setOf.l0:Nat → Int → List Int → Int → Option (List Int)
 | 0,_,_,_=>none
 | k + 1,x0,x3,x4=>if 0 ≤ x4 then (if (shr .i64 x0 x4) > 0 then (if (Go.bits .and .i64 (shr .i64 x0 x4) 1) = 1 then (if x3.length < 17592186044416 then (impl_setOf.l0 k x0 (x3 ++ [x4]) (wrap64 (x4 + 1))) else (none)) else (impl_setOf.l0 k x0 x3 (wrap64 (x4 + 1)))) else (some x3)) else (none)
def impl_setOf.f (k:Nat) (a0:Int):Option (List Int):=impl_setOf.l0 k a0 (([]:List Int)) 0
theorem impl_setOf.mono_l:∀ k,(∀ y0 y1 y2,LeO (impl_setOf.l0 k y0 y1 y2) (impl_setOf.l0 (k + 1) y0 y1 y2))
 | 0=>fun _ _ _ r h=>by simp [impl_setOf.l0] at h
 | k + 1=>by
  have ih0:=impl_setOf.mono_l k
  ·intro y0 y1 y2;unfold impl_setOf.l0
   repeat' with_reducible first|exact ih0 _ _ _|exact LeO.refl _|exact LeO.none _|refine LeO.ite ?_ ?_|refine LeO.bind ?_ (fun _=>?_)
theorem impl_setOf.mono:∀ a0 k,LeO (impl_setOf.f k a0) (impl_setOf.f (k + 1) a0):=by
 intro a0 k;have ih0:=impl_setOf.mono_l k;unfold impl_setOf.f
 repeat' with_reducible first|exact ih0 _ _ _|exact LeO.refl _|exact LeO.none _|refine LeO.ite ?_ ?_|refine LeO.bind ?_ (fun _=>?_)
set_option maxHeartbeats 8000000 in
set_option maxRecDepth 100000 in
theorem impl_setOf.calls (k:Nat) (a0:Int) (r:List Int) (w:World) (h:impl_setOf.f k a0 = some r) :
  Calls Try.prog 164 #[.int .i64 a0] w fun e w'=>∃ v0_:Value,e = .returned (v0_) ∧ Kd.R (Kd.int .i64) 3 w' w.heap.size (fun _=>True) v0_ r ∧ Below w.heap.size w w':=by
 have HB:=aM (Below.refl w.heap.size w);have H:(impl_setOf.l0 k a0 (([]:List Int)) 0) = some r:=h;clear h;obtain ⟨y480,hy480⟩:∃ y_:List Int,y_ = (([]:List Int)):=⟨_,rfl⟩;replace H:(impl_setOf.l0 k a0 y480 0) = some r:=by first|(rw [hy480];with_reducible exact H)|(have H2_:=(Option.bind_some _ _).symm.trans H;rw [hy480];with_reducible exact H2_)|(have H2_:=(Option.bind_some _ _).symm.trans H;with_reducible exact H2_)|with_reducible exact H|(rw [hy480];exact H)|exact H
 have Ny480:=aM hy480;clear hy480;have H':=aM H;clear H;go_enter Try.func164,Try.ntmps164;go_wp2_with (first|((with_reducible refine gate_dst (N:=5) rfl ?_);refine Kd.R_lit (Kd.int .i64) _ 3 ?hg (N:=5) ?hd (xs:=([]:List Int)) (inner:=[]) (ok:=fun _=>True) (okp:=fun _=>True) ?hr ?hp (fun _ hk=>hk) trivial (Below.refl _ _) (Nat.le_refl _) (by simp) ?_;(case hd=>rfl);(case hg=>rfl);(case hr=>first|(go_simp;done)|(go_simp;rfl));(case hp=>exact (Reps.none _ _));intro v481 w2 ho3 hb hg_ hnew_;clear hg_ hnew_;(first|rw [← Ny480.out] at ho3|(simp only [Int.reduceToNat] at ho3;rw [← Ny480.out] at ho3));have n0_:=aM (Kd.R_lower ho3 (below_size bw));have n1_:=aM (below_step bw hb);clear HB;have HO482:=n0_;have HB:=n1_;clear n0_ n1_;clear hb ho3))
 go_loopg [3,4] k (fun kq v3 v4 w'=>∃ (x3_1:List Int) (x4_1:Int),v4 = .int .i64 x4_1 ∧ Aside0 (impl_setOf.l0 kq a0 x3_1 x4_1 = some r) ∧ Aside0 (kq ≤ k) ∧ Aside0 (Kd.R (Kd.int .i64) 3 w' w.heap.size (fun _=>True) v3 x3_1) ∧ Aside0 (Below w.heap.size w w'))
 case atStart=>exact ⟨(y480),(0),qrs,H',⟨Nat.le_refl _⟩,⟨qra HO482.out⟩,⟨by exact bw⟩⟩
 case round =>
  clear H';(try clear c1);(try clear p2)
  obtain ⟨x3_1,x4_1,rfl,HA,HK1,HO_3,HB⟩:=hrel
  cases gk with
  | zero=>exact absurd HA.out (by simp [impl_setOf.l0])
  | succ k1 =>
   have H:=HA.out;clear HA;simp only [impl_setOf.l0] at H;by_cases c4:0 ≤ x4_1
   ·rw [if_pos c4] at H;have c4b0:=eq_true c4;have c4b1:decide (0 ≤ x4_1) = true:=decide_eq_true c4;clear c4;obtain ⟨ji5,hji5⟩:∃ j_:Int,(shr .i64 a0 x4_1) = j_:=⟨_,rfl⟩;replace H:(if (ji5) > 0 then (if (Go.bits .and .i64 (ji5) 1) = 1 then (if x3_1.length < 17592186044416 then (impl_setOf.l0 k1 a0 (x3_1 ++ [x4_1]) (wrap64 (x4_1 + 1))) else (none)) else (impl_setOf.l0 k1 a0 x3_1 (wrap64 (x4_1 + 1)))) else (some x3_1)) = some r:=by first|(rw [hji5] at H;exact H)|(simp only [hji5] at H ⊢;exact H)
    have hji5_:(a0 / 2 ^ min x4_1.toNat 64) = ji5:=hji5;have hji5z:x4_1 ≤ 64 → (a0 / 2 ^ x4_1.toNat) = ji5:=shr_small hji5;by_cases c6:(ji5) > 0
    ·rw [if_pos c6] at H;have c6b0:decide (0 < (ji5)) = true:=decide_eq_true c6;clear c6;have c7b0:=eq_true (of_decide_eq_true ab:0 ≤ x4_1);by_cases c8:(Go.bits .and .i64 (ji5) 1) = 1
     ·rw [if_pos c8] at H;have c8b0:((Go.bits .and .i64 (ji5) 1) == 1) = true:=beq_iff_eq.mpr c8;have c8b1:((Go.bits .and .i64 (ji5) 1) != 1) = false:=bne_eq_false_iff_eq.mpr c8;clear c8;by_cases c9:x3_1.length < 17592186044416
      ·rw [if_pos c9] at H;have LMc9:=aM c9;clear c9;obtain ⟨y483,hy483⟩:∃ y_:List Int,y_ = (x3_1 ++ [x4_1]):=⟨_,rfl⟩;replace H:(impl_setOf.l0 k1 a0 y483 (wrap64 (x4_1 + 1))) = some r:=by first|(rw [hy483];with_reducible exact H)|(have H2_:=(Option.bind_some _ _).symm.trans H;rw [hy483];with_reducible exact H2_)|(have H2_:=(Option.bind_some _ _).symm.trans H;with_reducible exact H2_)|with_reducible exact H|(rw [hy483];exact H)|exact H
       have Ny483:=aM hy483;clear hy483;have H':=aM H;clear H;go_wp2_with (first|((with_reducible refine gate_builtin (b:=.append) (xs:=#[.tmp 17,.tmp 19]) rfl ?_);at_builtin;refine Kd.R_append (Kd.int .i64) (w0:=w) w.heap.size rfl (.tmp 17) (.tmp 19) 40 3 (.int .i64 0) 8 rfl Try.underlying40 info3 rfl (by decide) (by omega) u3 x3_1 x4_1 [.int .i64 x4_1] (fun _=>True) (fun _=>False) rfl rfl ?aP (fun _ hk=>hk.elim) ?aF ?aO ?aB ?aS ?aL ?_;(case aP=>exact rfl);(case aB=>exact bw);(case aF=>exact (fun _ _=>trivial));(case aO=>exact (qra HO_3.out));(case aS=>exact (below_size bw));(case aL=>have:=LMc9.out;omega);intro v484 w10 ho hb hg hat;rw [← Ny483.out] at ho;have n0_:=aM (hb);have n1_:=aM (ho);clear HB;clear HO_3;have HB:=n0_;have HO485:=n1_;clear n0_ n1_;clear ho hb hg hat))
       go_roundg k1
       case measure=>have:=HK1.out;omega
       case rel=>exact ⟨(y483),(wrap64 (x4_1 + 1)),qrs,H',⟨by have:=HK1.out;omega⟩,⟨qra HO485.out⟩,⟨by exact bw⟩⟩
      ·rw [if_neg c9] at H;exact absurd H (by simp)
     ·rw [if_neg c8] at H;have c8b0:((Go.bits .and .i64 (ji5) 1) == 1) = false:=beq_eq_false_iff_ne.mpr c8;have c8b1:((Go.bits .and .i64 (ji5) 1) != 1) = true:=bne_iff_ne.mpr c8;have H':=aM H;clear H;go_wp2
      go_roundg k1
      case measure=>have:=HK1.out;omega
      case rel=>exact ⟨(x3_1),(wrap64 (x4_1 + 1)),qrs,H',⟨by have:=HK1.out;omega⟩,⟨qra HO_3.out⟩,⟨by exact bw⟩⟩
    ·rw [if_neg c6] at H;have c6b0:decide (0 < (ji5)) = false:=decide_eq_false c6;clear c6;obtain rfl:=Option.some.inj H;go_wp2
     go_ret
     exact ⟨_,by first|rfl|(simp [errW_none,errW_some] <;> rfl)|(simp only [← hji5];first|rfl|(simp [errW_none,errW_some] <;> rfl))|(simp [*,errW_none,errW_some] <;> rfl),by (with_reducible repeat (first|apply Kd.R_alloc|apply Kd.R_drewN|apply Kd.R_drew));exact HO_3.out,by exact bw⟩
   ·rw [if_neg c4] at H;exact absurd H (by simp)


/-! ### impl_has: function 134 -/
def impl_has.f (a0:Int) (a1:Int):Option (Bool):=if 0 ≤ a1 then (some ((Go.bits .and .i64 (shr .i64 a0 a1) 1) == 1)) else (none)
set_option maxHeartbeats 8000000 in
set_option maxRecDepth 100000 in
theorem impl_has.calls (a0:Int) (a1:Int) (r:Bool) (w:World) (h:impl_has.f a0 a1 = some r) :
  Calls Try.prog 134 #[.int .i64 a0,.int .i64 a1] w fun e w'=>e = .returned (.bool r) ∧ Drawn0 w w':=by
 have H:(if 0 ≤ a1 then (some ((Go.bits .and .i64 (shr .i64 a0 a1) 1) == 1)) else (none)) = some r:=h;clear h;by_cases c3:0 ≤ a1
 ·rw [if_pos c3] at H;have c3b0:=eq_true c3;have c3b1:decide (0 ≤ a1) = true:=decide_eq_true c3;clear c3;obtain ⟨ji4,hji4⟩:∃ j_:Int,(shr .i64 a0 a1) = j_:=⟨_,rfl⟩;replace H:(some ((Go.bits .and .i64 (ji4) 1) == 1)) = some r:=by first|(rw [hji4] at H;exact H)|(simp only [hji4] at H ⊢;exact H)
  have hji4_:(a0 / 2 ^ min a1.toNat 64) = ji4:=hji4;have hji4z:a1 ≤ 64 → (a0 / 2 ^ a1.toNat) = ji4:=shr_small hji4;obtain rfl:=Option.some.inj H;go_enter Try.func134,Try.ntmps134;go_wp2
  go_ret
  exact ⟨by first|rfl|(simp;done)|(simp only [← hji4] <;> (first|rfl|simp))|(simp [*];done),by repeat (first|exact Drawn0.refl _|apply Drawn0.step)⟩
 ·rw [if_neg c3] at H;exact absurd H (by simp)


/-! ### impl_votes_isLeast: function 148 -/
def impl_votes_isLeast.l0:Nat → Int → Int → Int → Int → List Bool → Option (Bool)
 | 0,_,_,_,_,_=>none
 | k + 1,x1,x13,x14,x528000,x528001=>if x14 < x13 then ((impl_has.f x1 x14).bind fun t529=>(if t529 = true then (if 0 ≤ x14 then (if 0 ≤ (Go.bits .andNot .i64 x1 (shl .i64 1 x14)) then (if (Go.bits .andNot .i64 x1 (shl .i64 1 x14)) < (x528001.length:Int) then (if rdOf false x528001 (Go.bits .andNot .i64 x1 (shl .i64 1 x14)) = true then (some false) else (impl_votes_isLeast.l0 k x1 x13 (wrap64 (x14 + 1)) x528000 x528001)) else (none)) else (none)) else (none)) else (impl_votes_isLeast.l0 k x1 x13 (wrap64 (x14 + 1)) x528000 x528001))) else (some true)
def impl_votes_isLeast.f (k:Nat) (a0_0:Int) (l0_1:List Bool) (a1:Int):Option (Bool):=if 0 ≤ a1 then (if a1 < (l0_1.length:Int) then (if rdOf false l0_1 a1 = true then (impl_votes_isLeast.l0 k a1 a0_0 0 a0_0 l0_1) else (some false)) else (none)) else (none)
theorem impl_votes_isLeast.mono_l:∀ k,(∀ y0 y1 y2 y3 y4,LeO (impl_votes_isLeast.l0 k y0 y1 y2 y3 y4) (impl_votes_isLeast.l0 (k + 1) y0 y1 y2 y3 y4))
 | 0=>fun _ _ _ _ _ r h=>by simp [impl_votes_isLeast.l0] at h
 | k + 1=>by
  have ih0:=impl_votes_isLeast.mono_l k
  ·intro y0 y1 y2 y3 y4;unfold impl_votes_isLeast.l0
   repeat' with_reducible first|exact ih0 _ _ _ _ _|exact LeO.refl _|exact LeO.none _|refine LeO.ite ?_ ?_|refine LeO.bind ?_ (fun _=>?_)
theorem impl_votes_isLeast.mono:∀ a0 a1 a2 k,LeO (impl_votes_isLeast.f k a0 a1 a2) (impl_votes_isLeast.f (k + 1) a0 a1 a2):=by
 intro a0 a1 a2 k;have ih0:=impl_votes_isLeast.mono_l k;unfold impl_votes_isLeast.f
 repeat' with_reducible first|exact ih0 _ _ _ _ _|exact LeO.refl _|exact LeO.none _|refine LeO.ite ?_ ?_|refine LeO.bind ?_ (fun _=>?_)
set_option maxHeartbeats 8000000 in
set_option maxRecDepth 100000 in
theorem impl_votes_isLeast.calls (k:Nat) (a0_0:Int) (A0_1:Option Addr) (c0_1:Nat) (l0_1:List Bool) (a1:Int) (r:Bool) (w:World) (hr0_1:Kd.C Kd.bool w A0_1 l0_1.length l0_1) (hc0_1:l0_1.length ≤ c0_1) (h:impl_votes_isLeast.f k a0_0 l0_1 a1 = some r) :
  Calls Try.prog 148 #[.agg #[.int .i64 a0_0,.slice A0_1 l0_1.length c0_1],.int .i64 a1] w fun e w'=>e = .returned (.bool r) ∧ Below w.heap.size w w':=by
 have hu68:=Try.underlying68;have HR0_1:=aM hr0_1;have HC0_1:=aM hc0_1;clear hr0_1 hc0_1;have HB:=aM (Below.refl w.heap.size w);have H:(if 0 ≤ a1 then (if a1 < (l0_1.length:Int) then (if rdOf false l0_1 a1 = true then (impl_votes_isLeast.l0 k a1 a0_0 0 a0_0 l0_1) else (some false)) else (none)) else (none)) = some r:=h;clear h;by_cases c3:0 ≤ a1
 ·rw [if_pos c3] at H;have c3b0:decide (0 ≤ a1) = true:=decide_eq_true c3;clear c3;by_cases c4:a1 < (l0_1.length:Int)
  ·rw [if_pos c4] at H;have c4b0:decide (a1 < (l0_1.length:Int)) = true:=decide_eq_true c4;clear c4;obtain ⟨bq5,hbq5⟩:∃ b_:Bool,b_ = (rdOf false l0_1 a1):=⟨_,rfl⟩;replace H:(if bq5 = true then (impl_votes_isLeast.l0 k a1 a0_0 0 a0_0 l0_1) else (some false)) = some r:=by rw [← hbq5] at H;exact H
   have Nbq5:=aM hbq5;clear hbq5;by_cases c6:bq5 = true
   ·subst c6;have H1:(impl_votes_isLeast.l0 k a1 a0_0 0 a0_0 l0_1) = some r:=by rw [if_pos rfl] at H;exact H
    clear H;have H:=H1;clear H1;have H':=aM H;clear H;go_enter Try.func148,Try.ntmps148;go_wp2_with (first|((with_reducible refine gate_dst (N:=2) rfl ?_);refine box_event ?hg (N:=2) ?hd (cs:=#[.int .i64 a0_0,.slice A0_1 l0_1.length c0_1]) (t:=68) ?hr ?_;(case hd=>rfl);(case hg=>rfl);(case hr=>first|(go_simp;done)|(go_simp;rfl));intro gb527 hg w7 hbox hb;have n0_:=aM (below_step bw hb);have n1_:=aM (hbox);have n2_:=aM ((by rw [hg];exact (below_size bw):w.heap.size ≤ gb527));have n3_:=aM ((by rw [hg];exact (below_size bw):w.heap.size ≤ gb527));clear HB;have HB:=n0_;have BK527:=n1_;have GW527:=n2_;have GE527:=n3_;clear n0_ n1_ n2_ n3_;clear hb hbox hg;have hcz8_0:w7.cell? ⟨gb527,0,none⟩ = some (.int .i64 a0_0):=(blk_cell BK527.out 0).trans rfl;have hcz8_1:w7.cell? ⟨gb527,1,none⟩ = some (.slice A0_1 l0_1.length c0_1):=(blk_cell BK527.out 1).trans rfl;have hfz8_0:=blk_frozen BK527.out 0;have hfz8_1:=blk_frozen BK527.out 1;have p528:0 ≤ (a1:Int):=of_decide_eq_true ab;have q528:a1 < (l0_1.length:Int):=of_decide_eq_true ab;obtain ⟨ad528,e528,hx528_0⟩:=Kd.at_bool HR0_1.out a1 p528 q528;(try rw [← Nbq5.out] at hx528_0);cases e528;replace hx528_0:=(HB.out.cell (World.block_lt_of_cell? w _ hx528_0)).trans hx528_0;replace p528:=eq_true p528;replace q528:=eq_true q528))
    repeat (go_quiet (first|((with_reducible refine gate_dst (N:=2) rfl ?_);refine box_event ?hg (N:=2) ?hd (cs:=#[.int .i64 a0_0,.slice A0_1 l0_1.length c0_1]) (t:=68) ?hr ?_;(case hd=>rfl);(case hg=>rfl);(case hr=>first|(go_simp;done)|(go_simp;rfl));intro gb527 hg w7 hbox hb;have n0_:=aM (below_step bw hb);have n1_:=aM (hbox);have n2_:=aM ((by rw [hg];exact (below_size bw):w.heap.size ≤ gb527));have n3_:=aM ((by rw [hg];exact (below_size bw):w.heap.size ≤ gb527));clear HB;have HB:=n0_;have BK527:=n1_;have GW527:=n2_;have GE527:=n3_;clear n0_ n1_ n2_ n3_;clear hb hbox hg;have hcz8_0:w7.cell? ⟨gb527,0,none⟩ = some (.int .i64 a0_0):=(blk_cell BK527.out 0).trans rfl;have hcz8_1:w7.cell? ⟨gb527,1,none⟩ = some (.slice A0_1 l0_1.length c0_1):=(blk_cell BK527.out 1).trans rfl;have hfz8_0:=blk_frozen BK527.out 0;have hfz8_1:=blk_frozen BK527.out 1;have p528:0 ≤ (a1:Int):=of_decide_eq_true ab;have q528:a1 < (l0_1.length:Int):=of_decide_eq_true ab;obtain ⟨ad528,e528,hx528_0⟩:=Kd.at_bool HR0_1.out a1 p528 q528;(try rw [← Nbq5.out] at hx528_0);cases e528;replace hx528_0:=(HB.out.cell (World.block_lt_of_cell? w _ hx528_0)).trans hx528_0;replace p528:=eq_true p528;replace q528:=eq_true q528));try go_wp2_with (first|((with_reducible refine gate_dst (N:=2) rfl ?_);refine box_event ?hg (N:=2) ?hd (cs:=#[.int .i64 a0_0,.slice A0_1 l0_1.length c0_1]) (t:=68) ?hr ?_;(case hd=>rfl);(case hg=>rfl);(case hr=>first|(go_simp;done)|(go_simp;rfl));intro gb527 hg w7 hbox hb;have n0_:=aM (below_step bw hb);have n1_:=aM (hbox);have n2_:=aM ((by rw [hg];exact (below_size bw):w.heap.size ≤ gb527));have n3_:=aM ((by rw [hg];exact (below_size bw):w.heap.size ≤ gb527));clear HB;have HB:=n0_;have BK527:=n1_;have GW527:=n2_;have GE527:=n3_;clear n0_ n1_ n2_ n3_;clear hb hbox hg;have hcz8_0:w7.cell? ⟨gb527,0,none⟩ = some (.int .i64 a0_0):=(blk_cell BK527.out 0).trans rfl;have hcz8_1:w7.cell? ⟨gb527,1,none⟩ = some (.slice A0_1 l0_1.length c0_1):=(blk_cell BK527.out 1).trans rfl;have hfz8_0:=blk_frozen BK527.out 0;have hfz8_1:=blk_frozen BK527.out 1;have p528:0 ≤ (a1:Int):=of_decide_eq_true ab;have q528:a1 < (l0_1.length:Int):=of_decide_eq_true ab;obtain ⟨ad528,e528,hx528_0⟩:=Kd.at_bool HR0_1.out a1 p528 q528;(try rw [← Nbq5.out] at hx528_0);cases e528;replace hx528_0:=(HB.out.cell (World.block_lt_of_cell? w _ hx528_0)).trans hx528_0;replace p528:=eq_true p528;replace q528:=eq_true q528)))
    go_loopg [14] k (fun kq v14 w'=>∃ (x14_1:Int),v14 = .int .i64 x14_1 ∧ Aside0 (impl_votes_isLeast.l0 kq a1 a0_0 x14_1 a0_0 l0_1 = some r) ∧ Aside0 (kq ≤ k) ∧ Aside0 (w'.heap[gb527]? = some (.cells #[.int .i64 a0_0,(.slice (some ad528) l0_1.length c0_1)] 68 (0,0))) ∧ Aside0 (Below w.heap.size w w'))
    case atStart=>exact ⟨(0),qrs,H',⟨Nat.le_refl _⟩,⟨by (with_reducible repeat (first|refine blk_drewN ?_ _|refine blk_drew ?_|refine blk_alloc ?_ _));exact BK527.out⟩,⟨by exact bw⟩⟩
    case round =>
     clear H';(try clear c1);(try clear p2);(try clear c3);(try clear c3b0);(try clear c4);(try clear c4b0);(try clear p5);(try clear q5);(try clear hx5);(try clear c6);(try clear hcz8_0);(try clear hcz8_1);(try clear hfz8_0);(try clear hfz8_1);(try clear hx528_0);(try clear p528);(try clear q528)
     obtain ⟨x14_1,rfl,HA,HK1,BK527,HB⟩:=hrel
     cases gk with
     | zero=>exact absurd HA.out (by simp [impl_votes_isLeast.l0])
     | succ k1 =>
      have H:=HA.out;clear HA;simp only [impl_votes_isLeast.l0] at H;by_cases c9:x14_1 < a0_0
      ·rw [if_pos c9] at H;have c9b0:decide (x14_1 < a0_0) = true:=decide_eq_true c9;clear c9;replace H:=Option.bind_eq_some_iff.mp H;obtain ⟨t529,A100,H⟩:=H;replace H:(if t529 = true then (if 0 ≤ x14_1 then (if 0 ≤ (Go.bits .andNot .i64 a1 (shl .i64 1 x14_1)) then (if (Go.bits .andNot .i64 a1 (shl .i64 1 x14_1)) < (l0_1.length:Int) then (if rdOf false l0_1 (Go.bits .andNot .i64 a1 (shl .i64 1 x14_1)) = true then (some false) else (impl_votes_isLeast.l0 k1 a1 a0_0 (wrap64 (x14_1 + 1)) a0_0 l0_1)) else (none)) else (none)) else (none)) else (impl_votes_isLeast.l0 k1 a1 a0_0 (wrap64 (x14_1 + 1)) a0_0 l0_1)) = some r:=H;have A10:=aM A100;clear A100;by_cases c11:t529 = true
       ·subst c11;have H1:(if 0 ≤ x14_1 then (if 0 ≤ (Go.bits .andNot .i64 a1 (shl .i64 1 x14_1)) then (if (Go.bits .andNot .i64 a1 (shl .i64 1 x14_1)) < (l0_1.length:Int) then (if rdOf false l0_1 (Go.bits .andNot .i64 a1 (shl .i64 1 x14_1)) = true then (some false) else (impl_votes_isLeast.l0 k1 a1 a0_0 (wrap64 (x14_1 + 1)) a0_0 l0_1)) else (none)) else (none)) else (none)) = some r:=by rw [if_pos rfl] at H;exact H
        clear H;have H:=H1;clear H1;by_cases c12:0 ≤ x14_1
        ·rw [if_pos c12] at H;have c12b0:=eq_true c12;have c12b1:decide (0 ≤ x14_1) = true:=decide_eq_true c12;clear c12;obtain ⟨ji13,hji13⟩:∃ j_:Int,(shl .i64 1 x14_1) = j_:=⟨_,rfl⟩;replace H:(if 0 ≤ (Go.bits .andNot .i64 a1 (ji13)) then (if (Go.bits .andNot .i64 a1 (ji13)) < (l0_1.length:Int) then (if rdOf false l0_1 (Go.bits .andNot .i64 a1 (ji13)) = true then (some false) else (impl_votes_isLeast.l0 k1 a1 a0_0 (wrap64 (x14_1 + 1)) a0_0 l0_1)) else (none)) else (none)) = some r:=by first|(rw [hji13] at H;exact H)|(simp only [hji13] at H ⊢;exact H)
         (try rw [hji13] at A10)
         have hji13_:(IntKind.i64.wrap (1 * 2 ^ min x14_1.toNat 64)) = ji13:=hji13;have hji13z:x14_1 ≤ 64 → (IntKind.i64.wrap (1 * 2 ^ x14_1.toNat)) = ji13:=shl_small hji13;have hji13u:(IntKind.i64.wrap (2 ^ min x14_1.toNat 64)) = ji13:=by have h_:=hji13_;rw [Int.one_mul] at h_;exact h_
         have hji13v:x14_1 ≤ 64 → (IntKind.i64.wrap (2 ^ x14_1.toNat)) = ji13:=fun hle_=>by have h_:=hji13z hle_;rw [Int.one_mul] at h_;exact h_
         have hji13y:(wrap64 (1 * 2 ^ min x14_1.toNat 64)) = ji13:=(i64_w _).symm.trans hji13_;have hji13x:x14_1 ≤ 64 → (wrap64 (1 * 2 ^ x14_1.toNat)) = ji13:=fun h_=>(i64_w _).symm.trans (hji13z h_)
         by_cases c14:0 ≤ (Go.bits .andNot .i64 a1 (ji13))
         ·rw [if_pos c14] at H;have c14b0:decide (0 ≤ (Go.bits .andNot .i64 a1 (ji13))) = true:=decide_eq_true c14;clear c14;by_cases c15:(Go.bits .andNot .i64 a1 (ji13)) < (l0_1.length:Int)
          ·rw [if_pos c15] at H;have c15b0:decide ((Go.bits .andNot .i64 a1 (ji13)) < (l0_1.length:Int)) = true:=decide_eq_true c15;clear c15;obtain ⟨bq16,hbq16⟩:∃ b_:Bool,b_ = (rdOf false l0_1 (Go.bits .andNot .i64 a1 (ji13))):=⟨_,rfl⟩;replace H:(if bq16 = true then (some false) else (impl_votes_isLeast.l0 k1 a1 a0_0 (wrap64 (x14_1 + 1)) a0_0 l0_1)) = some r:=by rw [← hbq16] at H;exact H
           have Nbq16:=aM hbq16;clear hbq16;by_cases c17:bq16 = true
           ·subst c17;have H1:(some false) = some r:=by rw [if_pos rfl] at H;exact H
            clear H;have H:=H1;clear H1;obtain rfl:=Option.some.inj H;go_wp2_with (first|(go_at_call 134;(with_reducible refine (impl_has.calls a1 x14_1 true _ A10.out).mono ?_);rintro e w' ⟨rfl,⟨nd,rfl⟩⟩;(try first|exact ⟨rfl,_,World.drewN_drewN _ _ _⟩|exact ⟨rfl,_,Eq.trans (World.drewN_drewN _ _ _) (congrArg (World.drewN _) (Nat.add_assoc _ _ _))⟩);have hcz18_0:wr.cell? ⟨gb527,0,none⟩ = some (.int .i64 a0_0):=(blk_cell BK527.out 0).trans rfl;have hcz18_1:wr.cell? ⟨gb527,1,none⟩ = some (.slice (some ad528) l0_1.length c0_1):=(blk_cell BK527.out 1).trans rfl;have hfz18_0:=blk_frozen BK527.out 0;have hfz18_1:=blk_frozen BK527.out 1;have p530:0 ≤ ((Go.bits .andNot .i64 a1 (ji13)):Int):=of_decide_eq_true ab;have q530:(Go.bits .andNot .i64 a1 (ji13)) < (l0_1.length:Int):=of_decide_eq_true ab;obtain ⟨ad530,e530,hx530_0⟩:=Kd.at_bool HR0_1.out (Go.bits .andNot .i64 a1 (ji13)) p530 q530;(try rw [← Nbq5.out] at hx530_0);(try rw [← Nbq16.out] at hx530_0);obtain rfl:ad528 = ad530:=(by injection e530);replace hx530_0:=(HB.out.cell (World.block_lt_of_cell? w _ hx530_0)).trans hx530_0;replace p530:=eq_true p530;replace q530:=eq_true q530))
            repeat (go_quiet (first|(go_at_call 134;(with_reducible refine (impl_has.calls a1 x14_1 true _ A10.out).mono ?_);rintro e w' ⟨rfl,⟨nd,rfl⟩⟩;(try first|exact ⟨rfl,_,World.drewN_drewN _ _ _⟩|exact ⟨rfl,_,Eq.trans (World.drewN_drewN _ _ _) (congrArg (World.drewN _) (Nat.add_assoc _ _ _))⟩);have hcz18_0:wr.cell? ⟨gb527,0,none⟩ = some (.int .i64 a0_0):=(blk_cell BK527.out 0).trans rfl;have hcz18_1:wr.cell? ⟨gb527,1,none⟩ = some (.slice (some ad528) l0_1.length c0_1):=(blk_cell BK527.out 1).trans rfl;have hfz18_0:=blk_frozen BK527.out 0;have hfz18_1:=blk_frozen BK527.out 1;have p530:0 ≤ ((Go.bits .andNot .i64 a1 (ji13)):Int):=of_decide_eq_true ab;have q530:(Go.bits .andNot .i64 a1 (ji13)) < (l0_1.length:Int):=of_decide_eq_true ab;obtain ⟨ad530,e530,hx530_0⟩:=Kd.at_bool HR0_1.out (Go.bits .andNot .i64 a1 (ji13)) p530 q530;(try rw [← Nbq5.out] at hx530_0);(try rw [← Nbq16.out] at hx530_0);obtain rfl:ad528 = ad530:=(by injection e530);replace hx530_0:=(HB.out.cell (World.block_lt_of_cell? w _ hx530_0)).trans hx530_0;replace p530:=eq_true p530;replace q530:=eq_true q530));try go_wp2_with (first|(go_at_call 134;(with_reducible refine (impl_has.calls a1 x14_1 true _ A10.out).mono ?_);rintro e w' ⟨rfl,⟨nd,rfl⟩⟩;(try first|exact ⟨rfl,_,World.drewN_drewN _ _ _⟩|exact ⟨rfl,_,Eq.trans (World.drewN_drewN _ _ _) (congrArg (World.drewN _) (Nat.add_assoc _ _ _))⟩);have hcz18_0:wr.cell? ⟨gb527,0,none⟩ = some (.int .i64 a0_0):=(blk_cell BK527.out 0).trans rfl;have hcz18_1:wr.cell? ⟨gb527,1,none⟩ = some (.slice (some ad528) l0_1.length c0_1):=(blk_cell BK527.out 1).trans rfl;have hfz18_0:=blk_frozen BK527.out 0;have hfz18_1:=blk_frozen BK527.out 1;have p530:0 ≤ ((Go.bits .andNot .i64 a1 (ji13)):Int):=of_decide_eq_true ab;have q530:(Go.bits .andNot .i64 a1 (ji13)) < (l0_1.length:Int):=of_decide_eq_true ab;obtain ⟨ad530,e530,hx530_0⟩:=Kd.at_bool HR0_1.out (Go.bits .andNot .i64 a1 (ji13)) p530 q530;(try rw [← Nbq5.out] at hx530_0);(try rw [← Nbq16.out] at hx530_0);obtain rfl:ad528 = ad530:=(by injection e530);replace hx530_0:=(HB.out.cell (World.block_lt_of_cell? w _ hx530_0)).trans hx530_0;replace p530:=eq_true p530;replace q530:=eq_true q530)))
            go_ret
            exact ⟨by first|rfl|(simp [errW_none,errW_some] <;> rfl)|(simp only [← hji13];first|rfl|(simp [errW_none,errW_some] <;> rfl))|(simp [*,errW_none,errW_some] <;> rfl),by exact bw⟩
           ·replace c17:=Bool.eq_false_iff.mpr c17;subst c17;have H1:(impl_votes_isLeast.l0 k1 a1 a0_0 (wrap64 (x14_1 + 1)) a0_0 l0_1) = some r:=by rw [if_neg (show ¬ (false = true) by decide)] at H;exact H
            clear H;have H:=H1;clear H1;have H':=aM H;clear H;go_wp2_with (first|(go_at_call 134;(with_reducible refine (impl_has.calls a1 x14_1 true _ A10.out).mono ?_);rintro e w' ⟨rfl,⟨nd,rfl⟩⟩;(try first|exact ⟨rfl,_,World.drewN_drewN _ _ _⟩|exact ⟨rfl,_,Eq.trans (World.drewN_drewN _ _ _) (congrArg (World.drewN _) (Nat.add_assoc _ _ _))⟩);have hcz19_0:wr.cell? ⟨gb527,0,none⟩ = some (.int .i64 a0_0):=(blk_cell BK527.out 0).trans rfl;have hcz19_1:wr.cell? ⟨gb527,1,none⟩ = some (.slice (some ad528) l0_1.length c0_1):=(blk_cell BK527.out 1).trans rfl;have hfz19_0:=blk_frozen BK527.out 0;have hfz19_1:=blk_frozen BK527.out 1;have p530:0 ≤ ((Go.bits .andNot .i64 a1 (ji13)):Int):=of_decide_eq_true ab;have q530:(Go.bits .andNot .i64 a1 (ji13)) < (l0_1.length:Int):=of_decide_eq_true ab;obtain ⟨ad530,e530,hx530_0⟩:=Kd.at_bool HR0_1.out (Go.bits .andNot .i64 a1 (ji13)) p530 q530;(try rw [← Nbq5.out] at hx530_0);(try rw [← Nbq16.out] at hx530_0);obtain rfl:ad528 = ad530:=(by injection e530);replace hx530_0:=(HB.out.cell (World.block_lt_of_cell? w _ hx530_0)).trans hx530_0;replace p530:=eq_true p530;replace q530:=eq_true q530))
            repeat (go_quiet (first|(go_at_call 134;(with_reducible refine (impl_has.calls a1 x14_1 true _ A10.out).mono ?_);rintro e w' ⟨rfl,⟨nd,rfl⟩⟩;(try first|exact ⟨rfl,_,World.drewN_drewN _ _ _⟩|exact ⟨rfl,_,Eq.trans (World.drewN_drewN _ _ _) (congrArg (World.drewN _) (Nat.add_assoc _ _ _))⟩);have hcz19_0:wr.cell? ⟨gb527,0,none⟩ = some (.int .i64 a0_0):=(blk_cell BK527.out 0).trans rfl;have hcz19_1:wr.cell? ⟨gb527,1,none⟩ = some (.slice (some ad528) l0_1.length c0_1):=(blk_cell BK527.out 1).trans rfl;have hfz19_0:=blk_frozen BK527.out 0;have hfz19_1:=blk_frozen BK527.out 1;have p530:0 ≤ ((Go.bits .andNot .i64 a1 (ji13)):Int):=of_decide_eq_true ab;have q530:(Go.bits .andNot .i64 a1 (ji13)) < (l0_1.length:Int):=of_decide_eq_true ab;obtain ⟨ad530,e530,hx530_0⟩:=Kd.at_bool HR0_1.out (Go.bits .andNot .i64 a1 (ji13)) p530 q530;(try rw [← Nbq5.out] at hx530_0);(try rw [← Nbq16.out] at hx530_0);obtain rfl:ad528 = ad530:=(by injection e530);replace hx530_0:=(HB.out.cell (World.block_lt_of_cell? w _ hx530_0)).trans hx530_0;replace p530:=eq_true p530;replace q530:=eq_true q530));try go_wp2_with (first|(go_at_call 134;(with_reducible refine (impl_has.calls a1 x14_1 true _ A10.out).mono ?_);rintro e w' ⟨rfl,⟨nd,rfl⟩⟩;(try first|exact ⟨rfl,_,World.drewN_drewN _ _ _⟩|exact ⟨rfl,_,Eq.trans (World.drewN_drewN _ _ _) (congrArg (World.drewN _) (Nat.add_assoc _ _ _))⟩);have hcz19_0:wr.cell? ⟨gb527,0,none⟩ = some (.int .i64 a0_0):=(blk_cell BK527.out 0).trans rfl;have hcz19_1:wr.cell? ⟨gb527,1,none⟩ = some (.slice (some ad528) l0_1.length c0_1):=(blk_cell BK527.out 1).trans rfl;have hfz19_0:=blk_frozen BK527.out 0;have hfz19_1:=blk_frozen BK527.out 1;have p530:0 ≤ ((Go.bits .andNot .i64 a1 (ji13)):Int):=of_decide_eq_true ab;have q530:(Go.bits .andNot .i64 a1 (ji13)) < (l0_1.length:Int):=of_decide_eq_true ab;obtain ⟨ad530,e530,hx530_0⟩:=Kd.at_bool HR0_1.out (Go.bits .andNot .i64 a1 (ji13)) p530 q530;(try rw [← Nbq5.out] at hx530_0);(try rw [← Nbq16.out] at hx530_0);obtain rfl:ad528 = ad530:=(by injection e530);replace hx530_0:=(HB.out.cell (World.block_lt_of_cell? w _ hx530_0)).trans hx530_0;replace p530:=eq_true p530;replace q530:=eq_true q530)))
            go_roundg k1
            case measure=>have:=HK1.out;omega
            case rel=>exact ⟨(wrap64 (x14_1 + 1)),qrs,H',⟨by have:=HK1.out;omega⟩,⟨by (with_reducible repeat (first|refine blk_drewN ?_ _|refine blk_drew ?_|refine blk_alloc ?_ _));exact BK527.out⟩,⟨by exact bw⟩⟩
          ·rw [if_neg c15] at H;exact absurd H (by simp)
         ·rw [if_neg c14] at H;exact absurd H (by simp)
        ·rw [if_neg c12] at H;exact absurd H (by simp)
       ·replace c11:=Bool.eq_false_iff.mpr c11;subst c11;have H1:(impl_votes_isLeast.l0 k1 a1 a0_0 (wrap64 (x14_1 + 1)) a0_0 l0_1) = some r:=by rw [if_neg (show ¬ (false = true) by decide)] at H;exact H
        clear H;have H:=H1;clear H1;have H':=aM H;clear H;go_wp2_with (first|(go_at_call 134;(with_reducible refine (impl_has.calls a1 x14_1 false _ A10.out).mono ?_);rintro e w' ⟨rfl,⟨nd,rfl⟩⟩;(try first|exact ⟨rfl,_,World.drewN_drewN _ _ _⟩|exact ⟨rfl,_,Eq.trans (World.drewN_drewN _ _ _) (congrArg (World.drewN _) (Nat.add_assoc _ _ _))⟩)))
        repeat (go_quiet (first|(go_at_call 134;(with_reducible refine (impl_has.calls a1 x14_1 false _ A10.out).mono ?_);rintro e w' ⟨rfl,⟨nd,rfl⟩⟩;(try first|exact ⟨rfl,_,World.drewN_drewN _ _ _⟩|exact ⟨rfl,_,Eq.trans (World.drewN_drewN _ _ _) (congrArg (World.drewN _) (Nat.add_assoc _ _ _))⟩)));try go_wp2_with (first|(go_at_call 134;(with_reducible refine (impl_has.calls a1 x14_1 false _ A10.out).mono ?_);rintro e w' ⟨rfl,⟨nd,rfl⟩⟩;(try first|exact ⟨rfl,_,World.drewN_drewN _ _ _⟩|exact ⟨rfl,_,Eq.trans (World.drewN_drewN _ _ _) (congrArg (World.drewN _) (Nat.add_assoc _ _ _))⟩))))
        go_roundg k1
        case measure=>have:=HK1.out;omega
        case rel=>exact ⟨(wrap64 (x14_1 + 1)),qrs,H',⟨by have:=HK1.out;omega⟩,⟨by (with_reducible repeat (first|refine blk_drewN ?_ _|refine blk_drew ?_|refine blk_alloc ?_ _));exact BK527.out⟩,⟨by exact bw⟩⟩
      ·rw [if_neg c9] at H;have c9b0:decide (x14_1 < a0_0) = false:=decide_eq_false c9;clear c9;obtain rfl:=Option.some.inj H;go_wp2
       repeat (go_quiet (fail);try go_wp2)
       go_ret
       exact ⟨by first|rfl|(simp [errW_none,errW_some] <;> rfl)|(simp [*,errW_none,errW_some] <;> rfl),by exact bw⟩
   ·replace c6:=Bool.eq_false_iff.mpr c6;subst c6;have H1:(some false) = some r:=by rw [if_neg (show ¬ (false = true) by decide)] at H;exact H
    clear H;have H:=H1;clear H1;obtain rfl:=Option.some.inj H;go_enter Try.func148,Try.ntmps148;go_wp2_with (first|((with_reducible refine gate_dst (N:=2) rfl ?_);refine box_event ?hg (N:=2) ?hd (cs:=#[.int .i64 a0_0,.slice A0_1 l0_1.length c0_1]) (t:=68) ?hr ?_;(case hd=>rfl);(case hg=>rfl);(case hr=>first|(go_simp;done)|(go_simp;rfl));intro gb527 hg w20 hbox hb;have n0_:=aM (below_step bw hb);have n1_:=aM (hbox);have n2_:=aM ((by rw [hg];exact (below_size bw):w.heap.size ≤ gb527));have n3_:=aM ((by rw [hg];exact (below_size bw):w.heap.size ≤ gb527));clear HB;have HB:=n0_;have BK527:=n1_;have GW527:=n2_;have GE527:=n3_;clear n0_ n1_ n2_ n3_;clear hb hbox hg;have hcz21_0:w20.cell? ⟨gb527,0,none⟩ = some (.int .i64 a0_0):=(blk_cell BK527.out 0).trans rfl;have hcz21_1:w20.cell? ⟨gb527,1,none⟩ = some (.slice A0_1 l0_1.length c0_1):=(blk_cell BK527.out 1).trans rfl;have hfz21_0:=blk_frozen BK527.out 0;have hfz21_1:=blk_frozen BK527.out 1;have p528:0 ≤ (a1:Int):=of_decide_eq_true ab;have q528:a1 < (l0_1.length:Int):=of_decide_eq_true ab;obtain ⟨ad528,e528,hx528_0⟩:=Kd.at_bool HR0_1.out a1 p528 q528;(try rw [← Nbq5.out] at hx528_0);cases e528;replace hx528_0:=(HB.out.cell (World.block_lt_of_cell? w _ hx528_0)).trans hx528_0;replace p528:=eq_true p528;replace q528:=eq_true q528))
    repeat (go_quiet (first|((with_reducible refine gate_dst (N:=2) rfl ?_);refine box_event ?hg (N:=2) ?hd (cs:=#[.int .i64 a0_0,.slice A0_1 l0_1.length c0_1]) (t:=68) ?hr ?_;(case hd=>rfl);(case hg=>rfl);(case hr=>first|(go_simp;done)|(go_simp;rfl));intro gb527 hg w20 hbox hb;have n0_:=aM (below_step bw hb);have n1_:=aM (hbox);have n2_:=aM ((by rw [hg];exact (below_size bw):w.heap.size ≤ gb527));have n3_:=aM ((by rw [hg];exact (below_size bw):w.heap.size ≤ gb527));clear HB;have HB:=n0_;have BK527:=n1_;have GW527:=n2_;have GE527:=n3_;clear n0_ n1_ n2_ n3_;clear hb hbox hg;have hcz21_0:w20.cell? ⟨gb527,0,none⟩ = some (.int .i64 a0_0):=(blk_cell BK527.out 0).trans rfl;have hcz21_1:w20.cell? ⟨gb527,1,none⟩ = some (.slice A0_1 l0_1.length c0_1):=(blk_cell BK527.out 1).trans rfl;have hfz21_0:=blk_frozen BK527.out 0;have hfz21_1:=blk_frozen BK527.out 1;have p528:0 ≤ (a1:Int):=of_decide_eq_true ab;have q528:a1 < (l0_1.length:Int):=of_decide_eq_true ab;obtain ⟨ad528,e528,hx528_0⟩:=Kd.at_bool HR0_1.out a1 p528 q528;(try rw [← Nbq5.out] at hx528_0);cases e528;replace hx528_0:=(HB.out.cell (World.block_lt_of_cell? w _ hx528_0)).trans hx528_0;replace p528:=eq_true p528;replace q528:=eq_true q528));try go_wp2_with (first|((with_reducible refine gate_dst (N:=2) rfl ?_);refine box_event ?hg (N:=2) ?hd (cs:=#[.int .i64 a0_0,.slice A0_1 l0_1.length c0_1]) (t:=68) ?hr ?_;(case hd=>rfl);(case hg=>rfl);(case hr=>first|(go_simp;done)|(go_simp;rfl));intro gb527 hg w20 hbox hb;have n0_:=aM (below_step bw hb);have n1_:=aM (hbox);have n2_:=aM ((by rw [hg];exact (below_size bw):w.heap.size ≤ gb527));have n3_:=aM ((by rw [hg];exact (below_size bw):w.heap.size ≤ gb527));clear HB;have HB:=n0_;have BK527:=n1_;have GW527:=n2_;have GE527:=n3_;clear n0_ n1_ n2_ n3_;clear hb hbox hg;have hcz21_0:w20.cell? ⟨gb527,0,none⟩ = some (.int .i64 a0_0):=(blk_cell BK527.out 0).trans rfl;have hcz21_1:w20.cell? ⟨gb527,1,none⟩ = some (.slice A0_1 l0_1.length c0_1):=(blk_cell BK527.out 1).trans rfl;have hfz21_0:=blk_frozen BK527.out 0;have hfz21_1:=blk_frozen BK527.out 1;have p528:0 ≤ (a1:Int):=of_decide_eq_true ab;have q528:a1 < (l0_1.length:Int):=of_decide_eq_true ab;obtain ⟨ad528,e528,hx528_0⟩:=Kd.at_bool HR0_1.out a1 p528 q528;(try rw [← Nbq5.out] at hx528_0);cases e528;replace hx528_0:=(HB.out.cell (World.block_lt_of_cell? w _ hx528_0)).trans hx528_0;replace p528:=eq_true p528;replace q528:=eq_true q528)))
    go_ret
    exact ⟨by first|rfl|(simp [errW_none,errW_some] <;> rfl)|(simp [*,errW_none,errW_some] <;> rfl),by exact bw⟩
  ·rw [if_neg c4] at H;exact absurd H (by simp)
 ·rw [if_neg c3] at H;exact absurd H (by simp)


/-! ### impl_tables: function 135 -/
mutual
def impl_tables.l0:Nat → Int → List Int → List Int → List Int → Int → Int → Option (List Int)
 | 0,_,_,_,_,_,_=>none
 | k + 1,x0,x3,x4,x16,x17,x18=>if x18 < x17 then (if 0 ≤ x18 then (if x18 < (x16.length:Int) then (impl_tables.l1 k x0 x3 x4 (rd x16 x18) x16 x17 x18 x3 (x3.length:Int) 0) else (none)) else (none)) else (some x4)
def impl_tables.l1:Nat → Int → List Int → List Int → Int → List Int → Int → Int → List Int → Int → Int → Option (List Int)
 | 0,_,_,_,_,_,_,_,_,_,_=>none
 | k + 1,x0,x3,x4,x6,x16,x17,x18,x22,x23,x24=>if x24 < x23 then (if 0 ≤ x24 then (if x24 < (x22.length:Int) then (if (Go.bits .and .i64 x6 (rd x22 x24)) = x6 then (if 0 ≤ (wrap64 (x0 - 1)) then (if x4.length < 17592186044416 then (impl_tables.l1 k x0 x3 (x4 ++ [Go.bits .or .i64 (shl .i64 (rd x22 x24) (shl .u64 1 (wrap64 (x0 - 1)))) x6]) x6 x16 x17 x18 x22 x23 (wrap64 (x24 + 1))) else (none)) else (none)) else (impl_tables.l1 k x0 x3 x4 x6 x16 x17 x18 x22 x23 (wrap64 (x24 + 1)))) else (none)) else (none)) else (impl_tables.l0 k x0 x3 x4 x16 x17 (wrap64 (x18 + 1)))
def impl_tables.f:Nat → Int → Option (List Int)
 | 0,_=>none
 | k + 1,a0=>if a0 = 0 then (some (([0,1]:List Int))) else ((impl_tables.f k (wrap64 (a0 - 1))).bind fun t539=>(impl_tables.l0 k a0 t539 (([]:List Int)) t539 (t539.length:Int) 0))
end
theorem impl_tables.mono_l:∀ k,(∀ y0,LeO (impl_tables.f k y0) (impl_tables.f (k + 1) y0)) ∧ (∀ y0 y1 y2 y3 y4 y5,LeO (impl_tables.l0 k y0 y1 y2 y3 y4 y5) (impl_tables.l0 (k + 1) y0 y1 y2 y3 y4 y5)) ∧ (∀ y0 y1 y2 y3 y4 y5 y6 y7 y8 y9,LeO (impl_tables.l1 k y0 y1 y2 y3 y4 y5 y6 y7 y8 y9) (impl_tables.l1 (k + 1) y0 y1 y2 y3 y4 y5 y6 y7 y8 y9))
 | 0=>⟨fun _ r h=>by simp [impl_tables.f] at h,fun _ _ _ _ _ _ r h=>by simp [impl_tables.l0] at h,fun _ _ _ _ _ _ _ _ _ _ r h=>by simp [impl_tables.l1] at h⟩
 | k + 1=>by
  obtain ⟨ih0,ih1,ih2⟩:=impl_tables.mono_l k;refine ⟨?_,?_,?_⟩
  ·intro y0;unfold impl_tables.f
   repeat' with_reducible first|exact ih0 _|exact ih1 _ _ _ _ _ _|exact ih2 _ _ _ _ _ _ _ _ _ _|exact LeO.refl _|exact LeO.none _|refine LeO.ite ?_ ?_|refine LeO.bind ?_ (fun _=>?_)
  ·intro y0 y1 y2 y3 y4 y5;unfold impl_tables.l0
   repeat' with_reducible first|exact ih0 _|exact ih1 _ _ _ _ _ _|exact ih2 _ _ _ _ _ _ _ _ _ _|exact LeO.refl _|exact LeO.none _|refine LeO.ite ?_ ?_|refine LeO.bind ?_ (fun _=>?_)
  ·intro y0 y1 y2 y3 y4 y5 y6 y7 y8 y9;unfold impl_tables.l1
   repeat' with_reducible first|exact ih0 _|exact ih1 _ _ _ _ _ _|exact ih2 _ _ _ _ _ _ _ _ _ _|exact LeO.refl _|exact LeO.none _|refine LeO.ite ?_ ?_|refine LeO.bind ?_ (fun _=>?_)
theorem impl_tables.mono:∀ a0 k,LeO (impl_tables.f k a0) (impl_tables.f (k + 1) a0):=by
 intro a0 k;obtain ⟨ih0,ih1,ih2⟩:=impl_tables.mono_l k;exact ih0 a0
set_option maxHeartbeats 8000000 in
set_option maxRecDepth 100000 in
theorem impl_tables.calls (k:Nat):∀ (a0:Int) (r:List Int) (w:World) (h:impl_tables.f k a0 = some r),
  Calls Try.prog 135 #[.int .i64 a0] w fun e w'=>∃ v0_:Value,e = .returned (v0_) ∧ Kd.R (Kd.int .i64) 3 w' w.heap.size (fun _=>True) v0_ r ∧ Below w.heap.size w w':=by
 induction k using Nat.strongRecOn with
 | _ k ih =>
 intro a0 r w h
 cases k with
 | zero=>exact absurd h (by simp [impl_tables.f])
 | succ k =>
 simp only [impl_tables.f] at h;have HB:=aM (Below.refl w.heap.size w);have H:(if a0 = 0 then (some (([0,1]:List Int))) else ((impl_tables.f k (wrap64 (a0 - 1))).bind fun t539=>(impl_tables.l0 k a0 t539 (([]:List Int)) t539 (t539.length:Int) 0))) = some r:=h;clear h;by_cases c2:a0 = 0
 ·rw [if_pos c2] at H;have c2b0:(a0 == 0) = true:=beq_iff_eq.mpr c2;have c2b1:(a0 != 0) = false:=bne_eq_false_iff_eq.mpr c2;clear c2;obtain ⟨y536,hy536⟩:∃ y_:List Int,y_ = (([0,1]:List Int)):=⟨_,rfl⟩;replace H:(some y536) = some r:=by first|(rw [hy536];with_reducible exact H)|(have H2_:=(Option.bind_some _ _).symm.trans H;rw [hy536];with_reducible exact H2_)|(have H2_:=(Option.bind_some _ _).symm.trans H;with_reducible exact H2_)|with_reducible exact H|(rw [hy536];exact H)|exact H
  have Ny536:=aM hy536;clear hy536;obtain rfl:=Option.some.inj H;go_enter Try.func135,Try.ntmps135;go_wp2_with (first|((with_reducible refine gate_dst (N:=11) rfl ?_);refine Kd.R_lit (Kd.int .i64) _ 3 ?hg (N:=11) ?hd (xs:=([0,1]:List Int)) (inner:=[.int .i64 0,.int .i64 1]) (ok:=fun _=>True) (okp:=fun _=>True) ?hr ?hp (fun _ hk=>hk) trivial (Below.refl _ _) (Nat.le_refl _) (by simp) ?_;(case hd=>rfl);(case hg=>rfl);(case hr=>first|(go_simp;done)|(go_simp;rfl));(case hp=>exact (Reps.one (show Kd.M (Kd.int .i64) _ _ _ 0 [.int .i64 0] from rfl) (Reps.one (show Kd.M (Kd.int .i64) _ _ _ 1 [.int .i64 1] from rfl) (Reps.none _ _))));intro v537 w3 ho4 hb hg_ hnew_;clear hg_ hnew_;(first|rw [← Ny536.out] at ho4|(simp only [Int.reduceToNat] at ho4;rw [← Ny536.out] at ho4));have n0_:=aM (Kd.R_lower ho4 (below_size bw));have n1_:=aM (below_step bw hb);clear HB;have HO538:=n0_;have HB:=n1_;clear n0_ n1_;clear hb ho4))
  go_ret
  exact ⟨_,by first|rfl|(simp [errW_none,errW_some] <;> rfl)|(simp [*,errW_none,errW_some] <;> rfl),by (with_reducible repeat (first|apply Kd.R_alloc|apply Kd.R_drewN|apply Kd.R_drew));exact HO538.out,by exact bw⟩
 ·rw [if_neg c2] at H;have c2b0:(a0 == 0) = false:=beq_eq_false_iff_ne.mpr c2;have c2b1:(a0 != 0) = true:=bne_iff_ne.mpr c2;replace H:=Option.bind_eq_some_iff.mp H;obtain ⟨t539,A50,H⟩:=H;replace H:(impl_tables.l0 k a0 t539 (([]:List Int)) t539 (t539.length:Int) 0) = some r:=H;have A5:=aM A50;clear A50;obtain ⟨y542,hy542⟩:∃ y_:List Int,y_ = (([]:List Int)):=⟨_,rfl⟩;replace H:(impl_tables.l0 k a0 t539 y542 t539 (t539.length:Int) 0) = some r:=by first|(rw [hy542];with_reducible exact H)|(have H2_:=(Option.bind_some _ _).symm.trans H;rw [hy542];with_reducible exact H2_)|(have H2_:=(Option.bind_some _ _).symm.trans H;with_reducible exact H2_)|with_reducible exact H|(rw [hy542];exact H)|exact H
  have Ny542:=aM hy542;clear hy542;have H':=aM H;clear H;go_enter Try.func135,Try.ntmps135;go_wp2_with (first|((with_reducible refine gate_callee (f:=135) rfl ?_);refine goesL_ (some 14) rfl rfl Try.func135 kR rfl #[.int .i64 (wrap64 (a0 - 1))] rfl mq ?_;(with_reducible refine (ih k (by omega) (wrap64 (a0 - 1)) t539 _ A5.out).mono ?_);rintro e w6 ⟨v540,rfl,ho0,hb⟩;refine ⟨_,rfl,?_⟩;have n0_:=aM (Kd.R_lower ho0 (below_size bw));have n1_:=aM (below_step bw hb);clear HB;have HO541:=n0_;have HB:=n1_;clear n0_ n1_;(try clear hb);(try clear hb2);(try clear hk);(try clear hi);(try clear ho0))|((with_reducible refine gate_dst (N:=15) rfl ?_);refine Kd.R_lit (Kd.int .i64) _ 3 ?hg (N:=15) ?hd (xs:=([]:List Int)) (inner:=[]) (ok:=fun _=>True) (okp:=fun _=>True) ?hr ?hp (fun _ hk=>hk) trivial (Below.refl _ _) (Nat.le_refl _) (by simp) ?_;(case hd=>rfl);(case hg=>rfl);(case hr=>first|(go_simp;done)|(go_simp;rfl));(case hp=>exact (Reps.none _ _));intro v543 w7 ho8 hb hg_ hnew_;clear hg_ hnew_;(first|rw [← Ny542.out] at ho8|(simp only [Int.reduceToNat] at ho8;rw [← Ny542.out] at ho8));have n0_:=aM (Kd.R_elder' (qra HO541.out) (Kd.R_base ho8) hb);have n1_:=aM (Kd.R_lower (Kd.R_new' ho8 (Kd.R_lt (qra HO541.out))) (below_size bw));have n2_:=aM (below_step bw hb);clear HO541;clear HB;have HO541:=n0_;have HO544:=n1_;have HB:=n2_;clear n0_ n1_ n2_;clear hb ho8;obtain ⟨Ao9,co9,eo9⟩:=Kd.R_slice HO541.out;subst eo9))
  go_loopg [4,18] k (fun kq v4 v18 w'=>∃ (x4_1:List Int) (x18_1:Int),v18 = .int .i64 x18_1 ∧ Aside0 (impl_tables.l0 kq a0 t539 x4_1 t539 (t539.length:Int) x18_1 = some r) ∧ Aside0 (kq ≤ k) ∧ Aside0 (Kd.R (Kd.int .i64) 3 w' w.heap.size (fun k_=>some k_ ≠ (v4:Value).ownBlock) (.slice Ao9 t539.length co9) t539) ∧ Aside0 (Kd.R (Kd.int .i64) 3 w' w.heap.size (fun k_=>some k_ ≠ ((.slice Ao9 t539.length co9):Value).ownBlock ∧ some k_ ≠ ((.slice Ao9 t539.length co9):Value).ownBlock) v4 x4_1) ∧ Aside0 (Kd.R (Kd.int .i64) 3 w' w.heap.size (fun k_=>some k_ ≠ (v4:Value).ownBlock) (.slice Ao9 t539.length co9) t539) ∧ Aside0 (Below w.heap.size w w'))
  case atStart=>exact ⟨(y542),(0),qrs,H',⟨Nat.le_refl _⟩,⟨by (with_reducible repeat (first|apply Kd.R_alloc|apply Kd.R_drewN|apply Kd.R_drew));exact Kd.R_mono HO541.out (fun _ hk=>hk.2)⟩,⟨by (with_reducible repeat (first|apply Kd.R_alloc|apply Kd.R_drewN|apply Kd.R_drew));exact Kd.R_mono HO544.out (fun _ hk=>⟨hk.2,hk.2⟩)⟩,⟨by (with_reducible repeat (first|apply Kd.R_alloc|apply Kd.R_drewN|apply Kd.R_drew));exact Kd.R_mono HO541.out (fun _ hk=>hk.2)⟩,⟨by exact bw⟩⟩
  case round =>
   clear H';(try clear c1);(try clear c2);(try clear c2b0);(try clear c2b1);(try clear p2);(try clear p6)
   obtain ⟨x4_1,x18_1,rfl,HA,HK1,HO_3,HO_4,HO_16,HB⟩:=hrel
   cases gk with
   | zero=>exact absurd HA.out (by simp [impl_tables.l0])
   | succ k1 =>
    have H:=HA.out;clear HA;simp only [impl_tables.l0] at H;by_cases c10:x18_1 < (t539.length:Int)
    ·rw [if_pos c10] at H;have c10b0:decide (x18_1 < (t539.length:Int)) = true:=decide_eq_true c10;clear c10;by_cases c11:0 ≤ x18_1
     ·rw [if_pos c11] at H;have c11b0:decide (0 ≤ x18_1) = true:=decide_eq_true c11;clear c11;by_cases c12:x18_1 < (t539.length:Int)
      ·rw [if_pos c12] at H;have c12b0:decide (x18_1 < (t539.length:Int)) = true:=decide_eq_true c12;clear c12;have H':=aM H;clear H;have p545:0 ≤ (x18_1:Int):=of_decide_eq_true ab;have q545:x18_1 < (t539.length:Int):=of_decide_eq_true ab;obtain ⟨ad545,e545,hx545_0⟩:=Kd.at_int (Kd.R_reads' HO_16.out).2.2 x18_1 p545 q545;cases e545
       replace p545:=eq_true p545;replace q545:=eq_true q545;go_wp2
       go_loopg [4,24] k1 (fun kq v4 v24 w'=>∃ (x4_2:List Int) (x24_2:Int),v24 = .int .i64 x24_2 ∧ Aside0 (impl_tables.l1 kq a0 t539 x4_2 (rd t539 x18_1) t539 (t539.length:Int) x18_1 t539 (t539.length:Int) x24_2 = some r) ∧ Aside0 (kq ≤ k1) ∧ Aside0 (Kd.R (Kd.int .i64) 3 w' w.heap.size (fun k_=>some k_ ≠ (v4:Value).ownBlock) (.slice (some ad545) t539.length co9) t539) ∧ Aside0 (Kd.R (Kd.int .i64) 3 w' w.heap.size (fun k_=>some k_ ≠ ((.slice (some ad545) t539.length co9):Value).ownBlock ∧ some k_ ≠ ((.slice (some ad545) t539.length co9):Value).ownBlock ∧ some k_ ≠ ((.slice (some ad545) t539.length co9):Value).ownBlock) v4 x4_2) ∧ Aside0 (Kd.R (Kd.int .i64) 3 w' w.heap.size (fun k_=>some k_ ≠ (v4:Value).ownBlock) (.slice (some ad545) t539.length co9) t539) ∧ Aside0 (Kd.R (Kd.int .i64) 3 w' w.heap.size (fun k_=>some k_ ≠ (v4:Value).ownBlock) (.slice (some ad545) t539.length co9) t539) ∧ Aside0 (Below w.heap.size w w'))
       case atStart=>exact ⟨(x4_1),(0),qrs,H',⟨Nat.le_refl _⟩,⟨qra HO_3.out⟩,⟨by (with_reducible repeat (first|apply Kd.R_alloc|apply Kd.R_drewN|apply Kd.R_drew));exact Kd.R_mono HO_4.out (fun _ hk=>⟨hk.1,⟨hk.2,hk.1⟩⟩)⟩,⟨qra HO_16.out⟩,⟨qra HO_3.out⟩,⟨by exact bw⟩⟩
       case round =>
        clear H';(try clear c1);(try clear c2);(try clear c2b0);(try clear c2b1);(try clear p2);(try clear p5);(try clear q5);(try clear hx5);(try clear p6);(try clear c10);(try clear c10b0);(try clear c11);(try clear c11b0);(try clear c12);(try clear c12b0);(try clear hx545_0);(try clear p2);(try clear p545);(try clear p6);(try clear q545)
        obtain ⟨x4_2,x24_2,rfl,HA,HK2,HO_3,HO_4,HO_16,HO_22,HB⟩:=hrel
        cases gk with
        | zero=>exact absurd HA.out (by simp [impl_tables.l1])
        | succ k2 =>
         have H:=HA.out;clear HA;simp only [impl_tables.l1] at H;by_cases c13:x24_2 < (t539.length:Int)
         ·rw [if_pos c13] at H;have c13b0:decide (x24_2 < (t539.length:Int)) = true:=decide_eq_true c13;clear c13;by_cases c14:0 ≤ x24_2
          ·rw [if_pos c14] at H;have c14b0:decide (0 ≤ x24_2) = true:=decide_eq_true c14;clear c14;by_cases c15:x24_2 < (t539.length:Int)
           ·rw [if_pos c15] at H;have c15b0:decide (x24_2 < (t539.length:Int)) = true:=decide_eq_true c15;clear c15;by_cases c16:(Go.bits .and .i64 (rd t539 x18_1) (rd t539 x24_2)) = (rd t539 x18_1)
            ·rw [if_pos c16] at H;have c16b0:((Go.bits .and .i64 (rd t539 x18_1) (rd t539 x24_2)) == (rd t539 x18_1)) = true:=beq_iff_eq.mpr c16;have c16b1:((Go.bits .and .i64 (rd t539 x18_1) (rd t539 x24_2)) != (rd t539 x18_1)) = false:=bne_eq_false_iff_eq.mpr c16;clear c16;obtain ⟨ji17,hji17⟩:∃ j_:Int,(wrap64 (a0 - 1)) = j_:=⟨_,rfl⟩;replace H:(if 0 ≤ (ji17) then (if x4_2.length < 17592186044416 then (impl_tables.l1 k2 a0 t539 (x4_2 ++ [Go.bits .or .i64 (shl .i64 (rd t539 x24_2) (shl .u64 1 (ji17))) (rd t539 x18_1)]) (rd t539 x18_1) t539 (t539.length:Int) x18_1 t539 (t539.length:Int) (wrap64 (x24_2 + 1))) else (none)) else (none)) = some r:=by first|(rw [hji17] at H;exact H)|(simp only [hji17] at H ⊢;exact H)
             have hji17w:(IntKind.i64.wrap (a0 - 1)) = ji17:=(i64_w _).trans hji17;by_cases c18:0 ≤ (ji17)
             ·rw [if_pos c18] at H;have c18b0:=eq_true c18;have c18b1:decide (0 ≤ (ji17)) = true:=decide_eq_true c18;clear c18;obtain ⟨ji19,hji19⟩:∃ j_:Int,(shl .u64 1 (ji17)) = j_:=⟨_,rfl⟩;replace H:(if x4_2.length < 17592186044416 then (impl_tables.l1 k2 a0 t539 (x4_2 ++ [Go.bits .or .i64 (shl .i64 (rd t539 x24_2) (ji19)) (rd t539 x18_1)]) (rd t539 x18_1) t539 (t539.length:Int) x18_1 t539 (t539.length:Int) (wrap64 (x24_2 + 1))) else (none)) = some r:=by first|(rw [hji19] at H;exact H)|(simp only [hji19] at H ⊢;exact H)
              have hji19_:(IntKind.u64.wrap (1 * 2 ^ min (ji17).toNat 64)) = ji19:=hji19;have c19u_:=eq_true (show 0 ≤ (ji19) from hji19_ ▸ wrap_u64_nonneg _);have hji19z:(ji17) ≤ 64 → (IntKind.u64.wrap (1 * 2 ^ (ji17).toNat)) = ji19:=shl_small hji19;have hji19u:(IntKind.u64.wrap (2 ^ min (ji17).toNat 64)) = ji19:=by have h_:=hji19_;rw [Int.one_mul] at h_;exact h_
              have hji19v:(ji17) ≤ 64 → (IntKind.u64.wrap (2 ^ (ji17).toNat)) = ji19:=fun hle_=>by have h_:=hji19z hle_;rw [Int.one_mul] at h_;exact h_
              obtain ⟨ji20,hji20⟩:∃ j_:Int,(shl .i64 (rd t539 x24_2) (ji19)) = j_:=⟨_,rfl⟩;replace H:(if x4_2.length < 17592186044416 then (impl_tables.l1 k2 a0 t539 (x4_2 ++ [Go.bits .or .i64 (ji20) (rd t539 x18_1)]) (rd t539 x18_1) t539 (t539.length:Int) x18_1 t539 (t539.length:Int) (wrap64 (x24_2 + 1))) else (none)) = some r:=by first|(rw [hji20] at H;exact H)|(simp only [hji20] at H ⊢;exact H)
              have hji20_:(IntKind.i64.wrap ((rd t539 x24_2) * 2 ^ min (ji19).toNat 64)) = ji20:=hji20;have hji20z:(ji19) ≤ 64 → (IntKind.i64.wrap ((rd t539 x24_2) * 2 ^ (ji19).toNat)) = ji20:=shl_small hji20;have hji20y:(wrap64 ((rd t539 x24_2) * 2 ^ min (ji19).toNat 64)) = ji20:=(i64_w _).symm.trans hji20_;have hji20x:(ji19) ≤ 64 → (wrap64 ((rd t539 x24_2) * 2 ^ (ji19).toNat)) = ji20:=fun h_=>(i64_w _).symm.trans (hji20z h_)
              by_cases c21:x4_2.length < 17592186044416
              ·rw [if_pos c21] at H;have LMc21:=aM c21;clear c21;obtain ⟨y547,hy547⟩:∃ y_:List Int,y_ = (x4_2 ++ [Go.bits .or .i64 (ji20) (rd t539 x18_1)]):=⟨_,rfl⟩;replace H:(impl_tables.l1 k2 a0 t539 y547 (rd t539 x18_1) t539 (t539.length:Int) x18_1 t539 (t539.length:Int) (wrap64 (x24_2 + 1))) = some r:=by first|(rw [hy547];with_reducible exact H)|(have H2_:=(Option.bind_some _ _).symm.trans H;rw [hy547];with_reducible exact H2_)|(have H2_:=(Option.bind_some _ _).symm.trans H;with_reducible exact H2_)|with_reducible exact H|(rw [hy547];exact H)|exact H
               have Ny547:=aM hy547;clear hy547;have H':=aM H;clear H;have p546:0 ≤ (x24_2:Int):=of_decide_eq_true ab;have q546:x24_2 < (t539.length:Int):=of_decide_eq_true ab;obtain ⟨ad546,e546,hx546_0⟩:=Kd.at_int (Kd.R_reads' HO_22.out).2.2 x24_2 p546 q546;obtain rfl:ad545 = ad546:=(by injection e546);replace p546:=eq_true p546;replace q546:=eq_true q546;go_wp2_with (first|((with_reducible refine gate_builtin (b:=.append) (xs:=#[.tmp 33,.tmp 41]) rfl ?_);at_builtin;refine Kd.R_append (Kd.int .i64) (w0:=w) w.heap.size rfl (.tmp 33) (.tmp 41) 40 3 (.int .i64 0) 8 rfl Try.underlying40 info3 rfl (by decide) (by omega) u4 x4_2 (Go.bits .or .i64 (ji20) (rd t539 x18_1)) [.int .i64 (Go.bits .or .i64 (ji20) (rd t539 x18_1))] (fun k_=>some k_ ≠ (.slice (some ad545) t539.length co9:Value).ownBlock ∧ some k_ ≠ (.slice (some ad545) t539.length co9:Value).ownBlock ∧ some k_ ≠ (.slice (some ad545) t539.length co9:Value).ownBlock) (fun _=>False) rfl rfl ?aP (fun _ hk=>hk.elim) ?aF ?aO ?aB ?aS ?aL ?_;(case aP=>exact rfl);(case aB=>exact bw);(case aF=>exact (fun k_ hk=>⟨Kd.fresh' (Kd.R_lt (qra HO_3.out)) k_ hk,Kd.fresh' (Kd.R_lt (qra HO_16.out)) k_ hk,Kd.fresh' (Kd.R_lt (qra HO_22.out)) k_ hk⟩));(case aO=>exact (qra HO_4.out));(case aS=>exact (below_size bw));(case aL=>have:=LMc21.out;omega);intro v548 w22 ho hb hg hat;rw [← Ny547.out] at ho;have n0_:=aM (Kd.R_after (ok:=(fun _=>True)) (by (with_reducible repeat (first|apply Kd.R_alloc|apply Kd.R_drewN|apply Kd.R_drew));exact Kd.R_mono HO_3.out (fun _ hk=>⟨trivial,hk⟩)) hg hat);have n1_:=aM (Kd.R_after (ok:=(fun _=>True)) (by (with_reducible repeat (first|apply Kd.R_alloc|apply Kd.R_drewN|apply Kd.R_drew));exact Kd.R_mono HO_16.out (fun _ hk=>⟨trivial,hk⟩)) hg hat);have n2_:=aM (Kd.R_after (ok:=(fun _=>True)) (by (with_reducible repeat (first|apply Kd.R_alloc|apply Kd.R_drewN|apply Kd.R_drew));exact Kd.R_mono HO_22.out (fun _ hk=>⟨trivial,hk⟩)) hg hat);have n3_:=aM (hb);have n4_:=aM (ho);clear HO_3;clear HO_16;clear HO_22;clear HB;clear HO_4;have HO_3:=n0_;have HO_16:=n1_;have HO_22:=n2_;have HB:=n3_;have HO549:=n4_;clear n0_ n1_ n2_ n3_ n4_;clear ho hb hg hat))
               (try subst hji17)
               go_roundg k2
               case measure=>have:=HK1.out;have:=HK2.out;omega
               case rel=>exact ⟨(y547),(wrap64 (x24_2 + 1)),qrs,H',⟨by have:=HK1.out;have:=HK2.out;omega⟩,⟨by (with_reducible repeat (first|apply Kd.R_alloc|apply Kd.R_drewN|apply Kd.R_drew));exact Kd.R_mono HO_3.out (fun _ hk=>hk.2)⟩,⟨qra HO549.out⟩,⟨by (with_reducible repeat (first|apply Kd.R_alloc|apply Kd.R_drewN|apply Kd.R_drew));exact Kd.R_mono HO_16.out (fun _ hk=>hk.2)⟩,⟨by (with_reducible repeat (first|apply Kd.R_alloc|apply Kd.R_drewN|apply Kd.R_drew));exact Kd.R_mono HO_22.out (fun _ hk=>hk.2)⟩,⟨by exact bw⟩⟩
              ·rw [if_neg c21] at H;exact absurd H (by simp)
             ·rw [if_neg c18] at H;exact absurd H (by simp)
            ·rw [if_neg c16] at H;have c16b0:((Go.bits .and .i64 (rd t539 x18_1) (rd t539 x24_2)) == (rd t539 x18_1)) = false:=beq_eq_false_iff_ne.mpr c16;have c16b1:((Go.bits .and .i64 (rd t539 x18_1) (rd t539 x24_2)) != (rd t539 x18_1)) = true:=bne_iff_ne.mpr c16;have H':=aM H;clear H;have p546:0 ≤ (x24_2:Int):=of_decide_eq_true ab;have q546:x24_2 < (t539.length:Int):=of_decide_eq_true ab;obtain ⟨ad546,e546,hx546_0⟩:=Kd.at_int (Kd.R_reads' HO_22.out).2.2 x24_2 p546 q546;obtain rfl:ad545 = ad546:=(by injection e546);replace p546:=eq_true p546;replace q546:=eq_true q546;go_wp2
             (try subst hji17)
             go_roundg k2
             case measure=>have:=HK1.out;have:=HK2.out;omega
             case rel=>exact ⟨(x4_2),(wrap64 (x24_2 + 1)),qrs,H',⟨by have:=HK1.out;have:=HK2.out;omega⟩,⟨qra HO_3.out⟩,⟨qra HO_4.out⟩,⟨qra HO_16.out⟩,⟨qra HO_22.out⟩,⟨by exact bw⟩⟩
           ·rw [if_neg c15] at H;exact absurd H (by simp)
          ·rw [if_neg c14] at H;exact absurd H (by simp)
         ·rw [if_neg c13] at H;have c13b0:decide (x24_2 < (t539.length:Int)) = false:=decide_eq_false c13;clear c13;have H':=aM H;clear H;go_wp2
          go_roundg k2
          case measure=>have:=HK1.out;have:=HK2.out;omega
          case rel=>exact ⟨(x4_2),(wrap64 (x18_1 + 1)),qrs,H',⟨by have:=HK1.out;have:=HK2.out;omega⟩,⟨qra HO_3.out⟩,⟨by (with_reducible repeat (first|apply Kd.R_alloc|apply Kd.R_drewN|apply Kd.R_drew));exact Kd.R_mono HO_4.out (fun _ hk=>⟨hk.1,hk.2.1⟩)⟩,⟨qra HO_16.out⟩,⟨by exact bw⟩⟩
      ·rw [if_neg c12] at H;exact absurd H (by simp)
     ·rw [if_neg c11] at H;exact absurd H (by simp)
    ·rw [if_neg c10] at H;have c10b0:decide (x18_1 < (t539.length:Int)) = false:=decide_eq_false c10;clear c10;obtain rfl:=Option.some.inj H;go_wp2
     go_ret
     exact ⟨_,by first|rfl|(simp [errW_none,errW_some] <;> rfl)|(simp [*,errW_none,errW_some] <;> rfl),by (with_reducible repeat (first|apply Kd.R_alloc|apply Kd.R_drewN|apply Kd.R_drew));exact Kd.R_mono HO_4.out (fun _ hk=>trivial),by exact bw⟩


/-! ### impl_allGames_1: function 136 -/
def impl_allGames_1.f (a0:Int) (a1:Int):Option (Bool):=(impl_has.f a1 a0).bind fun t550=>(some t550)
set_option maxHeartbeats 8000000 in
set_option maxRecDepth 100000 in
theorem impl_allGames_1.calls (a0:Int) (gc1:Nat) (a1:Int) (r:Bool) (w:World) (hb1:w.heap[gc1]? = some (.cells #[.int .i64 a1] 3 (0,0))) (h:impl_allGames_1.f a0 a1 = some r) :
  Calls Try.prog 136 #[.int .i64 a0,.pointer (some ⟨gc1,0,none⟩)] w fun e w'=>e = .returned (.bool r) ∧ Drawn0 w w':=by
 have BK1:=aM hb1;clear hb1;have H:((impl_has.f a1 a0).bind fun t550=>(some t550)) = some r:=h;clear h;replace H:=Option.bind_eq_some_iff.mp H;obtain ⟨t550,A30,H⟩:=H;replace H:(some t550) = some r:=H;have A3:=aM A30;clear A30;obtain rfl:=Option.some.inj H;have hcz4_0:w.cell? ⟨gc1,0,none⟩ = some (.int .i64 a1):=(blk_cell BK1.out 0).trans rfl;have hfz4_0:=blk_frozen BK1.out 0;go_enter Try.func136,Try.ntmps136;go_wp2_with (first|((with_reducible refine gate_callee (f:=134) rfl ?_);refine goesL_ (some 6) rfl rfl Try.func134 kR rfl #[.int .i64 a1,.int .i64 a0] rfl mq ?_;(with_reducible refine (impl_has.calls a1 a0 t550 _ A3.out).mono ?_);rintro e w' ⟨rfl,⟨nd,rfl⟩⟩;refine ⟨_,rfl,?_⟩))
 go_ret
 exact ⟨by first|rfl|(simp;done)|(simp [*];done),by repeat (first|exact Drawn0.refl _|apply Drawn0.step)⟩
theorem impl_allGames_1.enters:∀ (args:Array Value) (w:World),(callFunc 136 args).run Try.prog w = .ok (.enter 136 args) w:=enters_of Try.func136 kR rfl


/-! ### impl_votes_all: function 137 -/
def impl_votes_all.f (a0_0:Int) (l0_1:List Bool):Option (Int):=if 0 ≤ a0_0 then (some (wrap64 ((shl .i64 1 a0_0) - 1))) else (none)
set_option maxHeartbeats 8000000 in
set_option maxRecDepth 100000 in
theorem impl_votes_all.calls (a0_0:Int) (A0_1:Option Addr) (c0_1:Nat) (l0_1:List Bool) (r:Int) (w:World) (hr0_1:Kd.C Kd.bool w A0_1 l0_1.length l0_1) (hc0_1:l0_1.length ≤ c0_1) (h:impl_votes_all.f a0_0 l0_1 = some r) :
  Calls Try.prog 137 #[.agg #[.int .i64 a0_0,.slice A0_1 l0_1.length c0_1]] w fun e w'=>e = .returned (.int .i64 r) ∧ Below w.heap.size w w':=by
 have hu68:=Try.underlying68;have HR0_1:=aM hr0_1;have HC0_1:=aM hc0_1;clear hr0_1 hc0_1;have HB:=aM (Below.refl w.heap.size w);have H:(if 0 ≤ a0_0 then (some (wrap64 ((shl .i64 1 a0_0) - 1))) else (none)) = some r:=h;clear h;by_cases c2:0 ≤ a0_0
 ·rw [if_pos c2] at H;have c2b0:=eq_true c2;have c2b1:decide (0 ≤ a0_0) = true:=decide_eq_true c2;clear c2;obtain ⟨ji3,hji3⟩:∃ j_:Int,(shl .i64 1 a0_0) = j_:=⟨_,rfl⟩;replace H:(some (wrap64 ((ji3) - 1))) = some r:=by first|(rw [hji3] at H;exact H)|(simp only [hji3] at H ⊢;exact H)
  have hji3_:(IntKind.i64.wrap (1 * 2 ^ min a0_0.toNat 64)) = ji3:=hji3;have hji3z:a0_0 ≤ 64 → (IntKind.i64.wrap (1 * 2 ^ a0_0.toNat)) = ji3:=shl_small hji3;have hji3u:(IntKind.i64.wrap (2 ^ min a0_0.toNat 64)) = ji3:=by have h_:=hji3_;rw [Int.one_mul] at h_;exact h_
  have hji3v:a0_0 ≤ 64 → (IntKind.i64.wrap (2 ^ a0_0.toNat)) = ji3:=fun hle_=>by have h_:=hji3z hle_;rw [Int.one_mul] at h_;exact h_
  have hji3y:(wrap64 (1 * 2 ^ min a0_0.toNat 64)) = ji3:=(i64_w _).symm.trans hji3_;have hji3x:a0_0 ≤ 64 → (wrap64 (1 * 2 ^ a0_0.toNat)) = ji3:=fun h_=>(i64_w _).symm.trans (hji3z h_)
  obtain rfl:=Option.some.inj H;go_enter Try.func137,Try.ntmps137;go_wp2_with (first|((with_reducible refine gate_dst (N:=1) rfl ?_);refine box_event ?hg (N:=1) ?hd (cs:=#[.int .i64 a0_0,.slice A0_1 l0_1.length c0_1]) (t:=68) ?hr ?_;(case hd=>rfl);(case hg=>rfl);(case hr=>first|(go_simp;done)|(go_simp;rfl));intro gb551 hg w4 hbox hb;have n0_:=aM (below_step bw hb);have n1_:=aM (hbox);have n2_:=aM ((by rw [hg];exact (below_size bw):w.heap.size ≤ gb551));have n3_:=aM ((by rw [hg];exact (below_size bw):w.heap.size ≤ gb551));clear HB;have HB:=n0_;have BK551:=n1_;have GW551:=n2_;have GE551:=n3_;clear n0_ n1_ n2_ n3_;clear hb hbox hg;have hcz5_0:w4.cell? ⟨gb551,0,none⟩ = some (.int .i64 a0_0):=(blk_cell BK551.out 0).trans rfl;have hcz5_1:w4.cell? ⟨gb551,1,none⟩ = some (.slice A0_1 l0_1.length c0_1):=(blk_cell BK551.out 1).trans rfl;have hfz5_0:=blk_frozen BK551.out 0;have hfz5_1:=blk_frozen BK551.out 1))
  go_ret
  exact ⟨by first|rfl|(simp [errW_none,errW_some] <;> rfl)|(simp only [← hji3];first|rfl|(simp [errW_none,errW_some] <;> rfl))|(simp [*,errW_none,errW_some] <;> rfl),by exact bw⟩
 ·rw [if_neg c2] at H;exact absurd H (by simp)


/-! ### impl_maskOf: function 129 -/
def impl_maskOf.l0:Nat → Int → List Int → Int → Int → Option (Int)
 | 0,_,_,_,_=>none
 | k + 1,x3,x6,x7,x8=>if x8 < x7 then (if 0 ≤ x8 then (if x8 < (x6.length:Int) then (if 0 ≤ (rd x6 x8) then (impl_maskOf.l0 k (Go.bits .or .i64 x3 (shl .i64 1 (rd x6 x8))) x6 x7 (wrap64 (x8 + 1))) else (none)) else (none)) else (none)) else (some x3)
def impl_maskOf.f (k:Nat) (l0:List Int):Option (Int):=impl_maskOf.l0 k 0 l0 (l0.length:Int) 0
theorem impl_maskOf.mono_l:∀ k,(∀ y0 y1 y2 y3,LeO (impl_maskOf.l0 k y0 y1 y2 y3) (impl_maskOf.l0 (k + 1) y0 y1 y2 y3))
 | 0=>fun _ _ _ _ r h=>by simp [impl_maskOf.l0] at h
 | k + 1=>by
  have ih0:=impl_maskOf.mono_l k
  ·intro y0 y1 y2 y3;unfold impl_maskOf.l0
   repeat' with_reducible first|exact ih0 _ _ _ _|exact LeO.refl _|exact LeO.none _|refine LeO.ite ?_ ?_|refine LeO.bind ?_ (fun _=>?_)
theorem impl_maskOf.mono:∀ a0 k,LeO (impl_maskOf.f k a0) (impl_maskOf.f (k + 1) a0):=by
 intro a0 k;have ih0:=impl_maskOf.mono_l k;unfold impl_maskOf.f
 repeat' with_reducible first|exact ih0 _ _ _ _|exact LeO.refl _|exact LeO.none _|refine LeO.ite ?_ ?_|refine LeO.bind ?_ (fun _=>?_)
set_option maxHeartbeats 8000000 in
set_option maxRecDepth 100000 in
theorem impl_maskOf.calls (k:Nat) (A0:Option Addr) (c0:Nat) (l0:List Int) (r:Int) (w:World) (hr0:Kd.C (Kd.int .i64) w A0 l0.length l0) (hc0:l0.length ≤ c0) (h:impl_maskOf.f k l0 = some r) :
  Calls Try.prog 129 #[.slice A0 l0.length c0] w fun e w'=>e = .returned (.int .i64 r) ∧ Drawn0 w w':=by
 have HR0:=aM hr0;have HC0:=aM hc0;clear hr0 hc0;have H:(impl_maskOf.l0 k 0 l0 (l0.length:Int) 0) = some r:=h;clear h;have H':=aM H;clear H;go_enter Try.func129,Try.ntmps129;go_wp2
 go_loopg [3,8] k (fun kq v3 v8 w'=>∃ (x3_1:Int) (x8_1:Int),v3 = .int .i64 x3_1 ∧ v8 = .int .i64 x8_1 ∧ Aside0 (impl_maskOf.l0 kq x3_1 l0 (l0.length:Int) x8_1 = some r) ∧ Aside0 (kq ≤ k) ∧ Drawn0 w w')
 case atStart=>exact ⟨(0),(0),qrs,qrs,H',⟨Nat.le_refl _⟩,by repeat (first|exact Drawn0.refl _|apply Drawn0.step)⟩
 case round =>
  clear H'
  try clear c1
  obtain ⟨x3_1,x8_1,rfl,rfl,HA,HK1,⟨m1,rfl⟩⟩:=hrel
  cases gk with
  | zero=>exact absurd HA.out (by simp [impl_maskOf.l0])
  | succ k1 =>
   have H:=HA.out;clear HA;simp only [impl_maskOf.l0] at H;by_cases c2:x8_1 < (l0.length:Int)
   ·rw [if_pos c2] at H;have c2b0:decide (x8_1 < (l0.length:Int)) = true:=decide_eq_true c2;clear c2;by_cases c3:0 ≤ x8_1
    ·rw [if_pos c3] at H;have c3b0:decide (0 ≤ x8_1) = true:=decide_eq_true c3;clear c3;by_cases c4:x8_1 < (l0.length:Int)
     ·rw [if_pos c4] at H;have c4b0:decide (x8_1 < (l0.length:Int)) = true:=decide_eq_true c4;clear c4;by_cases c5:0 ≤ (rd l0 x8_1)
      ·rw [if_pos c5] at H;have c5b0:=eq_true c5;have c5b1:decide (0 ≤ (rd l0 x8_1)) = true:=decide_eq_true c5;clear c5;obtain ⟨ji6,hji6⟩:∃ j_:Int,(shl .i64 1 (rd l0 x8_1)) = j_:=⟨_,rfl⟩;replace H:(impl_maskOf.l0 k1 (Go.bits .or .i64 x3_1 (ji6)) l0 (l0.length:Int) (wrap64 (x8_1 + 1))) = some r:=by first|(rw [hji6] at H;exact H)|(simp only [hji6] at H ⊢;exact H)
       have hji6_:(IntKind.i64.wrap (1 * 2 ^ min (rd l0 x8_1).toNat 64)) = ji6:=hji6;have hji6z:(rd l0 x8_1) ≤ 64 → (IntKind.i64.wrap (1 * 2 ^ (rd l0 x8_1).toNat)) = ji6:=shl_small hji6;have hji6u:(IntKind.i64.wrap (2 ^ min (rd l0 x8_1).toNat 64)) = ji6:=by have h_:=hji6_;rw [Int.one_mul] at h_;exact h_
       have hji6v:(rd l0 x8_1) ≤ 64 → (IntKind.i64.wrap (2 ^ (rd l0 x8_1).toNat)) = ji6:=fun hle_=>by have h_:=hji6z hle_;rw [Int.one_mul] at h_;exact h_
       have hji6y:(wrap64 (1 * 2 ^ min (rd l0 x8_1).toNat 64)) = ji6:=(i64_w _).symm.trans hji6_;have hji6x:(rd l0 x8_1) ≤ 64 → (wrap64 (1 * 2 ^ (rd l0 x8_1).toNat)) = ji6:=fun h_=>(i64_w _).symm.trans (hji6z h_)
       have H':=aM H;clear H;have p255:0 ≤ (x8_1:Int):=of_decide_eq_true ab;have q255:x8_1 < (l0.length:Int):=of_decide_eq_true ab;obtain ⟨ad255,e255,hx255_0⟩:=Kd.at_int HR0.out x8_1 p255 q255;cases e255
       replace p255:=eq_true p255;replace q255:=eq_true q255;go_wp2
       go_roundg k1
       case measure=>have:=HK1.out;omega
       case rel=>exact ⟨(Go.bits .or .i64 x3_1 (ji6)),(wrap64 (x8_1 + 1)),(by first|rfl|(simp;done)|(simp only [← hji6] <;> (first|rfl|simp))|(simp [*];done)),qrs,H',⟨by have:=HK1.out;omega⟩,by repeat (first|exact Drawn0.refl _|apply Drawn0.step)⟩
      ·rw [if_neg c5] at H;exact absurd H (by simp)
     ·rw [if_neg c4] at H;exact absurd H (by simp)
    ·rw [if_neg c3] at H;exact absurd H (by simp)
   ·rw [if_neg c2] at H;have c2b0:decide (x8_1 < (l0.length:Int)) = false:=decide_eq_false c2;clear c2;obtain rfl:=Option.some.inj H;go_wp2
    go_ret
    exact ⟨by first|rfl|(simp;done)|(simp [*];done),by repeat (first|exact Drawn0.refl _|apply Drawn0.step)⟩


/-! ### slices_IndexFunc_int_int: function 158 -/
def slices_IndexFunc_int_int.l0:Nat → List Int → (Int → Option (Bool)) → Int → Int → Option (Int)
 | 0,_,_,_,_=>none
 | k + 1,x0,x1,x7,x8=>if x8 < x7 then (if 0 ≤ x8 then (if x8 < (x0.length:Int) then ((x1 (rd x0 x8)).bind fun t257=>(if t257 = true then (some x8) else (slices_IndexFunc_int_int.l0 k x0 x1 x7 (wrap64 (x8 + 1))))) else (none)) else (none)) else (some (-1))
def slices_IndexFunc_int_int.f (k:Nat) (l0:List Int) (a1:(Int → Option (Bool))):Option (Int):=slices_IndexFunc_int_int.l0 k l0 a1 (l0.length:Int) 0
theorem slices_IndexFunc_int_int.mono_l:∀ k,(∀ y0 y1 y2 y3,LeO (slices_IndexFunc_int_int.l0 k y0 y1 y2 y3) (slices_IndexFunc_int_int.l0 (k + 1) y0 y1 y2 y3))
 | 0=>fun _ _ _ _ r h=>by simp [slices_IndexFunc_int_int.l0] at h
 | k + 1=>by
  have ih0:=slices_IndexFunc_int_int.mono_l k
  ·intro y0 y1 y2 y3;unfold slices_IndexFunc_int_int.l0
   repeat' with_reducible first|exact ih0 _ _ _ _|exact LeO.refl _|exact LeO.none _|refine LeO.ite ?_ ?_|refine LeO.bind ?_ (fun _=>?_)
theorem slices_IndexFunc_int_int.mono:∀ a0 a1 k,LeO (slices_IndexFunc_int_int.f k a0 a1) (slices_IndexFunc_int_int.f (k + 1) a0 a1):=by
 intro a0 a1 k;have ih0:=slices_IndexFunc_int_int.mono_l k;unfold slices_IndexFunc_int_int.f
 repeat' with_reducible first|exact ih0 _ _ _ _|exact LeO.refl _|exact LeO.none _|refine LeO.ite ?_ ?_|refine LeO.bind ?_ (fun _=>?_)
theorem slices_IndexFunc_int_int.monop_l {p_ q_:(Int → Option (Bool))} (h_:∀ x0_,LeO (p_ x0_) (q_ x0_)):∀ k,(∀ y0 y2 y3,LeO (slices_IndexFunc_int_int.l0 k y0 p_ y2 y3) (slices_IndexFunc_int_int.l0 k y0 q_ y2 y3))
 | 0=>fun _ _ _ r hz=>by simp [slices_IndexFunc_int_int.l0] at hz
 | k + 1=>by
  have ih0:=slices_IndexFunc_int_int.monop_l h_ k
  ·intro y0 y1 y2;unfold slices_IndexFunc_int_int.l0
   repeat' with_reducible first|exact ih0 _ _ _|exact h_ _|exact LeO.refl _|refine LeO.ite ?_ ?_|refine LeO.bind ?_ (fun _=>?_)
theorem slices_IndexFunc_int_int.mono_p {p_ q_:(Int → Option (Bool))} (h_:∀ x0_,LeO (p_ x0_) (q_ x0_)):∀ a0 k,LeO (slices_IndexFunc_int_int.f k a0 p_) (slices_IndexFunc_int_int.f k a0 q_):=by
 intro a0 k;have ih0:=slices_IndexFunc_int_int.monop_l h_ k;unfold slices_IndexFunc_int_int.f
 repeat' with_reducible first|exact ih0 _ _ _|exact h_ _|exact LeO.refl _|refine LeO.ite ?_ ?_|refine LeO.bind ?_ (fun _=>?_)
set_option maxHeartbeats 8000000 in
set_option maxRecDepth 100000 in
theorem slices_IndexFunc_int_int.calls (k:Nat) (A0:Option Addr) (c0:Nat) (l0:List Int) (a1:(Int → Option (Bool))) (g1_:Nat) (lb1_:Array Value) (eg1_:∀ (args:Array Value) (w:World),(callFunc g1_ args).run Try.prog w = .ok (.enter g1_ args) w) (r:Int) (w:World) (hr0:Kd.C (Kd.int .i64) w A0 l0.length l0) (hc0:l0.length ≤ c0) (hp1:∀ (W:World) (b0_:Int) (r0_:Bool),a1 b0_ = some r0_ → Below w.heap.size w W → Calls Try.prog g1_ (#[.int .i64 b0_] ++ lb1_) W fun e w'=>e = .returned (.bool r0_) ∧ Below W.heap.size W w') (h:slices_IndexFunc_int_int.f k l0 a1 = some r) :
  Calls Try.prog 158 #[.slice A0 l0.length c0,.func (.func g1_) #[] lb1_] w fun e w'=>e = .returned (.int .i64 r) ∧ Below w.heap.size w w':=by
 have HR0:=aM hr0;have HC0:=aM hc0;clear hr0 hc0;have HP1:=aM hp1;clear hp1;have HB:=aM (Below.refl w.heap.size w);have H:(slices_IndexFunc_int_int.l0 k l0 a1 (l0.length:Int) 0) = some r:=h;clear h;have H':=aM H;clear H;go_enter Try.func158,Try.ntmps158;go_wp2
 go_loopg [8] k (fun kq v8 w'=>∃ (x8_1:Int),v8 = .int .i64 x8_1 ∧ Aside0 (slices_IndexFunc_int_int.l0 kq l0 a1 (l0.length:Int) x8_1 = some r) ∧ Aside0 (kq ≤ k) ∧ Aside0 (Below w.heap.size w w'))
 case atStart=>exact ⟨(0),qrs,H',⟨Nat.le_refl _⟩,⟨by exact bw⟩⟩
 case round =>
  clear H';(try clear c1);(try clear p1);(try clear p2)
  obtain ⟨x8_1,rfl,HA,HK1,HB⟩:=hrel
  cases gk with
  | zero=>exact absurd HA.out (by simp [slices_IndexFunc_int_int.l0])
  | succ k1 =>
   have H:=HA.out;clear HA;simp only [slices_IndexFunc_int_int.l0] at H;by_cases c3:x8_1 < (l0.length:Int)
   ·rw [if_pos c3] at H;have c3b0:decide (x8_1 < (l0.length:Int)) = true:=decide_eq_true c3;clear c3;by_cases c4:0 ≤ x8_1
    ·rw [if_pos c4] at H;have c4b0:decide (0 ≤ x8_1) = true:=decide_eq_true c4;clear c4;by_cases c5:x8_1 < (l0.length:Int)
     ·rw [if_pos c5] at H;have c5b0:decide (x8_1 < (l0.length:Int)) = true:=decide_eq_true c5;clear c5;replace H:=Option.bind_eq_some_iff.mp H;obtain ⟨t257,A60,H⟩:=H;replace H:(if t257 = true then (some x8_1) else (slices_IndexFunc_int_int.l0 k1 l0 a1 (l0.length:Int) (wrap64 (x8_1 + 1)))) = some r:=H;have A6:=aM A60;clear A60;by_cases c7:t257 = true
      ·subst c7;have H1:(some x8_1) = some r:=by rw [if_pos rfl] at H;exact H
       clear H;have H:=H1;clear H1;obtain rfl:=Option.some.inj H;have p256:0 ≤ (x8_1:Int):=of_decide_eq_true ab;have q256:x8_1 < (l0.length:Int):=of_decide_eq_true ab;obtain ⟨ad256,e256,hx256_0⟩:=Kd.at_int HR0.out x8_1 p256 q256;cases e256
       replace hx256_0:=(HB.out.cell (World.block_lt_of_cell? w _ hx256_0)).trans hx256_0;replace p256:=eq_true p256;replace q256:=eq_true q256;go_wp2_with (first|((with_reducible refine gate_fn (t:=11) rfl ?_);refine goesFL_ (some 16) rfl rfl eg1_ #[.int .i64 (rd l0 x8_1)] rfl rfl mq ?_;(with_reducible refine (HP1.out _ (rd l0 x8_1) true A6.out ?side1).mono ?_);(case side1=>exact bw);rintro e w8 ⟨rfl,hb⟩;refine ⟨_,rfl,?_⟩;have n0_:=aM (below_step bw hb);clear HB;have HB:=n0_;clear n0_;(try clear hb);(try clear hb2);(try clear hk);(try clear hi)))
       go_ret
       exact ⟨by first|rfl|(simp [errW_none,errW_some] <;> rfl)|(simp [*,errW_none,errW_some] <;> rfl),by exact bw⟩
      ·replace c7:=Bool.eq_false_iff.mpr c7;subst c7;have H1:(slices_IndexFunc_int_int.l0 k1 l0 a1 (l0.length:Int) (wrap64 (x8_1 + 1))) = some r:=by rw [if_neg (show ¬ (false = true) by decide)] at H;exact H
       clear H;have H:=H1;clear H1;have H':=aM H;clear H;have p256:0 ≤ (x8_1:Int):=of_decide_eq_true ab;have q256:x8_1 < (l0.length:Int):=of_decide_eq_true ab;obtain ⟨ad256,e256,hx256_0⟩:=Kd.at_int HR0.out x8_1 p256 q256;cases e256
       replace hx256_0:=(HB.out.cell (World.block_lt_of_cell? w _ hx256_0)).trans hx256_0;replace p256:=eq_true p256;replace q256:=eq_true q256;go_wp2_with (first|((with_reducible refine gate_fn (t:=11) rfl ?_);refine goesFL_ (some 16) rfl rfl eg1_ #[.int .i64 (rd l0 x8_1)] rfl rfl mq ?_;(with_reducible refine (HP1.out _ (rd l0 x8_1) false A6.out ?side1).mono ?_);(case side1=>exact bw);rintro e w9 ⟨rfl,hb⟩;refine ⟨_,rfl,?_⟩;have n0_:=aM (below_step bw hb);clear HB;have HB:=n0_;clear n0_;(try clear hb);(try clear hb2);(try clear hk);(try clear hi)))
       go_roundg k1
       case measure=>have:=HK1.out;omega
       case rel=>exact ⟨(wrap64 (x8_1 + 1)),qrs,H',⟨by have:=HK1.out;omega⟩,⟨by exact bw⟩⟩
     ·rw [if_neg c5] at H;exact absurd H (by simp)
    ·rw [if_neg c4] at H;exact absurd H (by simp)
   ·rw [if_neg c3] at H;have c3b0:decide (x8_1 < (l0.length:Int)) = false:=decide_eq_false c3;clear c3;obtain rfl:=Option.some.inj H;go_wp2
    go_ret
    exact ⟨by first|rfl|(simp [errW_none,errW_some] <;> rfl)|(simp [*,errW_none,errW_some] <;> rfl),by exact bw⟩


/-! ### slices_ContainsFunc_int_int: function 132 -/
def slices_ContainsFunc_int_int.f (k:Nat) (l0:List Int) (a1:(Int → Option (Bool))):Option (Bool):=(slices_IndexFunc_int_int.f k l0 a1).bind fun t258=>(some (decide (t258 ≥ 0)))
theorem slices_ContainsFunc_int_int.mono:∀ a0 a1 k,LeO (slices_ContainsFunc_int_int.f k a0 a1) (slices_ContainsFunc_int_int.f (k + 1) a0 a1):=by
 intro a0 a1 k;unfold slices_ContainsFunc_int_int.f
 repeat' with_reducible first|exact slices_IndexFunc_int_int.mono _ _ _|exact LeO.refl _|exact LeO.none _|refine LeO.trans (slices_IndexFunc_int_int.mono _ _ _) (slices_IndexFunc_int_int.mono_p (fun _=>?_) _ _)|refine LeO.ite ?_ ?_|refine LeO.bind ?_ (fun _=>?_)
theorem slices_ContainsFunc_int_int.mono_p {p_ q_:(Int → Option (Bool))} (h_:∀ x0_,LeO (p_ x0_) (q_ x0_)):∀ a0 k,LeO (slices_ContainsFunc_int_int.f k a0 p_) (slices_ContainsFunc_int_int.f k a0 q_):=by
 intro a0 k;unfold slices_ContainsFunc_int_int.f
 repeat' with_reducible first|exact h_ _|refine slices_IndexFunc_int_int.mono_p (fun _=>?_) _ _|exact LeO.refl _|refine LeO.ite ?_ ?_|refine LeO.bind ?_ (fun _=>?_)
set_option maxHeartbeats 8000000 in
set_option maxRecDepth 100000 in
theorem slices_ContainsFunc_int_int.calls (k:Nat) (A0:Option Addr) (c0:Nat) (l0:List Int) (a1:(Int → Option (Bool))) (g1_:Nat) (lb1_:Array Value) (eg1_:∀ (args:Array Value) (w:World),(callFunc g1_ args).run Try.prog w = .ok (.enter g1_ args) w) (r:Bool) (w:World) (hr0:Kd.C (Kd.int .i64) w A0 l0.length l0) (hc0:l0.length ≤ c0) (hp1:∀ (W:World) (b0_:Int) (r0_:Bool),a1 b0_ = some r0_ → Below w.heap.size w W → Calls Try.prog g1_ (#[.int .i64 b0_] ++ lb1_) W fun e w'=>e = .returned (.bool r0_) ∧ Below W.heap.size W w') (h:slices_ContainsFunc_int_int.f k l0 a1 = some r) :
  Calls Try.prog 132 #[.slice A0 l0.length c0,.func (.func g1_) #[] lb1_] w fun e w'=>e = .returned (.bool r) ∧ Below w.heap.size w w':=by
 have HR0:=aM hr0;have HC0:=aM hc0;clear hr0 hc0;have HP1:=aM hp1;clear hp1;have HB:=aM (Below.refl w.heap.size w);have H:((slices_IndexFunc_int_int.f k l0 a1).bind fun t258=>(some (decide (t258 ≥ 0)))) = some r:=h;clear h;replace H:=Option.bind_eq_some_iff.mp H;obtain ⟨t258,A30,H⟩:=H;replace H:(some (decide (t258 ≥ 0))) = some r:=H;have A3:=aM A30;clear A30;obtain rfl:=Option.some.inj H;go_enter Try.func132,Try.ntmps132;go_wp2_with (first|((with_reducible refine gate_callee (f:=158) rfl ?_);refine goesL_ (some 7) rfl rfl Try.func158 kR rfl #[.slice A0 l0.length c0,.func (.func g1_) #[] lb1_] rfl mq ?_;(with_reducible refine (slices_IndexFunc_int_int.calls k _ _ l0 a1 g1_ lb1_ eg1_ t258 _ ?side1 ?side2 ?side3 A3.out).mono ?_);(case side1=>repeat (first|exact HR0.out|(with_reducible refine Kd.C_alloc ?_ _)|(with_reducible refine Kd.C_drewN ?_ _)|(with_reducible refine Kd.C_drew ?_)));(case side2=>exact HC0.out);(case side3=>exact (fun W_ a0_ r0_ hx_ hb_ =>HP1.out W_ a0_ r0_ hx_ (below_step bw hb_) ));rintro e w4 ⟨rfl,hb⟩;refine ⟨_,rfl,?_⟩;have n0_:=aM (below_step bw hb);clear HB;have HB:=n0_;clear n0_;(try clear hb);(try clear hb2);(try clear hk);(try clear hi)))
 go_ret
 exact ⟨by first|rfl|(simp [errW_none,errW_some] <;> rfl)|(simp [*,errW_none,errW_some] <;> rfl),by exact bw⟩


/-! ### impl_votesBy_1_1: function 133 -/
def impl_votesBy_1_1.f (a0:Int) (a1:Int):Option (Bool):=some ((Go.bits .and .i64 a1 a0) == a0)
set_option maxHeartbeats 8000000 in
set_option maxRecDepth 100000 in
theorem impl_votesBy_1_1.calls (a0:Int) (gc1:Nat) (a1:Int) (r:Bool) (w:World) (hb1:w.heap[gc1]? = some (.cells #[.int .i64 a1] 3 (0,0))) (h:impl_votesBy_1_1.f a0 a1 = some r) :
  Calls Try.prog 133 #[.int .i64 a0,.pointer (some ⟨gc1,0,none⟩)] w fun e w'=>e = .returned (.bool r) ∧ Drawn0 w w':=by
 have BK1:=aM hb1;clear hb1;have H:(some ((Go.bits .and .i64 a1 a0) == a0)) = some r:=h;clear h;obtain rfl:=Option.some.inj H;have hcz3_0:w.cell? ⟨gc1,0,none⟩ = some (.int .i64 a1):=(blk_cell BK1.out 0).trans rfl;have hfz3_0:=blk_frozen BK1.out 0;go_enter Try.func133,Try.ntmps133;go_wp2
 go_ret
 exact ⟨by first|rfl|(simp;done)|(simp [*];done),by repeat (first|exact Drawn0.refl _|apply Drawn0.step)⟩
theorem impl_votesBy_1_1.enters:∀ (args:Array Value) (w:World),(callFunc 133 args).run Try.prog w = .ok (.enter 133 args) w:=enters_of Try.func133 kR rfl


/-! ### impl_votesBy_1: function 131 -/
def impl_votesBy_1.f (k:Nat) (a0:Int) (l1:List Int):Option (Bool):=(slices_ContainsFunc_int_int.f k l1 (fun y0_=>impl_votesBy_1_1.f y0_ a0)).bind fun t260=>(some t260)
theorem impl_votesBy_1.mono:∀ a0 a1 k,LeO (impl_votesBy_1.f k a0 a1) (impl_votesBy_1.f (k + 1) a0 a1):=by
 intro a0 a1 k;unfold impl_votesBy_1.f
 repeat' with_reducible first|exact slices_ContainsFunc_int_int.mono _ _ _|exact LeO.refl _|exact LeO.none _|refine LeO.trans (slices_ContainsFunc_int_int.mono _ _ _) (slices_ContainsFunc_int_int.mono_p (fun _=>?_) _ _)|refine LeO.ite ?_ ?_|refine LeO.bind ?_ (fun _=>?_)
set_option maxHeartbeats 8000000 in
set_option maxRecDepth 100000 in
theorem impl_votesBy_1.calls (k:Nat) (a0:Int) (gc1:Nat) (A1:Option Addr) (c1:Nat) (l1:List Int) (r:Bool) (w:World) (hr1:Kd.C (Kd.int .i64) w A1 l1.length l1) (hc1:l1.length ≤ c1) (hb1:w.heap[gc1]? = some (.cells #[.slice A1 l1.length c1] 40 (0,0))) (h:impl_votesBy_1.f k a0 l1 = some r) :
  Calls Try.prog 131 #[.int .i64 a0,.pointer (some ⟨gc1,0,none⟩)] w fun e w'=>e = .returned (.bool r) ∧ Below w.heap.size w w':=by
 have hmf:∀ (fn:Fn) (first cap:Array Value) (w:World),(Instr.makeFunc fn first cap).run Try.prog w = .ok (.func fn first cap) w:=fun _ _ _ _=>rfl
 have HR1:=aM hr1;have HC1:=aM hc1;clear hr1 hc1;have BK1:=aM hb1;clear hb1;have HB:=aM (Below.refl w.heap.size w);have H:((slices_ContainsFunc_int_int.f k l1 (fun y0_=>impl_votesBy_1_1.f y0_ a0)).bind fun t260=>(some t260)) = some r:=h;clear h;replace H:=Option.bind_eq_some_iff.mp H;obtain ⟨t260,A30,H⟩:=H;replace H:(some t260) = some r:=H;have A3:=aM A30;clear A30;obtain rfl:=Option.some.inj H;go_enter Try.func131,Try.ntmps131;go_wp2_with (first|((with_reducible refine gate_dst (N:=2) rfl ?_);refine box_event ?hg (N:=2) ?hd (cs:=#[.int .i64 a0]) (t:=3) ?hr ?_;(case hd=>rfl);(case hg=>rfl);(case hr=>first|(go_simp;done)|(go_simp;rfl));intro gb259 hg w4 hbox hb;have n0_:=aM (blk_below (g:=gc1) (o:=.cells #[.slice A1 l1.length c1] 40 (0,0)) bk hb);have n1_:=aM (below_step bw hb);have n2_:=aM (hbox);have n3_:=aM ((by rw [hg];exact (below_size bw):w.heap.size ≤ gb259));have n4_:=aM ((by rw [hg];exact (below_size bw):w.heap.size ≤ gb259));have n5_:=aM ((by rw [hg];exact Nat.ne_of_lt (blk_lt (g:=gc1) (o:=.cells #[.slice A1 l1.length c1] 40 (0,0)) bk):gc1 ≠ gb259));have n6_:=aM ((by rw [hg];exact Nat.ne_of_gt (blk_lt (g:=gc1) (o:=.cells #[.slice A1 l1.length c1] 40 (0,0)) bk):gb259 ≠ gc1));clear BK1;clear HB;have BK1:=n0_;have HB:=n1_;have BK259:=n2_;have GW259:=n3_;have GE259:=n4_;have NB1_259:=n5_;have NB259_1:=n6_;clear n0_ n1_ n2_ n3_ n4_ n5_ n6_;clear hb hbox hg;have hnb5:=NB1_259.out;have hnc5:=NB259_1.out;have hcz6_0:w4.cell? ⟨gc1,0,none⟩ = some (.slice A1 l1.length c1):=(blk_cell BK1.out 0).trans rfl;have hfz6_0:=blk_frozen BK1.out 0)|((with_reducible refine gate_callee (f:=132) rfl ?_);refine goesL_ (some 6) rfl rfl Try.func132 kR rfl #[.slice A1 l1.length c1,.func (.func 133) #[] #[.pointer (some ⟨gb259,0,none⟩)]] rfl mq ?_;(with_reducible refine (slices_ContainsFunc_int_int.calls k _ _ l1 (fun y0_=>impl_votesBy_1_1.f y0_ a0) 133 #[.pointer (some ⟨gb259,0,none⟩)] impl_votesBy_1_1.enters t260 _ ?side1 ?side2 ?side3 A3.out).mono ?_);(case side1=>exact qcs HR1.out HB.out);(case side2=>exact HC1.out);(case side3=>exact (fun W_ a0_ r0_ hx_ hb_ =>(impl_votesBy_1_1.calls a0_ gb259 a0 r0_ W_  (box_later bk hb_) hx_).mono (fun _ _ h_=>⟨h_.1,h_.2.below⟩)));rintro e w7 ⟨rfl,hb⟩;refine ⟨_,rfl,?_⟩;have n0_:=aM (blk_below (g:=gc1) (o:=.cells #[.slice A1 l1.length c1] 40 (0,0)) bk hb);have n1_:=aM (blk_below (g:=gb259) (o:=.cells #[.int .i64 a0] 3 (0,0)) bk hb);have n2_:=aM (below_step bw hb);clear BK1;clear BK259;clear HB;have BK1:=n0_;have BK259:=n1_;have HB:=n2_;clear n0_ n1_ n2_;(try clear hb);(try clear hb2);(try clear hk);(try clear hi)))
 go_ret
 exact ⟨by first|rfl|(simp [errW_none,errW_some] <;> rfl)|(simp [*,errW_none,errW_some] <;> rfl),by exact bw⟩
theorem impl_votesBy_1.enters:∀ (args:Array Value) (w:World),(callFunc 131 args).run Try.prog w = .ok (.enter 131 args) w:=enters_of Try.func131 kR rfl


/-! ### impl_votesBy: function 97 -/
def impl_votesBy.l0:Nat → Int → List (List Int) → Int → Int → List Int → Option (Int × List Bool)
 | 0,_,_,_,_,_=>none
 | k + 1,x0,x9,x10,x11,x266000=>if x11 < x10 then (if 0 ≤ x11 then (if x11 < (x9.length:Int) then ((impl_maskOf.f k (rd_LI x9 x11)).bind fun t267=>(if x266000.length < 17592186044416 then (impl_votesBy.l0 k x0 x9 x10 (wrap64 (x11 + 1)) (x266000 ++ [t267])) else (none))) else (none)) else (none)) else ((impl_votesOf.f k x0 (fun y0_=>impl_votesBy_1.f k y0_ x266000)).bind fun bt271=>(some (bt271.1,bt271.2)))
def impl_votesBy.f (k:Nat) (a0:Int) (l1:List (List Int)):Option (Int × List Bool):=impl_votesBy.l0 k a0 l1 (l1.length:Int) 0 (([]:List Int))
theorem impl_votesBy.mono_l:∀ k,(∀ y0 y1 y2 y3 y4,LeO (impl_votesBy.l0 k y0 y1 y2 y3 y4) (impl_votesBy.l0 (k + 1) y0 y1 y2 y3 y4))
 | 0=>fun _ _ _ _ _ r h=>by simp [impl_votesBy.l0] at h
 | k + 1=>by
  have ih0:=impl_votesBy.mono_l k
  ·intro y0 y1 y2 y3 y4;unfold impl_votesBy.l0
   repeat' with_reducible first|exact ih0 _ _ _ _ _|exact impl_maskOf.mono _ _|exact impl_votesBy_1.mono _ _ _|exact impl_votesOf.mono _ _ _|exact LeO.refl _|exact LeO.none _|refine LeO.trans (impl_votesOf.mono _ _ _) (impl_votesOf.mono_p (fun _=>?_) _ _)|refine LeO.ite ?_ ?_|refine LeO.bind ?_ (fun _=>?_)
theorem impl_votesBy.mono:∀ a0 a1 k,LeO (impl_votesBy.f k a0 a1) (impl_votesBy.f (k + 1) a0 a1):=by
 intro a0 a1 k;have ih0:=impl_votesBy.mono_l k;unfold impl_votesBy.f
 repeat' with_reducible first|exact ih0 _ _ _ _ _|exact impl_maskOf.mono _ _|exact impl_votesBy_1.mono _ _ _|exact impl_votesOf.mono _ _ _|exact LeO.refl _|exact LeO.none _|refine LeO.trans (impl_votesOf.mono _ _ _) (impl_votesOf.mono_p (fun _=>?_) _ _)|refine LeO.ite ?_ ?_|refine LeO.bind ?_ (fun _=>?_)
set_option maxHeartbeats 8000000 in
set_option maxRecDepth 100000 in
theorem impl_votesBy.calls (k:Nat) (a0:Int) (A1:Option Addr) (c1:Nat) (l1:List (List Int)) (r1:Int) (r2:List Bool) (w:World) (hr1:Kd.C (Kd.slice 3 (Kd.int .i64)) w A1 l1.length l1) (hc1:l1.length ≤ c1) (h:impl_votesBy.f k a0 l1 = some (r1,r2)) :
  Calls Try.prog 97 #[.int .i64 a0,.slice A1 l1.length c1] w fun e w'=>∃ v1_:Value,e = .returned (.agg #[.int .i64 r1,v1_]) ∧ Kd.R Kd.bool 4 w' w.heap.size (fun _=>True) v1_ r2 ∧ Below w.heap.size w w':=by
 have hmf:∀ (fn:Fn) (first cap:Array Value) (w:World),(Instr.makeFunc fn first cap).run Try.prog w = .ok (.func fn first cap) w:=fun _ _ _ _=>rfl
 have hu68:=Try.underlying68;have HR1:=aM hr1;have HC1:=aM hc1;clear hr1 hc1;have HB:=aM (Below.refl w.heap.size w);have H:(impl_votesBy.l0 k a0 l1 (l1.length:Int) 0 (([]:List Int))) = some (r1,r2):=h;clear h;obtain ⟨y262,hy262⟩:∃ y_:List Int,y_ = (([]:List Int)):=⟨_,rfl⟩;replace H:(impl_votesBy.l0 k a0 l1 (l1.length:Int) 0 y262) = some (r1,r2):=by first|(rw [hy262];with_reducible exact H)|(have H2_:=(Option.bind_some _ _).symm.trans H;rw [hy262];with_reducible exact H2_)|(have H2_:=(Option.bind_some _ _).symm.trans H;with_reducible exact H2_)|with_reducible exact H|(rw [hy262];exact H)|exact H
 have Ny262:=aM hy262;clear hy262;have H':=aM H;clear H;go_enter Try.func97,Try.ntmps97;go_wp2_with (first|((with_reducible refine gate_dst (N:=4) rfl ?_);refine box_event ?hg (N:=4) ?hd (cs:=#[.int .i64 0,.slice none 0 0]) (t:=68) ?hr ?_;(case hd=>rfl);(case hg=>rfl);(case hr=>first|(go_simp;done)|(go_simp;rfl));intro gb261 hg w3 hbox hb;have n0_:=aM (below_step bw hb);have n1_:=aM (hbox);have n2_:=aM ((by rw [hg];exact (below_size bw):w.heap.size ≤ gb261));have n3_:=aM ((by rw [hg];exact (below_size bw):w.heap.size ≤ gb261));clear HB;have HB:=n0_;have BK261:=n1_;have GW261:=n2_;have GE261:=n3_;clear n0_ n1_ n2_ n3_;clear hb hbox hg)|((with_reducible refine gate_dst (N:=8) rfl ?_);refine Kd.R_lit (Kd.int .i64) _ 3 ?hg (N:=8) ?hd (xs:=([]:List Int)) (inner:=[]) (ok:=fun _=>True) (okp:=fun _=>True) ?hr ?hp (fun _ hk=>hk) trivial (Below.refl _ _) (Nat.le_refl _) (by simp) ?_;(case hd=>rfl);(case hg=>rfl);(case hr=>first|(go_simp;done)|(go_simp;rfl));(case hp=>exact (Reps.none _ _));intro v263 w4 ho5 hb hg_ hnew_;clear hg_ hnew_;(first|rw [← Ny262.out] at ho5|(simp only [Int.reduceToNat] at ho5;rw [← Ny262.out] at ho5));have n0_:=aM (Kd.R_lower ho5 (below_size bw));have n1_:=aM (blk_below (g:=gb261) (o:=.cells #[.int .i64 0,.slice none 0 0] 68 (0,0)) bk hb);have n2_:=aM (below_step bw hb);clear BK261;clear HB;have HO264:=n0_;have BK261:=n1_;have HB:=n2_;clear n0_ n1_ n2_;clear hb ho5)|((with_reducible refine gate_dst (N:=5) rfl ?_);refine box_event ?hg (N:=5) ?hd (cs:=#[.slice none 0 0]) (t:=40) ?hr ?_;(case hd=>rfl);(case hg=>rfl);(case hr=>first|(go_simp;done)|(go_simp;rfl));intro gb265 hg w6 hbox hb;have n0_:=aM (Kd.R_below (qra HO264.out) hb);have n1_:=aM (blk_below (g:=gb261) (o:=.cells #[.int .i64 0,.slice none 0 0] 68 (0,0)) bk hb);have n2_:=aM (below_step bw hb);have n3_:=aM (hbox);have n4_:=aM ((by rw [hg];exact (below_size bw):w.heap.size ≤ gb265));have n5_:=aM ((by rw [hg];exact (below_size bw):w.heap.size ≤ gb265));have n6_:=aM ((by rw [hg];exact Nat.ne_of_lt (blk_lt (g:=gb261) (o:=.cells #[.int .i64 0,.slice none 0 0] 68 (0,0)) bk):gb261 ≠ gb265));have n7_:=aM ((by rw [hg];exact Nat.ne_of_gt (blk_lt (g:=gb261) (o:=.cells #[.int .i64 0,.slice none 0 0] 68 (0,0)) bk):gb265 ≠ gb261));clear HO264;clear BK261;clear HB;have HO264:=n0_;have BK261:=n1_;have HB:=n2_;have BK265:=n3_;have GW265:=n4_;have GE265:=n5_;have NB261_265:=n6_;have NB265_261:=n7_;clear n0_ n1_ n2_ n3_ n4_ n5_ n6_ n7_;clear hb hbox hg;obtain ⟨Ao7,co7,eo7⟩:=Kd.R_slice HO264.out;subst eo7;have hnb8:=NB265_261.out;have hnc8:=NB261_265.out;have hcz9_0:w6.cell? ⟨gb265,0,none⟩ = some (.slice none 0 0):=(blk_cell BK265.out 0).trans rfl;have hfz9_0:=blk_frozen BK265.out 0))
 go_loopg [11] k (fun kq v11 w'=>∃ (x11_1:Int) (x266000_1:List Int) (u266000:Value),v11 = .int .i64 x11_1 ∧ Aside0 (impl_votesBy.l0 kq a0 l1 (l1.length:Int) x11_1 x266000_1 = some (r1,r2)) ∧ Aside0 (kq ≤ k) ∧ Aside0 (Kd.R (Kd.int .i64) 3 w' w.heap.size (fun _=>True) u266000 x266000_1) ∧ Aside0 (w'.heap[gb261]? = some (.cells #[.int .i64 0,(.slice none 0 0)] 68 (0,0))) ∧ Aside0 (w'.heap[gb265]? = some (.cells #[u266000] 40 (0,0))) ∧ Aside0 (Below w.heap.size w w'))
 case atStart=>exact ⟨(0),(y262),(.slice Ao7 y262.length co7),qrs,H',⟨Nat.le_refl _⟩,⟨by (with_reducible repeat (first|apply Kd.R_alloc|apply Kd.R_drewN|apply Kd.R_drew));exact Kd.R_mono (Kd.R_far (p:=⟨gb265,0,none⟩) (Kd.R_types HO264.out BK265.out (by decide)) (fun _ hk=>hk.2) (.slice Ao7 y262.length co7)) (fun _ hk=>trivial)⟩,⟨by (with_reducible repeat (first|refine blk_drewN ?_ _|refine blk_drew ?_|refine blk_alloc ?_ _));refine blk_far ?_ NB261_265.out _;(with_reducible repeat (first|refine blk_drewN ?_ _|refine blk_drew ?_|refine blk_alloc ?_ _));exact BK261.out⟩,⟨by (with_reducible repeat (first|refine blk_drewN ?_ _|refine blk_drew ?_|refine blk_alloc ?_ _));refine blk_put (cs:=#[.slice none 0 0]) ?_ 0 _ rfl;(with_reducible repeat (first|refine blk_drewN ?_ _|refine blk_drew ?_|refine blk_alloc ?_ _));exact BK265.out⟩,⟨by exact bw⟩⟩
 case round =>
  clear H';(try clear c1);(try clear p2);(try clear c8);(try clear c9);(try clear hcz9_0);(try clear hfz9_0)
  obtain ⟨x11_1,x266000_1,u266000,rfl,HA,HK1,HO_266000,BK261,BK265,HB⟩:=hrel
  cases gk with
  | zero=>exact absurd HA.out (by simp [impl_votesBy.l0])
  | succ k1 =>
   have H:=HA.out;clear HA;simp only [impl_votesBy.l0] at H;by_cases c10:x11_1 < (l1.length:Int)
   ·rw [if_pos c10] at H;have c10b0:decide (x11_1 < (l1.length:Int)) = true:=decide_eq_true c10;clear c10;by_cases c11:0 ≤ x11_1
    ·rw [if_pos c11] at H;have c11b0:decide (0 ≤ x11_1) = true:=decide_eq_true c11;clear c11;by_cases c12:x11_1 < (l1.length:Int)
     ·rw [if_pos c12] at H;have c12b0:decide (x11_1 < (l1.length:Int)) = true:=decide_eq_true c12;clear c12;replace H:=Option.bind_eq_some_iff.mp H;obtain ⟨t267,A130,H⟩:=H;replace H:(if x266000_1.length < 17592186044416 then (impl_votesBy.l0 k1 a0 l1 (l1.length:Int) (wrap64 (x11_1 + 1)) (x266000_1 ++ [t267])) else (none)) = some (r1,r2):=H;have A13:=aM A130;clear A130;by_cases c14:x266000_1.length < 17592186044416
      ·rw [if_pos c14] at H;have LMc14:=aM c14;clear c14;obtain ⟨y268,hy268⟩:∃ y_:List Int,y_ = (x266000_1 ++ [t267]):=⟨_,rfl⟩;replace H:(impl_votesBy.l0 k1 a0 l1 (l1.length:Int) (wrap64 (x11_1 + 1)) y268) = some (r1,r2):=by first|(rw [hy268];with_reducible exact H)|(have H2_:=(Option.bind_some _ _).symm.trans H;rw [hy268];with_reducible exact H2_)|(have H2_:=(Option.bind_some _ _).symm.trans H;with_reducible exact H2_)|with_reducible exact H|(rw [hy268];exact H)|exact H
       have Ny268:=aM hy268;clear hy268;have H':=aM H;clear H;have p266:0 ≤ (x11_1:Int):=of_decide_eq_true ab;have q266:x11_1 < (l1.length:Int):=of_decide_eq_true ab;obtain ⟨ad266,A266_0,c266_0,e266,hx266_0,hl266_0,hi266_0⟩:=at_LI HR1.out x11_1 p266 q266;cases e266
       replace hx266_0:=(HB.out.cell (World.block_lt_of_cell? w _ hx266_0)).trans hx266_0;have HR266_0:=aM hi266_0;have HC266_0:=aM hl266_0;clear hi266_0 hl266_0;replace p266:=eq_true p266;replace q266:=eq_true q266
       try go_wp2
       have n0_:=aM (Kd.R_drew HO_266000.out);have n1_:=aM (blk_drew BK261.out);have n2_:=aM (blk_drew BK265.out);have n3_:=aM (below_drew1 HB.out);clear HO_266000;clear BK261;clear BK265;clear HB;have HO_266000:=n0_;have BK261:=n1_;have BK265:=n2_;have HB:=n3_;clear n0_ n1_ n2_ n3_;refine start_ (n:=6) (S:=fun w'=>w'.cell? ⟨gb265,0,none⟩ = some (u266000)) (ds:=[5]) (mA 6 0) kR rfl rfl ((blk_cell BK265.out 0).trans rfl) (fun hHeld=>?_);generalize wr.drew = w15 at HO_266000 BK261 BK265 HB hHeld ⊢
       refine pure_ (i:=1) (N:=some 16) (v:=?_) (a':=?_) (mA 6 2) rfl rfl kR (fun _ _ _ h=>h) (Or.inl ⟨by rfl,?_⟩) ?_ ?_;rotate_left
       ·intro w';go_simp
        with_reducible rfl
       rotate_left
       ·simp only [Act.put,sA,sZ,sS,i64_w,i32_w];rfl
       refine take_ (i:=0) (N:=some 15) (v:=?_) (a':=?_) (mA 6 3) rfl rfl kR (fun _ _ _ h=>h) (Or.inl ⟨by rfl,?_⟩) hHeld ?_ ?_;rotate_left
       ·intro w' s0;go_simp
        with_reducible rfl
       rotate_left
       ·simp only [Act.put,sA,sZ,sS,i64_w,i32_w];rfl
       refine one_ (i:=2) (N:=some 17) (mA 6 7) rfl rfl kR (by decide) (fun K hK=>?_);refine goes_ Try.func129 kR rfl #[.slice A266_0 (rd_LI l1 x11_1).length c266_0] (by rfl) rfl rfl mq ?_
       with_reducible refine (impl_maskOf.calls k1 _ _ (rd_LI l1 x11_1) t267 _ ?side1 ?side2 A13.out).mono ?_
       (case side1=>exact qcs HR266_0.out HB.out)
       (case side2=>exact HC266_0.out)
       rintro e w' ⟨rfl,⟨nd,rfl⟩⟩
       refine ⟨_,rfl,?_⟩;refine hK.out _ _ ((blk_cell BK265.out 0).trans rfl) (fun hHeld=>?_);clear hK K;refine norm_ (a':=?_) ?_ ?_;rotate_left
       ·show Act.put _ (some 17) _ = _;simp only [Act.put,sA,sZ,sS,i64_w,i32_w];rfl
       refine one_ (i:=3) (N:=some 18) (mA 6 15) rfl rfl kR (by decide) (fun K hK=>?_);refine value_ (w1:=?_) (v:=?_) (by rfl) rfl ?_ ?_;rotate_left 2
       ·go_simp
        constructor
        ·rfl
        ·rfl
       refine hK.out _ _ ((blk_cell (blk_alloc BK265.out _) 0).trans rfl) (fun hHeld=>?_);clear hK K;refine norm_ (a':=?_) ?_ ?_;rotate_left
       ·show Act.put _ (some 18) _ = _;simp only [Act.put,sA,sZ,sS,i64_w,i32_w];rfl
       refine one_ (i:=4) (N:=some 19) (mA 6 31) rfl rfl kR (by decide) (fun K hK=>?_);refine Kd.R_append_step (Kd.int .i64) (w0:=w) w.heap.size (by rfl) (.tmp 15) (.tmp 18) 40 3 (.int .i64 0) 8 rfl Try.underlying40 info3 rfl (by decide) (by omega) u266000 x266000_1 t267 [.int .i64 t267] (fun _=>True) (fun _=>False) rfl rfl ?aP (fun _ hk=>hk.elim) ?aF ?aO ?aB ?aS ?aL ?_;(case aP=>exact rfl)
       (case aB=>exact bw)
       (case aF=>exact (fun _ _=>trivial))
       (case aO=>exact (qra HO_266000.out))
       (case aS=>exact (below_size bw))
       (case aL=>have:=LMc14.out;omega)
       intro v269 w16 ho hb hg hat;rw [← Ny268.out] at ho;have n0_:=aM (blk_grown (g:=gb261) (o:=.cells #[.int .i64 0,.slice none 0 0] 68 (0,0)) bk hg (Kd.R_ne HO_266000.out BK261.out (by decide)));have n1_:=aM (blk_grown (g:=gb265) (o:=.cells #[u266000] 40 (0,0)) bk hg (Kd.R_ne HO_266000.out BK265.out (by decide)));have n2_:=aM (hb);have n3_:=aM (ho);clear BK261;clear BK265;clear HB;clear HO_266000;have BK261:=n0_;have BK265:=n1_;have HB:=n2_;have HO270:=n3_;clear n0_ n1_ n2_ n3_;clear ho hb hg hat;obtain ⟨Ao17,co17,eo17⟩:=Kd.R_slice HO270.out;(first|subst eo17|(injection eo17 with f1_ f2_ f3_;have f4_:=f1_.symm;have f5_:=f3_.symm;clear f1_ f2_ f3_;subst f4_;subst f5_))
       refine hK.out _ _ ((blk_cell BK265.out 0).trans rfl) (fun hHeld=>?_);clear hK K;refine norm_ (a':=?_) ?_ ?_;rotate_left
       ·show Act.put _ (some 19) _ = _;simp only [Act.put,sA,sZ,sS,i64_w,i32_w];rfl
       refine last_ (i:=5) (N:=none) (mA 6 63) rfl rfl kR (by decide) (fun K hK=>?_);have hs18:w16.cell? ⟨gb265,0,none⟩ = some (u266000):=(blk_cell BK265.out 0).trans rfl;have hfs18:=blk_frozen BK265.out 0;have hns18_0:=NB261_265.out;have hms18_0:=NB265_261.out;refine skip_ (w1:=?_) (by rfl) rfl ?_ ?_;rotate_left
       ·go_simp
        rfl
       refine hK.out _ _ ?_;clear hK K;refine done_ kR ?_
       try go_wp2
       go_roundg k1
       case measure=>have:=HK1.out;omega
       case rel=>exact ⟨(wrap64 (x11_1 + 1)),(y268),(.slice Ao17 y268.length co17),qrs,H',⟨by have:=HK1.out;omega⟩,⟨by (with_reducible repeat (first|apply Kd.R_alloc|apply Kd.R_drewN|apply Kd.R_drew));exact Kd.R_mono (Kd.R_far (p:=⟨gb265,0,none⟩) (Kd.R_types HO270.out BK265.out (by decide)) (fun _ hk=>hk.2) (.slice Ao17 y268.length co17)) (fun _ hk=>trivial)⟩,⟨by (with_reducible repeat (first|refine blk_drewN ?_ _|refine blk_drew ?_|refine blk_alloc ?_ _));refine blk_far ?_ NB261_265.out _;(with_reducible repeat (first|refine blk_drewN ?_ _|refine blk_drew ?_|refine blk_alloc ?_ _));exact BK261.out⟩,⟨by (with_reducible repeat (first|refine blk_drewN ?_ _|refine blk_drew ?_|refine blk_alloc ?_ _));refine blk_put (cs:=#[u266000]) ?_ 0 _ rfl;(with_reducible repeat (first|refine blk_drewN ?_ _|refine blk_drew ?_|refine blk_alloc ?_ _));exact BK265.out⟩,⟨by exact bw⟩⟩
      ·rw [if_neg c14] at H;exact absurd H (by simp)
     ·rw [if_neg c12] at H;exact absurd H (by simp)
    ·rw [if_neg c11] at H;exact absurd H (by simp)
   ·rw [if_neg c10] at H;have c10b0:decide (x11_1 < (l1.length:Int)) = false:=decide_eq_false c10;clear c10;replace H:=Option.bind_eq_some_iff.mp H;obtain ⟨⟨t271,t272⟩,A190,H⟩:=H;replace H:(some (t271,t272)) = some (r1,r2):=H;have A19:=aM A190;clear A190;simp only [Option.some.injEq,Prod.mk.injEq] at H;obtain ⟨rfl,rfl⟩:=H;obtain ⟨Ao20,co20,eo20⟩:=Kd.R_slice HO_266000.out;subst eo20;go_wp2_with (first|((with_reducible refine gate_callee (f:=71) rfl ?_);refine goesL_ (some 23) rfl rfl Try.func71 kR rfl #[.int .i64 a0,.func (.func 131) #[] #[.pointer (some ⟨gb265,0,none⟩)]] rfl mq ?_;(with_reducible refine (impl_votesOf.calls k1 a0 (fun y0_=>impl_votesBy_1.f k1 y0_ x266000_1) 131 #[.pointer (some ⟨gb265,0,none⟩)] impl_votesBy_1.enters t271 t272 _ ?side1 A19.out).mono ?_);(case side1=>exact (fun W_ a0_ r0_ hx_ hb_ =>(impl_votesBy_1.calls k1 a0_ gb265 _ _ x266000_1 r0_ W_  (Kd.C_below (by repeat (first|exact (Kd.R_reads' HO_266000.out).2.2|(with_reducible refine Kd.C_alloc ?_ _)|(with_reducible refine Kd.C_drewN ?_ _)|(with_reducible refine Kd.C_drew ?_))) hb_) (by exact (Kd.R_reads' HO_266000.out).2.1) (box_later bk hb_) hx_).mono (fun _ _ h_=>h_)));rintro e w21 ⟨v273,rfl,ho0,hb⟩;refine ⟨_,rfl,?_⟩;have n0_:=aM (Kd.R_below (qra HO_266000.out) hb);have n1_:=aM (Kd.R_lower ho0 (below_size bw));have n2_:=aM (blk_below (g:=gb261) (o:=.cells #[.int .i64 0,.slice none 0 0] 68 (0,0)) bk hb);have n3_:=aM (blk_below (g:=gb265) (o:=.cells #[.slice Ao20 x266000_1.length co20] 40 (0,0)) bk hb);have n4_:=aM (below_step bw hb);clear HO_266000;clear BK261;clear BK265;clear HB;have HO_266000:=n0_;have HO274:=n1_;have BK261:=n2_;have BK265:=n3_;have HB:=n4_;clear n0_ n1_ n2_ n3_ n4_;(try clear hb);(try clear hb2);(try clear hk);(try clear hi);(try clear ho0);have hnb22:=NB261_265.out;have hnc22:=NB265_261.out;have hcz23_0:w21.cell? ⟨gb261,0,none⟩ = some (.int .i64 0):=(blk_cell BK261.out 0).trans rfl;have hcz23_1:w21.cell? ⟨gb261,1,none⟩ = some (.slice none 0 0):=(blk_cell BK261.out 1).trans rfl;have hfz23_0:=blk_frozen BK261.out 0;have hfz23_1:=blk_frozen BK261.out 1;obtain ⟨Ao24,co24,eo24⟩:=Kd.R_slice HO274.out;subst eo24))
    refine bodyPost_ret (results_cell_row rfl _ _ gb261 68 #[.int .i64 t271,.slice Ao24 t272.length co24] (0,0) _ rfl (by (with_reducible repeat (first|refine blk_drewN ?_ _|refine blk_drew ?_|refine blk_alloc ?_ _));refine blk_put (cs:=#[.int .i64 t271,.slice none 0 0]) ?_ 1 _ rfl;(with_reducible repeat (first|refine blk_drewN ?_ _|refine blk_drew ?_|refine blk_alloc ?_ _));refine blk_put (cs:=#[.int .i64 0,.slice none 0 0]) ?_ 0 _ rfl;(with_reducible repeat (first|refine blk_drewN ?_ _|refine blk_drew ?_|refine blk_alloc ?_ _));exact BK261.out) Try.underlying68 rfl kR) rfl ?_;exact ⟨_,by first|rfl|(simp [errW_none,errW_some] <;> rfl)|(simp [*,errW_none,errW_some] <;> rfl),by (with_reducible repeat (first|apply Kd.R_alloc|apply Kd.R_drewN|apply Kd.R_drew));exact Kd.R_mono (Kd.R_far (p:=⟨gb261,1,none⟩) (Kd.R_far (p:=⟨gb261,0,none⟩) (Kd.R_types HO274.out BK261.out (by decide)) (fun _ hk=>hk.2) (.int .i64 t271)) (fun _ hk=>hk.2) (.slice Ao24 t272.length co24)) (fun _ hk=>trivial),by exact bw⟩


/-! ### impl_Game_votes: function 49 -/
def impl_Game_votes.f (k:Nat) (a0_0:Int) (l0_1:List (List Int)):Option (Int × List Bool):=(impl_votesBy.f k a0_0 l0_1).bind fun bt277=>(some (bt277.1,bt277.2))
theorem impl_Game_votes.mono:∀ a0 a1 k,LeO (impl_Game_votes.f k a0 a1) (impl_Game_votes.f (k + 1) a0 a1):=by
 intro a0 a1 k;unfold impl_Game_votes.f
 repeat' with_reducible first|exact impl_votesBy.mono _ _ _|exact LeO.refl _|exact LeO.none _|refine LeO.ite ?_ ?_|refine LeO.bind ?_ (fun _=>?_)
set_option maxHeartbeats 8000000 in
set_option maxRecDepth 100000 in
theorem impl_Game_votes.calls (k:Nat) (a0_0:Int) (A0_1:Option Addr) (c0_1:Nat) (l0_1:List (List Int)) (r1:Int) (r2:List Bool) (w:World) (hr0_1:Kd.C (Kd.slice 3 (Kd.int .i64)) w A0_1 l0_1.length l0_1) (hc0_1:l0_1.length ≤ c0_1) (h:impl_Game_votes.f k a0_0 l0_1 = some (r1,r2)) :
  Calls Try.prog 49 #[.agg #[.int .i64 a0_0,.slice A0_1 l0_1.length c0_1]] w fun e w'=>∃ v1_:Value,e = .returned (.agg #[.int .i64 r1,v1_]) ∧ Kd.R Kd.bool 4 w' w.heap.size (fun _=>True) v1_ r2 ∧ Below w.heap.size w w':=by
 have hu28:=Try.underlying28;have hu68:=Try.underlying68;have HR0_1:=aM hr0_1;have HC0_1:=aM hc0_1;clear hr0_1 hc0_1;have HB:=aM (Below.refl w.heap.size w);have H:((impl_votesBy.f k a0_0 l0_1).bind fun bt277=>(some (bt277.1,bt277.2))) = some (r1,r2):=h;clear h;replace H:=Option.bind_eq_some_iff.mp H;obtain ⟨⟨t277,t278⟩,A20,H⟩:=H;replace H:(some (t277,t278)) = some (r1,r2):=H;have A2:=aM A20;clear A20;simp only [Option.some.injEq,Prod.mk.injEq] at H;obtain ⟨rfl,rfl⟩:=H;go_enter Try.func49,Try.ntmps49;go_wp2_with (first|((with_reducible refine gate_dst (N:=1) rfl ?_);refine box_event ?hg (N:=1) ?hd (cs:=#[.int .i64 a0_0,.slice A0_1 l0_1.length c0_1]) (t:=28) ?hr ?_;(case hd=>rfl);(case hg=>rfl);(case hr=>first|(go_simp;done)|(go_simp;rfl));intro gb275 hg w3 hbox hb;have n0_:=aM (below_step bw hb);have n1_:=aM (hbox);have n2_:=aM ((by rw [hg];exact (below_size bw):w.heap.size ≤ gb275));have n3_:=aM ((by rw [hg];exact (below_size bw):w.heap.size ≤ gb275));clear HB;have HB:=n0_;have BK275:=n1_;have GW275:=n2_;have GE275:=n3_;clear n0_ n1_ n2_ n3_;clear hb hbox hg)|((with_reducible refine gate_dst (N:=2) rfl ?_);refine box_event ?hg (N:=2) ?hd (cs:=#[.int .i64 0,.slice none 0 0]) (t:=68) ?hr ?_;(case hd=>rfl);(case hg=>rfl);(case hr=>first|(go_simp;done)|(go_simp;rfl));intro gb276 hg w4 hbox hb;have n0_:=aM (blk_below (g:=gb275) (o:=.cells #[.int .i64 a0_0,.slice A0_1 l0_1.length c0_1] 28 (0,0)) bk hb);have n1_:=aM (below_step bw hb);have n2_:=aM (hbox);have n3_:=aM ((by rw [hg];exact (below_size bw):w.heap.size ≤ gb276));have n4_:=aM ((by rw [hg];exact (below_size bw):w.heap.size ≤ gb276));have n5_:=aM ((by rw [hg];exact Nat.ne_of_lt (blk_lt (g:=gb275) (o:=.cells #[.int .i64 a0_0,.slice A0_1 l0_1.length c0_1] 28 (0,0)) bk):gb275 ≠ gb276));have n6_:=aM ((by rw [hg];exact Nat.ne_of_gt (blk_lt (g:=gb275) (o:=.cells #[.int .i64 a0_0,.slice A0_1 l0_1.length c0_1] 28 (0,0)) bk):gb276 ≠ gb275));clear BK275;clear HB;have BK275:=n0_;have HB:=n1_;have BK276:=n2_;have GW276:=n3_;have GE276:=n4_;have NB275_276:=n5_;have NB276_275:=n6_;clear n0_ n1_ n2_ n3_ n4_ n5_ n6_;clear hb hbox hg;have hnb5:=NB275_276.out;have hnc5:=NB276_275.out;have hcz6_0:w4.cell? ⟨gb275,0,none⟩ = some (.int .i64 a0_0):=(blk_cell BK275.out 0).trans rfl;have hcz6_1:w4.cell? ⟨gb275,1,none⟩ = some (.slice A0_1 l0_1.length c0_1):=(blk_cell BK275.out 1).trans rfl;have hfz6_0:=blk_frozen BK275.out 0;have hfz6_1:=blk_frozen BK275.out 1)|((with_reducible refine gate_callee (f:=97) rfl ?_);refine goesL_ (some 7) rfl rfl Try.func97 kR rfl #[.int .i64 a0_0,.slice A0_1 l0_1.length c0_1] rfl mq ?_;(with_reducible refine (impl_votesBy.calls k a0_0 _ _ l0_1 t277 t278 _ ?side1 ?side2 A2.out).mono ?_);(case side1=>exact qcs HR0_1.out HB.out);(case side2=>exact HC0_1.out);rintro e w7 ⟨v279,rfl,ho0,hb⟩;refine ⟨_,rfl,?_⟩;have n0_:=aM (Kd.R_lower ho0 (below_size bw));have n1_:=aM (blk_below (g:=gb275) (o:=.cells #[.int .i64 a0_0,.slice A0_1 l0_1.length c0_1] 28 (0,0)) bk hb);have n2_:=aM (blk_below (g:=gb276) (o:=.cells #[.int .i64 0,.slice none 0 0] 68 (0,0)) bk hb);have n3_:=aM (below_step bw hb);clear BK275;clear BK276;clear HB;have HO280:=n0_;have BK275:=n1_;have BK276:=n2_;have HB:=n3_;clear n0_ n1_ n2_ n3_;(try clear hb);(try clear hb2);(try clear hk);(try clear hi);(try clear ho0);have hcz8_0:w7.cell? ⟨gb276,0,none⟩ = some (.int .i64 0):=(blk_cell BK276.out 0).trans rfl;have hcz8_1:w7.cell? ⟨gb276,1,none⟩ = some (.slice none 0 0):=(blk_cell BK276.out 1).trans rfl;have hfz8_0:=blk_frozen BK276.out 0;have hfz8_1:=blk_frozen BK276.out 1;obtain ⟨Ao9,co9,eo9⟩:=Kd.R_slice HO280.out;subst eo9))
 refine bodyPost_ret (results_cell_row rfl _ _ gb276 68 #[.int .i64 t277,.slice Ao9 t278.length co9] (0,0) _ rfl (by (with_reducible repeat (first|refine blk_drewN ?_ _|refine blk_drew ?_|refine blk_alloc ?_ _));refine blk_put (cs:=#[.int .i64 t277,.slice none 0 0]) ?_ 1 _ rfl;(with_reducible repeat (first|refine blk_drewN ?_ _|refine blk_drew ?_|refine blk_alloc ?_ _));refine blk_put (cs:=#[.int .i64 0,.slice none 0 0]) ?_ 0 _ rfl;(with_reducible repeat (first|refine blk_drewN ?_ _|refine blk_drew ?_|refine blk_alloc ?_ _));exact BK276.out) Try.underlying68 rfl kR) rfl ?_;exact ⟨_,by first|rfl|(simp [errW_none,errW_some] <;> rfl)|(simp [*,errW_none,errW_some] <;> rfl),by (with_reducible repeat (first|apply Kd.R_alloc|apply Kd.R_drewN|apply Kd.R_drew));exact Kd.R_mono (Kd.R_far (p:=⟨gb276,1,none⟩) (Kd.R_far (p:=⟨gb276,0,none⟩) (Kd.R_types HO280.out BK276.out (by decide)) (fun _ hk=>hk.2) (.int .i64 t277)) (fun _ hk=>hk.2) (.slice Ao9 t278.length co9)) (fun _ hk=>trivial),by exact bw⟩


/-! ### impl_votes_ordered_1: function 162 -/
def impl_votes_ordered_1.f (a0:Int):Option (Bool):=some true
set_option maxHeartbeats 8000000 in
set_option maxRecDepth 100000 in
theorem impl_votes_ordered_1.calls (a0:Int) (r:Bool) (w:World) (h:impl_votes_ordered_1.f a0 = some r) :
  Calls Try.prog 162 #[.int .i64 a0] w fun e w'=>e = .returned (.bool r) ∧ Drawn0 w w':=by
 have H:(some true) = some r:=h;clear h;obtain rfl:=Option.some.inj H;go_enter Try.func162,Try.ntmps162;go_wp2
 go_ret
 exact ⟨by first|rfl|(simp;done)|(simp [*];done),by repeat (first|exact Drawn0.refl _|apply Drawn0.step)⟩
theorem impl_votes_ordered_1.enters:∀ (args:Array Value) (w:World),(callFunc 162 args).run Try.prog w = .ok (.enter 162 args) w:=enters_of Try.func162 kR rfl


/-! ### slices_Index_int_int: function 163 -/
def slices_Index_int_int.l0:Nat → List Int → Int → Int → Int → Option (Int)
 | 0,_,_,_,_=>none
 | k + 1,x0,x1,x7,x8=>if x8 < x7 then (if 0 ≤ x8 then (if x8 < (x0.length:Int) then (if x1 = (rd x0 x8) then (some x8) else (slices_Index_int_int.l0 k x0 x1 x7 (wrap64 (x8 + 1)))) else (none)) else (none)) else (some (-1))
def slices_Index_int_int.f (k:Nat) (l0:List Int) (a1:Int):Option (Int):=slices_Index_int_int.l0 k l0 a1 (l0.length:Int) 0
theorem slices_Index_int_int.mono_l:∀ k,(∀ y0 y1 y2 y3,LeO (slices_Index_int_int.l0 k y0 y1 y2 y3) (slices_Index_int_int.l0 (k + 1) y0 y1 y2 y3))
 | 0=>fun _ _ _ _ r h=>by simp [slices_Index_int_int.l0] at h
 | k + 1=>by
  have ih0:=slices_Index_int_int.mono_l k
  ·intro y0 y1 y2 y3;unfold slices_Index_int_int.l0
   repeat' with_reducible first|exact ih0 _ _ _ _|exact LeO.refl _|exact LeO.none _|refine LeO.ite ?_ ?_|refine LeO.bind ?_ (fun _=>?_)
theorem slices_Index_int_int.mono:∀ a0 a1 k,LeO (slices_Index_int_int.f k a0 a1) (slices_Index_int_int.f (k + 1) a0 a1):=by
 intro a0 a1 k;have ih0:=slices_Index_int_int.mono_l k;unfold slices_Index_int_int.f
 repeat' with_reducible first|exact ih0 _ _ _ _|exact LeO.refl _|exact LeO.none _|refine LeO.ite ?_ ?_|refine LeO.bind ?_ (fun _=>?_)
set_option maxHeartbeats 8000000 in
set_option maxRecDepth 100000 in
theorem slices_Index_int_int.calls (k:Nat) (A0:Option Addr) (c0:Nat) (l0:List Int) (a1:Int) (r:Int) (w:World) (hr0:Kd.C (Kd.int .i64) w A0 l0.length l0) (hc0:l0.length ≤ c0) (h:slices_Index_int_int.f k l0 a1 = some r) :
  Calls Try.prog 163 #[.slice A0 l0.length c0,.int .i64 a1] w fun e w'=>e = .returned (.int .i64 r) ∧ Drawn0 w w':=by
 have HR0:=aM hr0;have HC0:=aM hc0;clear hr0 hc0;have H:(slices_Index_int_int.l0 k l0 a1 (l0.length:Int) 0) = some r:=h;clear h;have H':=aM H;clear H;go_enter Try.func163,Try.ntmps163;go_wp2
 go_loopg [8] k (fun kq v8 w'=>∃ (x8_1:Int),v8 = .int .i64 x8_1 ∧ Aside0 (slices_Index_int_int.l0 kq l0 a1 (l0.length:Int) x8_1 = some r) ∧ Aside0 (kq ≤ k) ∧ Drawn0 w w')
 case atStart=>exact ⟨(0),qrs,H',⟨Nat.le_refl _⟩,by repeat (first|exact Drawn0.refl _|apply Drawn0.step)⟩
 case round =>
  clear H';(try clear c1);(try clear p2)
  obtain ⟨x8_1,rfl,HA,HK1,⟨m1,rfl⟩⟩:=hrel
  cases gk with
  | zero=>exact absurd HA.out (by simp [slices_Index_int_int.l0])
  | succ k1 =>
   have H:=HA.out;clear HA;simp only [slices_Index_int_int.l0] at H;by_cases c3:x8_1 < (l0.length:Int)
   ·rw [if_pos c3] at H;have c3b0:decide (x8_1 < (l0.length:Int)) = true:=decide_eq_true c3;clear c3;by_cases c4:0 ≤ x8_1
    ·rw [if_pos c4] at H;have c4b0:decide (0 ≤ x8_1) = true:=decide_eq_true c4;clear c4;by_cases c5:x8_1 < (l0.length:Int)
     ·rw [if_pos c5] at H;have c5b0:decide (x8_1 < (l0.length:Int)) = true:=decide_eq_true c5;clear c5;by_cases c6:a1 = (rd l0 x8_1)
      ·rw [if_pos c6] at H;have c6b0:(a1 == (rd l0 x8_1)) = true:=beq_iff_eq.mpr c6;have c6b1:(a1 != (rd l0 x8_1)) = false:=bne_eq_false_iff_eq.mpr c6;clear c6;obtain rfl:=Option.some.inj H;have p628:0 ≤ (x8_1:Int):=of_decide_eq_true ab;have q628:x8_1 < (l0.length:Int):=of_decide_eq_true ab;obtain ⟨ad628,e628,hx628_0⟩:=Kd.at_int HR0.out x8_1 p628 q628;cases e628
       replace p628:=eq_true p628;replace q628:=eq_true q628;go_wp2
       go_ret
       exact ⟨by first|rfl|(simp;done)|(simp [*];done),by repeat (first|exact Drawn0.refl _|apply Drawn0.step)⟩
      ·rw [if_neg c6] at H;have c6b0:(a1 == (rd l0 x8_1)) = false:=beq_eq_false_iff_ne.mpr c6;have c6b1:(a1 != (rd l0 x8_1)) = true:=bne_iff_ne.mpr c6;have H':=aM H;clear H;have p628:0 ≤ (x8_1:Int):=of_decide_eq_true ab;have q628:x8_1 < (l0.length:Int):=of_decide_eq_true ab;obtain ⟨ad628,e628,hx628_0⟩:=Kd.at_int HR0.out x8_1 p628 q628;cases e628
       replace p628:=eq_true p628;replace q628:=eq_true q628;go_wp2
       go_roundg k1
       case measure=>have:=HK1.out;omega
       case rel=>exact ⟨(wrap64 (x8_1 + 1)),qrs,H',⟨by have:=HK1.out;omega⟩,by repeat (first|exact Drawn0.refl _|apply Drawn0.step)⟩
     ·rw [if_neg c5] at H;exact absurd H (by simp)
    ·rw [if_neg c4] at H;exact absurd H (by simp)
   ·rw [if_neg c3] at H;have c3b0:decide (x8_1 < (l0.length:Int)) = false:=decide_eq_false c3;clear c3;obtain rfl:=Option.some.inj H;go_wp2
    go_ret
    exact ⟨by first|rfl|(simp;done)|(simp [*];done),by repeat (first|exact Drawn0.refl _|apply Drawn0.step)⟩


/-! ### slices_Contains_int_int: function 141 -/
def slices_Contains_int_int.f (k:Nat) (l0:List Int) (a1:Int):Option (Bool):=(slices_Index_int_int.f k l0 a1).bind fun t629=>(some (decide (t629 ≥ 0)))
theorem slices_Contains_int_int.mono:∀ a0 a1 k,LeO (slices_Contains_int_int.f k a0 a1) (slices_Contains_int_int.f (k + 1) a0 a1):=by
 intro a0 a1 k;unfold slices_Contains_int_int.f
 repeat' with_reducible first|exact slices_Index_int_int.mono _ _ _|exact LeO.refl _|exact LeO.none _|refine LeO.ite ?_ ?_|refine LeO.bind ?_ (fun _=>?_)
set_option maxHeartbeats 8000000 in
set_option maxRecDepth 100000 in
theorem slices_Contains_int_int.calls (k:Nat) (A0:Option Addr) (c0:Nat) (l0:List Int) (a1:Int) (r:Bool) (w:World) (hr0:Kd.C (Kd.int .i64) w A0 l0.length l0) (hc0:l0.length ≤ c0) (h:slices_Contains_int_int.f k l0 a1 = some r) :
  Calls Try.prog 141 #[.slice A0 l0.length c0,.int .i64 a1] w fun e w'=>e = .returned (.bool r) ∧ Drawn0 w w':=by
 have HR0:=aM hr0;have HC0:=aM hc0;clear hr0 hc0;have H:((slices_Index_int_int.f k l0 a1).bind fun t629=>(some (decide (t629 ≥ 0)))) = some r:=h;clear h;replace H:=Option.bind_eq_some_iff.mp H;obtain ⟨t629,A30,H⟩:=H;replace H:(some (decide (t629 ≥ 0))) = some r:=H;have A3:=aM A30;clear A30;obtain rfl:=Option.some.inj H;go_enter Try.func141,Try.ntmps141;go_wp2_with (first|((with_reducible refine gate_callee (f:=163) rfl ?_);refine goesL_ (some 7) rfl rfl Try.func163 kR rfl #[.slice A0 l0.length c0,.int .i64 a1] rfl mq ?_;(with_reducible refine (slices_Index_int_int.calls k _ _ l0 a1 t629 _ ?side1 ?side2 A3.out).mono ?_);(case side1=>repeat (first|exact HR0.out|(with_reducible refine Kd.C_alloc ?_ _)|(with_reducible refine Kd.C_drewN ?_ _)|(with_reducible refine Kd.C_drew ?_)));(case side2=>exact HC0.out);rintro e w' ⟨rfl,⟨nd,rfl⟩⟩;refine ⟨_,rfl,?_⟩))
 go_ret
 exact ⟨by first|rfl|(simp;done)|(simp [*];done),by repeat (first|exact Drawn0.refl _|apply Drawn0.step)⟩

end Go.Proofs.Ytokelcedamegbaa.P
