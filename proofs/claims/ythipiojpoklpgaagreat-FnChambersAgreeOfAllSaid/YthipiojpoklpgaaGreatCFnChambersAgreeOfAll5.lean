/- Part 5 of the texts below the law FnChambersAgreeOfAll. Printed by this session's driver over the kit's printer, but for the hand contracts and the plain laws. -/
import Derived.Shelf.SlSortCmp.NoneTotal
import Derived.Test.YthipiojpoklpgaaGreatCFnChambersAgreeOfAll1
import Derived.Test.YthipiojpoklpgaaGreatCFnChambersAgreeOfAll2
import Derived.Test.YthipiojpoklpgaaGreatCFnChambersAgreeOfAll3
import Derived.Test.YthipiojpoklpgaaGreatCFnChambersAgreeOfAll4
set_option linter.unusedVariables false
set_option linter.unusedSimpArgs false
set_option maxHeartbeats 8000000
set_option maxRecDepth 100000
namespace Go.Proofs.YthipiojpoklpgaaGreat.P
open Go.RowKit Go.Proofs.YthipiojpoklpgaaGreatW.PrintWords Go.Proofs.YthipiojpoklpgaaGreatW.PrintLast Go.Proofs.YthipiojpoklpgaaGreatW.PrintMore
attribute [local go_sem] ja jg jS jQ iy iC jq ji   -- for this text's walks alone
set_option linter.unusedVariables false
set_option linter.unusedSimpArgs false

-- OWN 0 0
-- IMPORT Lexc
-- KIT Derived.Shelf.SlSortCmp.NoneTotal
open Go.Shelf in
def aY.ren : Ren := ⟨fun x => match x with
| 6 => 109 | 14 => 112 | 15 => 113 | 20 => 114 | 21 => 115 | 22 => 116 | 23 => 117 | 24 => 118 | 25 => 119 | 26 => 120 | 27 => 121 | 28 => 122 | 29 => 123 | 46 => 124 | 47 => 125 | 48 => 126 | 49 => 127 | 50 => 128 | 57 => 129 | _ => 0, fun x => match x with
| 0 => 0 | 3 => 3 | 4 => 4 | 5 => 5 | 9 => 9 | 22 => 28 | 24 => 23 | 25 => 76 | 39 => 95 | 45 => 110 | 46 => 111 | 50 => 46 | 53 => 103 | 55 => 105 | 66 => 116 | 70 => 120 | 76 => 122 | 77 => 123 | _ => 0, fun x => x⟩
theorem aY.lay : SlLaysF.n6 Tryz.prog aY.ren := ⟨
  by kernel_rfl,
  ⟨"slices.SortFunc[[][]int,[]int]", by decide, by kernel_rfl⟩,
  ⟨"slices.pdqsortCmpFunc[[]int]", by decide, by kernel_rfl⟩,
  by kernel_rfl,
  ⟨"slices.insertionSortCmpFunc[[]int]", by decide, by kernel_rfl⟩,
  ⟨"slices.heapSortCmpFunc[[]int]", by decide, by kernel_rfl⟩,
  ⟨"slices.breakPatternsCmpFunc[[]int]", by decide, by kernel_rfl⟩,
  ⟨"slices.choosePivotCmpFunc[[]int]", by decide, by kernel_rfl⟩,
  ⟨"slices.reverseRangeCmpFunc[[]int]", by decide, by kernel_rfl⟩,
  ⟨"slices.partialInsertionSortCmpFunc[[]int]", by decide, by kernel_rfl⟩,
  ⟨"slices.partitionEqualCmpFunc[[]int]", by decide, by kernel_rfl⟩,
  ⟨"slices.partitionCmpFunc[[]int]", by decide, by kernel_rfl⟩,
  by kernel_rfl,
  by kernel_rfl,
  ⟨"slices.siftDownCmpFunc[[]int]", by decide, by kernel_rfl⟩,
  by kernel_rfl,
  by kernel_rfl,
  ⟨"slices.medianAdjacentCmpFunc[[]int]", by decide, by kernel_rfl⟩,
  ⟨"slices.medianCmpFunc[[]int]", by decide, by kernel_rfl⟩,
  ⟨"slices.order2CmpFunc[[]int]", by decide, by kernel_rfl⟩,
  by kernel_rfl,
  fun w => by kernel_rfl,
  fun w => by kernel_rfl,
  fun w => by kernel_rfl,
  by kernel_rfl,
  fun w => by kernel_rfl,
  fun w => by kernel_rfl,
  fun w => by kernel_rfl,
  by kernel_rfl,
  fun w => by kernel_rfl,
  fun w => by kernel_rfl,
  fun w => by kernel_rfl,
  by kernel_rfl,
  fun w => by kernel_rfl,
  fun w => by kernel_rfl,
  fun w => by kernel_rfl,
  by kernel_rfl,
  fun w => by kernel_rfl,
  fun w => by kernel_rfl,
  fun w => by kernel_rfl,
  by kernel_rfl,
  fun w => by kernel_rfl,
  fun w => by kernel_rfl,
  fun w => by kernel_rfl,
  fun w => by kernel_rfl,
  fun w => by kernel_rfl,
  by kernel_rfl,
  fun w => by kernel_rfl,
  fun w => by kernel_rfl,
  fun w => by kernel_rfl,
  by kernel_rfl,
  fun w => by kernel_rfl,
  fun w => by kernel_rfl,
  fun w => by kernel_rfl,
  by kernel_rfl,
  fun w => by kernel_rfl,
  fun w => by kernel_rfl,
  fun w => by kernel_rfl,
  by kernel_rfl,
  fun w => by kernel_rfl,
  fun w => by kernel_rfl,
  fun w => by kernel_rfl,
  by kernel_rfl,
  fun w => by kernel_rfl,
  fun w => by kernel_rfl,
  fun w => by kernel_rfl,
  by kernel_rfl,
  fun w => by kernel_rfl,
  fun w => by kernel_rfl,
  fun w => by kernel_rfl,
  by kernel_rfl,
  fun w => by kernel_rfl,
  fun w => by kernel_rfl,
  fun w => by kernel_rfl,
  by kernel_rfl,
  fun w => by kernel_rfl,
  fun w => by kernel_rfl,
  fun w => by kernel_rfl,
  by kernel_rfl,
  fun w => by kernel_rfl,
  fun w => by kernel_rfl,
  fun w => by kernel_rfl,
  by kernel_rfl,
  fun w => by kernel_rfl,
  fun w => by kernel_rfl,
  fun w => by kernel_rfl,
  by kernel_rfl,
  fun w => by kernel_rfl,
  fun w => by kernel_rfl,
  fun w => by kernel_rfl⟩
def aY.f (k : Nat) (l0 : List (List Int)) (a1 : (List Int → List Int → Option (Int))) : Option (List (List Int)) := if l0.length ≤ 1000000 ∧ ∀ x ∈ l0, ∀ y ∈ l0, a1 x y = some (gE x y) then some (gA l0) else none
open Go.Sort in
theorem aY.heap {α : Type} [Inhabited α] (enc : α → Value) (w : World) (g m : Nat) (d : Array α) (os : Array Obj) (cur : Array Value) (e : Nat) (hg : w.heap[g]? = some (.cells cur e (0, 0))) :
    (sortWorld enc w g 0 m d os).heap[g]? = some (.cells (putCells enc 0 d cur) e (0, 0)) ∧ (∀ k, k < w.heap.size → k ≠ g → (sortWorld enc w g 0 m d os).heap[k]? = w.heap[k]?) ∧ w.heap.size ≤ (sortWorld enc w g 0 m d os).heap.size := by
  have hlt : g < w.heap.size := gB hg
  have e1 : ∀ k, k < w.heap.size → (sortWorld enc w g 0 m d os).heap[k]? = (w.heap.modify g (onCells (putCells enc 0 d)))[k]? := fun k hk => by
    show ((w.heap.modify g (onCells (putCells enc 0 d))) ++ os)[k]? = _
    rw [Array.getElem?_append_left (by rw [Array.size_modify]; exact hk)]
  refine ⟨?_, fun k hk hne => ?_, ?_⟩
  · rw [e1 g hlt, Array.getElem?_modify, if_pos rfl, hg]
    rfl
  · rw [e1 k hk, Array.getElem?_modify, if_neg (fun z => hne z.symm)]
  · show w.heap.size ≤ ((w.heap.modify g (onCells (putCells enc 0 d))) ++ os).size
    rw [Array.size_append, Array.size_modify]
    omega
open Go.Sort in
theorem aY.cells {α : Type} [Inhabited α] (enc : α → Value) (d : Array α) (cur : Array Value) (h : d.size ≤ cur.size) : (putCells enc 0 d cur).toList.take d.size = d.toList.map enc := by
  apply List.ext_getElem?
  intro j
  by_cases hj : j < d.size
  · rw [List.getElem?_take_of_lt hj, Array.getElem?_toList, List.getElem?_map, Array.getElem?_toList]
    unfold putCells
    rw [Array.getElem?_mapIdx, Array.getElem?_eq_getElem (by omega), Array.getElem?_eq_getElem hj, Option.map_some, Option.map_some, if_pos ⟨Nat.zero_le _, by omega⟩, Nat.sub_zero, getElem!_pos d j hj]
  · rw [List.getElem?_eq_none (by rw [List.length_take]; omega), List.getElem?_eq_none (by rw [List.length_map, Array.length_toList]; omega)]
theorem aY.calls (k : Nat) (P0_ : Nat → Prop) (u9000_ : Value) (l0 : List (List Int)) (a1 : (List Int → List Int → Option (Int))) (g1_ : Nat) (lb1_ : Array Value) (eg1_ : ∀ (args : Array Value) (w : World), (callFunc g1_ args).run Tryz.prog w = .ok (.enter g1_ args) w) (r : List (List Int)) (w0 w : World) (hB : Below w0.heap.size w0 w) (ho0 : Kd.S (Kd.slice 3 (Kd.int .i64)) 23 w w0.heap.size P0_ u9000_ l0) (hp1 : ∀ (W : World) (A0_ : Option Addr) (c0_ : Nat) (l0_ : List Int) (A1_ : Option Addr) (c1_ : Nat) (l1_ : List Int) (r0_ : Int), a1 l0_ l1_ = some r0_ → Kept w W (fun k_ => P0_ k_) → Kd.C (Kd.int .i64) W A0_ l0_.length l0_ → l0_.length ≤ c0_ → Kd.C (Kd.int .i64) W A1_ l1_.length l1_ → l1_.length ≤ c1_ → Calls Tryz.prog g1_ (#[.slice A0_ l0_.length c0_, .slice A1_ l1_.length c1_] ++ lb1_) W fun e w' => e = .returned (.int .i64 r0_) ∧ bi W w') (h : aY.f k l0 a1 = some r) :
    Calls Tryz.prog 109 #[u9000_, .func (.func g1_) #[] lb1_] w fun e w' => e = .returned (.tuple #[]) ∧ Kd.S (Kd.slice 3 (Kd.int .i64)) 23 w' w0.heap.size (fun k_ => P0_ k_) u9000_ r ∧ Below w0.heap.size w0 w' ∧ Kept w w' (fun k_ => P0_ k_) := by
  unfold aY.f at h
  split at h
  case isFalse => exact absurd h (by simp)
  rename_i hc
  obtain ⟨hlen, hcmp⟩ := hc
  obtain rfl := Option.some.inj h
  clear h
  obtain ⟨f, h0, inner, ho, hr⟩ := ho0
  rw [List.length_zipIdx] at ho
  rcases Nat.eq_zero_or_pos l0.length with hn | hn
  · obtain rfl := List.eq_nil_of_length_eq_zero hn
    obtain ⟨A, c, rfl⟩ : ∃ A c, u9000_ = .slice A 0 c := by
      rcases ho.2 with ⟨hv, _⟩ | ⟨g, cap, cur, hv, _⟩
      · exact ⟨_, _, hv⟩
      · exact ⟨_, _, hv⟩
    refine (AnyF.slices_SortFunc_none { aY.lay with } A c (.func (.func g1_) #[] lb1_) w).mono ?_
    rintro e w' ⟨rfl, rfl⟩
    have e : gA ([] : List (List Int)) = [] := by simp [gA]
    rw [e]
    exact ⟨rfl, ⟨f, h0, inner, ho, hr⟩, hB, Kept.refl _ _⟩
  · obtain ⟨hil, hv⟩ := ho
    have hil : inner.length = l0.length := by have h1 : inner.length = l0.length * 1 := hil; omega
    obtain ⟨g, cap, cur, rfl, hbase, hg, hcap, hmax, hcs, htk⟩ : ∃ g cap cur, u9000_ = .slice (some ⟨g, 0, none⟩) l0.length cap ∧ w0.heap.size ≤ g ∧ w.heap[g]? = some (.cells cur 23 (0, 0)) ∧ l0.length ≤ cap ∧ cap ≤ maxLen ∧ cur.size = cap * 1 ∧ cur.toList.take (l0.length * 1) = inner := by
      rcases hv with ⟨_, hz⟩ | hv
      · omega
      · exact hv
    have hPg : P0_ g := h0 g rfl
    have hglt : g < w.heap.size := gB hg
    rw [Nat.mul_one] at htk hcs
    have hcell : ∀ i (hi : i < l0.length), inner[i]'(by omega) = cur[i]'(by omega) := fun i hi => by
      have : inner[i]? = cur.toList[i]? := by rw [← htk, List.getElem?_take_of_lt hi]
      rw [List.getElem?_eq_getElem (by omega), List.getElem?_eq_getElem (by rw [Array.length_toList]; omega)] at this
      exact Option.some.inj this
    have hM : ∀ (i : Nat) (hi : i < l0.length), ∃ v', inner[i]'(by omega) = v' ∧ Kd.R (Kd.int .i64) 3 w w0.heap.size (fun k => ((P0_ k ∧ some k ≠ some g) ∧ f k = i)) v' l0[i] := fun i hi => by
      have h1 := hr.2 i (l0[i], i) (Kd.ot (List.getElem?_eq_getElem hi))
      have h2 : (inner.drop (i * 1)).take 1 = [inner[i]'(by omega)] := by rw [Nat.mul_one, List.drop_eq_getElem_cons (by omega), List.take_succ_cons, List.take_zero]
      obtain ⟨v', hv', hR⟩ := (show ∃ v', (inner.drop (i * 1)).take 1 = [v'] ∧ Kd.R (Kd.int .i64) 3 w w0.heap.size (fun k => ((P0_ k ∧ some k ≠ some g) ∧ f k = i)) v' l0[i] from h1)
      rw [h2] at hv'
      injection hv' with hv' _
      exact ⟨v', hv', hR⟩
    haveI : Inhabited (Fin l0.length) := ⟨⟨0, hn⟩⟩
    let enc : Fin l0.length → Value := fun i => inner[i.1]'(by omega)
    have henc : ∀ i, enc i = inner[i.1]'(by omega) := fun _ => rfl
    have hlt : ∀ (i j : Fin l0.length), ltOf (fun (i j : Fin l0.length) => gE l0[i.1] l0[j.1]) i j = decide (gE l0[i.1] l0[j.1] < 0) := fun _ _ => rfl
    have hO : Go.Sort.SWO (ltOf (fun (i j : Fin l0.length) => gE l0[i.1] l0[j.1])) := by
      refine ⟨fun x => ?_, fun x y z h1 h2 => ?_, fun x y z h1 h2 => ?_⟩
      · rw [hlt, lJ]; rfl
      · rw [hlt] at h1 h2 ⊢
        have h1 := of_decide_eq_true h1
        have h2 := of_decide_eq_true h2
        have h3 := iG (a := l0[x.1]) (b := l0[y.1]) (c := l0[z.1]) (by omega) (by omega)
        refine decide_eq_true ?_
        rcases Int.lt_or_eq_of_le h3 with h4 | h4
        · exact h4
        · have e := jf h4
          have s := fO l0[x.1] l0[y.1]
          rw [e] at s h1
          omega
      · rw [hlt] at h1 h2 ⊢
        have h1 := of_decide_eq_false h1
        have h2 := of_decide_eq_false h2
        have s1 := fO l0[x.1] l0[y.1]
        have s2 := fO l0[y.1] l0[z.1]
        have s3 := fO l0[x.1] l0[z.1]
        have h3 := iG (a := l0[z.1]) (b := l0[y.1]) (c := l0[x.1]) (by omega) (by omega)
        exact decide_eq_false (by omega)
    have hd : (List.finRange l0.length).toArray.size = l0.length := by rw [List.size_toArray, List.length_finRange]
    have hdg : ∀ j, j < l0.length → ((List.finRange l0.length).toArray[j]!).1 = j := fun j hj => by
      rw [getElem!_pos _ j (by rw [hd]; exact hj)]
      simp
    have hone : OneCell enc := fun i => by
      obtain ⟨v', e, hR⟩ := hM i.1 i.2
      rw [henc, e]
      exact (Kd.R_val hR).2
    have lays := Any.slices_SortFunc aY.lay enc hone (fun i j => gE l0[i.1] l0[j.1]) hO g1_ lb1_ g 0 cap (List.finRange l0.length).toArray w eg1_
      (by
        intro m os dk hs x y
        obtain ⟨hh1, hh2, hh3⟩ := aY.heap enc w g m dk os cur 23 hg
        have rd : ∀ i : Fin l0.length, ∃ A c, enc i = .slice A l0[i.1].length c ∧ l0[i.1].length ≤ c ∧ Kd.C (Kd.int .i64) (sortWorld enc w g 0 m dk os) A l0[i.1].length l0[i.1] := fun i => by
          obtain ⟨v', e, hR⟩ := hM i.1 i.2
          have hR2 := Kd.kK (w1 := sortWorld enc w g 0 m dk os) hR (fun k hk hkl => hh2 k hkl (fun z => hk.1.2 (congrArg some z)))
          obtain ⟨A, c, hv, hl, hC⟩ := Kd.jy hR2
          exact ⟨A, c, by rw [henc, e, hv], hl, hC⟩
        obtain ⟨A0, c0, ex, hl0, hC0⟩ := rd x
        obtain ⟨A1, c1, ey, hl1, hC1⟩ := rd y
        rw [ex, ey]
        refine (hp1 (sortWorld enc w g 0 m dk os) A0 c0 l0[x.1] A1 c1 l0[y.1] _ (hcmp _ (List.getElem_mem _) _ (List.getElem_mem _)) ⟨hh3, fun k hk hne => hh2 k hk (fun z => hne (z ▸ hPg))⟩ hC0 hl0 hC1 hl1).mono ?_
        rintro e w' ⟨rfl, ⟨⟨q, hq⟩⟩⟩
        exact ⟨rfl, q, #[], by rw [hq, Go.Sort.grow_empty]⟩)
      (by
        intro j hj
        rw [hd] at hj
        refine ⟨?_, ?_⟩
        · rw [Nat.zero_add]
          have e1 : enc ((List.finRange l0.length).toArray[j]!) = cur[j]'(by omega) := by
            rw [henc, ← hcell j hj]
            congr 1
            exact hdg j hj
          rw [e1]
          have := aE hg j
          rw [this, Array.getElem?_eq_getElem (by omega)]
        · exact af hg _)
      hglt (by rw [hd]; omega)
    rw [hd] at lays
    refine lays.mono ?_
    rintro e w' ⟨rfl, d', m, os, hp, hs, rfl⟩
    obtain ⟨hps, _, hpp⟩ := hp
    rw [hd] at hps
    obtain ⟨hh1, hh2, hh3⟩ := aY.heap enc w g m d' os cur 23 hg
    have hpp2 : d'.toList.Perm (List.finRange l0.length) := by
      have e1 : d'.extract 0 l0.length = d' := by have h2 : d'.extract 0 d'.size = d' := Array.extract_size; rwa [hps] at h2
      have e2 : (List.finRange l0.length).toArray.extract 0 l0.length = (List.finRange l0.length).toArray := by
        have : (List.finRange l0.length).toArray.extract 0 (List.finRange l0.length).toArray.size = (List.finRange l0.length).toArray := Array.extract_size
        rwa [hd] at this
      rw [e1, e2] at hpp
      exact hpp
    have hres : d'.toList.map (fun i => l0[i.1]) = gA l0 := by
      refine lx ?_ ?_
      · refine (hpp2.map _).trans (List.Perm.of_eq ?_)
        apply List.ext_getElem
        · rw [List.length_map, List.length_finRange]
        · intro j h1 h2
          simp
      · rw [List.pairwise_map]
        refine List.pairwise_iff_getElem.2 (fun i j hi hj hij => ?_)
        rw [Array.length_toList] at hi hj
        have := hs i j (Nat.zero_le _) hij (by omega)
        rw [getElem!_pos d' j (by omega), getElem!_pos d' i (by omega), hlt] at this
        have := of_decide_eq_false this
        have s := fO l0[(d'[i]).1] l0[(d'[j]).1]
        exact decide_eq_true (by simp only [Array.getElem_toList]; omega)
    have hnd : (d'.toList.map (fun i => i.1)).Nodup := by
      refine ((hpp2.map (fun i : Fin l0.length => i.1)).nodup_iff).2 ?_
      have := List.nodup_finRange l0.length
      exact List.Pairwise.map _ (fun a b hab z => hab (Fin.ext z)) this
    have hdl : d'.toList.length = l0.length := by rw [Array.length_toList]; exact hps
    refine ⟨rfl, ⟨fun b => (d'.toList.map (fun i => i.1)).idxOf (f b), h0, d'.toList.map enc, ?_, ?_⟩, ?_, ?_⟩
    · rw [List.length_zipIdx, ← hres, List.length_map, hdl]
      refine ⟨by rw [List.length_map, hdl]; show l0.length = l0.length * 1; omega, .inr ⟨g, cap, _, rfl, hbase, hh1, hcap, hmax, ?_, ?_⟩⟩
      · show (Go.Sort.putCells enc 0 d' cur).size = cap * 1
        unfold Go.Sort.putCells
        rw [Array.size_mapIdx]; omega
      · show (Go.Sort.putCells enc 0 d' cur).toList.take (l0.length * 1) = _
        have := aY.cells enc d' cur (by omega)
        rw [hps] at this
        rw [Nat.mul_one]
        exact this
    · refine ⟨by rw [List.length_zipIdx, ← hres, List.length_map, List.length_map]; show _ = _ * 1; omega, ?_⟩
      intro j p hj
      rw [← hres, List.getElem?_zipIdx, Nat.zero_add] at hj
      obtain ⟨x, hx, rfl⟩ := Option.map_eq_some_iff.1 hj
      rw [List.getElem?_map] at hx
      obtain ⟨i, hi, rfl⟩ := Option.map_eq_some_iff.1 hx
      have hjl : j < d'.toList.length := (List.getElem?_eq_some_iff.1 hi).1
      have hi2 : d'.toList[j] = i := (List.getElem?_eq_some_iff.1 hi).2
      have hdr : ((d'.toList.map enc).drop (j * 1)).take 1 = [enc i] := by
        rw [Nat.mul_one, List.drop_eq_getElem_cons (by rw [List.length_map]; exact hjl), List.take_succ_cons, List.take_zero, List.getElem_map, hi2]
      show ∃ v', ((d'.toList.map enc).drop (j * 1)).take 1 = [v'] ∧ _
      obtain ⟨v', e, hR⟩ := hM i.1 i.2
      have hR2 := Kd.kK (w1 := sortWorld enc w g 0 m d' os) hR (fun k hk hkl => hh2 k hkl (fun z => hk.1.2 (congrArg some z)))
      refine ⟨enc i, hdr, ?_⟩
      rw [henc, e]
      refine Kd.cG hR2 (fun k hk => ⟨hk.1, ?_⟩)
      show (d'.toList.map (fun i => i.1)).idxOf (f k) = j
      have h3 := List.Nodup.idxOf_getElem hnd j (by rw [List.length_map]; exact hjl)
      rw [List.getElem_map, hi2] at h3
      rw [hk.2]
      exact h3
    · refine ⟨?_, ?_, ?_, Nat.le_trans hB.size hh3, fun k hk => (hh2 k (Nat.lt_of_lt_of_le hk hB.size) (fun z => by omega)).trans (hB.block k hk)⟩
      · exact hB.os
      · exact hB.tape
      · exact hB.output
    · exact ⟨hh3, fun k hk hne => hh2 k hk (fun z => hne (z ▸ hPg))⟩


def bC.l0:Nat → (Int → Option (Bool)) → List (List Int) → Int → Int → Option ((List (List Int)))
 | 0,_,_,_,_=>none
 | k + 1,x1,x5,x10,x11=>if x11 < x10 then ((x1 x11).bind fun t3=>(if t3 = true then ((dj.f k x11).bind fun t4=>(if x5.length < 5864062014805 then (bC.l0 k x1 (x5 ++ [t4]) x10 (wrap64 (x11 + 1))) else (none))) else (bC.l0 k x1 x5 x10 (wrap64 (x11 + 1))))) else ((aY.f k x5 (fun y0_ y1_=>aN.f k y0_ y1_)).bind fun t2=>(some t2))
def bC.f (k:Nat) (a0_0:Int) (l0_1:List Bool) (a1:(Int → Option (Bool))):Option ((List (List Int))):=bC.l0 k a1 (([]:List (List Int))) (l0_1.length:Int) 0
theorem bC.callsB (bd1_:Array Value) (k:Nat) (a0_0:Int) (A0_1:Option Addr) (c0_1:Nat) (l0_1:List Bool) (a1:(Int → Option (Bool))) (g1_:Nat) (lb1_:Array Value) (eg1_:∀ (args:Array Value) (w:World),(callFunc g1_ args).run Tryz.prog w = .ok (.enter g1_ args) w) (r:List (List Int)) (w:World) (hr0_1:Kd.C Kd.bool w A0_1 l0_1.length l0_1) (hc0_1:l0_1.length ≤ c0_1) (hp1:∀ (W:World) (b0_:Int) (r0_:Bool),a1 b0_ = some r0_ → Below w.heap.size w W → Calls Tryz.prog g1_ ((bd1_ ++ #[.int .i64 b0_]) ++ lb1_) W fun e w'=>e = .returned (.bool r0_) ∧ Below W.heap.size W w') (h:bC.f k a0_0 l0_1 a1 = some r) :
  Calls Tryz.prog 97 #[.agg #[.int .i64 a0_0,.slice A0_1 l0_1.length c0_1],.func (.func g1_) bd1_ lb1_] w fun e w'=>∃ v0_:Value,e = .returned (v0_) ∧ Kd.S (Kd.slice 3 (Kd.int .i64)) 23 w' w.heap.size (fun _=>True) v0_ r ∧ Below w.heap.size w w':=by
 have hu56:=Tryz.underlying56;have HR0_1:=aM hr0_1;have HC0_1:=aM hc0_1;clear hr0_1 hc0_1;have HP1:=aM hp1;clear hp1;have HB:=aM (Below.refl w.heap.size w);have H:(bC.l0 k a1 (([]:List (List Int))) (l0_1.length:Int) 0) = some r:=h;clear h;obtain ⟨y21,hy21⟩:∃ y_:List (List Int),y_ = (([]:List (List Int))):=⟨_,rfl⟩;replace H:(bC.l0 k a1 y21 (l0_1.length:Int) 0) = some r:=yR hy21 H;have Ny21:=aM hy21;clear hy21;have H':=aM H;clear H;go_enter Tryz.func97,Tryz.ntmps97;go_wp2_with (first|((with_reducible refine aC (N:=2) rfl ?_);refine bE 2 #[.int .i64 a0_0,.slice A0_1 l0_1.length c0_1] 56 ?_;intro gb20 hg w3 hbox hb;have BK20:=aM (hbox);have GW20:=aM (gS hg);have GE20:=aM (gS hg);replace HB:=aM (ag bw hb);clear hb hbox hg)|((with_reducible refine aC (N:=7) rfl ?_);refine Kd.S_lit (Kd.slice 3 (Kd.int .i64)) _ 23 ?hg (N:=7) ?hd (xs:=([]:List (List Int))) (inner:=[]) (ok:=fun _=>True) (okp:=fun _=>True) ?hr ?hp (fun _ hk=>hk) trivial (Below.refl _ _) (Nat.le_refl _) (by simp) ?_;(case hd=>rfl);(case hg=>rfl);(case hr=>first|(go_simp;done)|(go_simp;rfl));(case hp=>exact (eH.none _ _));intro v22 w4 ho5 hb hg_ hnew_;clear hg_ hnew_;(first|rw [← Ny21.out] at ho5|(simp only [Int.reduceToNat] at ho5;rw [← Ny21.out] at ho5));have HO24:=aM (Kd.gr ho5 (av bw));replace BK20:=aM (bB BK20.out hb);replace HB:=aM (ag bw hb);clear hb ho5;have hcz6_0:=cz BK20.out 0;have hcz6_1:=cz BK20.out 1;have hfz6_0:=af BK20.out 0;have hfz6_1:=af BK20.out 1))
 go_loopg [5,11] k (fun kq v5 v11 w'=>∃ (x5_1:List (List Int)) (x11_1:Int),v11 = .int .i64 x11_1 ∧ aj (bC.l0 kq a1 x5_1 (l0_1.length:Int) x11_1 = some r) ∧ aj (kq ≤ k) ∧ aj (Kd.S (Kd.slice 3 (Kd.int .i64)) 23 w' w.heap.size (fun _=>True) v5 x5_1) ∧ aj (w'.heap[gb20]? = some (.cells #[.int .i64 a0_0,(.slice A0_1 l0_1.length c0_1)] 56 (0,0))) ∧ aj (Below w.heap.size w w'))
 case atStart=>exact ⟨(y21),(0),qrs,H',⟨Nat.le_refl _⟩,⟨qsa HO24.out⟩,⟨bk1 BK20.out⟩,⟨by exact bw⟩⟩
 case round =>
  clear H';(try clear hcz6_0);(try clear hcz6_1);(try clear hfz6_0);(try clear hfz6_1)
  obtain ⟨x5_1,x11_1,rfl,HA,HK1,HO_5,BK20,HB⟩:=hrel
  cases gk with
  | zero=>exact absurd HA.out (by simp [bC.l0])
  | succ k1 =>
   have H:=HA.out;clear HA;simp only [bC.l0] at H;by_cases c7:x11_1 < (l0_1.length:Int)
   ·rw [if_pos c7] at H;have c7b0:=decide_eq_true c7;clear c7;replace H:=oB H;obtain ⟨t26,A8,H⟩:=H;(try dsimp only at H)
    by_cases c9:t26 = true
    ·subst c9;rw [if_pos rfl] at H;replace H:=oB H;obtain ⟨t27,A10,H⟩:=H;(try dsimp only at H)
     replace H:=iN H;obtain ⟨c11,H⟩:=H;have LMc11:=aM c11;clear c11;obtain ⟨y31,hy31⟩:∃ y_:List (List Int),y_ = (x5_1 ++ [t27]):=⟨_,rfl⟩;replace H:(bC.l0 k1 a1 y31 (l0_1.length:Int) (wrap64 (x11_1 + 1))) = some r:=yR hy31 H;have Ny31:=aM hy31;clear hy31;have H':=aM H;clear H;go_wp2_with (first|((with_reducible refine gu (t:=14) rfl ?_);refine nX (some 16) rfl rfl eg1_ #[.int .i64 x11_1] rfl rfl mq ?_;(with_reducible refine (HP1.out _ x11_1 true A8.out ?side1).mono ?_);(case side1=>exact bw);rintro e w12 ⟨rfl,hb⟩;refine ⟨_,rfl,?_⟩;replace HO_5:=aM (Kd.iz (qsa HO_5.out) hb);replace BK20:=aM (bB BK20.out hb);replace HB:=aM (ag bw hb);(try clear hb);(try clear hk))|((with_reducible refine ai (f:=108) rfl ?_);refine gL 19 Tryz.func108 #[.int .i64 x11_1] ?_;(with_reducible refine (dj.calls k1 x11_1 t27 _ A10.out).mono ?_);rintro e w13 ⟨v29,rfl,ho0,hb⟩;refine ⟨_,rfl,?_⟩;replace HO_5:=aM (Kd.jj (qsa HO_5.out) (Kd.da ho0) hb);have HO30:=aM (Kd.cr ho0 (av bw));replace BK20:=aM (bB BK20.out hb);replace HB:=aM (ag bw hb);(try clear hb);(try clear ho0);obtain ⟨Ao15,co15,eo15⟩:=Kd.b5 HO30.out;subst eo15)|((with_reducible refine dr (b:=.append) (xs:=#[.tmp 17,.tmp 20]) rfl ?_);at_builtin;refine Kd.mB (Kd.slice 3 (Kd.int .i64)) (w0:=w) w.heap.size rfl (.tmp 17) (.tmp 20) 28 23 (.slice none 0 0) 24 rfl Tryz.underlying28 ik rfl (by decide) (by omega) u5 x5_1 t27 [.slice Ao15 t27.length co15] (fun _=>True) (fun k_=>some k_ = (.slice Ao15 t27.length co15:Value).ownBlock) rfl rfl ?aP (fun k_ hk_=>((Kd.cG (ok':=fun k_=>((fun _=>True)) k_ ∧ some k_ ≠ (u5:Value).ownBlock) (Kd.eU (HO30.out) (Kd.iX HO_5.out) (by decide)) (fun k_ hk=>⟨trivial,hk.2⟩))).1 k_ hk_.symm) ?aF ?aO ?aB ?aS ?aL ?_;(case aP=>exact Kd.M_row (Kd.cG (Kd.kY rfl (Kd.cG (ok':=fun k_=>((fun _=>True)) k_ ∧ some k_ ≠ (u5:Value).ownBlock) (Kd.eU (HO30.out) (Kd.iX HO_5.out) (by decide)) (fun k_ hk=>⟨trivial,hk.2⟩))) (fun _ h_=>h_)));(case aB=>exact bw);(case aF=>exact (fun _ _=>trivial));(case aO=>exact (by (with_reducible repeat (first|apply Kd.ez|apply Kd.eh|apply Kd.fb));exact Kd.eT HO_5.out (fun k_ hk=>⟨trivial,fun e_=>hk.2 e_⟩)));(case aS=>exact (av bw));(case aL=>have:=LMc11.out;omega);intro v32 w14 ho hb hg hat;rw [← Ny31.out] at ho;replace BK20:=aM (bH BK20.out hg (Kd.S_ne HO_5.out BK20.out (by decide)));replace HB:=aM (hb);have HO33:=aM (ho);clear HO_5;clear HO30;clear ho hb hg hat))
     go_roundg k1
     case measure=>have:=HK1.out;omega
     case rel=>exact ⟨(y31),(wrap64 (x11_1 + 1)),qrs,H',⟨by have:=HK1.out;omega⟩,⟨qsa HO33.out⟩,⟨bk1 BK20.out⟩,⟨by exact bw⟩⟩
    ·replace c9:=Bool.eq_false_iff.mpr c9;subst c9;rw [if_neg (show ¬ (false = true) by decide)] at H;have H':=aM H;clear H;go_wp2_with (first|((with_reducible refine gu (t:=14) rfl ?_);refine nX (some 16) rfl rfl eg1_ #[.int .i64 x11_1] rfl rfl mq ?_;(with_reducible refine (HP1.out _ x11_1 false A8.out ?side1).mono ?_);(case side1=>exact bw);rintro e w16 ⟨rfl,hb⟩;refine ⟨_,rfl,?_⟩;replace HO_5:=aM (Kd.iz (qsa HO_5.out) hb);replace BK20:=aM (bB BK20.out hb);replace HB:=aM (ag bw hb);(try clear hb);(try clear hk)))
     go_roundg k1
     case measure=>have:=HK1.out;omega
     case rel=>exact ⟨(x5_1),(wrap64 (x11_1 + 1)),qrs,H',⟨by have:=HK1.out;omega⟩,⟨qsa HO_5.out⟩,⟨bk1 BK20.out⟩,⟨by exact bw⟩⟩
   ·rw [if_neg c7] at H;have c7b0:=decide_eq_false c7;clear c7;replace H:=oB H;obtain ⟨t25,A17,H⟩:=H;(try dsimp only at H)
    obtain rfl:=Option.some.inj H;obtain ⟨Ao18,co18,eo18⟩:=Kd.fH HO_5.out;subst eo18;go_wp2_with (first|((with_reducible refine ai (f:=109) rfl ?_);refine gL 24 Tryz.func109 #[.slice Ao18 x5_1.length co18,.func (.func 57) #[] #[]] ?_;(with_reducible refine (aY.calls k1 (fun k_=>(True ∧ k_ ≠ gb20)) (.slice Ao18 x5_1.length co18) x5_1 (fun y0_ y1_=>aN.f k1 y0_ y1_) 57 #[] aN.enters t25 w _ ?side1 ?side2 ?side3 A17.out).mono ?_);(case side1=>exact bw);(case side2=>exact (Kd.fL HO_5.out BK20.out (by decide)));(case side3=>exact (fun W_ A0_ c0_ l0_ A1_ c1_ l1_ r0_ hx_ hb_ hr0_ hc0_ hr1_ hc1_=>(aN.calls k1 A0_ c0_ l0_ A1_ c1_ l1_  r0_ W_ hr0_ hc0_ hr1_ hc1_  hx_).mono (fun _ _ h_=>⟨h_.1,h_.2⟩)));rintro e w19 ⟨rfl,hy0,hb,hkp⟩;refine ⟨_,rfl,?_⟩;replace HO_5:=aM (Kd.eT (ok':=fun k_=>k_ ≠ gb20) hy0 (fun k_ hk_=>hk_.2));replace BK20:=aM (blk_kept (bk1 BK20.out) hkp (fun hs_=>(fun hp_=>(hp_.2) rfl) hs_));replace HB:=aM (hb);(try clear hb);(try clear hkp);(try clear hy0)))
    go_ret
    exact ⟨_,eE,by (with_reducible repeat (first|apply Kd.ez|apply Kd.eh|apply Kd.fb));exact Kd.eT HO_5.out (fun _ hk=>trivial),by exact bw⟩
theorem bC.calls (k:Nat) (a0_0:Int) (A0_1:Option Addr) (c0_1:Nat) (l0_1:List Bool) (a1:(Int → Option (Bool))) (g1_:Nat) (lb1_:Array Value) (eg1_:∀ (args:Array Value) (w:World),(callFunc g1_ args).run Tryz.prog w = .ok (.enter g1_ args) w) (r:List (List Int)) (w:World) (hr0_1:Kd.C Kd.bool w A0_1 l0_1.length l0_1) (hc0_1:l0_1.length ≤ c0_1) (hp1:∀ (W:World) (b0_:Int) (r0_:Bool),a1 b0_ = some r0_ → Below w.heap.size w W → Calls Tryz.prog g1_ (#[.int .i64 b0_] ++ lb1_) W fun e w'=>e = .returned (.bool r0_) ∧ Below W.heap.size W w') (h:bC.f k a0_0 l0_1 a1 = some r) :
  Calls Tryz.prog 97 #[.agg #[.int .i64 a0_0,.slice A0_1 l0_1.length c0_1],.func (.func g1_) #[] lb1_] w fun e w'=>∃ v0_:Value,e = .returned (v0_) ∧ Kd.S (Kd.slice 3 (Kd.int .i64)) 23 w' w.heap.size (fun _=>True) v0_ r ∧ Below w.heap.size w w' :=
 bC.callsB #[] k a0_0 A0_1 c0_1 l0_1 a1 g1_ lb1_ eg1_ r w hr0_1 hc0_1 (fun W b0_ r0_ h1 h2=>by simpa using hp1 W b0_ r0_ h1 h2) h


-- IMPORT P_impl_votes_sets
-- IMPORT P_impl_votes_isLeast
def dn.f (k : Nat) (a0_0 : Int) (l0_1 : List Bool) : Option (List (List Int)) := bC.f k a0_0 l0_1 (fun y0_ => bm.f k a0_0 l0_1 y0_)
theorem dn.en : ∀ (args : Array Value) (w : World), (callFunc 98 args).run Tryz.prog w = .ok (.enter 98 args) w := enters_of Tryz.func98 (by kernel_rfl) rfl
theorem dn.calls (k : Nat) (a0_0 : Int) (A0_1 : Option Addr) (c0_1 : Nat) (l0_1 : List Bool) (r : List (List Int)) (w : World) (hr0_1 : Kd.C Kd.bool w A0_1 l0_1.length l0_1) (hc0_1 : l0_1.length ≤ c0_1) (h : dn.f k a0_0 l0_1 = some r) :
    Calls Tryz.prog 74 #[.agg #[.int .i64 a0_0, .slice A0_1 l0_1.length c0_1]] w fun e w' => ∃ v0_ : Value, e = .returned (v0_) ∧ Kd.S (Kd.slice 3 (Kd.int .i64)) 23 w' w.heap.size (fun _ => True) v0_ r ∧ Below w.heap.size w w' := by
  have hu68 := Tryz.underlying56
  have HR0_1 := aj.mk hr0_1
  have HC0_1 := aj.mk hc0_1
  clear hr0_1 hc0_1
  have HB := aj.mk (Below.refl w.heap.size w)
  have H' := aj.mk (show bC.f k a0_0 l0_1 (fun y0_ => bm.f k a0_0 l0_1 y0_) = some r from h)
  clear h
  go_enter Tryz.func74, Tryz.ntmps74
  go_wp2_with (first | ((with_reducible refine aC (N := 1) rfl ?_); refine lB ?hg (N := 1) ?hd (cs := #[.int .i64 a0_0, .slice A0_1 l0_1.length c0_1]) (t := 56) ?hr ?_; (case hd => rfl); (case hg => rfl); (case hr => first | (go_simp; done) | (go_simp; rfl)); intro gb591 hg w3 hbox hb; have n0_ := aj.mk (ag (by repeat (first | (with_reducible first | exact HB.out | apply cg | apply bN | apply bg) | exact HB.out)) hb); have n1_ := aj.mk (hbox); clear HB; have HB := n0_; have BK591 := n1_; clear n0_ n1_; clear hb hbox hg; have hcz6_0 : w3.cell? ⟨gb591, 0, none⟩ = some (.int .i64 a0_0) := (aE BK591.out 0).trans rfl; have hcz6_1 : w3.cell? ⟨gb591, 1, none⟩ = some (.slice A0_1 l0_1.length c0_1) := (aE BK591.out 1).trans rfl; have hfz6_0 := af BK591.out 0; have hfz6_1 := af BK591.out 1) | ((with_reducible refine ai (f := 97) rfl ?_); refine goesL_ (some 6) rfl rfl Tryz.func97 (by kernel_rfl) rfl #[.agg #[.int .i64 a0_0, .slice A0_1 l0_1.length c0_1], .func (.func 98) #[.agg #[.int .i64 a0_0, .slice A0_1 l0_1.length c0_1]] #[]] rfl (by (try simp only [List.map_toArray, List.map_cons, List.map_nil]); first | done | rfl | (simp only [List.length_drop, List.length_take]; rfl)) ?_; (with_reducible refine (bC.callsB #[.agg #[.int .i64 a0_0, .slice A0_1 l0_1.length c0_1]] k a0_0 _ _ l0_1 (fun y0_ => bm.f k a0_0 l0_1 y0_) 98 #[] dn.en r _ ?side1 ?side2 ?side3 H'.out).mono ?_); (case side1 => repeat (first | exact (Kd.cA HR0_1.out HB.out) | (with_reducible refine Kd.eI ?_ _) | (with_reducible refine Kd.eJ ?_ _) | (with_reducible refine Kd.fB ?_))); (case side2 => exact HC0_1.out); (case side3 => exact (fun W_ b0_ r0_ hx_ hb_ => (bm.calls k a0_0 A0_1 c0_1 l0_1 b0_ r0_ W_ (Kd.cA HR0_1.out (ag (by repeat (first | (with_reducible first | exact HB.out | apply cg | apply bN | apply bg) | exact HB.out)) hb_)) HC0_1.out hx_))); rintro e w6 ⟨v6, rfl, hy6, hb⟩; refine ⟨_, rfl, ?_⟩; have n0_ := aj.mk (Kd.gr hy6 (av (by repeat (first | (with_reducible first | exact HB.out | apply cg | apply bN | apply bg) | exact HB.out)))); have n1_ := aj.mk (ag (by repeat (first | (with_reducible first | exact HB.out | apply cg | apply bN | apply bg) | exact HB.out)) hb); clear HB; have HO6 := n0_; have HB := n1_; clear n0_ n1_; clear hb hy6))
  go_ret
  exact ⟨_, by first | rfl | (simp [cV, cX] <;> rfl) | (simp [*, cV, cX] <;> rfl), by (with_reducible repeat (first | apply Kd.ez | apply Kd.eh | apply Kd.fb)); exact Kd.eT HO6.out (fun _ hk => trivial), by repeat (first | (with_reducible first | exact HB.out | apply cg | apply bN | apply bg) | exact HB.out)⟩


def cb.f (k:Nat) (a0_0:Int) (l0_1:List Bool):Option (Int × (List (List Int))):=(dn.f k a0_0 l0_1).bind fun t2=>(some (a0_0,t2))
theorem cb.calls (k:Nat) (a0_0:Int) (A0_1:Option Addr) (c0_1:Nat) (l0_1:List Bool) (r1:Int) (r2:List (List Int)) (w:World) (hr0_1:Kd.C Kd.bool w A0_1 l0_1.length l0_1) (hc0_1:l0_1.length ≤ c0_1) (h:cb.f k a0_0 l0_1 = some (r1,r2)) :
  Calls Tryz.prog 35 #[.agg #[.int .i64 a0_0,.slice A0_1 l0_1.length c0_1]] w fun e w'=>∃ v1_:Value,e = .returned (.agg #[.int .i64 r1,v1_]) ∧ Kd.S (Kd.slice 3 (Kd.int .i64)) 23 w' w.heap.size (fun _=>True) v1_ r2 ∧ Below w.heap.size w w':=by
 have hu56:=Tryz.underlying56;have hu30:=Tryz.underlying30;have HR0_1:=aM hr0_1;have HC0_1:=aM hc0_1;clear hr0_1 hc0_1;have HB:=aM (Below.refl w.heap.size w);have H:((dn.f k a0_0 l0_1).bind fun t12=>(some (a0_0,t12))) = some (r1,r2):=h;clear h;replace H:=oB H;obtain ⟨t12,A2,H⟩:=H;(try dsimp only at H)
 simp only [Option.some.injEq,Prod.mk.injEq] at H;obtain ⟨rfl,rfl⟩:=H;go_enter Tryz.func35,Tryz.ntmps35
 try go_wp2_with (first|((with_reducible refine aC (N:=1) rfl ?_);refine bE 1 #[.int .i64 a0_0,.slice A0_1 l0_1.length c0_1] 56 ?_;intro gb10 hg w3 hbox hb;have BK10:=aM (hbox);have GW10:=aM (gS hg);have GE10:=aM (gS hg);replace HB:=aM (ag bw hb);clear hb hbox hg)|((with_reducible refine aC (N:=2) rfl ?_);refine bE 2 #[.int .i64 0,.slice none 0 0] 30 ?_;intro gb11 hg w4 hbox hb;have BK11:=aM (hbox);have GW11:=aM (gS hg);have GE11:=aM (gS hg);replace HB:=aM (ag bw hb);have NB10_11:=aM (nL BK10.out hg);have NB11_10:=aM (nR BK10.out hg);replace BK10:=aM (bB BK10.out hb);clear hb hbox hg))
 replace BK10:=aM (an BK10.out);replace BK11:=aM (an BK11.out);replace HB:=aM (bg HB.out);refine eQ (n:=6) (S:=fun w'=>w'.cell? ⟨gb10,0,none⟩ = some (.int .i64 a0_0) ∧ w'.cell? ⟨gb10,1,none⟩ = some (.slice A0_1 l0_1.length c0_1)) (ds:=[]) (mA 6 0) kR rfl rfl ⟨(aE BK10.out 0).trans rfl,(aE BK10.out 1).trans rfl⟩ (fun hHeld=>?_);generalize w4.drew = w5 at BK10 BK11 HB hHeld ⊢
 refine fy (i:=0) (N:=some 3) (v:=?_) (a':=?_) (mA 6 1) rfl rfl kR (fun _ _ _ h=>h) (Or.inl ⟨by rfl,?_⟩) ?_ ?_;rotate_left
 ·intro w';go_simp
  with_reducible rfl
 rotate_left
 ·simp only [Act.put,sA,sZ,sS,cS,dH];rfl
 refine iO (i:=1) (N:=some 4) (v:=?_) (a':=?_) (mA 6 3) rfl rfl kR (fun _ _ _ h=>h) (Or.inl ⟨by rfl,?_⟩) hHeld ?_ ?_;rotate_left
 ·rintro w' ⟨s0,s1⟩
  go_simp
  with_reducible rfl
 rotate_left
 ·simp only [Act.put,sA,sZ,sS,cS,dH];rfl
 refine iO (i:=2) (N:=some 5) (v:=?_) (a':=?_) (mA 6 7) rfl rfl kR (fun _ _ _ h=>h) (Or.inl ⟨by rfl,?_⟩) hHeld ?_ ?_;rotate_left
 ·rintro w' ⟨s0,s1⟩
  go_simp
  with_reducible rfl
 rotate_left
 ·simp only [Act.put,sA,sZ,sS,cS,dH];rfl
 refine mf (i:=3) (N:=some 6) (mA 6 15) rfl rfl kR (by decide) (fun K hK=>?_);refine gC Tryz.func74 #[.agg #[.int .i64 a0_0,.slice A0_1 l0_1.length c0_1]] ?_
 with_reducible refine (dn.calls k a0_0 _ _ l0_1 t12 _ ?side1 ?side2 A2.out).mono ?_
 (case side1=>exact qcs HR0_1.out HB.out)
 (case side2=>exact HC0_1.out)
 rintro e w6 ⟨v13,rfl,ho0,hb⟩
 refine ⟨_,rfl,?_⟩;have HO14:=aM (Kd.gr ho0 (av bw));replace BK10:=aM (bB BK10.out hb);replace BK11:=aM (bB BK11.out hb);replace HB:=aM (ag bw hb);(try clear hb)
 (try clear ho0)
 obtain ⟨Ao7,co7,eo7⟩:=Kd.fH HO14.out;(first|subst eo7|(injection eo7 with f1_ f2_ f3_;have f4_:=f1_.symm;have f5_:=f3_.symm;clear f1_ f2_ f3_;subst f4_;subst f5_))
 refine hK.out _ _ ⟨(aE BK10.out 0).trans rfl,(aE BK10.out 1).trans rfl⟩ (fun hHeld=>?_);clear hK K;refine nM 6 ?_;refine fy (i:=4) (N:=some 7) (v:=?_) (a':=?_) (mA 6 31) rfl rfl kR (fun _ _ _ h=>h) (Or.inl ⟨by rfl,?_⟩) ?_ ?_;rotate_left
 ·intro w';go_simp
  with_reducible rfl
 rotate_left
 ·simp only [Act.put,sA,sZ,sS,cS,dH];rfl
 refine mf (i:=5) (N:=none) (mA 6 63) rfl rfl kR (by decide) (fun K hK=>?_);have hs8:w6.cell? ⟨gb11,0,none⟩ = some (.int .i64 0):=(aE BK11.out 0).trans rfl;have hfs8:=af BK11.out 0;have hns8_0:=NB10_11.out;have hms8_0:=NB11_10.out;have hs9:w6.cell? ⟨gb11,1,none⟩ = some (.slice none 0 0):=(aE BK11.out 1).trans rfl;have hfs9:=af BK11.out 1;have hns9_0:=NB10_11.out;have hms9_0:=NB11_10.out;refine ma (w1:=?_) (by rfl) rfl ?_ ?_;rotate_left
 ·go_simp
  rfl
 refine hK.out _ _ ⟨((cell_far (p:=⟨gb11,_,none⟩) NB10_11.out _).trans (((cell_far (p:=⟨gb11,_,none⟩) NB10_11.out _).trans (hHeld.1)))),((cell_far (p:=⟨gb11,_,none⟩) NB10_11.out _).trans (((cell_far (p:=⟨gb11,_,none⟩) NB10_11.out _).trans (hHeld.2))))⟩ (fun hHeld=>?_);clear hK K;refine fK kR ?_
 try go_wp2
 refine bodyPost_ret (results_cell_row rfl _ _ gb11 30 #[.int .i64 a0_0,.slice Ao7 t12.length co7] (0,0) _ rfl (by (with_reducible repeat (first|refine ax ?_ _|refine an ?_|refine au ?_ _));refine bI (cs:=#[.int .i64 a0_0,.slice none 0 0]) ?_ 1 _ rfl;(with_reducible repeat (first|refine ax ?_ _|refine an ?_|refine au ?_ _));refine bI (cs:=#[.int .i64 0,.slice none 0 0]) ?_ 0 _ rfl;(with_reducible repeat (first|refine ax ?_ _|refine an ?_|refine au ?_ _));exact BK11.out) Tryz.underlying30 rfl kR) rfl ?_;exact ⟨_,eE,by (with_reducible repeat (first|apply Kd.ez|apply Kd.eh|apply Kd.fb));exact Kd.eT (Kd.gh (p:=⟨gb11,1,none⟩) (Kd.gh (p:=⟨gb11,0,none⟩) (Kd.fL HO14.out BK11.out (by decide)) (fun _ hk=>hk.2) (.int .i64 a0_0)) (fun _ hk=>hk.2) (.slice Ao7 t12.length co7)) (fun _ hk=>trivial),by exact bw⟩


def dd.f (k:Nat) (l0:List (aa)):Option (Int × (List (List Int)) × Bool):=(aQ.f k l0).bind fun t1=>(if t1 = true then ((aJ.f k l0 false).bind fun bt2=>((cb.f k bt2.1 bt2.2).bind fun bt3=>(some (bt3.1,bt3.2,true)))) else (some (0,([]:List (List Int)),false)))
theorem dd.calls (k:Nat) (A0:Option Addr) (c0:Nat) (l0:List (aa)) (r1:Int) (r2:List (List Int)) (r3:Bool) (w:World) (hr0:Kd.C ak w A0 l0.length l0) (hc0:l0.length ≤ c0) (h:dd.f k l0 = some (r1,r2,r3)) :
  Calls Tryz.prog 8 #[.slice A0 l0.length c0] w fun e w'=>∃ v1_:Value,e = .returned (.tuple #[.agg #[.int .i64 r1,v1_],.bool r3]) ∧ Kd.S (Kd.slice 3 (Kd.int .i64)) 23 w' w.heap.size (fun _=>True) v1_ r2 ∧ Below w.heap.size w w':=by
 have hu30:=Tryz.underlying30;have HR0:=aM hr0;have HC0:=aM hc0;clear hr0 hc0;have HB:=aM (Below.refl w.heap.size w);have H:((aQ.f k l0).bind fun t17=>(if t17 = true then ((aJ.f k l0 false).bind fun bt19=>((cb.f k bt19.1 bt19.2).bind fun bt23=>(some (bt23.1,bt23.2,true)))) else (some (0,([]:List (List Int)),false)))) = some (r1,r2,r3):=h;clear h;replace H:=oB H;obtain ⟨t17,A2,H⟩:=H;(try dsimp only at H)
 by_cases c3:t17 = true
 ·subst c3;rw [if_pos rfl] at H;replace H:=oB H;obtain ⟨⟨t19,t20⟩,A4,H⟩:=H;(try dsimp only at H)
  replace H:=oB H;obtain ⟨⟨t23,t24⟩,A5,H⟩:=H;(try dsimp only at H)
  simp only [Option.some.injEq,Prod.mk.injEq] at H;obtain ⟨rfl,rfl,rfl⟩:=H;go_enter Tryz.func8,Tryz.ntmps8;go_wp2_with (first|((with_reducible refine aC (N:=2) rfl ?_);refine bE 2 #[.int .i64 0,.slice none 0 0] 30 ?_;intro gb16 hg w6 hbox hb;have BK16:=aM (hbox);have GW16:=aM (gS hg);have GE16:=aM (gS hg);replace HB:=aM (ag bw hb);clear hb hbox hg)|((with_reducible refine ai (f:=18) rfl ?_);refine gL 5 Tryz.func18 #[.slice A0 l0.length c0] ?_;(with_reducible refine (aQ.calls k _ _ l0 true _ ?side1 ?side2 A2.out).mono ?_);(case side1=>exact qcs HR0.out HB.out);(case side2=>exact HC0.out);rintro e w7 ⟨rfl,hb⟩;refine ⟨_,rfl,?_⟩;replace BK16:=aM (bB BK16.out hb);replace HB:=aM (ag bw hb);(try clear hb))|((with_reducible refine ai (f:=34) rfl ?_);refine gL 9 Tryz.func34 #[.slice A0 l0.length c0,.bool false] ?_;(with_reducible refine (aJ.calls k _ _ l0 false t19 t20 _ ?side1 ?side2 A4.out).mono ?_);(case side1=>exact qcs HR0.out HB.out);(case side2=>exact HC0.out);rintro e w8 ⟨v21,rfl,ho0,hb⟩;refine ⟨_,rfl,?_⟩;have HO22:=aM (Kd.cr ho0 (av bw));replace BK16:=aM (bB BK16.out hb);replace HB:=aM (ag bw hb);(try clear hb);(try clear ho0);obtain ⟨Ao9,co9,eo9⟩:=Kd.b5 HO22.out;subst eo9)|((with_reducible refine ai (f:=35) rfl ?_);refine gL 10 Tryz.func35 #[.agg #[.int .i64 t19,.slice Ao9 t20.length co9]] ?_;(with_reducible refine (cb.calls k t19 _ _ t20 t23 t24 _ ?side1 ?side2 A5.out).mono ?_);(case side1=>exact qc (Kd.aI HO22.out).2.2);(case side2=>exact (Kd.aI HO22.out).2.1);rintro e w10 ⟨v25,rfl,ho0,hb⟩;refine ⟨_,rfl,?_⟩;replace HO22:=aM (Kd.ba (qra HO22.out) hb);have HO26:=aM (Kd.gr ho0 (av bw));replace BK16:=aM (bB BK16.out hb);replace HB:=aM (ag bw hb);(try clear hb);(try clear ho0);have hcz11_0:=cz BK16.out 0;have hcz11_1:=cz BK16.out 1;have hfz11_0:=af BK16.out 0;have hfz11_1:=af BK16.out 1;obtain ⟨Ao12,co12,eo12⟩:=Kd.fH HO26.out;subst eo12))
  refine bodyPost_ret (dV rfl _ _ gb16 30 #[.int .i64 t23,.slice Ao12 t24.length co12] (0,0) _ rfl (by (with_reducible repeat (first|refine ax ?_ _|refine an ?_|refine au ?_ _));refine bI (cs:=#[.int .i64 t23,.slice none 0 0]) ?_ 1 _ rfl;(with_reducible repeat (first|refine ax ?_ _|refine an ?_|refine au ?_ _));refine bI (cs:=#[.int .i64 0,.slice none 0 0]) ?_ 0 _ rfl;(with_reducible repeat (first|refine ax ?_ _|refine an ?_|refine au ?_ _));exact BK16.out) Tryz.underlying30 rfl kR) rfl ?_;exact ⟨_,eE,by (with_reducible repeat (first|apply Kd.ez|apply Kd.eh|apply Kd.fb));exact Kd.eT (Kd.gh (p:=⟨gb16,1,none⟩) (Kd.gh (p:=⟨gb16,0,none⟩) (Kd.fL HO26.out BK16.out (by decide)) (fun _ hk=>hk.2) (.int .i64 t23)) (fun _ hk=>hk.2) (.slice Ao12 t24.length co12)) (fun _ hk=>trivial),by exact bw⟩
 ·replace c3:=Bool.eq_false_iff.mpr c3;subst c3;rw [if_neg (show ¬ (false = true) by decide)] at H;simp only [Option.some.injEq,Prod.mk.injEq] at H;obtain ⟨rfl,rfl,rfl⟩:=H;go_enter Tryz.func8,Tryz.ntmps8;go_wp2_with (first|((with_reducible refine aC (N:=2) rfl ?_);refine bE 2 #[.int .i64 0,.slice none 0 0] 30 ?_;intro gb16 hg w13 hbox hb;have BK16:=aM (hbox);have GW16:=aM (gS hg);have GE16:=aM (gS hg);replace HB:=aM (ag bw hb);clear hb hbox hg)|((with_reducible refine ai (f:=18) rfl ?_);refine gL 5 Tryz.func18 #[.slice A0 l0.length c0] ?_;(with_reducible refine (aQ.calls k _ _ l0 false _ ?side1 ?side2 A2.out).mono ?_);(case side1=>exact qcs HR0.out HB.out);(case side2=>exact HC0.out);rintro e w14 ⟨rfl,hb⟩;refine ⟨_,rfl,?_⟩;replace BK16:=aM (bB BK16.out hb);replace HB:=aM (ag bw hb);(try clear hb);(try clear hk);have hcz15_0:=cz BK16.out 0;have hcz15_1:=cz BK16.out 1;have hfz15_0:=af BK16.out 0;have hfz15_1:=af BK16.out 1))
  refine bodyPost_ret (dV rfl _ _ gb16 30 #[.int .i64 0,.slice none 0 0] (0,0) _ rfl (by (with_reducible repeat (first|refine ax ?_ _|refine an ?_|refine au ?_ _));refine bI (cs:=#[.int .i64 0,.slice none 0 0]) ?_ 1 _ rfl;(with_reducible repeat (first|refine ax ?_ _|refine an ?_|refine au ?_ _));refine bI (cs:=#[.int .i64 0,.slice none 0 0]) ?_ 0 _ rfl;(with_reducible repeat (first|refine ax ?_ _|refine an ?_|refine au ?_ _));exact BK16.out) Tryz.underlying30 rfl kR) rfl ?_;exact ⟨_,eE,by first|exact Kd.gW _ _ _ _ _|exact Kd.gQ _ _ _ _ _|exact Kd.gP _ _ _ _ _|exact Kd.gU _ _ _ _ _|exact Kd.gx _ _ _ _ _,by exact bw⟩


-- LEND 0 0
-- IMPORT B
-- IMPORT InsSort
-- IMPORT P_spec_voBefore
theorem az.at_ {α:Type} [Inhabited α] {enc:α → Value} {h1:∀ x,(enc x).oneCell' = true} {w:World} {A:Option Addr} {n:Nat} {xs:List α} (h:Kd.C (Kd.scalar enc h1) w A n xs) (i:Int) (h0:0 ≤ i) (hi:i < n):∃ ad,A = some ad ∧ w.cell? (ad.add i.toNat) = some (enc (dE default xs i)) :=
 fu.at_ (Kd.ju (enc:=enc) (d:=(default:α)) (h1:=h1) h) i h0 hi
mutual
def az.g0 {α:Type} [Inhabited α] (bf:α → α → Option Bool):Nat → List α → List α → Int → Int → Option (List α)
 | 0,_,_,_,_=>none
 | k + 1,x3,x8,x9,x10=>if x10 < x9 then (if 0 ≤ x10 then (if x10 < (x8.length:Int) then (az.g1 bf k x3 (dE default x8 x10) 0 x8 x9 x10) else (none)) else (none)) else (some x3)
def az.g1 {α:Type} [Inhabited α] (bf:α → α → Option Bool):Nat → List α → α → Int → List α → Int → Int → Option (List α)
 | 0,_,_,_,_,_,_=>none
 | k + 1,x3,x5,x6,x8,x9,x10=>if x6 < (x3.length:Int) then (if 0 ≤ x6 then ((bf (dE default x3 x6) x5).bind fun t745=>(if t745 = true then (az.g1 bf k x3 x5 (wrap64 (x6 + 1)) x8 x9 x10) else ((some (([]:List α):List α)).bind fun y746=>(if x6 ≤ (x3.length:Int) then ((some (x3.take (x6:Int).toNat:List α)).bind fun y749=>(if y746.length + y749.length < 5864062014805 then ((some (y746 ++ y749:List α)).bind fun y753=>(if y753.length < 5864062014805 then ((some (y753 ++ [x5]:List α)).bind fun y756=>((some (x3.drop (x6:Int).toNat:List α)).bind fun y759=>(if y756.length + y759.length < 5864062014805 then (az.g0 bf k (y756 ++ y759) x8 x9 (wrap64 (x10 + 1))) else (none)))) else (none))) else (none))) else (none))))) else (none)) else ((some (([]:List α):List α)).bind fun y766=>(if 0 ≤ x6 then (if x6 ≤ (x3.length:Int) then ((some (x3.take (x6:Int).toNat:List α)).bind fun y769=>(if y766.length + y769.length < 5864062014805 then ((some (y766 ++ y769:List α)).bind fun y773=>(if y773.length < 5864062014805 then ((some (y773 ++ [x5]:List α)).bind fun y776=>((some (x3.drop (x6:Int).toNat:List α)).bind fun y779=>(if y776.length + y779.length < 5864062014805 then (az.g0 bf k (y776 ++ y779) x8 x9 (wrap64 (x10 + 1))) else (none)))) else (none))) else (none))) else (none)) else (none)))
end
def az.gf {α:Type} [Inhabited α] (bf:α → α → Option Bool) (k:Nat) (l0:List α):Option (List α):=az.g0 bf k ([]:List α) l0 (l0.length:Int) 0
theorem az.callsG {α:Type} [Inhabited α] (sA:α → Option Addr) (sn sc:α → Nat) (bf:α → α → Option Bool) (k:Nat) (A0:Option Addr) (c0:Nat) (l0:List α) (r:List α) (w:World)
  (hbf:∀ (W:World) (x y:α) (b:Bool),bf x y = some b → Below w.heap.size w W → Calls Tryz.prog 110 #[.slice (sA x) (sn x) (sc x),.slice (sA y) (sn y) (sc y)] W fun e w'=>e = .returned (.bool b) ∧ bi W w') (hr0:Kd.C (Kd.scalar (fun x_:α=>Value.slice (sA x_) (sn x_) (sc x_)) (fun _=>rfl)) w A0 l0.length l0) (hc0:l0.length ≤ c0) (h:az.gf bf k l0 = some r) :
  Calls Tryz.prog 99 #[.slice A0 l0.length c0] w fun e w'=>∃ v0_:Value,e = .returned (v0_) ∧ Kd.R (Kd.scalar (fun x_:α=>Value.slice (sA x_) (sn x_) (sc x_)) (fun _=>rfl)) 23 w' w.heap.size (fun _=>True) v0_ r ∧ Below w.heap.size w w':=by
 have HR0:=aM hr0;have HC0:=aM hc0;have HBF:=aM hbf;clear hbf;clear hr0 hc0;have HB:=aM (Below.refl w.heap.size w);have H:(az.g0 bf k ([]:List α) l0 (l0.length:Int) 0) = some r:=h;clear h;have H':=aM H;clear H;go_enter Tryz.func99,Tryz.ntmps99;go_wp2
 go_loopg [3,10] k (fun kq v3 v10 w'=>∃ (x3_1:List α) (x10_1:Int),v10 = .int .i64 x10_1 ∧ aj (az.g0 bf kq x3_1 l0 (l0.length:Int) x10_1 = some r) ∧ aj (kq ≤ k) ∧ aj (Kd.R (Kd.scalar (fun x_:α=>Value.slice (sA x_) (sn x_) (sc x_)) (fun _=>rfl)) 23 w' w.heap.size (fun _=>True) v3 x3_1) ∧ aj (Below w.heap.size w w'))
 case atStart=>exact ⟨(([]:List α)),(0),qrs,H',⟨Nat.le_refl _⟩,⟨by first|exact Kd.gx _ _ _ _ _|exact Kd.gQ _ _ _ _ _|exact Kd.gP _ _ _ _ _|exact Kd.gU _ _ _ _ _|exact Kd.gW _ _ _ _ _⟩,⟨by exact bw⟩⟩
 case round =>
  clear H'
  try clear c1
  obtain ⟨x3_1,x10_1,rfl,HA,HK1,HO_3,HB⟩:=hrel
  cases gk with
  | zero=>exact absurd HA.out (by simp [az.g0])
  | succ k1 =>
   have H:=HA.out;clear HA;simp only [az.g0] at H;by_cases c2:x10_1 < (l0.length:Int)
   ·rw [if_pos c2] at H;have c2b0:decide (x10_1 < (l0.length:Int)) = true:=decide_eq_true c2;clear c2;by_cases c3:0 ≤ x10_1
    ·rw [if_pos c3] at H;have c3b0:decide (0 ≤ x10_1) = true:=decide_eq_true c3;clear c3;by_cases c4:x10_1 < (l0.length:Int)
     ·rw [if_pos c4] at H;have c4b0:decide (x10_1 < (l0.length:Int)) = true:=decide_eq_true c4;clear c4;have H':=aM H;clear H;have p743:0 ≤ (x10_1:Int):=of_decide_eq_true ab;have q743:x10_1 < (l0.length:Int):=of_decide_eq_true ab;obtain ⟨ad743,e743,hx743_0⟩:=az.at_ HR0.out x10_1 p743 q743;cases e743
      replace hx743_0:=(HB.out.cell (World.block_lt_of_cell? w _ hx743_0)).trans hx743_0;replace p743:=eq_true p743;replace q743:=eq_true q743;go_wp2
      go_loopg [6] k1 (fun kq v6 w'=>∃ (x6_2:Int),v6 = .int .i64 x6_2 ∧ aj (az.g1 bf kq x3_1 (dE default l0 x10_1) x6_2 l0 (l0.length:Int) x10_1 = some r) ∧ aj (kq ≤ k1) ∧ aj (Kd.R (Kd.scalar (fun x_:α=>Value.slice (sA x_) (sn x_) (sc x_)) (fun _=>rfl)) 23 w' w.heap.size (fun _=>True) u3 x3_1) ∧ aj (Below w.heap.size w w'))
      case atStart=>exact ⟨(0),qrs,H',⟨Nat.le_refl _⟩,⟨qra HO_3.out⟩,⟨by exact bw⟩⟩
      case round =>
       clear H';(try clear c1);(try clear c2);(try clear c2b0);(try clear p2);(try clear c3);(try clear c3b0);(try clear c4);(try clear c4b0);(try clear hx743_0);(try clear p743);(try clear q743)
       obtain ⟨x6_2,rfl,HA,HK2,HO_3,HB⟩:=hrel
       cases gk with
       | zero=>exact absurd HA.out (by simp [az.g1])
       | succ k2 =>
        have H:=HA.out;clear HA;simp only [az.g1] at H;by_cases c5:x6_2 < (x3_1.length:Int)
        ·rw [if_pos c5] at H;have c5b0:decide (x6_2 < (x3_1.length:Int)) = true:=decide_eq_true c5;clear c5;by_cases c6:0 ≤ x6_2
         ·rw [if_pos c6] at H;have c6b0:decide (0 ≤ x6_2) = true:=decide_eq_true c6;clear c6;replace H:=Option.bind_eq_some_iff.mp H;obtain ⟨t745,A70,H⟩:=H;replace H:(if t745 = true then (az.g1 bf k2 x3_1 (dE default l0 x10_1) (wrap64 (x6_2 + 1)) l0 (l0.length:Int) x10_1) else ((some (([]:List α):List α)).bind fun y746=>(if x6_2 ≤ (x3_1.length:Int) then ((some (x3_1.take (x6_2:Int).toNat:List α)).bind fun y749=>(if y746.length + y749.length < 5864062014805 then ((some (y746 ++ y749:List α)).bind fun y753=>(if y753.length < 5864062014805 then ((some (y753 ++ [(dE default l0 x10_1)]:List α)).bind fun y756=>((some (x3_1.drop (x6_2:Int).toNat:List α)).bind fun y759=>(if y756.length + y759.length < 5864062014805 then (az.g0 bf k2 (y756 ++ y759) l0 (l0.length:Int) (wrap64 (x10_1 + 1))) else (none)))) else (none))) else (none))) else (none)))) = some r:=H;have A7:=aM A70;clear A70;by_cases c8:t745 = true
          ·subst c8;have H1:(az.g1 bf k2 x3_1 (dE default l0 x10_1) (wrap64 (x6_2 + 1)) l0 (l0.length:Int) x10_1) = some r:=by rw [if_pos rfl] at H;exact H
           clear H;have H:=H1;clear H1;have H':=aM H;clear H;obtain ⟨Ao9,co9,eo9⟩:=Kd.b5 HO_3.out;subst eo9;have p744:0 ≤ (x6_2:Int):=of_decide_eq_true ab;have q744:x6_2 < (x3_1.length:Int):=of_decide_eq_true ab;obtain ⟨ad744,e744,hx744_0⟩:=az.at_ (Kd.aI HO_3.out).2.2 x6_2 p744 q744;cases e744
           replace p744:=eq_true p744;replace q744:=eq_true q744;go_wp2_with (first|(go_at_call 110;(with_reducible refine (HBF.out _ (dE default x3_1 x6_2) (dE default l0 x10_1) true A7.out bw).mono ?_);rintro e w' ⟨rfl,⟨nd,rfl⟩⟩))
           go_roundg k2
           case measure=>have:=HK1.out;have:=HK2.out;omega
           case rel=>exact ⟨(wrap64 (x6_2 + 1)),qrs,H',⟨by have:=HK1.out;have:=HK2.out;omega⟩,⟨qra HO_3.out⟩,⟨by exact bw⟩⟩
          ·replace c8:=Bool.eq_false_iff.mpr c8;subst c8;have H1:((some (([]:List α):List α)).bind fun y746=>(if x6_2 ≤ (x3_1.length:Int) then ((some (x3_1.take (x6_2:Int).toNat:List α)).bind fun y749=>(if y746.length + y749.length < 5864062014805 then ((some (y746 ++ y749:List α)).bind fun y753=>(if y753.length < 5864062014805 then ((some (y753 ++ [(dE default l0 x10_1)]:List α)).bind fun y756=>((some (x3_1.drop (x6_2:Int).toNat:List α)).bind fun y759=>(if y756.length + y759.length < 5864062014805 then (az.g0 bf k2 (y756 ++ y759) l0 (l0.length:Int) (wrap64 (x10_1 + 1))) else (none)))) else (none))) else (none))) else (none))) = some r:=by rw [if_neg (show ¬ (false = true) by decide)] at H;exact H
           clear H;have H:=H1;clear H1;obtain ⟨y746,hy746⟩:∃ y_:List α,y_ = (([]:List α)):=⟨_,rfl⟩;replace H:(if x6_2 ≤ (x3_1.length:Int) then ((some (x3_1.take (x6_2:Int).toNat:List α)).bind fun y749=>(if y746.length + y749.length < 5864062014805 then ((some (y746 ++ y749:List α)).bind fun y753=>(if y753.length < 5864062014805 then ((some (y753 ++ [(dE default l0 x10_1)]:List α)).bind fun y756=>((some (x3_1.drop (x6_2:Int).toNat:List α)).bind fun y759=>(if y756.length + y759.length < 5864062014805 then (az.g0 bf k2 (y756 ++ y759) l0 (l0.length:Int) (wrap64 (x10_1 + 1))) else (none)))) else (none))) else (none))) else (none)) = some r:=by first|(rw [hy746];with_reducible exact H)|(have H2_:=(Option.bind_some _ _).symm.trans H;rw [hy746];with_reducible exact H2_)|(have H2_:=(Option.bind_some _ _).symm.trans H;with_reducible exact H2_)|with_reducible exact H|(rw [hy746];exact H)|exact H
           have Ny746:=aM hy746;clear hy746;have c10b0:=eq_true (of_decide_eq_true ab:0 ≤ x6_2);by_cases c11:x6_2 ≤ (x3_1.length:Int)
           ·rw [if_pos c11] at H;have c11b0:=eq_true c11;have c11b1:decide (x6_2 ≤ (x3_1.length:Int)) = true:=decide_eq_true c11;clear c11;obtain ⟨y749,hy749⟩:∃ y_:List α,y_ = (x3_1.take (x6_2:Int).toNat):=⟨_,rfl⟩;replace H:(if y746.length + y749.length < 5864062014805 then ((some (y746 ++ y749:List α)).bind fun y753=>(if y753.length < 5864062014805 then ((some (y753 ++ [(dE default l0 x10_1)]:List α)).bind fun y756=>((some (x3_1.drop (x6_2:Int).toNat:List α)).bind fun y759=>(if y756.length + y759.length < 5864062014805 then (az.g0 bf k2 (y756 ++ y759) l0 (l0.length:Int) (wrap64 (x10_1 + 1))) else (none)))) else (none))) else (none)) = some r:=by first|(rw [hy749];with_reducible exact H)|(have H2_:=(Option.bind_some _ _).symm.trans H;rw [hy749];with_reducible exact H2_)|(have H2_:=(Option.bind_some _ _).symm.trans H;with_reducible exact H2_)|with_reducible exact H|(rw [hy749];exact H)|exact H
            have Ny749:=aM hy749;clear hy749;by_cases c12:y746.length + y749.length < 5864062014805
            ·rw [if_pos c12] at H;have LMc12:=aM c12;clear c12;obtain ⟨y753,hy753⟩:∃ y_:List α,y_ = (y746 ++ y749):=⟨_,rfl⟩;replace H:(if y753.length < 5864062014805 then ((some (y753 ++ [(dE default l0 x10_1)]:List α)).bind fun y756=>((some (x3_1.drop (x6_2:Int).toNat:List α)).bind fun y759=>(if y756.length + y759.length < 5864062014805 then (az.g0 bf k2 (y756 ++ y759) l0 (l0.length:Int) (wrap64 (x10_1 + 1))) else (none)))) else (none)) = some r:=by first|(rw [hy753];with_reducible exact H)|(have H2_:=(Option.bind_some _ _).symm.trans H;rw [hy753];with_reducible exact H2_)|(have H2_:=(Option.bind_some _ _).symm.trans H;with_reducible exact H2_)|with_reducible exact H|(rw [hy753];exact H)|exact H
             have Ny753:=aM hy753;clear hy753;by_cases c13:y753.length < 5864062014805
             ·rw [if_pos c13] at H;have LMc13:=aM c13;clear c13;obtain ⟨y756,hy756⟩:∃ y_:List α,y_ = (y753 ++ [(dE default l0 x10_1)]):=⟨_,rfl⟩;replace H:((some (x3_1.drop (x6_2:Int).toNat:List α)).bind fun y759=>(if y756.length + y759.length < 5864062014805 then (az.g0 bf k2 (y756 ++ y759) l0 (l0.length:Int) (wrap64 (x10_1 + 1))) else (none))) = some r:=by first|(rw [hy756];with_reducible exact H)|(have H2_:=(Option.bind_some _ _).symm.trans H;rw [hy756];with_reducible exact H2_)|(have H2_:=(Option.bind_some _ _).symm.trans H;with_reducible exact H2_)|with_reducible exact H|(rw [hy756];exact H)|exact H
              have Ny756:=aM hy756;clear hy756;have c14b0:=eq_true (of_decide_eq_true ab:0 ≤ x6_2);have c15b0:=eq_true (of_decide_eq_true ab:x6_2 ≤ (x3_1.length:Int));obtain ⟨y759,hy759⟩:∃ y_:List α,y_ = (x3_1.drop (x6_2:Int).toNat):=⟨_,rfl⟩;replace H:(if y756.length + y759.length < 5864062014805 then (az.g0 bf k2 (y756 ++ y759) l0 (l0.length:Int) (wrap64 (x10_1 + 1))) else (none)) = some r:=by first|(rw [hy759];with_reducible exact H)|(have H2_:=(Option.bind_some _ _).symm.trans H;rw [hy759];with_reducible exact H2_)|(have H2_:=(Option.bind_some _ _).symm.trans H;with_reducible exact H2_)|with_reducible exact H|(rw [hy759];exact H)|exact H
              have Ny759:=aM hy759;clear hy759;by_cases c16:y756.length + y759.length < 5864062014805
              ·rw [if_pos c16] at H;have LMc16:=aM c16;clear c16;obtain ⟨y763,hy763⟩:∃ y_:List α,y_ = (y756 ++ y759):=⟨_,rfl⟩;replace H:(az.g0 bf k2 y763 l0 (l0.length:Int) (wrap64 (x10_1 + 1))) = some r:=by first|(rw [hy763];with_reducible exact H)|(have H2_:=(Option.bind_some _ _).symm.trans H;rw [hy763];with_reducible exact H2_)|(have H2_:=(Option.bind_some _ _).symm.trans H;with_reducible exact H2_)|with_reducible exact H|(rw [hy763];exact H)|exact H
               have Ny763:=aM hy763;clear hy763;have H':=aM H;clear H;obtain ⟨Ao17,co17,eo17⟩:=Kd.b5 HO_3.out;subst eo17;have p744:0 ≤ (x6_2:Int):=of_decide_eq_true ab;have q744:x6_2 < (x3_1.length:Int):=of_decide_eq_true ab;obtain ⟨ad744,e744,hx744_0⟩:=az.at_ (Kd.aI HO_3.out).2.2 x6_2 p744 q744;cases e744
               replace p744:=eq_true p744;replace q744:=eq_true q744;go_wp2_with (first|(go_at_call 110;(with_reducible refine (HBF.out _ (dE default x3_1 x6_2) (dE default l0 x10_1) false A7.out bw).mono ?_);rintro e w' ⟨rfl,⟨nd,rfl⟩⟩)|((with_reducible refine aC (N:=28) rfl ?_);refine Kd.lC (Kd.scalar (fun x_:α=>Value.slice (sA x_) (sn x_) (sc x_)) (fun _=>rfl)) _ 23 ?hg (N:=28) ?hd (xs:=([]:List α)) (inner:=[]) (ok:=fun _=>True) (okp:=fun _=>True) ?hr ?hp (fun _ hk=>hk) trivial (Below.refl _ _) (Nat.le_refl _) (by simp) ?_;(case hd=>rfl);(case hg=>rfl);(case hr=>first|(go_simp;done)|(go_simp;rfl));(case hp=>exact (eH.none _ _));intro v747 w18 ho19 hb hg_ hnew_;clear hg_ hnew_;(first|rw [← Ny746.out] at ho19|(simp only [Int.reduceToNat] at ho19;rw [← Ny746.out] at ho19));have n0_:=aM (Kd.eN (qra HO_3.out) (Kd.da ho19) hb);have n1_:=aM (Kd.cr (Kd.gv ho19 (Kd.gp (qra HO_3.out))) (av bw));have n2_:=aM (ag bw hb);clear HO_3;clear HB;have HO_3:=n0_;have HO748:=n1_;have HB:=n2_;clear n0_ n1_ n2_;clear hb ho19;have q20:(x6_2:Int) ≤ ((x3_1.length:Int):Int):=of_decide_eq_true ab;obtain ⟨i020,hi020,_,hsz20,_⟩:=info_parts ik;have hroom20:x3_1.length ≤ co17:=(Kd.aI HO_3.out).2.1;have hC20:Kd.C (Kd.scalar (fun x_:α=>Value.slice (sA x_) (sn x_) (sc x_)) (fun _=>rfl)) _ (some ad744) x3_1.length x3_1:=(Kd.aI HO_3.out).2.2;have hcut20:=j6 (P:=Tryz.prog) 28 23 .i64 Tryz.underlying28 hi020 (some ad744) x3_1.length co17 x6_2 (of_decide_eq_true ab) q20 hroom20;have hr20:=Kd.im (m:=(x6_2:Int).toNat) hC20 (by omega);have hy20:y749.length = (x6_2:Int).toNat:=(by rw [Ny749.out,List.length_take];omega);rw [← Ny749.out] at hr20;rw [← hy20] at hcut20;have HR752:=aM hr20;have HC752:=aM (show y749.length ≤ co17 from by omega);clear hr20 hC20 hroom20 hi020 hsz20;have KY20:=aM hy20;clear hy20;have KL20:=aM (show (x6_2:Int).toNat ≤ x3_1.length from by omega);replace q20:=eq_true q20)|((with_reducible refine dr (b:=.append) (xs:=#[.tmp 28,.tmp 31]) rfl ?_);at_builtin;refine Kd.fP (Kd.scalar (fun x_:α=>Value.slice (sA x_) (sn x_) (sc x_)) (fun _=>rfl)) (w0:=w) w.heap.size rfl (.tmp 28) (.tmp 31) 28 23 (.slice none 0 0) 24 rfl Tryz.underlying28 ik rfl (Nat.lt_succ_self 0) (by omega) v747 y746 y749 _ _ _ (fun k_=>some k_ ≠ (.slice (some ad744) x3_1.length co17:Value).ownBlock) (fun _=>False) rfl rfl ?aO ?aR (fun _ _ h=>h) (fun _ h=>h.elim) ?aF ?aB ?aS ?aL ?_;(case aR=>repeat (first|exact (by repeat (first|(with_reducible exact HR752.out)|(with_reducible refine Kd.eI ?_ _)|(with_reducible refine Kd.eJ ?_ _)|(with_reducible refine Kd.fB ?_)|exact HR752.out))|(with_reducible refine Kd.eI ?_ _)|(with_reducible refine Kd.eJ ?_ _)|(with_reducible refine Kd.fB ?_)));(case aB=>exact bw);(case aF=>exact (fun k_ hk=>Kd.bA (Kd.gp (qra HO_3.out)) k_ hk));(case aO=>exact (by (with_reducible repeat (first|apply Kd.ca|apply Kd.b7|apply Kd.cu));exact Kd.cG HO748.out (fun _ hk=>hk.2)));(case aS=>exact (av bw));(case aL=>have:=LMc12.out;omega);intro v754 w21 ho hb hg hat;rw [← Ny753.out] at ho;have n0_:=aM (Kd.eS (ok:=(fun _=>True)) (qra HO_3.out) hg hat);have n1_:=aM (hb);have n2_:=aM ((show Kd.C (Kd.scalar (fun x_:α=>Value.slice (sA x_) (sn x_) (sc x_)) (fun _=>rfl)) w21 (some ad744) y749.length y749 from by rw [Ny749.out];exact Kd.im (m:=(x6_2:Int).toNat) ((Kd.aI (Kd.eS (ok:=(fun _=>True)) (qra HO_3.out) hg hat)).2.2) KL20.out));have n3_:=aM (ho);clear HO_3;clear HB;clear HR752;clear HO748;have HO_3:=n0_;have HB:=n1_;have HR752:=n2_;have HO755:=n3_;clear n0_ n1_ n2_ n3_;clear ho hb hg hat)|((with_reducible refine dr (b:=.append) (xs:=#[.tmp 32,.tmp 34]) rfl ?_);at_builtin;refine Kd.gg (Kd.scalar (fun x_:α=>Value.slice (sA x_) (sn x_) (sc x_)) (fun _=>rfl)) (w0:=w) w.heap.size rfl (.tmp 32) (.tmp 34) 28 23 (.slice none 0 0) 24 rfl Tryz.underlying28 ik rfl (Nat.lt_succ_self 0) (by omega) v754 y753 (dE default l0 x10_1) [.slice (sA (dE default l0 x10_1)) (sn (dE default l0 x10_1)) (sc (dE default l0 x10_1))] (fun k_=>some k_ ≠ (.slice (some ad744) x3_1.length co17:Value).ownBlock) (fun _=>False) rfl rfl ?aP (fun _ hk=>hk.elim) ?aF ?aO ?aB ?aS ?aL ?_;(case aP=>exact rfl);(case aB=>exact bw);(case aF=>exact (fun k_ hk=>Kd.bA (Kd.gp (qra HO_3.out)) k_ hk));(case aO=>exact (qra HO755.out));(case aS=>exact (av bw));(case aL=>have:=LMc13.out;omega);intro v757 w22 ho hb hg hat;rw [← Ny756.out] at ho;have n0_:=aM (Kd.eS (ok:=(fun _=>True)) (qra HO_3.out) hg hat);have n1_:=aM (hb);have n2_:=aM ((show Kd.C (Kd.scalar (fun x_:α=>Value.slice (sA x_) (sn x_) (sc x_)) (fun _=>rfl)) w22 (some ad744) y749.length y749 from by rw [Ny749.out];exact Kd.im (m:=(x6_2:Int).toNat) ((Kd.aI (Kd.eS (ok:=(fun _=>True)) (qra HO_3.out) hg hat)).2.2) KL20.out));have n3_:=aM (ho);clear HO_3;clear HB;clear HR752;clear HO755;have HO_3:=n0_;have HB:=n1_;have HR752:=n2_;have HO758:=n3_;clear n0_ n1_ n2_ n3_;clear ho hb hg hat;have q23:(x6_2:Int) ≤ ((x3_1.length:Int):Int):=of_decide_eq_true ab;obtain ⟨i023,hi023,_,hsz23,_⟩:=info_parts ik;have hroom23:x3_1.length ≤ co17:=(Kd.aI HO_3.out).2.1;have hC23:Kd.C (Kd.scalar (fun x_:α=>Value.slice (sA x_) (sn x_) (sc x_)) (fun _=>rfl)) _ (some ad744) x3_1.length x3_1:=(Kd.aI HO_3.out).2.2;have q023:(0:Int) ≤ (x6_2:Int):=of_decide_eq_true ab;have hcut23:=gG (P:=Tryz.prog) 28 23 .i64 Tryz.underlying28 hi023 1 hsz23 (some ad744) x3_1.length co17 x6_2 q023 q23;have hr23:=Kd.jA (m:=(x6_2:Int).toNat) (c:=co17) hC23 (by omega) hroom23;obtain ⟨A23,hA23⟩:∃ A1,A1 = (if co17 = (x6_2:Int).toNat then (some ad744) else ((some ad744):Option Addr).map (·.add ((x6_2:Int).toNat * 1))):=⟨_,rfl⟩;obtain ⟨c23,hc23⟩:∃ c1,c1 = co17 - (x6_2:Int).toNat:=⟨_,rfl⟩;have hy23:y759.length = x3_1.length - (x6_2:Int).toNat:=(by rw [Ny759.out,List.length_drop] <;> omega);rw [show (x3_1).drop (x6_2:Int).toNat = y759 from Ny759.out.symm] at hr23;replace hr23:Kd.C (Kd.scalar (fun x_:α=>Value.slice (sA x_) (sn x_) (sc x_)) (fun _=>rfl)) _ A23 y759.length y759:=(by rw [hA23];exact hr23);rw [← hy23,← hA23,← hc23] at hcut23;have HR762:=aM hr23;have HC762:=aM (show y759.length ≤ c23 from by rw [hy23,hc23];exact Nat.sub_le_sub_right hroom23 _);clear hr23 hC23 hroom23 hi023 hsz23 hc23;have KY23:=aM hy23;have KA23:=aM hA23;clear hy23 hA23;have KL23:=aM (show (x6_2:Int).toNat ≤ x3_1.length from by omega);replace q23:=eq_true q23)|((with_reducible refine dr (b:=.append) (xs:=#[.tmp 36,.tmp 39]) rfl ?_);at_builtin;refine Kd.fP (Kd.scalar (fun x_:α=>Value.slice (sA x_) (sn x_) (sc x_)) (fun _=>rfl)) (w0:=w) w.heap.size rfl (.tmp 36) (.tmp 39) 28 23 (.slice none 0 0) 24 rfl Tryz.underlying28 ik rfl (Nat.lt_succ_self 0) (by omega) v757 y756 y759 _ _ _ (fun k_=>some k_ ≠ (.slice (some ad744) x3_1.length co17:Value).ownBlock) (fun _=>False) rfl rfl ?aO ?aR (fun _ _ h=>h) (fun _ h=>h.elim) ?aF ?aB ?aS ?aL ?_;(case aR=>repeat (first|exact (by repeat (first|(with_reducible exact HR762.out)|(with_reducible refine Kd.eI ?_ _)|(with_reducible refine Kd.eJ ?_ _)|(with_reducible refine Kd.fB ?_)|exact HR762.out))|(with_reducible refine Kd.eI ?_ _)|(with_reducible refine Kd.eJ ?_ _)|(with_reducible refine Kd.fB ?_)));(case aB=>exact bw);(case aF=>exact (fun k_ hk=>Kd.bA (Kd.gp (qra HO_3.out)) k_ hk));(case aO=>exact (qra HO758.out));(case aS=>exact (av bw));(case aL=>have:=LMc16.out;omega);intro v764 w24 ho hb hg hat;rw [← Ny763.out] at ho;have n0_:=aM (Kd.eS (ok:=(fun _=>True)) (qra HO_3.out) hg hat);have n1_:=aM (hb);have n2_:=aM ((show Kd.C (Kd.scalar (fun x_:α=>Value.slice (sA x_) (sn x_) (sc x_)) (fun _=>rfl)) w24 (some ad744) y749.length y749 from by rw [Ny749.out];exact Kd.im (m:=(x6_2:Int).toNat) ((Kd.aI (Kd.eS (ok:=(fun _=>True)) (qra HO_3.out) hg hat)).2.2) KL20.out));have n3_:=aM ((show Kd.C (Kd.scalar (fun x_:α=>Value.slice (sA x_) (sn x_) (sc x_)) (fun _=>rfl)) w24 A23 y759.length y759 from by rw [Ny759.out,KA23.out];exact Kd.jA (m:=(x6_2:Int).toNat) (c:=co17) ((Kd.aI (Kd.eS (ok:=(fun _=>True)) (qra HO_3.out) hg hat)).2.2) KL23.out ((Kd.aI (Kd.eS (ok:=(fun _=>True)) (qra HO_3.out) hg hat)).2.1)));have n4_:=aM (ho);clear HO_3;clear HB;clear HR752;clear HR762;clear HO758;have HO_3:=n0_;have HB:=n1_;have HR752:=n2_;have HR762:=n3_;have HO765:=n4_;clear n0_ n1_ n2_ n3_ n4_;clear ho hb hg hat))
               go_roundg k2
               case measure=>have:=HK1.out;have:=HK2.out;omega
               case rel=>exact ⟨(y763),(wrap64 (x10_1 + 1)),qrs,H',⟨by have:=HK1.out;have:=HK2.out;omega⟩,⟨by (with_reducible repeat (first|apply Kd.ca|apply Kd.b7|apply Kd.cu));exact Kd.cG HO765.out (fun _ hk=>trivial)⟩,⟨by exact bw⟩⟩
              ·rw [if_neg c16] at H;exact absurd H (by simp)
             ·rw [if_neg c13] at H;exact absurd H (by simp)
            ·rw [if_neg c12] at H;exact absurd H (by simp)
           ·rw [if_neg c11] at H;exact absurd H (by simp)
         ·rw [if_neg c6] at H;exact absurd H (by simp)
        ·rw [if_neg c5] at H;have c5b0:decide (x6_2 < (x3_1.length:Int)) = false:=decide_eq_false c5;clear c5;obtain ⟨y766,hy766⟩:∃ y_:List α,y_ = (([]:List α)):=⟨_,rfl⟩;replace H:(if 0 ≤ x6_2 then (if x6_2 ≤ (x3_1.length:Int) then ((some (x3_1.take (x6_2:Int).toNat:List α)).bind fun y769=>(if y766.length + y769.length < 5864062014805 then ((some (y766 ++ y769:List α)).bind fun y773=>(if y773.length < 5864062014805 then ((some (y773 ++ [(dE default l0 x10_1)]:List α)).bind fun y776=>((some (x3_1.drop (x6_2:Int).toNat:List α)).bind fun y779=>(if y776.length + y779.length < 5864062014805 then (az.g0 bf k2 (y776 ++ y779) l0 (l0.length:Int) (wrap64 (x10_1 + 1))) else (none)))) else (none))) else (none))) else (none)) else (none)) = some r:=by first|(rw [hy766];with_reducible exact H)|(have H2_:=(Option.bind_some _ _).symm.trans H;rw [hy766];with_reducible exact H2_)|(have H2_:=(Option.bind_some _ _).symm.trans H;with_reducible exact H2_)|with_reducible exact H|(rw [hy766];exact H)|exact H
         have Ny766:=aM hy766;clear hy766;by_cases c25:0 ≤ x6_2
         ·rw [if_pos c25] at H;have c25b0:=eq_true c25;have c25b1:decide (0 ≤ x6_2) = true:=decide_eq_true c25;clear c25;by_cases c26:x6_2 ≤ (x3_1.length:Int)
          ·rw [if_pos c26] at H;have c26b0:=eq_true c26;have c26b1:decide (x6_2 ≤ (x3_1.length:Int)) = true:=decide_eq_true c26;clear c26;obtain ⟨y769,hy769⟩:∃ y_:List α,y_ = (x3_1.take (x6_2:Int).toNat):=⟨_,rfl⟩;replace H:(if y766.length + y769.length < 5864062014805 then ((some (y766 ++ y769:List α)).bind fun y773=>(if y773.length < 5864062014805 then ((some (y773 ++ [(dE default l0 x10_1)]:List α)).bind fun y776=>((some (x3_1.drop (x6_2:Int).toNat:List α)).bind fun y779=>(if y776.length + y779.length < 5864062014805 then (az.g0 bf k2 (y776 ++ y779) l0 (l0.length:Int) (wrap64 (x10_1 + 1))) else (none)))) else (none))) else (none)) = some r:=by first|(rw [hy769];with_reducible exact H)|(have H2_:=(Option.bind_some _ _).symm.trans H;rw [hy769];with_reducible exact H2_)|(have H2_:=(Option.bind_some _ _).symm.trans H;with_reducible exact H2_)|with_reducible exact H|(rw [hy769];exact H)|exact H
           have Ny769:=aM hy769;clear hy769;by_cases c27:y766.length + y769.length < 5864062014805
           ·rw [if_pos c27] at H;have LMc27:=aM c27;clear c27;obtain ⟨y773,hy773⟩:∃ y_:List α,y_ = (y766 ++ y769):=⟨_,rfl⟩;replace H:(if y773.length < 5864062014805 then ((some (y773 ++ [(dE default l0 x10_1)]:List α)).bind fun y776=>((some (x3_1.drop (x6_2:Int).toNat:List α)).bind fun y779=>(if y776.length + y779.length < 5864062014805 then (az.g0 bf k2 (y776 ++ y779) l0 (l0.length:Int) (wrap64 (x10_1 + 1))) else (none)))) else (none)) = some r:=by first|(rw [hy773];with_reducible exact H)|(have H2_:=(Option.bind_some _ _).symm.trans H;rw [hy773];with_reducible exact H2_)|(have H2_:=(Option.bind_some _ _).symm.trans H;with_reducible exact H2_)|with_reducible exact H|(rw [hy773];exact H)|exact H
            have Ny773:=aM hy773;clear hy773;by_cases c28:y773.length < 5864062014805
            ·rw [if_pos c28] at H;have LMc28:=aM c28;clear c28;obtain ⟨y776,hy776⟩:∃ y_:List α,y_ = (y773 ++ [(dE default l0 x10_1)]):=⟨_,rfl⟩;replace H:((some (x3_1.drop (x6_2:Int).toNat:List α)).bind fun y779=>(if y776.length + y779.length < 5864062014805 then (az.g0 bf k2 (y776 ++ y779) l0 (l0.length:Int) (wrap64 (x10_1 + 1))) else (none))) = some r:=by first|(rw [hy776];with_reducible exact H)|(have H2_:=(Option.bind_some _ _).symm.trans H;rw [hy776];with_reducible exact H2_)|(have H2_:=(Option.bind_some _ _).symm.trans H;with_reducible exact H2_)|with_reducible exact H|(rw [hy776];exact H)|exact H
             have Ny776:=aM hy776;clear hy776;have c29b0:=eq_true (of_decide_eq_true ab:0 ≤ x6_2);have c30b0:=eq_true (of_decide_eq_true ab:x6_2 ≤ (x3_1.length:Int));obtain ⟨y779,hy779⟩:∃ y_:List α,y_ = (x3_1.drop (x6_2:Int).toNat):=⟨_,rfl⟩;replace H:(if y776.length + y779.length < 5864062014805 then (az.g0 bf k2 (y776 ++ y779) l0 (l0.length:Int) (wrap64 (x10_1 + 1))) else (none)) = some r:=by first|(rw [hy779];with_reducible exact H)|(have H2_:=(Option.bind_some _ _).symm.trans H;rw [hy779];with_reducible exact H2_)|(have H2_:=(Option.bind_some _ _).symm.trans H;with_reducible exact H2_)|with_reducible exact H|(rw [hy779];exact H)|exact H
             have Ny779:=aM hy779;clear hy779;by_cases c31:y776.length + y779.length < 5864062014805
             ·rw [if_pos c31] at H;have LMc31:=aM c31;clear c31;obtain ⟨y783,hy783⟩:∃ y_:List α,y_ = (y776 ++ y779):=⟨_,rfl⟩;replace H:(az.g0 bf k2 y783 l0 (l0.length:Int) (wrap64 (x10_1 + 1))) = some r:=by first|(rw [hy783];with_reducible exact H)|(have H2_:=(Option.bind_some _ _).symm.trans H;rw [hy783];with_reducible exact H2_)|(have H2_:=(Option.bind_some _ _).symm.trans H;with_reducible exact H2_)|with_reducible exact H|(rw [hy783];exact H)|exact H
              have Ny783:=aM hy783;clear hy783;have H':=aM H;clear H;obtain ⟨Ao32,co32,eo32⟩:=Kd.b5 HO_3.out;subst eo32;go_wp2_with (first|((with_reducible refine aC (N:=28) rfl ?_);refine Kd.lC (Kd.scalar (fun x_:α=>Value.slice (sA x_) (sn x_) (sc x_)) (fun _=>rfl)) _ 23 ?hg (N:=28) ?hd (xs:=([]:List α)) (inner:=[]) (ok:=fun _=>True) (okp:=fun _=>True) ?hr ?hp (fun _ hk=>hk) trivial (Below.refl _ _) (Nat.le_refl _) (by simp) ?_;(case hd=>rfl);(case hg=>rfl);(case hr=>first|(go_simp;done)|(go_simp;rfl));(case hp=>exact (eH.none _ _));intro v767 w33 ho34 hb hg_ hnew_;clear hg_ hnew_;(first|rw [← Ny766.out] at ho34|(simp only [Int.reduceToNat] at ho34;rw [← Ny766.out] at ho34));have n0_:=aM (Kd.eN (qra HO_3.out) (Kd.da ho34) hb);have n1_:=aM (Kd.cr (Kd.gv ho34 (Kd.gp (qra HO_3.out))) (av bw));have n2_:=aM (ag bw hb);clear HO_3;clear HB;have HO_3:=n0_;have HO768:=n1_;have HB:=n2_;clear n0_ n1_ n2_;clear hb ho34;have q35:(x6_2:Int) ≤ ((x3_1.length:Int):Int):=of_decide_eq_true ab;obtain ⟨i035,hi035,_,hsz35,_⟩:=info_parts ik;have hroom35:x3_1.length ≤ co32:=(Kd.aI HO_3.out).2.1;have hC35:Kd.C (Kd.scalar (fun x_:α=>Value.slice (sA x_) (sn x_) (sc x_)) (fun _=>rfl)) _ Ao32 x3_1.length x3_1:=(Kd.aI HO_3.out).2.2;have hcut35:=j6 (P:=Tryz.prog) 28 23 .i64 Tryz.underlying28 hi035 Ao32 x3_1.length co32 x6_2 (of_decide_eq_true ab) q35 hroom35;have hr35:=Kd.im (m:=(x6_2:Int).toNat) hC35 (by omega);have hy35:y769.length = (x6_2:Int).toNat:=(by rw [Ny769.out,List.length_take];omega);rw [← Ny769.out] at hr35;rw [← hy35] at hcut35;have HR772:=aM hr35;have HC772:=aM (show y769.length ≤ co32 from by omega);clear hr35 hC35 hroom35 hi035 hsz35;have KY35:=aM hy35;clear hy35;have KL35:=aM (show (x6_2:Int).toNat ≤ x3_1.length from by omega);replace q35:=eq_true q35)|((with_reducible refine dr (b:=.append) (xs:=#[.tmp 28,.tmp 31]) rfl ?_);at_builtin;refine Kd.fP (Kd.scalar (fun x_:α=>Value.slice (sA x_) (sn x_) (sc x_)) (fun _=>rfl)) (w0:=w) w.heap.size rfl (.tmp 28) (.tmp 31) 28 23 (.slice none 0 0) 24 rfl Tryz.underlying28 ik rfl (Nat.lt_succ_self 0) (by omega) v767 y766 y769 _ _ _ (fun k_=>some k_ ≠ (.slice Ao32 x3_1.length co32:Value).ownBlock) (fun _=>False) rfl rfl ?aO ?aR (fun _ _ h=>h) (fun _ h=>h.elim) ?aF ?aB ?aS ?aL ?_;(case aR=>repeat (first|exact (by repeat (first|(with_reducible exact HR772.out)|(with_reducible refine Kd.eI ?_ _)|(with_reducible refine Kd.eJ ?_ _)|(with_reducible refine Kd.fB ?_)|exact HR772.out))|(with_reducible refine Kd.eI ?_ _)|(with_reducible refine Kd.eJ ?_ _)|(with_reducible refine Kd.fB ?_)));(case aB=>exact bw);(case aF=>exact (fun k_ hk=>Kd.bA (Kd.gp (qra HO_3.out)) k_ hk));(case aO=>exact (by (with_reducible repeat (first|apply Kd.ca|apply Kd.b7|apply Kd.cu));exact Kd.cG HO768.out (fun _ hk=>hk.2)));(case aS=>exact (av bw));(case aL=>have:=LMc27.out;omega);intro v774 w36 ho hb hg hat;rw [← Ny773.out] at ho;have n0_:=aM (Kd.eS (ok:=(fun _=>True)) (qra HO_3.out) hg hat);have n1_:=aM (hb);have n2_:=aM ((show Kd.C (Kd.scalar (fun x_:α=>Value.slice (sA x_) (sn x_) (sc x_)) (fun _=>rfl)) w36 Ao32 y769.length y769 from by rw [Ny769.out];exact Kd.im (m:=(x6_2:Int).toNat) ((Kd.aI (Kd.eS (ok:=(fun _=>True)) (qra HO_3.out) hg hat)).2.2) KL35.out));have n3_:=aM (ho);clear HO_3;clear HB;clear HR772;clear HO768;have HO_3:=n0_;have HB:=n1_;have HR772:=n2_;have HO775:=n3_;clear n0_ n1_ n2_ n3_;clear ho hb hg hat)|((with_reducible refine dr (b:=.append) (xs:=#[.tmp 32,.tmp 34]) rfl ?_);at_builtin;refine Kd.gg (Kd.scalar (fun x_:α=>Value.slice (sA x_) (sn x_) (sc x_)) (fun _=>rfl)) (w0:=w) w.heap.size rfl (.tmp 32) (.tmp 34) 28 23 (.slice none 0 0) 24 rfl Tryz.underlying28 ik rfl (Nat.lt_succ_self 0) (by omega) v774 y773 (dE default l0 x10_1) [.slice (sA (dE default l0 x10_1)) (sn (dE default l0 x10_1)) (sc (dE default l0 x10_1))] (fun k_=>some k_ ≠ (.slice Ao32 x3_1.length co32:Value).ownBlock) (fun _=>False) rfl rfl ?aP (fun _ hk=>hk.elim) ?aF ?aO ?aB ?aS ?aL ?_;(case aP=>exact rfl);(case aB=>exact bw);(case aF=>exact (fun k_ hk=>Kd.bA (Kd.gp (qra HO_3.out)) k_ hk));(case aO=>exact (qra HO775.out));(case aS=>exact (av bw));(case aL=>have:=LMc28.out;omega);intro v777 w37 ho hb hg hat;rw [← Ny776.out] at ho;have n0_:=aM (Kd.eS (ok:=(fun _=>True)) (qra HO_3.out) hg hat);have n1_:=aM (hb);have n2_:=aM ((show Kd.C (Kd.scalar (fun x_:α=>Value.slice (sA x_) (sn x_) (sc x_)) (fun _=>rfl)) w37 Ao32 y769.length y769 from by rw [Ny769.out];exact Kd.im (m:=(x6_2:Int).toNat) ((Kd.aI (Kd.eS (ok:=(fun _=>True)) (qra HO_3.out) hg hat)).2.2) KL35.out));have n3_:=aM (ho);clear HO_3;clear HB;clear HR772;clear HO775;have HO_3:=n0_;have HB:=n1_;have HR772:=n2_;have HO778:=n3_;clear n0_ n1_ n2_ n3_;clear ho hb hg hat;have q38:(x6_2:Int) ≤ ((x3_1.length:Int):Int):=of_decide_eq_true ab;obtain ⟨i038,hi038,_,hsz38,_⟩:=info_parts ik;have hroom38:x3_1.length ≤ co32:=(Kd.aI HO_3.out).2.1;have hC38:Kd.C (Kd.scalar (fun x_:α=>Value.slice (sA x_) (sn x_) (sc x_)) (fun _=>rfl)) _ Ao32 x3_1.length x3_1:=(Kd.aI HO_3.out).2.2;have q038:(0:Int) ≤ (x6_2:Int):=of_decide_eq_true ab;have hcut38:=gG (P:=Tryz.prog) 28 23 .i64 Tryz.underlying28 hi038 1 hsz38 Ao32 x3_1.length co32 x6_2 q038 q38;have hr38:=Kd.jA (m:=(x6_2:Int).toNat) (c:=co32) hC38 (by omega) hroom38;obtain ⟨A38,hA38⟩:∃ A1,A1 = (if co32 = (x6_2:Int).toNat then Ao32 else (Ao32:Option Addr).map (·.add ((x6_2:Int).toNat * 1))):=⟨_,rfl⟩;obtain ⟨c38,hc38⟩:∃ c1,c1 = co32 - (x6_2:Int).toNat:=⟨_,rfl⟩;have hy38:y779.length = x3_1.length - (x6_2:Int).toNat:=(by rw [Ny779.out,List.length_drop] <;> omega);rw [show (x3_1).drop (x6_2:Int).toNat = y779 from Ny779.out.symm] at hr38;replace hr38:Kd.C (Kd.scalar (fun x_:α=>Value.slice (sA x_) (sn x_) (sc x_)) (fun _=>rfl)) _ A38 y779.length y779:=(by rw [hA38];exact hr38);rw [← hy38,← hA38,← hc38] at hcut38;have HR782:=aM hr38;have HC782:=aM (show y779.length ≤ c38 from by rw [hy38,hc38];exact Nat.sub_le_sub_right hroom38 _);clear hr38 hC38 hroom38 hi038 hsz38 hc38;have KY38:=aM hy38;have KA38:=aM hA38;clear hy38 hA38;have KL38:=aM (show (x6_2:Int).toNat ≤ x3_1.length from by omega);replace q38:=eq_true q38)|((with_reducible refine dr (b:=.append) (xs:=#[.tmp 36,.tmp 39]) rfl ?_);at_builtin;refine Kd.fP (Kd.scalar (fun x_:α=>Value.slice (sA x_) (sn x_) (sc x_)) (fun _=>rfl)) (w0:=w) w.heap.size rfl (.tmp 36) (.tmp 39) 28 23 (.slice none 0 0) 24 rfl Tryz.underlying28 ik rfl (Nat.lt_succ_self 0) (by omega) v777 y776 y779 _ _ _ (fun k_=>some k_ ≠ (.slice Ao32 x3_1.length co32:Value).ownBlock) (fun _=>False) rfl rfl ?aO ?aR (fun _ _ h=>h) (fun _ h=>h.elim) ?aF ?aB ?aS ?aL ?_;(case aR=>repeat (first|exact (by repeat (first|(with_reducible exact HR782.out)|(with_reducible refine Kd.eI ?_ _)|(with_reducible refine Kd.eJ ?_ _)|(with_reducible refine Kd.fB ?_)|exact HR782.out))|(with_reducible refine Kd.eI ?_ _)|(with_reducible refine Kd.eJ ?_ _)|(with_reducible refine Kd.fB ?_)));(case aB=>exact bw);(case aF=>exact (fun k_ hk=>Kd.bA (Kd.gp (qra HO_3.out)) k_ hk));(case aO=>exact (qra HO778.out));(case aS=>exact (av bw));(case aL=>have:=LMc31.out;omega);intro v784 w39 ho hb hg hat;rw [← Ny783.out] at ho;have n0_:=aM (Kd.eS (ok:=(fun _=>True)) (qra HO_3.out) hg hat);have n1_:=aM (hb);have n2_:=aM ((show Kd.C (Kd.scalar (fun x_:α=>Value.slice (sA x_) (sn x_) (sc x_)) (fun _=>rfl)) w39 Ao32 y769.length y769 from by rw [Ny769.out];exact Kd.im (m:=(x6_2:Int).toNat) ((Kd.aI (Kd.eS (ok:=(fun _=>True)) (qra HO_3.out) hg hat)).2.2) KL35.out));have n3_:=aM ((show Kd.C (Kd.scalar (fun x_:α=>Value.slice (sA x_) (sn x_) (sc x_)) (fun _=>rfl)) w39 A38 y779.length y779 from by rw [Ny779.out,KA38.out];exact Kd.jA (m:=(x6_2:Int).toNat) (c:=co32) ((Kd.aI (Kd.eS (ok:=(fun _=>True)) (qra HO_3.out) hg hat)).2.2) KL38.out ((Kd.aI (Kd.eS (ok:=(fun _=>True)) (qra HO_3.out) hg hat)).2.1)));have n4_:=aM (ho);clear HO_3;clear HB;clear HR772;clear HR782;clear HO778;have HO_3:=n0_;have HB:=n1_;have HR772:=n2_;have HR782:=n3_;have HO785:=n4_;clear n0_ n1_ n2_ n3_ n4_;clear ho hb hg hat))
              go_roundg k2
              case measure=>have:=HK1.out;have:=HK2.out;omega
              case rel=>exact ⟨(y783),(wrap64 (x10_1 + 1)),qrs,H',⟨by have:=HK1.out;have:=HK2.out;omega⟩,⟨by (with_reducible repeat (first|apply Kd.ca|apply Kd.b7|apply Kd.cu));exact Kd.cG HO785.out (fun _ hk=>trivial)⟩,⟨by exact bw⟩⟩
             ·rw [if_neg c31] at H;exact absurd H (by simp)
            ·rw [if_neg c28] at H;exact absurd H (by simp)
           ·rw [if_neg c27] at H;exact absurd H (by simp)
          ·rw [if_neg c26] at H;exact absurd H (by simp)
         ·rw [if_neg c25] at H;exact absurd H (by simp)
     ·rw [if_neg c4] at H;exact absurd H (by simp)
    ·rw [if_neg c3] at H;exact absurd H (by simp)
   ·rw [if_neg c2] at H;have c2b0:decide (x10_1 < (l0.length:Int)) = false:=decide_eq_false c2;clear c2;obtain rfl:=Option.some.inj H;go_wp2
    go_ret
    exact ⟨_,by first|rfl|(simp [cV,cX] <;> rfl)|(simp [*,cV,cX] <;> rfl),by (with_reducible repeat (first|apply Kd.ca|apply Kd.b7|apply Kd.cu));exact HO_3.out,by exact bw⟩
def az.bf {α:Type} (row:α → List Int) (y x:α):Option Bool:=some (ltR row y x)
theorem az.g1_ev {α:Type} [Inhabited α] (row:α → List Int) (o:List α) (x:α) (l0:List α) (i:Int) (R:List α) (ho:o.length ≤ 1000000) (h:Ev (fun k=>az.g0 (az.bf row) k (lp row x o) l0 (l0.length:Int) (wrap64 (i + 1))) R):Ev (fun k=>az.g1 (az.bf row) k o x 0 l0 (l0.length:Int) i) R:=by
 obtain ⟨h1,h2,h3,h4,h5⟩:=tw_spec (fun y=>ltR row y x) default o
 have hins:lp row x o = ((([]:List α) ++ o.take (o.takeWhile (fun y=>ltR row y x)).length) ++ [x]) ++ o.drop (o.takeWhile (fun y=>ltR row y x)).length:=by
  unfold lp;rw [List.nil_append,List.append_assoc,List.singleton_append,← h3,← h4]
 rw [hins] at h;generalize (o.takeWhile (fun y=>ltR row y x)).length = T at h h1 h2 h5
 have key:=Ev.down (G:=fun j k=>az.g1 (az.bf row) k o x (j:Int) l0 (l0.length:Int) i) (R:=fun _=>R) T
  (by
   refine Ev.shift ?_;simp only [az.g1];have ht:(o.take T).length ≤ T:=by rw [List.length_take];omega
   have hd:(o.drop T).length ≤ o.length:=by rw [List.length_drop];omega
   by_cases c:T < o.length
   ·refine Ev.aV (by omega) (Ev.aV (by omega) ?_)
    refine Ev.bind (Ev.one (show az.bf row (dE default o (T:Int)) x = some false from by
     unfold az.bf dE;rw [Int.toNat_natCast,h2 c])) ?_
    refine Ev.cd (by decide) ?_;refine Ev.bind (Ev.one rfl) (Ev.aV (by omega) (Ev.bind (Ev.one rfl) ?_));rw [Int.toNat_natCast];refine Ev.aV (by rw [List.length_nil];omega) (Ev.bind (Ev.one rfl) (Ev.aV (by rw [List.length_append,List.length_nil];omega) (Ev.bind (Ev.one rfl) (Ev.bind (Ev.one rfl) (Ev.aV ?_ h)))));rw [List.length_append,List.length_append,List.length_nil,List.length_singleton];omega
   ·refine Ev.cd (by omega) ?_;refine Ev.bind (Ev.one rfl) (Ev.aV (by omega) (Ev.aV (by omega) (Ev.bind (Ev.one rfl) ?_)));rw [Int.toNat_natCast];refine Ev.aV (by rw [List.length_nil];omega) (Ev.bind (Ev.one rfl) (Ev.aV (by rw [List.length_append,List.length_nil];omega) (Ev.bind (Ev.one rfl) (Ev.bind (Ev.one rfl) (Ev.aV ?_ h)))));rw [List.length_append,List.length_append,List.length_nil,List.length_singleton];omega)
  (fun j hj ih=>by
   refine Ev.shift ?_;simp only [az.g1];refine Ev.aV (by omega) (Ev.aV (by omega) ?_)
   refine Ev.bind (Ev.one (show az.bf row (dE default o (j:Int)) x = some true from by
    unfold az.bf dE;rw [Int.toNat_natCast,h1 j hj])) ?_
   refine Ev.aV rfl ?_;rw [w1 hj (by omega)];exact ih)
 exact key 0 (Nat.zero_le _)
theorem az.gf_ev {α:Type} [Inhabited α] (row:α → List Int) (l0:List α) (hl:l0.length ≤ 1000000):Ev (fun k=>az.gf (az.bf row) k l0) (istR row l0):=by
 unfold az.gf
 have key:=Ev.down (G:=fun i k=>az.g0 (az.bf row) k (istR row (l0.take i)) l0 (l0.length:Int) (i:Int)) (R:=fun _=>istR row l0) l0.length
  (by
   refine Ev.shift ?_;simp only [az.g0];refine Ev.cd (by omega) ?_;rw [List.take_length];exact Ev.some)
  (fun i hi ih=>by
   refine Ev.shift ?_;simp only [az.g0];refine Ev.aV (by omega) (Ev.aV (by omega) (Ev.aV (by omega) ?_));refine az.g1_ev row _ _ l0 _ _ ?_ ?_
   ·rw [(jP row (l0.take i)).length_eq,List.length_take];omega
   ·rw [w1 hi (by omega)];have e:istR row (l0.take (i + 1)) = lp row (l0.getD i default) (istR row (l0.take i)):=gy (fun o x=>lp row x o) [] l0 default i hi;rw [e] at ih;have e2:dE default l0 (i:Int) = l0.getD i default:=by unfold dE;rw [Int.toNat_natCast]
    rw [e2];exact ih)
 exact key 0 (Nat.zero_le _)
def az.f (k:Nat) (l0:List (List Int)):Option (List (List Int)):=if l0.length ≤ 1000000 ∧ ∀ x ∈ l0,∀ y ∈ l0,bL.f k x y = some (decide (gE x y < 0)) then some (gA l0) else none
theorem az.callsN (k:Nat) (P0_:Nat → Prop) (u9000_:Value) (l0:List (List Int)) (r:List (List Int)) (w0 w:World) (hB:Below w0.heap.size w0 w) (ho0:Kd.S (Kd.slice 3 (Kd.int .i64)) 23 w w0.heap.size P0_ u9000_ l0) (h:az.f k l0 = some r) :
  Calls Tryz.prog 99 #[u9000_] w fun e w'=>∃ v0_:Value,e = .returned (v0_) ∧ Kd.S (Kd.slice 3 (Kd.int .i64)) 23 w' w0.heap.size (fun k_=>((P0_ k_ ∧ k_ < w.heap.size) ∨ some k_ = v0_.ownBlock)) v0_ r ∧ (∀ k_,v0_.ownBlock = some k_ → w.heap.size ≤ k_) ∧ Below w.heap.size w w':=by
 unfold az.f at h;split at h
 case isFalse=>exact absurd h (by simp)
 rename_i hc
 obtain ⟨hlen,hcmp⟩:=hc;obtain rfl:=Option.some.inj h;clear h;obtain ⟨f,h0,inner,ho,hr⟩:=ho0;rw [List.length_zipIdx] at ho;obtain ⟨hil,hv⟩:=ho;have hil:inner.length = l0.length:=by have h1:inner.length = l0.length * 1:=hil;omega
 have hM:∀ (i:Nat) (hi:i < l0.length),∃ A c,inner[i]'(by omega) = .slice A l0[i].length c ∧ Kd.R (Kd.int .i64) 3 w w0.heap.size (fun k=>((P0_ k ∧ some k ≠ u9000_.ownBlock) ∧ f k = i)) (.slice A l0[i].length c) l0[i]:=fun i hi=>by
  have h1:=hr.2 i (l0[i],i) (Kd.ot (List.getElem?_eq_getElem hi));have h2:(inner.drop (i * 1)).take 1 = [inner[i]'(by omega)]:=by rw [Nat.mul_one,List.drop_eq_getElem_cons (by omega),List.take_succ_cons,List.take_zero]
  obtain ⟨v',hv',hR⟩:=(show ∃ v',(inner.drop (i * 1)).take 1 = [v'] ∧ Kd.R (Kd.int .i64) 3 w w0.heap.size (fun k=>((P0_ k ∧ some k ≠ u9000_.ownBlock) ∧ f k = i)) v' l0[i] from h1);rw [h2] at hv';injection hv' with hv' _
  obtain ⟨A,c,e⟩:=Kd.b5 hR;subst e;exact ⟨A,c,hv',hR⟩
 rcases Nat.eq_zero_or_pos l0.length with hn|hn
 ·obtain rfl:=List.eq_nil_of_length_eq_zero hn
  have hR0:Kd.R (Kd.scalar (fun _:Unit=>Value.slice none 0 0) (fun _=>rfl)) 23 w w0.heap.size P0_ u9000_ ([]:List Unit):=⟨h0,inner,⟨by rw [hil];rfl,hv⟩,by
   rw [List.eq_nil_of_length_eq_zero hil];exact eH.none _ _⟩
  obtain ⟨A,c,rfl,hl,hC⟩:=Kd.jy hR0;refine (az.callsG (α:=Unit) (fun _=>none) (fun _=>0) (fun _=>0) (fun _ _=>none) 1 A c [] [] w (fun _ _ _ _ hz _=>absurd hz (by simp)) hC hl rfl).mono ?_;rintro e w' ⟨v0,rfl,hR,hb⟩
  have e0:gA ([]:List (List Int)) = []:=by simp [gA]
  rw [e0];obtain ⟨_,inner',ho',hr'⟩:=hR;have hnil:inner' = []:=List.eq_nil_of_length_eq_zero (by have h1:inner'.length = 0 * 1:=ho'.1;omega);subst hnil;exact ⟨v0,rfl,⟨fun _=>0,fun k hk=>.inr hk.symm,[],jv ho' hB.size,eH.none _ _⟩,fun k hk=>gw ho' k hk,hb⟩
  -- the parts of each element's cell, by the element's index
 let sA:Fin l0.length → Option Addr:=fun i=>(hM i.1 i.2).choose
 let sn:Fin l0.length → Nat:=fun i=>l0[i.1].length
 let sc:Fin l0.length → Nat:=fun i=>(hM i.1 i.2).choose_spec.choose
 let row:Fin l0.length → List Int:=fun i=>l0[i.1]
 have cellE:∀ (i:Fin l0.length),inner[i.1]'(by omega) = .slice (sA i) (sn i) (sc i) ∧ Kd.R (Kd.int .i64) 3 w w0.heap.size (fun k=>((P0_ k ∧ some k ≠ u9000_.ownBlock) ∧ f k = i.1)) (.slice (sA i) (sn i) (sc i)) (row i):=fun i=>(hM i.1 i.2).choose_spec.choose_spec
 have snE:∀ i,sn i = (row i).length:=fun _=>rfl
 have rowE:∀ i:Fin l0.length,row i = l0[i.1]:=fun _=>rfl
 haveI:Inhabited (Fin l0.length):=⟨⟨0,hn⟩⟩
 clear_value sA sn sc row
 have hdl:(List.finRange l0.length).length = l0.length:=List.length_finRange
 have hrow:(List.finRange l0.length).map row = l0:=by
  apply List.ext_getElem
  ·rw [List.length_map,hdl]
  ·intro j h1 h2;rw [List.getElem_map,rowE];congr 1
   simp
 have hperm:=jP row (List.finRange l0.length);have hsort:=nE row (List.finRange l0.length);rw [hrow] at hsort;obtain ⟨K,hK⟩:=az.gf_ev row (List.finRange l0.length) (by rw [hdl];exact hlen);have hK:=hK K (Nat.le_refl K)
 have hinner:inner = encs (fun x_:Fin l0.length=>Value.slice (sA x_) (sn x_) (sc x_)) (List.finRange l0.length):=by
  apply List.ext_getElem
  ·rw [gD,hdl,hil]
  ·intro j h1 h2;have hj:j < l0.length:=by omega
   have e1:=(cellE ⟨j,hj⟩).1;refine e1.trans ?_;simp [encs]
 have hR0:Kd.R (Kd.scalar (fun x_:Fin l0.length=>Value.slice (sA x_) (sn x_) (sc x_)) (fun _=>rfl)) 23 w w0.heap.size P0_ u9000_ (List.finRange l0.length):=Kd.mx (by rw [hdl,← hinner];exact ⟨by rw [hil,Nat.mul_one],hv⟩) h0;obtain ⟨A,c,hu,hl,hC⟩:=Kd.jy hR0;generalize hrs:istR row (List.finRange l0.length) = rs at hperm hsort hK
 have hrl:rs.length = l0.length:=hperm.length_eq.trans hdl
 have hnd:(rs.map (fun i=>i.1)).Nodup:=by
  refine ((hperm.map (fun i:Fin l0.length=>i.1)).nodup_iff).2 ?_;exact List.Pairwise.map _ (fun a b hab z=>hab (Fin.ext z)) (List.nodup_finRange l0.length)
 rw [hu];refine (az.callsG sA sn sc (az.bf row) K A c (List.finRange l0.length) rs w ?_ hC hl hK).mono ?_
 ·intro W x y b hb hW;obtain ⟨hx1,hx2,hx3⟩:=Kd.aI (Kd.ba (cellE x).2 hW);obtain ⟨hy1,hy2,hy3⟩:=Kd.aI (Kd.ba (cellE y).2 hW)
  have hb2:bL.f k (row x) (row y) = some b:=by
   rw [rowE,rowE,hcmp _ (List.getElem_mem _) _ (List.getElem_mem _)];have:=hb;unfold az.bf ltR at this;rw [rowE,rowE] at this;exact this
  rw [hx1,hy1];rw [hx1] at hx2;rw [hy1] at hy2;exact bL.calls k (sA x) (sc x) (row x) (sA y) (sc y) (row y) b W hx3 hx2 hy3 hy2 hb2
 ·rintro e w' ⟨v0,rfl,hR,hb⟩
  have ho':=Kd.kP hR;refine ⟨v0,rfl,⟨fun q=>(rs.map (fun i=>i.1)).idxOf (f q),fun q hq=>.inr hq.symm,encs (fun x_:Fin l0.length=>Value.slice (sA x_) (sn x_) (sc x_)) rs,?_,?_⟩,fun q hq=>gw ho' q hq,hb⟩
  ·rw [List.length_zipIdx,← hsort,List.length_map];exact jv ho' hB.size
  ·refine ⟨by rw [List.length_zipIdx,← hsort,List.length_map,gD];show _ = _ * 1;omega,?_⟩;intro j p hj;rw [← hsort,List.getElem?_zipIdx,Nat.zero_add] at hj;obtain ⟨x,hx,rfl⟩:=Option.map_eq_some_iff.1 hj;rw [List.getElem?_map] at hx;obtain ⟨i,hi,rfl⟩:=Option.map_eq_some_iff.1 hx;have hjl:j < rs.length:=(List.getElem?_eq_some_iff.1 hi).1;have hi2:rs[j] = i:=(List.getElem?_eq_some_iff.1 hi).2
   have hdr:((encs (fun x_:Fin l0.length=>Value.slice (sA x_) (sn x_) (sc x_)) rs).drop (j * 1)).take 1 = [Value.slice (sA i) (sn i) (sc i)]:=by
    rw [Nat.mul_one,List.drop_eq_getElem_cons (by rw [gD];exact hjl),List.take_succ_cons,List.take_zero];congr 1
    simp [encs,hi2]
   have hR2:=Kd.ba (Kd.fZ (cellE i).2) hb;refine ⟨_,hdr,Kd.cG hR2 (fun q hq=>⟨⟨.inl ⟨hq.1.1.1,hq.2.2.1⟩,fun z=>?_⟩,?_⟩)⟩
   ·have:=gw ho' q z.symm;have:=hq.2.2.1;omega
   ·show (rs.map (fun i=>i.1)).idxOf (f q) = j;have h3:=List.Nodup.idxOf_getElem hnd j (by rw [List.length_map];exact hjl);rw [List.getElem_map,hi2] at h3;rw [hq.1.2];exact h3
theorem az.calls (k:Nat) (P0_:Nat → Prop) (u9000_:Value) (l0:List (List Int)) (r:List (List Int)) (w0 w:World) (hB:Below w0.heap.size w0 w) (ho0:Kd.S (Kd.slice 3 (Kd.int .i64)) 23 w w0.heap.size P0_ u9000_ l0) (h:az.f k l0 = some r) :
  Calls Tryz.prog 99 #[u9000_] w fun e w'=>∃ v0_:Value,e = .returned (v0_) ∧ Kd.S (Kd.slice 3 (Kd.int .i64)) 23 w' w0.heap.size (fun k_=>(P0_ k_ ∨ w.heap.size ≤ k_)) v0_ r ∧ Below w0.heap.size w0 w' ∧ Kept w w' (fun k_=>P0_ k_):=by
 refine (az.callsN k P0_ u9000_ l0 r w0 w hB ho0 h).mono ?_;rintro e w' ⟨v0,rfl,h1,h2,h3⟩
 exact ⟨v0,rfl,Kd.eT h1 (fun q hq=>hq.elim (fun z=>.inl z.1) (fun z=>.inr (h2 q z.symm))),hB.trans (h3.mono hB.size),Kept.of_below h3 _⟩


mutual
def bM.l0:Nat → List Bool → List (List Int) → List Bool → Int → Int → Option ((List (List Int)))
 | 0,_,_,_,_,_=>none
 | k + 1,x0,x3,x9,x10,x11=>if x11 < x10 then (if 0 ≤ x11 then (if x11 < (x9.length:Int) then (if dE false x9 x11 = true then ((cx.f k x11).bind fun t5=>(bM.l1 k x0 x3 x11 true x9 x10 x11 t5 (t5.length:Int) 0)) else (bM.l0 k x0 x3 x9 x10 (wrap64 (x11 + 1)))) else (none)) else (none)) else ((az.f k x3).bind fun t2=>(some t2))
def bM.l1:Nat → List Bool → List (List Int) → Int → Bool → List Bool → Int → Int → List Int → Int → Int → Option ((List (List Int)))
 | 0,_,_,_,_,_,_,_,_,_,_=>none
 | k + 1,x0,x3,x4,x6,x9,x10,x11,x19,x20,x21=>if x21 < x20 then (if 0 ≤ x21 then (if x21 < (x19.length:Int) then (if x6 = true then (if 0 ≤ (rd x19 x21) then (if 0 ≤ (wrap64 (x4 - (shl .i64 1 (rd x19 x21)))) then (if (wrap64 (x4 - (shl .i64 1 (rd x19 x21)))) < (x0.length:Int) then (bM.l1 k x0 x3 x4 (!(dE false x0 (wrap64 (x4 - (shl .i64 1 (rd x19 x21)))))) x9 x10 x11 x19 x20 (wrap64 (x21 + 1))) else (none)) else (none)) else (none)) else (bM.l1 k x0 x3 x4 false x9 x10 x11 x19 x20 (wrap64 (x21 + 1)))) else (none)) else (none)) else (if x6 = true then ((cx.f k x4).bind fun t7=>(if x3.length < 5864062014805 then (bM.l0 k x0 (x3 ++ [t7]) x9 x10 (wrap64 (x11 + 1))) else (none))) else (bM.l0 k x0 x3 x9 x10 (wrap64 (x11 + 1))))
end
def bM.f (k:Nat) (l0:List Bool):Option ((List (List Int))):=bM.l0 k l0 ([]:List (List Int)) l0 (l0.length:Int) 0
theorem bM.calls (k:Nat) (A0:Option Addr) (c0:Nat) (l0:List Bool) (r:List (List Int)) (w:World) (hr0:Kd.C Kd.bool w A0 l0.length l0) (hc0:l0.length ≤ c0) (h:bM.f k l0 = some r) :
  Calls Tryz.prog 75 #[.slice A0 l0.length c0] w fun e w'=>∃ v0_:Value,e = .returned (v0_) ∧ Kd.S (Kd.slice 3 (Kd.int .i64)) 23 w' w.heap.size (fun _=>True) v0_ r ∧ Below w.heap.size w w':=by
 have HR0:=aM hr0;have HC0:=aM hc0;clear hr0 hc0;have HB:=aM (Below.refl w.heap.size w);have H:(bM.l0 k l0 ([]:List (List Int)) l0 (l0.length:Int) 0) = some r:=h;clear h;have H':=aM H;clear H;go_enter Tryz.func75,Tryz.ntmps75;go_wp2
 go_loopg [3,11] k (fun kq v3 v11 w'=>∃ (x3_1:List (List Int)) (x11_1:Int),v11 = .int .i64 x11_1 ∧ aj (bM.l0 kq l0 x3_1 l0 (l0.length:Int) x11_1 = some r) ∧ aj (kq ≤ k) ∧ aj (Kd.S (Kd.slice 3 (Kd.int .i64)) 23 w' w.heap.size (fun _=>True) v3 x3_1) ∧ aj (Below w.heap.size w w'))
 case atStart=>exact ⟨(([]:List (List Int))),(0),qrs,H',⟨Nat.le_refl _⟩,⟨by first|exact Kd.gW _ _ _ _ _|exact Kd.gQ _ _ _ _ _|exact Kd.gP _ _ _ _ _|exact Kd.gU _ _ _ _ _|exact Kd.gx _ _ _ _ _⟩,⟨by exact bw⟩⟩
 case round =>
  clear H';obtain ⟨x3_1,x11_1,rfl,HA,HK1,HO_3,HB⟩:=hrel
  cases gk with
  | zero=>exact absurd HA.out (by simp [bM.l0])
  | succ k1 =>
   have H:=HA.out;clear HA;simp only [bM.l0] at H;by_cases c2:x11_1 < (l0.length:Int)
   ·rw [if_pos c2] at H;have c2b0:=decide_eq_true c2;clear c2;replace H:=iN H;obtain ⟨c3,H⟩:=H;have c3b0:decide (0 ≤ x11_1) = true:=decide_eq_true c3;clear c3;replace H:=iN H;obtain ⟨c4,H⟩:=H;have c4b0:decide (x11_1 < (l0.length:Int)) = true:=decide_eq_true c4;clear c4;obtain ⟨bq5,hbq5⟩:∃ b_:Bool,b_ = (dE false l0 x11_1):=⟨_,rfl⟩;rw [← hbq5] at H;have Nbq5:=aM hbq5;clear hbq5;by_cases c6:bq5 = true
    ·subst c6;rw [if_pos rfl] at H;replace H:=oB H;obtain ⟨t33,A7,H⟩:=H;(try dsimp only at H)
     have H':=aM H;clear H;have p32:0 ≤ (x11_1:Int):=of_decide_eq_true ab;have q32:x11_1 < (l0.length:Int):=of_decide_eq_true ab;obtain ⟨ad32,e32,hx32_0⟩:=Kd.b8 HR0.out x11_1 p32 q32;(try rw [← Nbq5.out] at hx32_0)
     cases e32
     replace hx32_0:=(HB.out.cell (World.block_lt_of_cell? w _ hx32_0)).trans hx32_0;replace p32:=eq_true p32;replace q32:=eq_true q32;go_wp2_with (first|((with_reducible refine ai (f:=68) rfl ?_);refine gL 19 Tryz.func68 #[.int .i64 x11_1] ?_;(with_reducible refine (cx.calls k1 x11_1 t33 _ A7.out).mono ?_);rintro e w8 ⟨v34,rfl,ho0,hb⟩;refine ⟨_,rfl,?_⟩;replace HO_3:=aM (Kd.jj (qsa HO_3.out) (Kd.da ho0) hb);have HO35:=aM (Kd.cr ho0 (av bw));replace HB:=aM (ag bw hb);(try clear hb);(try clear ho0);obtain ⟨Ao9,co9,eo9⟩:=Kd.b5 HO35.out;subst eo9))
     go_loopg [6,21] k1 (fun kq v6 v21 w'=>∃ (x6_2:Bool) (x21_2:Int),v6 = .bool x6_2 ∧ v21 = .int .i64 x21_2 ∧ aj (bM.l1 kq l0 x3_1 x11_1 x6_2 l0 (l0.length:Int) x11_1 t33 (t33.length:Int) x21_2 = some r) ∧ aj (kq ≤ k1) ∧ aj (Kd.S (Kd.slice 3 (Kd.int .i64)) 23 w' w.heap.size (fun k_=>some k_ ≠ ((.slice Ao9 t33.length co9):Value).ownBlock) u3 x3_1) ∧ aj (Kd.R (Kd.int .i64) 3 w' w.heap.size (fun _=>True) (.slice Ao9 t33.length co9) t33) ∧ aj (Below w.heap.size w w'))
     case atStart=>exact ⟨(true),(0),qrs,qrs,H',⟨Nat.le_refl _⟩,⟨by (with_reducible repeat (first|apply Kd.ez|apply Kd.eh|apply Kd.fb));exact Kd.eT HO_3.out (fun _ hk=>hk.2)⟩,⟨qra HO35.out⟩,⟨by exact bw⟩⟩
     case round =>
      clear H';(try clear c2);(try clear c2b0);(try clear c3);(try clear c3b0);(try clear c4);(try clear c4b0);(try clear c6);(try clear hx32_0);(try clear p32);(try clear q32)
      obtain ⟨x6_2,x21_2,rfl,rfl,HA,HK2,HO_3,HO_19,HB⟩:=hrel
      cases gk with
      | zero=>exact absurd HA.out (by simp [bM.l1])
      | succ k2 =>
       have H:=HA.out;clear HA;simp only [bM.l1] at H;by_cases c10:x21_2 < (t33.length:Int)
       ·rw [if_pos c10] at H;have c10b0:=decide_eq_true c10;clear c10;replace H:=iN H;obtain ⟨c11,H⟩:=H;have c11b0:decide (0 ≤ x21_2) = true:=decide_eq_true c11;clear c11;replace H:=iN H;obtain ⟨c12,H⟩:=H;have c12b0:decide (x21_2 < (t33.length:Int)) = true:=decide_eq_true c12;clear c12;by_cases c13:x6_2 = true
        ·subst c13;rw [if_pos rfl] at H;replace H:=iN H;obtain ⟨c14,H⟩:=H;have c14b0:=eq_true c14;have c14b1:decide (0 ≤ (rd t33 x21_2)) = true:=decide_eq_true c14;clear c14;obtain ⟨ji15,hji15⟩:∃ j_:Int,(shl .i64 1 (rd t33 x21_2)) = j_:=⟨_,rfl⟩;(first|rw [hji15] at H|simp only [hji15] at H)
         have hji15_:(IntKind.i64.wrap (1 * 2 ^ min (rd t33 x21_2).toNat 64)) = ji15:=hji15;have hji15z:(rd t33 x21_2) ≤ 64 → (IntKind.i64.wrap (1 * 2 ^ (rd t33 x21_2).toNat)) = ji15:=fM hji15;have hji15u:(IntKind.i64.wrap (2 ^ min (rd t33 x21_2).toNat 64)) = ji15:=by have h_:=hji15_;rw [Int.one_mul] at h_;exact h_
         have hji15v:(rd t33 x21_2) ≤ 64 → (IntKind.i64.wrap (2 ^ (rd t33 x21_2).toNat)) = ji15:=fun hle_=>by have h_:=hji15z hle_;rw [Int.one_mul] at h_;exact h_
         have hji15y:(wrap64 (1 * 2 ^ min (rd t33 x21_2).toNat 64)) = ji15:=(cS _).symm.trans hji15_;have hji15x:(rd t33 x21_2) ≤ 64 → (wrap64 (1 * 2 ^ (rd t33 x21_2).toNat)) = ji15:=fun h_=>(cS _).symm.trans (hji15z h_)
         obtain ⟨ji16,hji16⟩:∃ j_:Int,(wrap64 (x11_1 - (ji15))) = j_:=⟨_,rfl⟩;(first|rw [hji16] at H|simp only [hji16] at H)
         have hji16w:(IntKind.i64.wrap (x11_1 - (ji15))) = ji16:=(cS _).trans hji16;replace H:=iN H;obtain ⟨c17,H⟩:=H;have c17b0:decide (0 ≤ (ji16)) = true:=decide_eq_true c17;clear c17;replace H:=iN H;obtain ⟨c18,H⟩:=H;have c18b0:decide ((ji16) < (l0.length:Int)) = true:=decide_eq_true c18;clear c18;have H':=aM H;clear H;have p36:0 ≤ (x21_2:Int):=of_decide_eq_true ab;have q36:x21_2 < (t33.length:Int):=of_decide_eq_true ab;obtain ⟨ad36,e36,hx36_0⟩:=Kd.dI (Kd.aI HO_19.out).2.2 x21_2 p36 q36;cases e36
         replace p36:=eq_true p36;replace q36:=eq_true q36;have p37:0 ≤ ((ji16):Int):=of_decide_eq_true ab;have q37:(ji16) < (l0.length:Int):=of_decide_eq_true ab;obtain ⟨ad37,e37,hx37_0⟩:=Kd.b8 HR0.out (ji16) p37 q37;(try rw [← Nbq5.out] at hx37_0)
         obtain rfl:ad32 = ad37:=(by injection e37);replace hx37_0:=(HB.out.cell (World.block_lt_of_cell? w _ hx37_0)).trans hx37_0;replace p37:=eq_true p37;replace q37:=eq_true q37;go_wp2
         go_roundg k2
         case measure=>have:=HK1.out;have:=HK2.out;omega
         case rel=>exact ⟨(!(dE false l0 (ji16))),(wrap64 (x21_2 + 1)),(by first|rfl|(simp;done)|(simp only [← hji16] <;> (first|rfl|simp))|(simp [*];done)),qrs,H',⟨by have:=HK1.out;have:=HK2.out;omega⟩,⟨qsa HO_3.out⟩,⟨qra HO_19.out⟩,⟨by exact bw⟩⟩
        ·replace c13:=Bool.eq_false_iff.mpr c13;subst c13;rw [if_neg (show ¬ (false = true) by decide)] at H;have H':=aM H;clear H;have p36:0 ≤ (x21_2:Int):=of_decide_eq_true ab;have q36:x21_2 < (t33.length:Int):=of_decide_eq_true ab;obtain ⟨ad36,e36,hx36_0⟩:=Kd.dI (Kd.aI HO_19.out).2.2 x21_2 p36 q36;cases e36
         replace p36:=eq_true p36;replace q36:=eq_true q36;go_wp2
         go_roundg k2
         case measure=>have:=HK1.out;have:=HK2.out;omega
         case rel=>exact ⟨(false),(wrap64 (x21_2 + 1)),qrs,qrs,H',⟨by have:=HK1.out;have:=HK2.out;omega⟩,⟨qsa HO_3.out⟩,⟨qra HO_19.out⟩,⟨by exact bw⟩⟩
       ·rw [if_neg c10] at H;have c10b0:=decide_eq_false c10;clear c10;by_cases c19:x6_2 = true
        ·subst c19;rw [if_pos rfl] at H;replace H:=oB H;obtain ⟨t38,A20,H⟩:=H;(try dsimp only at H)
         replace H:=iN H;obtain ⟨c21,H⟩:=H;have LMc21:=aM c21;clear c21;obtain ⟨y41,hy41⟩:∃ y_:List (List Int),y_ = (x3_1 ++ [t38]):=⟨_,rfl⟩;replace H:(bM.l0 k2 l0 y41 l0 (l0.length:Int) (wrap64 (x11_1 + 1))) = some r:=yR hy41 H;have Ny41:=aM hy41;clear hy41;have H':=aM H;clear H;go_wp2_with (first|((with_reducible refine ai (f:=68) rfl ?_);refine gL 40 Tryz.func68 #[.int .i64 x11_1] ?_;(with_reducible refine (cx.calls k2 x11_1 t38 _ A20.out).mono ?_);rintro e w22 ⟨v39,rfl,ho0,hb⟩;refine ⟨_,rfl,?_⟩;replace HO_3:=aM (Kd.jj (qsa HO_3.out) (Kd.da ho0) hb);have HO40:=aM (Kd.cr (Kd.gv ho0 (Kd.gp (qra HO_19.out))) (av bw));replace HO_19:=aM (Kd.eN (qra HO_19.out) (Kd.da ho0) hb);replace HB:=aM (ag bw hb);(try clear hb);(try clear hk);(try clear ho0);obtain ⟨Ao24,co24,eo24⟩:=Kd.b5 HO40.out;subst eo24)|((with_reducible refine dr (b:=.append) (xs:=#[.tmp 38,.tmp 41]) rfl ?_);at_builtin;refine Kd.mB (Kd.slice 3 (Kd.int .i64)) (w0:=w) w.heap.size rfl (.tmp 38) (.tmp 41) 28 23 (.slice none 0 0) 24 rfl Tryz.underlying28 ik rfl (by decide) (by omega) u3 x3_1 t38 [.slice Ao24 t38.length co24] (fun k_=>some k_ ≠ (.slice Ao9 t33.length co9:Value).ownBlock) (fun k_=>some k_ = (.slice Ao24 t38.length co24:Value).ownBlock) rfl rfl ?aP (fun k_ hk_=>((Kd.cG (ok':=fun k_=>((fun k_=>some k_ ≠ (.slice Ao9 t33.length co9:Value).ownBlock)) k_ ∧ some k_ ≠ (u3:Value).ownBlock) (Kd.eU (HO40.out) (Kd.iX HO_3.out) (by decide)) (fun k_ hk=>⟨hk.1.2,hk.2⟩))).1 k_ hk_.symm) ?aF ?aO ?aB ?aS ?aL ?_;(case aP=>exact Kd.M_row (Kd.cG (Kd.kY rfl (Kd.cG (ok':=fun k_=>((fun k_=>some k_ ≠ (.slice Ao9 t33.length co9:Value).ownBlock)) k_ ∧ some k_ ≠ (u3:Value).ownBlock) (Kd.eU (HO40.out) (Kd.iX HO_3.out) (by decide)) (fun k_ hk=>⟨hk.1.2,hk.2⟩))) (fun _ h_=>h_)));(case aB=>exact bw);(case aF=>exact (fun k_ hk=>Kd.bA (Kd.gp (qra HO_19.out)) k_ hk));(case aO=>exact (by (with_reducible repeat (first|apply Kd.ez|apply Kd.eh|apply Kd.fb));exact Kd.eT HO_3.out (fun k_ hk=>⟨hk.1,fun e_=>hk.2 e_⟩)));(case aS=>exact (av bw));(case aL=>have:=LMc21.out;omega);intro v42 w23 ho hb hg hat;rw [← Ny41.out] at ho;replace HO_19:=aM (Kd.eW (qra HO_19.out) (Kd.iX (qsa HO_3.out)) (by decide) hg);replace HB:=aM (hb);have HO43:=aM (ho);clear HO_3;clear HO40;clear ho hb hg hat))
         go_roundg k2
         case measure=>have:=HK1.out;have:=HK2.out;omega
         case rel=>exact ⟨(y41),(wrap64 (x11_1 + 1)),qrs,H',⟨by have:=HK1.out;have:=HK2.out;omega⟩,⟨by (with_reducible repeat (first|apply Kd.ez|apply Kd.eh|apply Kd.fb));exact Kd.eT HO43.out (fun _ hk=>trivial)⟩,⟨by exact bw⟩⟩
        ·replace c19:=Bool.eq_false_iff.mpr c19;subst c19;rw [if_neg (show ¬ (false = true) by decide)] at H;have H':=aM H;clear H;go_wp2
         go_roundg k2
         case measure=>have:=HK1.out;have:=HK2.out;omega
         case rel=>exact ⟨(x3_1),(wrap64 (x11_1 + 1)),qrs,H',⟨by have:=HK1.out;have:=HK2.out;omega⟩,⟨by (with_reducible repeat (first|apply Kd.ez|apply Kd.eh|apply Kd.fb));exact Kd.eT HO_3.out (fun _ hk=>trivial)⟩,⟨by exact bw⟩⟩
    ·replace c6:=Bool.eq_false_iff.mpr c6;subst c6;rw [if_neg (show ¬ (false = true) by decide)] at H;have H':=aM H;clear H;have p32:0 ≤ (x11_1:Int):=of_decide_eq_true ab;have q32:x11_1 < (l0.length:Int):=of_decide_eq_true ab;obtain ⟨ad32,e32,hx32_0⟩:=Kd.b8 HR0.out x11_1 p32 q32;(try rw [← Nbq5.out] at hx32_0)
     cases e32
     replace hx32_0:=(HB.out.cell (World.block_lt_of_cell? w _ hx32_0)).trans hx32_0;replace p32:=eq_true p32;replace q32:=eq_true q32;go_wp2
     go_roundg k1
     case measure=>have:=HK1.out;omega
     case rel=>exact ⟨(x3_1),(wrap64 (x11_1 + 1)),qrs,H',⟨by have:=HK1.out;omega⟩,⟨qsa HO_3.out⟩,⟨by exact bw⟩⟩
   ·rw [if_neg c2] at H;have c2b0:=decide_eq_false c2;clear c2;replace H:=oB H;obtain ⟨t29,A25,H⟩:=H;(try dsimp only at H)
    obtain rfl:=Option.some.inj H;obtain ⟨Ao26,co26,eo26⟩:=Kd.fH HO_3.out;subst eo26;go_wp2_with (first|((with_reducible refine ai (f:=99) rfl ?_);refine gL 45 Tryz.func99 #[.slice Ao26 x3_1.length co26] ?_;(with_reducible refine (az.calls k1 (fun k_=>True) (.slice Ao26 x3_1.length co26) x3_1 t29 w _ ?side1 ?side2 A25.out).mono ?_);(case side1=>exact bw);(case side2=>exact HO_3.out);rintro e w27 ⟨v30,rfl,ho0,hb,hkp⟩;refine ⟨_,rfl,?_⟩;have HO31:=aM (Kd.eT (ok':=fun k_=>True) ho0 (fun k_ hk_=>trivial));replace HB:=aM (hb);clear HO_3;(try clear hb);(try clear hkp);(try clear ho0)))
    go_ret
    exact ⟨_,eE,by (with_reducible repeat (first|apply Kd.ez|apply Kd.eh|apply Kd.fb));exact HO31.out,by exact bw⟩


def eu.f (k:Nat) (a0:Int) (l1:List Bool):Option (Int × (List (List Int))):=(bM.f k l1).bind fun t2=>(some (a0,t2))
theorem eu.calls (k:Nat) (a0:Int) (A1:Option Addr) (c1:Nat) (l1:List Bool) (r1:Int) (r2:List (List Int)) (w:World) (hr1:Kd.C Kd.bool w A1 l1.length l1) (hc1:l1.length ≤ c1) (h:eu.f k a0 l1 = some (r1,r2)) :
  Calls Tryz.prog 37 #[.int .i64 a0,.slice A1 l1.length c1] w fun e w'=>∃ v1_:Value,e = .returned (.agg #[.int .i64 r1,v1_]) ∧ Kd.S (Kd.slice 3 (Kd.int .i64)) 23 w' w.heap.size (fun _=>True) v1_ r2 ∧ Below w.heap.size w w':=by
 have hu30:=Tryz.underlying30;have HR1:=aM hr1;have HC1:=aM hc1;clear hr1 hc1;have HB:=aM (Below.refl w.heap.size w);have H:((bM.f k l1).bind fun t9=>(some (a0,t9))) = some (r1,r2):=h;clear h;replace H:=oB H;obtain ⟨t9,A3,H⟩:=H;(try dsimp only at H)
 simp only [Option.some.injEq,Prod.mk.injEq] at H;obtain ⟨rfl,rfl⟩:=H;go_enter Tryz.func37,Tryz.ntmps37;go_wp2_with (first|((with_reducible refine aC (N:=4) rfl ?_);refine bE 4 #[.int .i64 0,.slice none 0 0] 30 ?_;intro gb8 hg w4 hbox hb;have BK8:=aM (hbox);have GW8:=aM (gS hg);have GE8:=aM (gS hg);replace HB:=aM (ag bw hb);clear hb hbox hg)|((with_reducible refine ai (f:=75) rfl ?_);refine gL 7 Tryz.func75 #[.slice A1 l1.length c1] ?_;(with_reducible refine (bM.calls k _ _ l1 t9 _ ?side1 ?side2 A3.out).mono ?_);(case side1=>exact qcs HR1.out HB.out);(case side2=>exact HC1.out);rintro e w5 ⟨v10,rfl,ho0,hb⟩;refine ⟨_,rfl,?_⟩;have HO11:=aM (Kd.gr ho0 (av bw));replace BK8:=aM (bB BK8.out hb);replace HB:=aM (ag bw hb);(try clear hb);(try clear ho0);obtain ⟨Ao6,co6,eo6⟩:=Kd.fH HO11.out;subst eo6;have hcz7_0:=cz BK8.out 0;have hcz7_1:=cz BK8.out 1;have hfz7_0:=af BK8.out 0;have hfz7_1:=af BK8.out 1))
 refine bodyPost_ret (results_cell_row rfl _ _ gb8 30 #[.int .i64 a0,.slice Ao6 t9.length co6] (0,0) _ rfl (by (with_reducible repeat (first|refine ax ?_ _|refine an ?_|refine au ?_ _));refine bI (cs:=#[.int .i64 a0,.slice none 0 0]) ?_ 1 _ rfl;(with_reducible repeat (first|refine ax ?_ _|refine an ?_|refine au ?_ _));refine bI (cs:=#[.int .i64 0,.slice none 0 0]) ?_ 0 _ rfl;(with_reducible repeat (first|refine ax ?_ _|refine an ?_|refine au ?_ _));exact BK8.out) Tryz.underlying30 rfl kR) rfl ?_;exact ⟨_,eE,by (with_reducible repeat (first|apply Kd.ez|apply Kd.eh|apply Kd.fb));exact Kd.eT (Kd.gh (p:=⟨gb8,1,none⟩) (Kd.gh (p:=⟨gb8,0,none⟩) (Kd.fL HO11.out BK8.out (by decide)) (fun _ hk=>hk.2) (.int .i64 a0)) (fun _ hk=>hk.2) (.slice Ao6 t9.length co6)) (fun _ hk=>trivial),by exact bw⟩


def dc.f (k:Nat) (l0:List (aa)):Option (Int × (List (List Int)) × Bool):=(aW.f k l0).bind fun t2=>(if t2 = true then (if 0 < (l0.length:Int) then ((aT.f k l0 true).bind fun t3=>((eu.f k (((ae l0 0).f1).length:Int) t3).bind fun bt4=>(some (bt4.1,bt4.2,true)))) else (none)) else (some (0,([]:List (List Int)),false)))
def dc.T3:Bool × List (List Nat × List Nat):=(true,[([],[]),([0],[0]),([1],[1]),([2],[2]),([3],[3]),([],[]),([5],[5]),([4,6,6],[4,6]),([7,7,0,1,2,3,4,5,6,7],[7]),([8,0,1,2,3,4,5,6,7,8],[])])
def dc.B3:List Nat:=[0,1,3,7,15,0,32,127,255,511]
theorem dc.tab3:il .any (opsOf Tryz.f9 3) = dc.T3:=by kernel_rfl
theorem dc.bits3:eZ dc.T3.2 dc.B3 = true:=by kernel_rfl
theorem dc.calls (k:Nat) (A0:Option Addr) (c0:Nat) (l0:List (aa)) (r1:Int) (r2:List (List Int)) (r3:Bool) (w:World) (hr0:Kd.C ak w A0 l0.length l0) (hc0:l0.length ≤ c0) (h:dc.f k l0 = some (r1,r2,r3)) :
  Calls Tryz.prog 9 #[.slice A0 l0.length c0] w fun e w'=>∃ v1_:Value,e = .returned (.tuple #[.agg #[.int .i64 r1,v1_],.bool r3]) ∧ Kd.S (Kd.slice 3 (Kd.int .i64)) 23 w' w.heap.size (fun _=>True) v1_ r2 ∧ Below w.heap.size w w':=by
 have hu30:=Tryz.underlying30;have HR0:=aM hr0;have HC0:=aM hc0;clear hr0 hc0;have HB:=aM (Below.refl w.heap.size w);have H:((aW.f k l0).bind fun t20=>(if t20 = true then (if 0 < (l0.length:Int) then ((aT.f k l0 true).bind fun t22=>((eu.f k (((ae l0 0).f1).length:Int) t22).bind fun bt25=>(some (bt25.1,bt25.2,true)))) else (none)) else (some (0,([]:List (List Int)),false)))) = some (r1,r2,r3):=h;clear h;replace H:=oB H;obtain ⟨t20,A2,H⟩:=H;(try dsimp only at H)
 by_cases c3:t20 = true
 ·subst c3;rw [if_pos rfl] at H;replace H:=iN H;obtain ⟨c4,H⟩:=H;have c4b0:decide (0 < (l0.length:Int)) = true:=decide_eq_true c4;have c4b1:decide (0 < l0.length) = true:=decide_eq_true (by omega);clear c4;replace H:=oB H;obtain ⟨t22,A5,H⟩:=H;(try dsimp only at H)
  replace H:=oB H;obtain ⟨⟨t25,t26⟩,A6,H⟩:=H;(try dsimp only at H)
  simp only [Option.some.injEq,Prod.mk.injEq] at H;obtain ⟨rfl,rfl,rfl⟩:=H;go_enter Tryz.func9,Tryz.ntmps9
  try go_wp2_with (first|((with_reducible refine aC (N:=2) rfl ?_);refine bE 2 #[.int .i64 0,.slice none 0 0] 30 ?_;intro gb19 hg w7 hbox hb;have BK19:=aM (hbox);have GW19:=aM (gS hg);have GE19:=aM (gS hg);replace HB:=aM (ag bw hb);clear hb hbox hg)|((with_reducible refine ai (f:=36) rfl ?_);refine gL 5 Tryz.func36 #[.slice A0 l0.length c0] ?_;(with_reducible refine (aW.calls k _ _ l0 true _ ?side1 ?side2 A2.out).mono ?_);(case side1=>exact qcs HR0.out HB.out);(case side2=>exact HC0.out);rintro e w8 ⟨rfl,hb⟩;refine ⟨_,rfl,?_⟩;replace BK19:=aM (bB BK19.out hb);replace HB:=aM (ag bw hb);(try clear hb)))
  replace BK19:=aM (an BK19.out);replace HB:=aM (bg HB.out);have p21:0 ≤ (0:Int):=(by omega);have q21:0 < (l0.length:Int):=of_decide_eq_true ab;obtain ⟨ad21,A21_1,c344_1,e21,hx21_0,hx21_1,hl21_1,hi21_1⟩:=bD HR0.out 0 p21 q21;have hw21_1:=hx21_1;(try rw [show ((0:Int)).toNat = 0 from rfl] at hw21_1)
  (try rw [show 0 * 2 = 0 from rfl] at hw21_1)
  (try rw [Addr.add_zero'] at hw21_1)
  have hw21_0:=hx21_0;(try rw [show ((0:Int)).toNat = 0 from rfl] at hw21_0)
  (try rw [show 0 * 2 = 0 from rfl] at hw21_0)
  (try rw [Addr.add_zero'] at hw21_0)
  cases e21
  have qi344:(0 < l0.length) = True:=eq_true (by omega);(try rw [show ((0:Int)).toNat = 0 from rfl] at hx21_0)
  (try rw [show 0 * 2 = 0 from rfl] at hx21_0)
  (try rw [Addr.add_zero'] at hx21_0)
  (try rw [show ((0:Int)).toNat = 0 from rfl] at hx21_1)
  (try rw [show 0 * 2 = 0 from rfl] at hx21_1)
  (try rw [Addr.add_zero'] at hx21_1)
  replace hx21_0:=(HB.out.cell (World.block_lt_of_cell? w _ hx21_0)).trans hx21_0;replace hx21_1:=(HB.out.cell (World.block_lt_of_cell? w _ hx21_1)).trans hx21_1;have HR21_1:=aM hi21_1;have HC21_1:=aM hl21_1;clear hi21_1 hl21_1;replace p21:=eq_true p21;replace q21:=eq_true q21;refine eQ (n:=10) (S:=fun w'=>w'.cell? ad21 = some (.int .i64 ((ae l0 0).f0)) ∧ w'.cell? ⟨ad21.block,ad21.off + 1,none⟩ = some (.slice A21_1 ((ae l0 0).f1).length c344_1)) (ds:=[]) (mA 10 0) kR rfl rfl ⟨((HB.out.cell (World.block_lt_of_cell? w _ hw21_0)).trans hw21_0),((HB.out.cell (World.block_lt_of_cell? w _ hw21_1)).trans hw21_1)⟩ (fun hHeld=>?_);refine dx dc.tab3 dc.bits3 (fun HT_ HW_=>?_)
  generalize w8.drew = w9 at BK19 HB HR21_1 hx21_0 hx21_1 hHeld ⊢
  refine pT 0 8 HT_.out ?_;refine pT 1 9 HT_.out ?_;refine pT 2 10 HT_.out ?_;refine pT 5 13 HT_.out ?_;refine pK 3 11 HT_.out HW_.out hHeld ?_;refine pT 4 12 HT_.out ?_;refine oN 6 (some 14) HT_.out fun K hK=>?_
  refine gC Tryz.func32 #[.slice (some ad21) l0.length c0,.bool true] ?_
  with_reducible refine (aT.calls k _ _ l0 true t22 _ ?side1 ?side2 A5.out).mono ?_
  (case side1=>exact qcs HR0.out HB.out)
  (case side2=>exact HC0.out)
  rintro e w10 ⟨v23,rfl,ho0,hb⟩
  refine ⟨_,rfl,?_⟩;have HO24:=aM (Kd.cr ho0 (av bw));replace BK19:=aM (bB BK19.out hb);replace HB:=aM (ag bw hb);(try clear hb)
  (try clear ho0)
  obtain ⟨Ao11,co11,eo11⟩:=Kd.b5 HO24.out;(first|subst eo11|(injection eo11 with f1_ f2_ f3_;have f4_:=f1_.symm;have f5_:=f3_.symm;clear f1_ f2_ f3_;subst f4_;subst f5_))
  refine hK.out _ _ ⟨((HB.out.cell (World.block_lt_of_cell? w _ hw21_0)).trans hw21_0),((HB.out.cell (World.block_lt_of_cell? w _ hw21_1)).trans hw21_1)⟩ (fun hHeld=>?_);clear hK K;refine nM 14 ?_;refine oN 7 (some 15) HT_.out fun K hK=>?_
  refine gC Tryz.func37 #[.int .i64 (((ae l0 0).f1).length:Int),.slice Ao11 t22.length co11] ?_
  with_reducible refine (eu.calls k (((ae l0 0).f1).length:Int) _ _ t22 t25 t26 _ ?side1 ?side2 A6.out).mono ?_
  (case side1=>exact qc (Kd.aI HO24.out).2.2)
  (case side2=>exact (Kd.aI HO24.out).2.1)
  rintro e w12 ⟨v27,rfl,ho0,hb⟩
  refine ⟨_,rfl,?_⟩;replace HO24:=aM (Kd.ba (qra HO24.out) hb);have HO28:=aM (Kd.gr ho0 (av bw));replace BK19:=aM (bB BK19.out hb);replace HB:=aM (ag bw hb);(try clear hb)
  (try clear ho0)
  obtain ⟨Ao14,co14,eo14⟩:=Kd.fH HO28.out;(first|subst eo14|(injection eo14 with f1_ f2_ f3_;have f4_:=f1_.symm;have f5_:=f3_.symm;clear f1_ f2_ f3_;subst f4_;subst f5_))
  refine hK.out _ _ ⟨((HB.out.cell (World.block_lt_of_cell? w _ hw21_0)).trans hw21_0),((HB.out.cell (World.block_lt_of_cell? w _ hw21_1)).trans hw21_1)⟩ (fun hHeld=>?_);clear hK K;refine nM 15 ?_;refine oN 8 none HT_.out fun K hK=>?_
  have hs13:w12.cell? ⟨gb19,0,none⟩ = some (.int .i64 0):=(aE BK19.out 0).trans rfl;have hfs13:=af BK19.out 0;have hs15:w12.cell? ⟨gb19,1,none⟩ = some (.slice none 0 0):=(aE BK19.out 1).trans rfl;have hfs15:=af BK19.out 1;refine ma (w1:=?_) (by rfl) rfl ?_ ?_;rotate_left
  ·go_simp
   rfl
  refine hK.out _ _ ⟨((cell_far (p:=⟨gb19,_,none⟩) (by first|exact Nat.ne_of_lt (Nat.lt_of_lt_of_le (by have:=World.block_lt_of_cell? _ _ hw21_0;first|rwa [add_block] at this|exact this) GW19.out)|(rw [add_block];exact Nat.ne_of_lt (Nat.lt_of_lt_of_le (by have:=World.block_lt_of_cell? _ _ hw21_0;first|rwa [add_block] at this|exact this) GW19.out))|(show (Addr.add _ _).block ≠ _;rw [add_block];exact Nat.ne_of_lt (Nat.lt_of_lt_of_le (by have:=World.block_lt_of_cell? _ _ hw21_0;first|rwa [add_block] at this|exact this) GW19.out))|(dsimp only;exact Nat.ne_of_lt (Nat.lt_of_lt_of_le (by have:=World.block_lt_of_cell? _ _ hw21_0;first|rwa [add_block] at this|exact this) GW19.out))) _).trans (((cell_far (p:=⟨gb19,_,none⟩) (by first|exact Nat.ne_of_lt (Nat.lt_of_lt_of_le (by have:=World.block_lt_of_cell? _ _ hw21_0;first|rwa [add_block] at this|exact this) GW19.out)|(rw [add_block];exact Nat.ne_of_lt (Nat.lt_of_lt_of_le (by have:=World.block_lt_of_cell? _ _ hw21_0;first|rwa [add_block] at this|exact this) GW19.out))|(show (Addr.add _ _).block ≠ _;rw [add_block];exact Nat.ne_of_lt (Nat.lt_of_lt_of_le (by have:=World.block_lt_of_cell? _ _ hw21_0;first|rwa [add_block] at this|exact this) GW19.out))|(dsimp only;exact Nat.ne_of_lt (Nat.lt_of_lt_of_le (by have:=World.block_lt_of_cell? _ _ hw21_0;first|rwa [add_block] at this|exact this) GW19.out))) _).trans (hHeld.1)))),((cell_far (p:=⟨gb19,_,none⟩) (by first|exact Nat.ne_of_lt (Nat.lt_of_lt_of_le (by have:=World.block_lt_of_cell? _ _ hw21_1;first|rwa [add_block] at this|exact this) GW19.out)|(rw [add_block];exact Nat.ne_of_lt (Nat.lt_of_lt_of_le (by have:=World.block_lt_of_cell? _ _ hw21_1;first|rwa [add_block] at this|exact this) GW19.out))|(show (Addr.add _ _).block ≠ _;rw [add_block];exact Nat.ne_of_lt (Nat.lt_of_lt_of_le (by have:=World.block_lt_of_cell? _ _ hw21_1;first|rwa [add_block] at this|exact this) GW19.out))|(dsimp only;exact Nat.ne_of_lt (Nat.lt_of_lt_of_le (by have:=World.block_lt_of_cell? _ _ hw21_1;first|rwa [add_block] at this|exact this) GW19.out))) _).trans (((cell_far (p:=⟨gb19,_,none⟩) (by first|exact Nat.ne_of_lt (Nat.lt_of_lt_of_le (by have:=World.block_lt_of_cell? _ _ hw21_1;first|rwa [add_block] at this|exact this) GW19.out)|(rw [add_block];exact Nat.ne_of_lt (Nat.lt_of_lt_of_le (by have:=World.block_lt_of_cell? _ _ hw21_1;first|rwa [add_block] at this|exact this) GW19.out))|(show (Addr.add _ _).block ≠ _;rw [add_block];exact Nat.ne_of_lt (Nat.lt_of_lt_of_le (by have:=World.block_lt_of_cell? _ _ hw21_1;first|rwa [add_block] at this|exact this) GW19.out))|(dsimp only;exact Nat.ne_of_lt (Nat.lt_of_lt_of_le (by have:=World.block_lt_of_cell? _ _ hw21_1;first|rwa [add_block] at this|exact this) GW19.out))) _).trans (hHeld.2))))⟩ (fun hHeld=>?_);clear hK K;refine pT 9 3 HT_.out ?_;refine fK (eA HT_.out kR) ?_
  try go_wp2
  refine bodyPost_ret (dV rfl _ _ gb19 30 #[.int .i64 t25,.slice Ao14 t26.length co14] (0,0) _ rfl (by (with_reducible repeat (first|refine ax ?_ _|refine an ?_|refine au ?_ _));refine bI (cs:=#[.int .i64 t25,.slice none 0 0]) ?_ 1 _ rfl;(with_reducible repeat (first|refine ax ?_ _|refine an ?_|refine au ?_ _));refine bI (cs:=#[.int .i64 0,.slice none 0 0]) ?_ 0 _ rfl;(with_reducible repeat (first|refine ax ?_ _|refine an ?_|refine au ?_ _));exact BK19.out) Tryz.underlying30 rfl kR) rfl ?_;exact ⟨_,eE,by (with_reducible repeat (first|apply Kd.ez|apply Kd.eh|apply Kd.fb));exact Kd.eT (Kd.gh (p:=⟨gb19,1,none⟩) (Kd.gh (p:=⟨gb19,0,none⟩) (Kd.fL HO28.out BK19.out (by decide)) (fun _ hk=>hk.2) (.int .i64 t25)) (fun _ hk=>hk.2) (.slice Ao14 t26.length co14)) (fun _ hk=>trivial),by exact bw⟩
 ·replace c3:=Bool.eq_false_iff.mpr c3;subst c3;rw [if_neg (show ¬ (false = true) by decide)] at H;simp only [Option.some.injEq,Prod.mk.injEq] at H;obtain ⟨rfl,rfl,rfl⟩:=H;go_enter Tryz.func9,Tryz.ntmps9;go_wp2_with (first|((with_reducible refine aC (N:=2) rfl ?_);refine bE 2 #[.int .i64 0,.slice none 0 0] 30 ?_;intro gb19 hg w16 hbox hb;have BK19:=aM (hbox);have GW19:=aM (gS hg);have GE19:=aM (gS hg);replace HB:=aM (ag bw hb);clear hb hbox hg)|((with_reducible refine ai (f:=36) rfl ?_);refine gL 5 Tryz.func36 #[.slice A0 l0.length c0] ?_;(with_reducible refine (aW.calls k _ _ l0 false _ ?side1 ?side2 A2.out).mono ?_);(case side1=>exact qcs HR0.out HB.out);(case side2=>exact HC0.out);rintro e w17 ⟨rfl,hb⟩;refine ⟨_,rfl,?_⟩;replace BK19:=aM (bB BK19.out hb);replace HB:=aM (ag bw hb);(try clear hb);(try clear hk);have hcz18_0:=cz BK19.out 0;have hcz18_1:=cz BK19.out 1;have hfz18_0:=af BK19.out 0;have hfz18_1:=af BK19.out 1))
  refine bodyPost_ret (dV rfl _ _ gb19 30 #[.int .i64 0,.slice none 0 0] (0,0) _ rfl (by (with_reducible repeat (first|refine ax ?_ _|refine an ?_|refine au ?_ _));refine bI (cs:=#[.int .i64 0,.slice none 0 0]) ?_ 1 _ rfl;(with_reducible repeat (first|refine ax ?_ _|refine an ?_|refine au ?_ _));refine bI (cs:=#[.int .i64 0,.slice none 0 0]) ?_ 0 _ rfl;(with_reducible repeat (first|refine ax ?_ _|refine an ?_|refine au ?_ _));exact BK19.out) Tryz.underlying30 rfl kR) rfl ?_;exact ⟨_,eE,by first|exact Kd.gW _ _ _ _ _|exact Kd.gQ _ _ _ _ _|exact Kd.gP _ _ _ _ _|exact Kd.gU _ _ _ _ _|exact Kd.gx _ _ _ _ _,by exact bw⟩


def dF.f (k:Nat) (l0:List (aa)):Option (Int × (List (List Int)) × Bool):=(aQ.f k l0).bind fun t1=>(if t1 = true then ((aJ.f k l0 true).bind fun bt2=>((cb.f k bt2.1 bt2.2).bind fun bt3=>(some (bt3.1,bt3.2,true)))) else (some (0,([]:List (List Int)),false)))
theorem dF.calls (k:Nat) (A0:Option Addr) (c0:Nat) (l0:List (aa)) (r1:Int) (r2:List (List Int)) (r3:Bool) (w:World) (hr0:Kd.C ak w A0 l0.length l0) (hc0:l0.length ≤ c0) (h:dF.f k l0 = some (r1,r2,r3)) :
  Calls Tryz.prog 10 #[.slice A0 l0.length c0] w fun e w'=>∃ v1_:Value,e = .returned (.tuple #[.agg #[.int .i64 r1,v1_],.bool r3]) ∧ Kd.S (Kd.slice 3 (Kd.int .i64)) 23 w' w.heap.size (fun _=>True) v1_ r2 ∧ Below w.heap.size w w':=by
 have hu30:=Tryz.underlying30;have HR0:=aM hr0;have HC0:=aM hc0;clear hr0 hc0;have HB:=aM (Below.refl w.heap.size w);have H:((aQ.f k l0).bind fun t17=>(if t17 = true then ((aJ.f k l0 true).bind fun bt19=>((cb.f k bt19.1 bt19.2).bind fun bt23=>(some (bt23.1,bt23.2,true)))) else (some (0,([]:List (List Int)),false)))) = some (r1,r2,r3):=h;clear h;replace H:=oB H;obtain ⟨t17,A2,H⟩:=H;(try dsimp only at H)
 by_cases c3:t17 = true
 ·subst c3;rw [if_pos rfl] at H;replace H:=oB H;obtain ⟨⟨t19,t20⟩,A4,H⟩:=H;(try dsimp only at H)
  replace H:=oB H;obtain ⟨⟨t23,t24⟩,A5,H⟩:=H;(try dsimp only at H)
  simp only [Option.some.injEq,Prod.mk.injEq] at H;obtain ⟨rfl,rfl,rfl⟩:=H;go_enter Tryz.func10,Tryz.ntmps10;go_wp2_with (first|((with_reducible refine aC (N:=2) rfl ?_);refine bE 2 #[.int .i64 0,.slice none 0 0] 30 ?_;intro gb16 hg w6 hbox hb;have BK16:=aM (hbox);have GW16:=aM (gS hg);have GE16:=aM (gS hg);replace HB:=aM (ag bw hb);clear hb hbox hg)|((with_reducible refine ai (f:=18) rfl ?_);refine gL 5 Tryz.func18 #[.slice A0 l0.length c0] ?_;(with_reducible refine (aQ.calls k _ _ l0 true _ ?side1 ?side2 A2.out).mono ?_);(case side1=>exact qcs HR0.out HB.out);(case side2=>exact HC0.out);rintro e w7 ⟨rfl,hb⟩;refine ⟨_,rfl,?_⟩;replace BK16:=aM (bB BK16.out hb);replace HB:=aM (ag bw hb);(try clear hb))|((with_reducible refine ai (f:=34) rfl ?_);refine gL 9 Tryz.func34 #[.slice A0 l0.length c0,.bool true] ?_;(with_reducible refine (aJ.calls k _ _ l0 true t19 t20 _ ?side1 ?side2 A4.out).mono ?_);(case side1=>exact qcs HR0.out HB.out);(case side2=>exact HC0.out);rintro e w8 ⟨v21,rfl,ho0,hb⟩;refine ⟨_,rfl,?_⟩;have HO22:=aM (Kd.cr ho0 (av bw));replace BK16:=aM (bB BK16.out hb);replace HB:=aM (ag bw hb);(try clear hb);(try clear ho0);obtain ⟨Ao9,co9,eo9⟩:=Kd.b5 HO22.out;subst eo9)|((with_reducible refine ai (f:=35) rfl ?_);refine gL 10 Tryz.func35 #[.agg #[.int .i64 t19,.slice Ao9 t20.length co9]] ?_;(with_reducible refine (cb.calls k t19 _ _ t20 t23 t24 _ ?side1 ?side2 A5.out).mono ?_);(case side1=>exact qc (Kd.aI HO22.out).2.2);(case side2=>exact (Kd.aI HO22.out).2.1);rintro e w10 ⟨v25,rfl,ho0,hb⟩;refine ⟨_,rfl,?_⟩;replace HO22:=aM (Kd.ba (qra HO22.out) hb);have HO26:=aM (Kd.gr ho0 (av bw));replace BK16:=aM (bB BK16.out hb);replace HB:=aM (ag bw hb);(try clear hb);(try clear ho0);have hcz11_0:=cz BK16.out 0;have hcz11_1:=cz BK16.out 1;have hfz11_0:=af BK16.out 0;have hfz11_1:=af BK16.out 1;obtain ⟨Ao12,co12,eo12⟩:=Kd.fH HO26.out;subst eo12))
  refine bodyPost_ret (dV rfl _ _ gb16 30 #[.int .i64 t23,.slice Ao12 t24.length co12] (0,0) _ rfl (by (with_reducible repeat (first|refine ax ?_ _|refine an ?_|refine au ?_ _));refine bI (cs:=#[.int .i64 t23,.slice none 0 0]) ?_ 1 _ rfl;(with_reducible repeat (first|refine ax ?_ _|refine an ?_|refine au ?_ _));refine bI (cs:=#[.int .i64 0,.slice none 0 0]) ?_ 0 _ rfl;(with_reducible repeat (first|refine ax ?_ _|refine an ?_|refine au ?_ _));exact BK16.out) Tryz.underlying30 rfl kR) rfl ?_;exact ⟨_,eE,by (with_reducible repeat (first|apply Kd.ez|apply Kd.eh|apply Kd.fb));exact Kd.eT (Kd.gh (p:=⟨gb16,1,none⟩) (Kd.gh (p:=⟨gb16,0,none⟩) (Kd.fL HO26.out BK16.out (by decide)) (fun _ hk=>hk.2) (.int .i64 t23)) (fun _ hk=>hk.2) (.slice Ao12 t24.length co12)) (fun _ hk=>trivial),by exact bw⟩
 ·replace c3:=Bool.eq_false_iff.mpr c3;subst c3;rw [if_neg (show ¬ (false = true) by decide)] at H;simp only [Option.some.injEq,Prod.mk.injEq] at H;obtain ⟨rfl,rfl,rfl⟩:=H;go_enter Tryz.func10,Tryz.ntmps10;go_wp2_with (first|((with_reducible refine aC (N:=2) rfl ?_);refine bE 2 #[.int .i64 0,.slice none 0 0] 30 ?_;intro gb16 hg w13 hbox hb;have BK16:=aM (hbox);have GW16:=aM (gS hg);have GE16:=aM (gS hg);replace HB:=aM (ag bw hb);clear hb hbox hg)|((with_reducible refine ai (f:=18) rfl ?_);refine gL 5 Tryz.func18 #[.slice A0 l0.length c0] ?_;(with_reducible refine (aQ.calls k _ _ l0 false _ ?side1 ?side2 A2.out).mono ?_);(case side1=>exact qcs HR0.out HB.out);(case side2=>exact HC0.out);rintro e w14 ⟨rfl,hb⟩;refine ⟨_,rfl,?_⟩;replace BK16:=aM (bB BK16.out hb);replace HB:=aM (ag bw hb);(try clear hb);(try clear hk);have hcz15_0:=cz BK16.out 0;have hcz15_1:=cz BK16.out 1;have hfz15_0:=af BK16.out 0;have hfz15_1:=af BK16.out 1))
  refine bodyPost_ret (dV rfl _ _ gb16 30 #[.int .i64 0,.slice none 0 0] (0,0) _ rfl (by (with_reducible repeat (first|refine ax ?_ _|refine an ?_|refine au ?_ _));refine bI (cs:=#[.int .i64 0,.slice none 0 0]) ?_ 1 _ rfl;(with_reducible repeat (first|refine ax ?_ _|refine an ?_|refine au ?_ _));refine bI (cs:=#[.int .i64 0,.slice none 0 0]) ?_ 0 _ rfl;(with_reducible repeat (first|refine ax ?_ _|refine an ?_|refine au ?_ _));exact BK16.out) Tryz.underlying30 rfl kR) rfl ?_;exact ⟨_,eE,by first|exact Kd.gW _ _ _ _ _|exact Kd.gQ _ _ _ _ _|exact Kd.gP _ _ _ _ _|exact Kd.gU _ _ _ _ _|exact Kd.gx _ _ _ _ _,by exact bw⟩


def cM.f (k:Nat) (l0:List (aa)):Option (Int × (List (List Int)) × Bool):=(aW.f k l0).bind fun t2=>(if t2 = true then (if 0 < (l0.length:Int) then ((aT.f k l0 false).bind fun t3=>((eu.f k (((ae l0 0).f1).length:Int) t3).bind fun bt4=>(some (bt4.1,bt4.2,true)))) else (none)) else (some (0,([]:List (List Int)),false)))
def cM.T3:Bool × List (List Nat × List Nat):=(true,[([],[]),([0],[0]),([1],[1]),([2],[2]),([3],[3]),([],[]),([5],[5]),([4,6,6],[4,6]),([7,7,0,1,2,3,4,5,6,7],[7]),([8,0,1,2,3,4,5,6,7,8],[])])
def cM.B3:List Nat:=[0,1,3,7,15,0,32,127,255,511]
theorem cM.tab3:il .any (opsOf Tryz.f11 3) = cM.T3:=by kernel_rfl
theorem cM.bits3:eZ cM.T3.2 cM.B3 = true:=by kernel_rfl
theorem cM.calls (k:Nat) (A0:Option Addr) (c0:Nat) (l0:List (aa)) (r1:Int) (r2:List (List Int)) (r3:Bool) (w:World) (hr0:Kd.C ak w A0 l0.length l0) (hc0:l0.length ≤ c0) (h:cM.f k l0 = some (r1,r2,r3)) :
  Calls Tryz.prog 11 #[.slice A0 l0.length c0] w fun e w'=>∃ v1_:Value,e = .returned (.tuple #[.agg #[.int .i64 r1,v1_],.bool r3]) ∧ Kd.S (Kd.slice 3 (Kd.int .i64)) 23 w' w.heap.size (fun _=>True) v1_ r2 ∧ Below w.heap.size w w':=by
 have hu30:=Tryz.underlying30;have HR0:=aM hr0;have HC0:=aM hc0;clear hr0 hc0;have HB:=aM (Below.refl w.heap.size w);have H:((aW.f k l0).bind fun t20=>(if t20 = true then (if 0 < (l0.length:Int) then ((aT.f k l0 false).bind fun t22=>((eu.f k (((ae l0 0).f1).length:Int) t22).bind fun bt25=>(some (bt25.1,bt25.2,true)))) else (none)) else (some (0,([]:List (List Int)),false)))) = some (r1,r2,r3):=h;clear h;replace H:=oB H;obtain ⟨t20,A2,H⟩:=H;(try dsimp only at H)
 by_cases c3:t20 = true
 ·subst c3;rw [if_pos rfl] at H;replace H:=iN H;obtain ⟨c4,H⟩:=H;have c4b0:decide (0 < (l0.length:Int)) = true:=decide_eq_true c4;have c4b1:decide (0 < l0.length) = true:=decide_eq_true (by omega);clear c4;replace H:=oB H;obtain ⟨t22,A5,H⟩:=H;(try dsimp only at H)
  replace H:=oB H;obtain ⟨⟨t25,t26⟩,A6,H⟩:=H;(try dsimp only at H)
  simp only [Option.some.injEq,Prod.mk.injEq] at H;obtain ⟨rfl,rfl,rfl⟩:=H;go_enter Tryz.func11,Tryz.ntmps11
  try go_wp2_with (first|((with_reducible refine aC (N:=2) rfl ?_);refine bE 2 #[.int .i64 0,.slice none 0 0] 30 ?_;intro gb19 hg w7 hbox hb;have BK19:=aM (hbox);have GW19:=aM (gS hg);have GE19:=aM (gS hg);replace HB:=aM (ag bw hb);clear hb hbox hg)|((with_reducible refine ai (f:=36) rfl ?_);refine gL 5 Tryz.func36 #[.slice A0 l0.length c0] ?_;(with_reducible refine (aW.calls k _ _ l0 true _ ?side1 ?side2 A2.out).mono ?_);(case side1=>exact qcs HR0.out HB.out);(case side2=>exact HC0.out);rintro e w8 ⟨rfl,hb⟩;refine ⟨_,rfl,?_⟩;replace BK19:=aM (bB BK19.out hb);replace HB:=aM (ag bw hb);(try clear hb)))
  replace BK19:=aM (an BK19.out);replace HB:=aM (bg HB.out);have p21:0 ≤ (0:Int):=(by omega);have q21:0 < (l0.length:Int):=of_decide_eq_true ab;obtain ⟨ad21,A21_1,c364_1,e21,hx21_0,hx21_1,hl21_1,hi21_1⟩:=bD HR0.out 0 p21 q21;have hw21_1:=hx21_1;(try rw [show ((0:Int)).toNat = 0 from rfl] at hw21_1)
  (try rw [show 0 * 2 = 0 from rfl] at hw21_1)
  (try rw [Addr.add_zero'] at hw21_1)
  have hw21_0:=hx21_0;(try rw [show ((0:Int)).toNat = 0 from rfl] at hw21_0)
  (try rw [show 0 * 2 = 0 from rfl] at hw21_0)
  (try rw [Addr.add_zero'] at hw21_0)
  cases e21
  have qi364:(0 < l0.length) = True:=eq_true (by omega);(try rw [show ((0:Int)).toNat = 0 from rfl] at hx21_0)
  (try rw [show 0 * 2 = 0 from rfl] at hx21_0)
  (try rw [Addr.add_zero'] at hx21_0)
  (try rw [show ((0:Int)).toNat = 0 from rfl] at hx21_1)
  (try rw [show 0 * 2 = 0 from rfl] at hx21_1)
  (try rw [Addr.add_zero'] at hx21_1)
  replace hx21_0:=(HB.out.cell (World.block_lt_of_cell? w _ hx21_0)).trans hx21_0;replace hx21_1:=(HB.out.cell (World.block_lt_of_cell? w _ hx21_1)).trans hx21_1;have HR21_1:=aM hi21_1;have HC21_1:=aM hl21_1;clear hi21_1 hl21_1;replace p21:=eq_true p21;replace q21:=eq_true q21;refine eQ (n:=10) (S:=fun w'=>w'.cell? ad21 = some (.int .i64 ((ae l0 0).f0)) ∧ w'.cell? ⟨ad21.block,ad21.off + 1,none⟩ = some (.slice A21_1 ((ae l0 0).f1).length c364_1)) (ds:=[]) (mA 10 0) kR rfl rfl ⟨((HB.out.cell (World.block_lt_of_cell? w _ hw21_0)).trans hw21_0),((HB.out.cell (World.block_lt_of_cell? w _ hw21_1)).trans hw21_1)⟩ (fun hHeld=>?_);refine dx cM.tab3 cM.bits3 (fun HT_ HW_=>?_)
  generalize w8.drew = w9 at BK19 HB HR21_1 hx21_0 hx21_1 hHeld ⊢
  refine pT 0 8 HT_.out ?_;refine pT 1 9 HT_.out ?_;refine pT 2 10 HT_.out ?_;refine pT 5 13 HT_.out ?_;refine pK 3 11 HT_.out HW_.out hHeld ?_;refine pT 4 12 HT_.out ?_;refine oN 6 (some 14) HT_.out fun K hK=>?_
  refine gC Tryz.func32 #[.slice (some ad21) l0.length c0,.bool false] ?_
  with_reducible refine (aT.calls k _ _ l0 false t22 _ ?side1 ?side2 A5.out).mono ?_
  (case side1=>exact qcs HR0.out HB.out)
  (case side2=>exact HC0.out)
  rintro e w10 ⟨v23,rfl,ho0,hb⟩
  refine ⟨_,rfl,?_⟩;have HO24:=aM (Kd.cr ho0 (av bw));replace BK19:=aM (bB BK19.out hb);replace HB:=aM (ag bw hb);(try clear hb)
  (try clear ho0)
  obtain ⟨Ao11,co11,eo11⟩:=Kd.b5 HO24.out;(first|subst eo11|(injection eo11 with f1_ f2_ f3_;have f4_:=f1_.symm;have f5_:=f3_.symm;clear f1_ f2_ f3_;subst f4_;subst f5_))
  refine hK.out _ _ ⟨((HB.out.cell (World.block_lt_of_cell? w _ hw21_0)).trans hw21_0),((HB.out.cell (World.block_lt_of_cell? w _ hw21_1)).trans hw21_1)⟩ (fun hHeld=>?_);clear hK K;refine nM 14 ?_;refine oN 7 (some 15) HT_.out fun K hK=>?_
  refine gC Tryz.func37 #[.int .i64 (((ae l0 0).f1).length:Int),.slice Ao11 t22.length co11] ?_
  with_reducible refine (eu.calls k (((ae l0 0).f1).length:Int) _ _ t22 t25 t26 _ ?side1 ?side2 A6.out).mono ?_
  (case side1=>exact qc (Kd.aI HO24.out).2.2)
  (case side2=>exact (Kd.aI HO24.out).2.1)
  rintro e w12 ⟨v27,rfl,ho0,hb⟩
  refine ⟨_,rfl,?_⟩;replace HO24:=aM (Kd.ba (qra HO24.out) hb);have HO28:=aM (Kd.gr ho0 (av bw));replace BK19:=aM (bB BK19.out hb);replace HB:=aM (ag bw hb);(try clear hb)
  (try clear ho0)
  obtain ⟨Ao14,co14,eo14⟩:=Kd.fH HO28.out;(first|subst eo14|(injection eo14 with f1_ f2_ f3_;have f4_:=f1_.symm;have f5_:=f3_.symm;clear f1_ f2_ f3_;subst f4_;subst f5_))
  refine hK.out _ _ ⟨((HB.out.cell (World.block_lt_of_cell? w _ hw21_0)).trans hw21_0),((HB.out.cell (World.block_lt_of_cell? w _ hw21_1)).trans hw21_1)⟩ (fun hHeld=>?_);clear hK K;refine nM 15 ?_;refine oN 8 none HT_.out fun K hK=>?_
  have hs13:w12.cell? ⟨gb19,0,none⟩ = some (.int .i64 0):=(aE BK19.out 0).trans rfl;have hfs13:=af BK19.out 0;have hs15:w12.cell? ⟨gb19,1,none⟩ = some (.slice none 0 0):=(aE BK19.out 1).trans rfl;have hfs15:=af BK19.out 1;refine ma (w1:=?_) (by rfl) rfl ?_ ?_;rotate_left
  ·go_simp
   rfl
  refine hK.out _ _ ⟨((cell_far (p:=⟨gb19,_,none⟩) (by first|exact Nat.ne_of_lt (Nat.lt_of_lt_of_le (by have:=World.block_lt_of_cell? _ _ hw21_0;first|rwa [add_block] at this|exact this) GW19.out)|(rw [add_block];exact Nat.ne_of_lt (Nat.lt_of_lt_of_le (by have:=World.block_lt_of_cell? _ _ hw21_0;first|rwa [add_block] at this|exact this) GW19.out))|(show (Addr.add _ _).block ≠ _;rw [add_block];exact Nat.ne_of_lt (Nat.lt_of_lt_of_le (by have:=World.block_lt_of_cell? _ _ hw21_0;first|rwa [add_block] at this|exact this) GW19.out))|(dsimp only;exact Nat.ne_of_lt (Nat.lt_of_lt_of_le (by have:=World.block_lt_of_cell? _ _ hw21_0;first|rwa [add_block] at this|exact this) GW19.out))) _).trans (((cell_far (p:=⟨gb19,_,none⟩) (by first|exact Nat.ne_of_lt (Nat.lt_of_lt_of_le (by have:=World.block_lt_of_cell? _ _ hw21_0;first|rwa [add_block] at this|exact this) GW19.out)|(rw [add_block];exact Nat.ne_of_lt (Nat.lt_of_lt_of_le (by have:=World.block_lt_of_cell? _ _ hw21_0;first|rwa [add_block] at this|exact this) GW19.out))|(show (Addr.add _ _).block ≠ _;rw [add_block];exact Nat.ne_of_lt (Nat.lt_of_lt_of_le (by have:=World.block_lt_of_cell? _ _ hw21_0;first|rwa [add_block] at this|exact this) GW19.out))|(dsimp only;exact Nat.ne_of_lt (Nat.lt_of_lt_of_le (by have:=World.block_lt_of_cell? _ _ hw21_0;first|rwa [add_block] at this|exact this) GW19.out))) _).trans (hHeld.1)))),((cell_far (p:=⟨gb19,_,none⟩) (by first|exact Nat.ne_of_lt (Nat.lt_of_lt_of_le (by have:=World.block_lt_of_cell? _ _ hw21_1;first|rwa [add_block] at this|exact this) GW19.out)|(rw [add_block];exact Nat.ne_of_lt (Nat.lt_of_lt_of_le (by have:=World.block_lt_of_cell? _ _ hw21_1;first|rwa [add_block] at this|exact this) GW19.out))|(show (Addr.add _ _).block ≠ _;rw [add_block];exact Nat.ne_of_lt (Nat.lt_of_lt_of_le (by have:=World.block_lt_of_cell? _ _ hw21_1;first|rwa [add_block] at this|exact this) GW19.out))|(dsimp only;exact Nat.ne_of_lt (Nat.lt_of_lt_of_le (by have:=World.block_lt_of_cell? _ _ hw21_1;first|rwa [add_block] at this|exact this) GW19.out))) _).trans (((cell_far (p:=⟨gb19,_,none⟩) (by first|exact Nat.ne_of_lt (Nat.lt_of_lt_of_le (by have:=World.block_lt_of_cell? _ _ hw21_1;first|rwa [add_block] at this|exact this) GW19.out)|(rw [add_block];exact Nat.ne_of_lt (Nat.lt_of_lt_of_le (by have:=World.block_lt_of_cell? _ _ hw21_1;first|rwa [add_block] at this|exact this) GW19.out))|(show (Addr.add _ _).block ≠ _;rw [add_block];exact Nat.ne_of_lt (Nat.lt_of_lt_of_le (by have:=World.block_lt_of_cell? _ _ hw21_1;first|rwa [add_block] at this|exact this) GW19.out))|(dsimp only;exact Nat.ne_of_lt (Nat.lt_of_lt_of_le (by have:=World.block_lt_of_cell? _ _ hw21_1;first|rwa [add_block] at this|exact this) GW19.out))) _).trans (hHeld.2))))⟩ (fun hHeld=>?_);clear hK K;refine pT 9 3 HT_.out ?_;refine fK (eA HT_.out kR) ?_
  try go_wp2
  refine bodyPost_ret (dV rfl _ _ gb19 30 #[.int .i64 t25,.slice Ao14 t26.length co14] (0,0) _ rfl (by (with_reducible repeat (first|refine ax ?_ _|refine an ?_|refine au ?_ _));refine bI (cs:=#[.int .i64 t25,.slice none 0 0]) ?_ 1 _ rfl;(with_reducible repeat (first|refine ax ?_ _|refine an ?_|refine au ?_ _));refine bI (cs:=#[.int .i64 0,.slice none 0 0]) ?_ 0 _ rfl;(with_reducible repeat (first|refine ax ?_ _|refine an ?_|refine au ?_ _));exact BK19.out) Tryz.underlying30 rfl kR) rfl ?_;exact ⟨_,eE,by (with_reducible repeat (first|apply Kd.ez|apply Kd.eh|apply Kd.fb));exact Kd.eT (Kd.gh (p:=⟨gb19,1,none⟩) (Kd.gh (p:=⟨gb19,0,none⟩) (Kd.fL HO28.out BK19.out (by decide)) (fun _ hk=>hk.2) (.int .i64 t25)) (fun _ hk=>hk.2) (.slice Ao14 t26.length co14)) (fun _ hk=>trivial),by exact bw⟩
 ·replace c3:=Bool.eq_false_iff.mpr c3;subst c3;rw [if_neg (show ¬ (false = true) by decide)] at H;simp only [Option.some.injEq,Prod.mk.injEq] at H;obtain ⟨rfl,rfl,rfl⟩:=H;go_enter Tryz.func11,Tryz.ntmps11;go_wp2_with (first|((with_reducible refine aC (N:=2) rfl ?_);refine bE 2 #[.int .i64 0,.slice none 0 0] 30 ?_;intro gb19 hg w16 hbox hb;have BK19:=aM (hbox);have GW19:=aM (gS hg);have GE19:=aM (gS hg);replace HB:=aM (ag bw hb);clear hb hbox hg)|((with_reducible refine ai (f:=36) rfl ?_);refine gL 5 Tryz.func36 #[.slice A0 l0.length c0] ?_;(with_reducible refine (aW.calls k _ _ l0 false _ ?side1 ?side2 A2.out).mono ?_);(case side1=>exact qcs HR0.out HB.out);(case side2=>exact HC0.out);rintro e w17 ⟨rfl,hb⟩;refine ⟨_,rfl,?_⟩;replace BK19:=aM (bB BK19.out hb);replace HB:=aM (ag bw hb);(try clear hb);(try clear hk);have hcz18_0:=cz BK19.out 0;have hcz18_1:=cz BK19.out 1;have hfz18_0:=af BK19.out 0;have hfz18_1:=af BK19.out 1))
  refine bodyPost_ret (dV rfl _ _ gb19 30 #[.int .i64 0,.slice none 0 0] (0,0) _ rfl (by (with_reducible repeat (first|refine ax ?_ _|refine an ?_|refine au ?_ _));refine bI (cs:=#[.int .i64 0,.slice none 0 0]) ?_ 1 _ rfl;(with_reducible repeat (first|refine ax ?_ _|refine an ?_|refine au ?_ _));refine bI (cs:=#[.int .i64 0,.slice none 0 0]) ?_ 0 _ rfl;(with_reducible repeat (first|refine ax ?_ _|refine an ?_|refine au ?_ _));exact BK19.out) Tryz.underlying30 rfl kR) rfl ?_;exact ⟨_,eE,by first|exact Kd.gW _ _ _ _ _|exact Kd.gQ _ _ _ _ _|exact Kd.gP _ _ _ _ _|exact Kd.gU _ _ _ _ _|exact Kd.gx _ _ _ _ _,by exact bw⟩


def eK.f (k:Nat) (a0_0:Int) (l0_1:List (List Int)):Option (Int × (List (List Int)) × Bool):=(aK.f k a0_0 l0_1).bind fun t2=>(if t2 = true then ((cF.f k a0_0 l0_1).bind fun bt3=>((dS.f k bt3.1 bt3.2).bind fun bt4=>((cb.f k bt4.1 bt4.2).bind fun bt5=>(some (bt5.1,bt5.2,true))))) else (some (0,([]:List (List Int)),false)))
theorem eK.calls (k:Nat) (a0_0:Int) (A0_1:Option Addr) (c0_1:Nat) (l0_1:List (List Int)) (r1:Int) (r2:List (List Int)) (r3:Bool) (w:World) (hr0_1:Kd.C (Kd.slice 3 (Kd.int .i64)) w A0_1 l0_1.length l0_1) (hc0_1:l0_1.length ≤ c0_1) (h:eK.f k a0_0 l0_1 = some (r1,r2,r3)) :
  Calls Tryz.prog 25 #[.agg #[.int .i64 a0_0,.slice A0_1 l0_1.length c0_1]] w fun e w'=>∃ v1_:Value,e = .returned (.tuple #[.agg #[.int .i64 r1,v1_],.bool r3]) ∧ Kd.S (Kd.slice 3 (Kd.int .i64)) 23 w' w.heap.size (fun _=>True) v1_ r2 ∧ Below w.heap.size w w':=by
 have hu30:=Tryz.underlying30;have HR0_1:=aM hr0_1;have HC0_1:=aM hc0_1;clear hr0_1 hc0_1;have HB:=aM (Below.refl w.heap.size w);have H:((aK.f k a0_0 l0_1).bind fun t28=>(if t28 = true then ((cF.f k a0_0 l0_1).bind fun bt29=>((dS.f k bt29.1 bt29.2).bind fun bt34=>((cb.f k bt34.1 bt34.2).bind fun bt39=>(some (bt39.1,bt39.2,true))))) else (some (0,([]:List (List Int)),false)))) = some (r1,r2,r3):=h;clear h;replace H:=oB H;obtain ⟨t28,A2,H⟩:=H;(try dsimp only at H)
 by_cases c3:t28 = true
 ·subst c3;rw [if_pos rfl] at H;replace H:=oB H;obtain ⟨⟨t29,t31⟩,A4,H⟩:=H;(try dsimp only at H)
  replace H:=oB H;obtain ⟨⟨t34,t36⟩,A5,H⟩:=H;(try dsimp only at H)
  replace H:=oB H;obtain ⟨⟨t39,t40⟩,A6,H⟩:=H;(try dsimp only at H)
  simp only [Option.some.injEq,Prod.mk.injEq] at H;obtain ⟨rfl,rfl,rfl⟩:=H;go_enter Tryz.func25,Tryz.ntmps25;go_wp2_with (first|((with_reducible refine aC (N:=1) rfl ?_);refine bE 1 #[.int .i64 a0_0,.slice A0_1 l0_1.length c0_1] 30 ?_;intro gb26 hg w7 hbox hb;have BK26:=aM (hbox);have GW26:=aM (gS hg);have GE26:=aM (gS hg);replace HB:=aM (ag bw hb);clear hb hbox hg)|((with_reducible refine aC (N:=2) rfl ?_);refine bE 2 #[.int .i64 0,.slice none 0 0] 30 ?_;intro gb27 hg w8 hbox hb;have BK27:=aM (hbox);have GW27:=aM (gS hg);have GE27:=aM (gS hg);replace HB:=aM (ag bw hb);have NB26_27:=aM (nL BK26.out hg);have NB27_26:=aM (nR BK26.out hg);replace BK26:=aM (bB BK26.out hb);clear hb hbox hg;have hnb9:=NB26_27.out;have hnc9:=NB27_26.out;have hcz10_0:=cz BK26.out 0;have hcz10_1:=cz BK26.out 1;have hfz10_0:=af BK26.out 0;have hfz10_1:=af BK26.out 1)|((with_reducible refine ai (f:=22) rfl ?_);refine gL 5 Tryz.func22 #[.agg #[.int .i64 a0_0,.slice A0_1 l0_1.length c0_1]] ?_;(with_reducible refine (aK.calls k a0_0 _ _ l0_1 true _ ?side1 ?side2 A2.out).mono ?_);(case side1=>exact qcs HR0_1.out HB.out);(case side2=>exact HC0_1.out);rintro e w11 ⟨rfl,hb⟩;refine ⟨_,rfl,?_⟩;replace BK26:=aM (bB BK26.out hb);replace BK27:=aM (bB BK27.out hb);replace HB:=aM (ag bw hb);(try clear hb);have hcz12_0:=cz BK26.out 0;have hcz12_1:=cz BK26.out 1;have hfz12_0:=af BK26.out 0;have hfz12_1:=af BK26.out 1)|((with_reducible refine ai (f:=55) rfl ?_);refine gL 9 Tryz.func55 #[.agg #[.int .i64 a0_0,.slice A0_1 l0_1.length c0_1]] ?_;(with_reducible refine (cF.calls k a0_0 _ _ l0_1 t29 t31 _ ?side1 ?side2 A4.out).mono ?_);(case side1=>exact qcs HR0_1.out HB.out);(case side2=>exact HC0_1.out);rintro e w13 ⟨v32,rfl,ho0,hb⟩;refine ⟨_,rfl,?_⟩;have HO33:=aM (Kd.cr ho0 (av bw));replace BK26:=aM (bB BK26.out hb);replace BK27:=aM (bB BK27.out hb);replace HB:=aM (ag bw hb);(try clear hb);(try clear ho0);obtain ⟨Ao14,co14,eo14⟩:=Kd.b5 HO33.out;subst eo14)|((with_reducible refine ai (f:=60) rfl ?_);refine gL 10 Tryz.func60 #[.agg #[.int .i64 t29,.slice Ao14 t31.length co14]] ?_;(with_reducible refine (dS.calls k t29 _ _ t31 t34 t36 _ ?side1 ?side2 A5.out).mono ?_);(case side1=>exact qc (Kd.aI HO33.out).2.2);(case side2=>exact (Kd.aI HO33.out).2.1);rintro e w15 ⟨v37,rfl,ho0,hb⟩;refine ⟨_,rfl,?_⟩;have HO38:=aM (Kd.cr (Kd.gv ho0 (Kd.gp (qra HO33.out))) (av bw));replace HO33:=aM (Kd.eN (qra HO33.out) (Kd.da ho0) hb);replace BK26:=aM (bB BK26.out hb);replace BK27:=aM (bB BK27.out hb);replace HB:=aM (ag bw hb);(try clear hb);(try clear ho0);obtain ⟨Ao16,co16,eo16⟩:=Kd.b5 HO38.out;subst eo16)|((with_reducible refine ai (f:=35) rfl ?_);refine gL 11 Tryz.func35 #[.agg #[.int .i64 t34,.slice Ao16 t36.length co16]] ?_;(with_reducible refine (cb.calls k t34 _ _ t36 t39 t40 _ ?side1 ?side2 A6.out).mono ?_);(case side1=>exact qc (Kd.aI HO38.out).2.2);(case side2=>exact (Kd.aI HO38.out).2.1);rintro e w17 ⟨v41,rfl,ho0,hb⟩;refine ⟨_,rfl,?_⟩;replace HO33:=aM (Kd.ba (qra HO33.out) hb);replace HO38:=aM (Kd.ba (qra HO38.out) hb);have HO42:=aM (Kd.gr ho0 (av bw));replace BK26:=aM (bB BK26.out hb);replace BK27:=aM (bB BK27.out hb);replace HB:=aM (ag bw hb);(try clear hb);(try clear ho0);have hcz18_0:=cz BK27.out 0;have hcz18_1:=cz BK27.out 1;have hfz18_0:=af BK27.out 0;have hfz18_1:=af BK27.out 1;obtain ⟨Ao19,co19,eo19⟩:=Kd.fH HO42.out;subst eo19))
  refine bodyPost_ret (dV rfl _ _ gb27 30 #[.int .i64 t39,.slice Ao19 t40.length co19] (0,0) _ rfl (by (with_reducible repeat (first|refine ax ?_ _|refine an ?_|refine au ?_ _));refine bI (cs:=#[.int .i64 t39,.slice none 0 0]) ?_ 1 _ rfl;(with_reducible repeat (first|refine ax ?_ _|refine an ?_|refine au ?_ _));refine bI (cs:=#[.int .i64 0,.slice none 0 0]) ?_ 0 _ rfl;(with_reducible repeat (first|refine ax ?_ _|refine an ?_|refine au ?_ _));exact BK27.out) Tryz.underlying30 rfl kR) rfl ?_;exact ⟨_,eE,by (with_reducible repeat (first|apply Kd.ez|apply Kd.eh|apply Kd.fb));exact Kd.eT (Kd.gh (p:=⟨gb27,1,none⟩) (Kd.gh (p:=⟨gb27,0,none⟩) (Kd.fL HO42.out BK27.out (by decide)) (fun _ hk=>hk.2) (.int .i64 t39)) (fun _ hk=>hk.2) (.slice Ao19 t40.length co19)) (fun _ hk=>trivial),by exact bw⟩
 ·replace c3:=Bool.eq_false_iff.mpr c3;subst c3;rw [if_neg (show ¬ (false = true) by decide)] at H;simp only [Option.some.injEq,Prod.mk.injEq] at H;obtain ⟨rfl,rfl,rfl⟩:=H;go_enter Tryz.func25,Tryz.ntmps25;go_wp2_with (first|((with_reducible refine aC (N:=1) rfl ?_);refine bE 1 #[.int .i64 a0_0,.slice A0_1 l0_1.length c0_1] 30 ?_;intro gb26 hg w20 hbox hb;have BK26:=aM (hbox);have GW26:=aM (gS hg);have GE26:=aM (gS hg);replace HB:=aM (ag bw hb);clear hb hbox hg)|((with_reducible refine aC (N:=2) rfl ?_);refine bE 2 #[.int .i64 0,.slice none 0 0] 30 ?_;intro gb27 hg w21 hbox hb;have BK27:=aM (hbox);have GW27:=aM (gS hg);have GE27:=aM (gS hg);replace HB:=aM (ag bw hb);have NB26_27:=aM (nL BK26.out hg);have NB27_26:=aM (nR BK26.out hg);replace BK26:=aM (bB BK26.out hb);clear hb hbox hg;have hnb22:=NB26_27.out;have hnc22:=NB27_26.out;have hcz23_0:=cz BK26.out 0;have hcz23_1:=cz BK26.out 1;have hfz23_0:=af BK26.out 0;have hfz23_1:=af BK26.out 1)|((with_reducible refine ai (f:=22) rfl ?_);refine gL 5 Tryz.func22 #[.agg #[.int .i64 a0_0,.slice A0_1 l0_1.length c0_1]] ?_;(with_reducible refine (aK.calls k a0_0 _ _ l0_1 false _ ?side1 ?side2 A2.out).mono ?_);(case side1=>exact qcs HR0_1.out HB.out);(case side2=>exact HC0_1.out);rintro e w24 ⟨rfl,hb⟩;refine ⟨_,rfl,?_⟩;replace BK26:=aM (bB BK26.out hb);replace BK27:=aM (bB BK27.out hb);replace HB:=aM (ag bw hb);(try clear hb);(try clear hk);have hcz25_0:=cz BK27.out 0;have hcz25_1:=cz BK27.out 1;have hfz25_0:=af BK27.out 0;have hfz25_1:=af BK27.out 1))
  refine bodyPost_ret (dV rfl _ _ gb27 30 #[.int .i64 0,.slice none 0 0] (0,0) _ rfl (by (with_reducible repeat (first|refine ax ?_ _|refine an ?_|refine au ?_ _));refine bI (cs:=#[.int .i64 0,.slice none 0 0]) ?_ 1 _ rfl;(with_reducible repeat (first|refine ax ?_ _|refine an ?_|refine au ?_ _));refine bI (cs:=#[.int .i64 0,.slice none 0 0]) ?_ 0 _ rfl;(with_reducible repeat (first|refine ax ?_ _|refine an ?_|refine au ?_ _));exact BK27.out) Tryz.underlying30 rfl kR) rfl ?_;exact ⟨_,eE,by first|exact Kd.gW _ _ _ _ _|exact Kd.gQ _ _ _ _ _|exact Kd.gP _ _ _ _ _|exact Kd.gU _ _ _ _ _|exact Kd.gx _ _ _ _ _,by exact bw⟩


def cv.j0:Nat → Bool → Int → List Int → Int → Option (Int × (List (List Int)) × Bool)
 | 0,_,_,_,_=>none
 | k + 1,x17,x5,x6,x7=>if x17 = true then (some (0,([]:List (List Int)),false)) else ((b9.f k x5 x6).bind fun bt2=>((bc.f k bt2.1 (fun y0_=>dG.f y0_ bt2.1 bt2.2 x7)).bind fun bt3=>((cb.f k bt3.1 bt3.2).bind fun bt4=>(some (bt4.1,bt4.2,true)))))
def cv.f (k:Nat) (a0_0:Int) (l0_1:List Int) (a1:Int):Option (Int × (List (List Int)) × Bool):=(aH.f k a0_0 l0_1).bind fun t2=>(if t2 = true then ((b4.f a1 0 (l0_1.length:Int)).bind fun t3=>(cv.j0 k (!t3) a0_0 l0_1 a1)) else (cv.j0 k true a0_0 l0_1 a1))
theorem cv.calls (k:Nat) (a0_0:Int) (A0_1:Option Addr) (c0_1:Nat) (l0_1:List Int) (a1:Int) (r1:Int) (r2:List (List Int)) (r3:Bool) (w:World) (hr0_1:Kd.C (Kd.int .i64) w A0_1 l0_1.length l0_1) (hc0_1:l0_1.length ≤ c0_1) (h:cv.f k a0_0 l0_1 a1 = some (r1,r2,r3)) :
  Calls Tryz.prog 26 #[.agg #[.int .i64 a0_0,.slice A0_1 l0_1.length c0_1],.int .i64 a1] w fun e w'=>∃ v1_:Value,e = .returned (.tuple #[.agg #[.int .i64 r1,v1_],.bool r3]) ∧ Kd.S (Kd.slice 3 (Kd.int .i64)) 23 w' w.heap.size (fun _=>True) v1_ r2 ∧ Below w.heap.size w w':=by
 have hmf:∀ (fn:Fn) (first cap:Array Value) (w:World),(Instr.makeFunc fn first cap).run Tryz.prog w = .ok (.func fn first cap) w:=fun _ _ _ _=>rfl
 have hu25:=Tryz.underlying25;have hu30:=Tryz.underlying30;have hu56:=Tryz.underlying56;have HR0_1:=aM hr0_1;have HC0_1:=aM hc0_1;clear hr0_1 hc0_1;have HB:=aM (Below.refl w.heap.size w);have H:((aH.f k a0_0 l0_1).bind fun t47=>(if t47 = true then ((b4.f a1 0 (l0_1.length:Int)).bind fun t48=>(cv.j0 k (!t48) a0_0 l0_1 a1)) else (cv.j0 k true a0_0 l0_1 a1))) = some (r1,r2,r3):=h;clear h;have HC3:=aM H;clear H;go_enter Tryz.func26,Tryz.ntmps26;go_upto_region 1 with (first|((with_reducible refine aC (N:=2) rfl ?_);(try (refine bQ (by rfl) ?_;dsimp only));refine bE 2 #[.int .i64 a0_0,.slice A0_1 l0_1.length c0_1] 25 ?_;intro gb44 hg w4 hbox hb;have BK44:=aM (hbox);have GW44:=aM (gS hg);have GE44:=aM (gS hg);replace HB:=aM (ag bw hb);clear hb hbox hg)|((with_reducible refine aC (N:=3) rfl ?_);(try (refine bQ (by rfl) ?_;dsimp only));refine bE 3 #[.int .i64 a1] 3 ?_;intro gb45 hg w5 hbox hb;have BK45:=aM (hbox);have GW45:=aM (gS hg);have GE45:=aM (gS hg);replace HB:=aM (ag bw hb);have NB44_45:=aM (nL BK44.out hg);have NB45_44:=aM (nR BK44.out hg);replace BK44:=aM (bB BK44.out hb);clear hb hbox hg)|((with_reducible refine aC (N:=4) rfl ?_);(try (refine bQ (by rfl) ?_;dsimp only));refine bE 4 #[.int .i64 0,.slice none 0 0] 30 ?_;intro gb46 hg w6 hbox hb;have BK46:=aM (hbox);have GW46:=aM (gS hg);have GE46:=aM (gS hg);replace HB:=aM (ag bw hb);have NB44_46:=aM (nL BK44.out hg);have NB46_44:=aM (nR BK44.out hg);replace BK44:=aM (bB BK44.out hb);have NB45_46:=aM (nL BK45.out hg);have NB46_45:=aM (nR BK45.out hg);replace BK45:=aM (bB BK45.out hb);clear hb hbox hg))
 (try simp only [Act.put,sA,sZ,sS])
 go_cut [17] (fun v17 wc=>∃ (kq:Nat) (x17_2:Bool),v17 = .bool x17_2 ∧ aj (cv.j0 kq x17_2 a0_0 l0_1 a1 = some (r1,r2,r3)) ∧ aj (kq ≤ k) ∧ aj (wc.heap[gb44]? = some (.cells #[.int .i64 a0_0,(.slice A0_1 l0_1.length c0_1)] 25 (0,0))) ∧ aj (wc.heap[gb45]? = some (.cells #[.int .i64 a1] 3 (0,0))) ∧ aj (wc.heap[gb46]? = some (.cells #[.int .i64 0,(.slice none 0 0)] 30 (0,0))) ∧ aj (Below w.heap.size w wc))
 case first =>
  have H:=HC3.out;clear HC3;replace H:=oB H;obtain ⟨t47,A7,H⟩:=H;(try dsimp only at H)
  by_cases c8:t47 = true
  ·subst c8;rw [if_pos rfl] at H;replace H:=oB H;obtain ⟨t48,A9,H⟩:=H;(try dsimp only at H)
   have H':=aM H;clear H;have hnb10:=NB44_45.out;have hnc10:=NB45_44.out;have hnb11:=NB44_46.out;have hnc11:=NB46_44.out;have hcz12_0:=cz BK44.out 0;have hcz12_1:=cz BK44.out 1;have hfz12_0:=af BK44.out 0;have hfz12_1:=af BK44.out 1;go_wp2_with (first|((with_reducible refine ai (f:=50) rfl ?_);refine gL 8 Tryz.func50 #[.agg #[.int .i64 a0_0,.slice A0_1 l0_1.length c0_1]] ?_;(with_reducible refine (aH.calls k a0_0 _ _ l0_1 true _ ?side1 ?side2 A7.out).mono ?_);(case side1=>exact qcs HR0_1.out HB.out);(case side2=>exact HC0_1.out);rintro e w13 ⟨rfl,hb⟩;refine ⟨_,rfl,?_⟩;replace BK44:=aM (bB BK44.out hb);replace BK45:=aM (bB BK45.out hb);replace BK46:=aM (bB BK46.out hb);replace HB:=aM (ag bw hb);(try clear hb);have hnb14:=NB45_46.out;have hnc14:=NB46_45.out;have hcz15_0:=cz BK45.out 0;have hfz15_0:=af BK45.out 0;have hcz16_0:=cz BK44.out 0;have hcz16_1:=cz BK44.out 1;have hfz16_0:=af BK44.out 0;have hfz16_1:=af BK44.out 1)|(go_at_call 47;(with_reducible refine (b4.calls a1 0 (l0_1.length:Int) t48 _ A9.out).mono ?_);rintro e w' ⟨rfl,⟨nd,rfl⟩⟩))
   go_meet
   case rel=>exact ⟨_,(!t48),qrs,H',⟨by first|omega|exact Nat.le_refl _⟩,⟨bk1 BK44.out⟩,⟨bk1 BK45.out⟩,⟨bk1 BK46.out⟩,⟨by exact bw⟩⟩
  ·replace c8:=Bool.eq_false_iff.mpr c8;subst c8;rw [if_neg (show ¬ (false = true) by decide)] at H;have H':=aM H;clear H;have hnb17:=NB44_45.out;have hnc17:=NB45_44.out;have hnb18:=NB44_46.out;have hnc18:=NB46_44.out;have hcz19_0:=cz BK44.out 0;have hcz19_1:=cz BK44.out 1;have hfz19_0:=af BK44.out 0;have hfz19_1:=af BK44.out 1;go_wp2_with (first|((with_reducible refine ai (f:=50) rfl ?_);refine gL 8 Tryz.func50 #[.agg #[.int .i64 a0_0,.slice A0_1 l0_1.length c0_1]] ?_;(with_reducible refine (aH.calls k a0_0 _ _ l0_1 false _ ?side1 ?side2 A7.out).mono ?_);(case side1=>exact qcs HR0_1.out HB.out);(case side2=>exact HC0_1.out);rintro e w20 ⟨rfl,hb⟩;refine ⟨_,rfl,?_⟩;replace BK44:=aM (bB BK44.out hb);replace BK45:=aM (bB BK45.out hb);replace BK46:=aM (bB BK46.out hb);replace HB:=aM (ag bw hb);(try clear hb)))
   go_meet
   case rel=>exact ⟨_,(true),qrs,H',⟨by first|omega|exact Nat.le_refl _⟩,⟨bk1 BK44.out⟩,⟨bk1 BK45.out⟩,⟨bk1 BK46.out⟩,⟨by exact bw⟩⟩
 case rest =>
  clear HC3;(try clear c8);(try clear hcz12_0);(try clear hcz12_1);(try clear hcz15_0);(try clear hcz16_0);(try clear hcz16_1);(try clear hcz19_0);(try clear hcz19_1);(try clear hfz12_0);(try clear hfz12_1);(try clear hfz15_0);(try clear hfz16_0);(try clear hfz16_1);(try clear hfz19_0);(try clear hfz19_1)
  obtain ⟨kq,x17_2,rfl,HA,HJ2,BK44,BK45,BK46,HB⟩:=hcut
  cases kq with
  | zero=>exact absurd HA.out (by simp [cv.j0])
  | succ kj2 =>
   have H:=HA.out;clear HA;simp only [cv.j0] at H;by_cases c21:x17_2 = true
   ·subst c21;rw [if_pos rfl] at H;simp only [Option.some.injEq,Prod.mk.injEq] at H;obtain ⟨rfl,rfl,rfl⟩:=H;have hnb22:=NB46_44.out;have hnc22:=NB44_46.out;have hnb23:=NB46_45.out;have hnc23:=NB45_46.out;have hcz24_0:=cz BK46.out 0;have hcz24_1:=cz BK46.out 1;have hfz24_0:=af BK46.out 0;have hfz24_1:=af BK46.out 1;go_wp2
    refine bodyPost_ret (dV rfl _ _ gb46 30 #[.int .i64 0,.slice none 0 0] (0,0) _ rfl (by (with_reducible repeat (first|refine ax ?_ _|refine an ?_|refine au ?_ _));refine bI (cs:=#[.int .i64 0,.slice none 0 0]) ?_ 1 _ rfl;(with_reducible repeat (first|refine ax ?_ _|refine an ?_|refine au ?_ _));refine bI (cs:=#[.int .i64 0,.slice none 0 0]) ?_ 0 _ rfl;(with_reducible repeat (first|refine ax ?_ _|refine an ?_|refine au ?_ _));exact BK46.out) Tryz.underlying30 rfl kR) rfl ?_;exact ⟨_,eE,by first|exact Kd.gW _ _ _ _ _|exact Kd.gQ _ _ _ _ _|exact Kd.gP _ _ _ _ _|exact Kd.gU _ _ _ _ _|exact Kd.gx _ _ _ _ _,by exact bw⟩
   ·replace c21:=Bool.eq_false_iff.mpr c21;subst c21;rw [if_neg (show ¬ (false = true) by decide)] at H;replace H:=oB H;obtain ⟨⟨t49,t51⟩,A25,H⟩:=H;(try dsimp only at H)
    replace H:=oB H;obtain ⟨⟨t55,t57⟩,A26,H⟩:=H;(try dsimp only at H)
    replace H:=oB H;obtain ⟨⟨t60,t63⟩,A27,H⟩:=H;(try dsimp only at H)
    simp only [Option.some.injEq,Prod.mk.injEq] at H;obtain ⟨rfl,rfl,rfl⟩:=H;have hnb28:=NB44_45.out;have hnc28:=NB45_44.out;have hnb29:=NB44_46.out;have hnc29:=NB46_44.out;have hcz30_0:=cz BK44.out 0;have hcz30_1:=cz BK44.out 1;have hfz30_0:=af BK44.out 0;have hfz30_1:=af BK44.out 1;go_wp2_with (first|((with_reducible refine ai (f:=61) rfl ?_);refine gL 20 Tryz.func61 #[.agg #[.int .i64 a0_0,.slice A0_1 l0_1.length c0_1]] ?_;(with_reducible refine (b9.calls kj2 a0_0 _ _ l0_1 t49 t51 _ ?side1 ?side2 A25.out).mono ?_);(case side1=>exact qcs HR0_1.out HB.out);(case side2=>exact HC0_1.out);rintro e w31 ⟨v52,rfl,ho0,hb⟩;refine ⟨_,rfl,?_⟩;have HO53:=aM (Kd.cr ho0 (av bw));replace BK44:=aM (bB BK44.out hb);replace BK45:=aM (bB BK45.out hb);replace BK46:=aM (bB BK46.out hb);replace HB:=aM (ag bw hb);(try clear hb);(try clear ho0))|((with_reducible refine aC (N:=6) rfl ?_);(try (refine bQ (by rfl) ?_;dsimp only));refine bE 6 #[.int .i64 0,.slice none 0 0] 56 ?_;intro gb54 hg w32 hbox hb;replace HO53:=aM (Kd.ba (qra HO53.out) hb);have BK54:=aM (hbox);have GW54:=aM (gS hg);have GE54:=aM (gS hg);replace HB:=aM (ag bw hb);have NB44_54:=aM (nL BK44.out hg);have NB54_44:=aM (nR BK44.out hg);replace BK44:=aM (bB BK44.out hb);have NB45_54:=aM (nL BK45.out hg);have NB54_45:=aM (nR BK45.out hg);replace BK45:=aM (bB BK45.out hb);have NB46_54:=aM (nL BK46.out hg);have NB54_46:=aM (nR BK46.out hg);replace BK46:=aM (bB BK46.out hb);clear hb hbox hg;have hnb33:=NB54_44.out;have hnc33:=NB44_54.out;have hnb34:=NB54_45.out;have hnc34:=NB45_54.out;have hnb35:=NB54_46.out;have hnc35:=NB46_54.out;have hcz36_0:=cz BK54.out 0;have hcz36_1:=cz BK54.out 1;have hfz36_0:=af BK54.out 0;have hfz36_1:=af BK54.out 1;obtain ⟨Ao37,co37,eo37⟩:=Kd.b5 HO53.out;subst eo37)|((with_reducible refine ai (f:=62) rfl ?_);refine gL 24 Tryz.func62 #[.int .i64 t49,.func (.func 63) #[] #[.pointer (some ⟨gb54,0,none⟩),.pointer (some ⟨gb45,0,none⟩)]] ?_;(with_reducible refine (bc.calls kj2 t49 (fun y0_=>dG.f y0_ t49 t51 a1) 63 #[.pointer (some ⟨gb54,0,none⟩),.pointer (some ⟨gb45,0,none⟩)] dG.enters t55 t57 _ ?side1 A26.out).mono ?_);(case side1=>exact (fun W_ a0_ r0_ hx_ hb_ =>(dG.calls a0_ gb54 t49 _ _ t51 gb45 a1 r0_ W_  (Kd.cA (by refine (Kd.aI (e:=4) (base:=w.heap.size) (ok:=fun k_=>True) (n:=t51.length) (c:=co37) ?_).2.2;exact (tR HO53.out BK54.out)) hb_) (by exact (Kd.aI HO53.out).2.1) (ej (by (with_reducible repeat (first|refine ax ?_ _|refine an ?_|refine au ?_ _));refine bI (cs:=#[.int .i64 t49,.slice none 0 0]) ?_ 1 _ rfl;(with_reducible repeat (first|refine ax ?_ _|refine an ?_|refine au ?_ _));refine bI (cs:=#[.int .i64 0,.slice none 0 0]) ?_ 0 _ rfl;(with_reducible repeat (first|refine ax ?_ _|refine an ?_|refine au ?_ _));exact BK54.out) hb_) (ej (bF BK45.out NB45_54.out) hb_) NB54_45.out hx_).mono (fun _ _ h_=>⟨h_.1,h_.2.below⟩)));rintro e w38 ⟨v58,rfl,ho0,hb⟩;refine ⟨_,rfl,?_⟩;have HO59:=aM (Kd.cr (Kd.gv ho0 (Kd.gp (tR HO53.out BK54.out))) (av bw));replace HO53:=aM (Kd.eN (tR HO53.out BK54.out) (Kd.da ho0) hb);replace BK44:=aM (bG BK44.out NB44_54.out hb);replace BK45:=aM (bG BK45.out NB45_54.out hb);replace BK46:=aM (bG BK46.out NB46_54.out hb);replace BK54:=aM (bP BK54.out hb);replace HB:=aM (ag bw hb);(try clear hb);(try clear hk);(try clear ho0);obtain ⟨Ao39,co39,eo39⟩:=Kd.b5 HO59.out;subst eo39)|((with_reducible refine ai (f:=35) rfl ?_);refine gL 25 Tryz.func35 #[.agg #[.int .i64 t55,.slice Ao39 t57.length co39]] ?_;(with_reducible refine (cb.calls kj2 t55 _ _ t57 t60 t63 _ ?side1 ?side2 A27.out).mono ?_);(case side1=>exact qc (Kd.aI HO59.out).2.2);(case side2=>exact (Kd.aI HO59.out).2.1);rintro e w40 ⟨v65,rfl,ho0,hb⟩;refine ⟨_,rfl,?_⟩;replace HO53:=aM (Kd.ba (qra HO53.out) hb);replace HO59:=aM (Kd.ba (qra HO59.out) hb);have HO66:=aM (Kd.gr (Kd.ni ho0 (g:=gb45) (o:=.cells #[.int .i64 a1] 3 (0,0)) (bk1 BK45.out)) (av bw));replace BK44:=aM (bB BK44.out hb);replace BK45:=aM (bB BK45.out hb);replace BK46:=aM (bB BK46.out hb);replace BK54:=aM (bB BK54.out hb);replace HB:=aM (ag bw hb);(try clear hb);(try clear ho0);have hnb41:=NB46_45.out;have hnc41:=NB45_46.out;have hcz42_0:=cz BK46.out 0;have hcz42_1:=cz BK46.out 1;have hfz42_0:=af BK46.out 0;have hfz42_1:=af BK46.out 1;obtain ⟨Ao43,co43,eo43⟩:=Kd.fH HO66.out;subst eo43))
    refine bodyPost_ret (dV rfl _ _ gb46 30 #[.int .i64 t60,.slice Ao43 t63.length co43] (0,0) _ rfl (by (with_reducible repeat (first|refine ax ?_ _|refine an ?_|refine au ?_ _));refine bI (cs:=#[.int .i64 t60,.slice none 0 0]) ?_ 1 _ rfl;(with_reducible repeat (first|refine ax ?_ _|refine an ?_|refine au ?_ _));refine bI (cs:=#[.int .i64 0,.slice none 0 0]) ?_ 0 _ rfl;(with_reducible repeat (first|refine ax ?_ _|refine an ?_|refine au ?_ _));exact BK46.out) Tryz.underlying30 rfl kR) rfl ?_;exact ⟨_,eE,by (with_reducible repeat (first|apply Kd.ez|apply Kd.eh|apply Kd.fb));exact Kd.eT (Kd.gh (p:=⟨gb46,1,none⟩) (Kd.gh (p:=⟨gb46,0,none⟩) (Kd.fL HO66.out BK46.out (by decide)) (fun _ hk=>hk.2) (.int .i64 t60)) (fun _ hk=>hk.2) (.slice Ao43 t63.length co43)) (fun _ hk=>trivial),by exact bw⟩


mutual
def bo.j0:Nat → Int → Bool → Int → List Int → Option (Int × (List (List Int)) × Bool)
 | 0,_,_,_,_=>none
 | k + 1,x1,x18,x5,x7=>if x18 = true then (some (0,([]:List (List Int)),false)) else ((bW.f k x5 x7).bind fun t2=>(bo.l0 k x1 t2 (t2.length:Int) 0 x5 x7))
def bo.l0:Nat → Int → List Bool → Int → Int → Int → List Int → Option (Int × (List (List Int)) × Bool)
 | 0,_,_,_,_,_,_=>none
 | k + 1,x1,x6,x23,x24,x5,x7=>if x24 < x23 then (if 0 ≤ x24 then (if x24 < (x6.length:Int) then (if dE false x6 x24 = true then ((cx.f k x24).bind fun t3=>(bo.l0 k x1 (x6.set (x24:Int).toNat (decide ((t3.length:Int) ≥ x1))) x23 (wrap64 (x24 + 1)) x5 x7)) else (bo.l0 k x1 (x6.set (x24:Int).toNat false) x23 (wrap64 (x24 + 1)) x5 x7)) else (none)) else (none)) else ((eu.f k (x7.length:Int) x6).bind fun bt4=>(some (bt4.1,bt4.2,true)))
end
def bo.f (k:Nat) (a0_0:Int) (l0_1:List Int) (a1:Int):Option (Int × (List (List Int)) × Bool):=(cy.f k a0_0 l0_1).bind fun t2=>(if t2 = true then ((cp.f a1 0 (l0_1.length:Int)).bind fun t3=>(bo.j0 k a1 (!t3) a0_0 l0_1)) else (bo.j0 k a1 true a0_0 l0_1))
theorem bo.calls (k:Nat) (a0_0:Int) (A0_1:Option Addr) (c0_1:Nat) (l0_1:List Int) (a1:Int) (r1:Int) (r2:List (List Int)) (r3:Bool) (w:World) (hr0_1:Kd.C (Kd.int .i64) w A0_1 l0_1.length l0_1) (hc0_1:l0_1.length ≤ c0_1) (h:bo.f k a0_0 l0_1 a1 = some (r1,r2,r3)) :
  Calls Tryz.prog 27 #[.agg #[.int .i64 a0_0,.slice A0_1 l0_1.length c0_1],.int .i64 a1] w fun e w'=>∃ v1_:Value,e = .returned (.tuple #[.agg #[.int .i64 r1,v1_],.bool r3]) ∧ Kd.S (Kd.slice 3 (Kd.int .i64)) 23 w' w.heap.size (fun _=>True) v1_ r2 ∧ Below w.heap.size w w':=by
 have hu25:=Tryz.underlying25;have hu30:=Tryz.underlying30;have HR0_1:=aM hr0_1;have HC0_1:=aM hc0_1;clear hr0_1 hc0_1;have HB:=aM (Below.refl w.heap.size w);have H:((cy.f k a0_0 l0_1).bind fun t46=>(if t46 = true then ((cp.f a1 0 (l0_1.length:Int)).bind fun t47=>(bo.j0 k a1 (!t47) a0_0 l0_1)) else (bo.j0 k a1 true a0_0 l0_1))) = some (r1,r2,r3):=h;clear h;have HC3:=aM H;clear H;go_enter Tryz.func27,Tryz.ntmps27;go_upto_region 1 with (first|((with_reducible refine aC (N:=2) rfl ?_);(try (refine bQ (by rfl) ?_;dsimp only));refine bE 2 #[.int .i64 a0_0,.slice A0_1 l0_1.length c0_1] 25 ?_;intro gb44 hg w4 hbox hb;have BK44:=aM (hbox);have GW44:=aM (gS hg);have GE44:=aM (gS hg);replace HB:=aM (ag bw hb);clear hb hbox hg)|((with_reducible refine aC (N:=4) rfl ?_);(try (refine bQ (by rfl) ?_;dsimp only));refine bE 4 #[.int .i64 0,.slice none 0 0] 30 ?_;intro gb45 hg w5 hbox hb;have BK45:=aM (hbox);have GW45:=aM (gS hg);have GE45:=aM (gS hg);replace HB:=aM (ag bw hb);have NB44_45:=aM (nL BK44.out hg);have NB45_44:=aM (nR BK44.out hg);replace BK44:=aM (bB BK44.out hb);clear hb hbox hg))
 (try simp only [Act.put,sA,sZ,sS])
 go_cut [18] (fun v18 wc=>∃ (kq:Nat) (x18_2:Bool),v18 = .bool x18_2 ∧ aj (bo.j0 kq a1 x18_2 a0_0 l0_1 = some (r1,r2,r3)) ∧ aj (kq ≤ k) ∧ aj (wc.heap[gb44]? = some (.cells #[.int .i64 a0_0,(.slice A0_1 l0_1.length c0_1)] 25 (0,0))) ∧ aj (wc.heap[gb45]? = some (.cells #[.int .i64 0,(.slice none 0 0)] 30 (0,0))) ∧ aj (Below w.heap.size w wc))
 case first =>
  have H:=HC3.out;clear HC3;replace H:=oB H;obtain ⟨t46,A6,H⟩:=H;(try dsimp only at H)
  by_cases c7:t46 = true
  ·subst c7;rw [if_pos rfl] at H;replace H:=oB H;obtain ⟨t47,A8,H⟩:=H;(try dsimp only at H)
   have H':=aM H;clear H;have hnb9:=NB44_45.out;have hnc9:=NB45_44.out;have hcz10_0:=cz BK44.out 0;have hcz10_1:=cz BK44.out 1;have hfz10_0:=af BK44.out 0;have hfz10_1:=af BK44.out 1;go_wp2_with (first|((with_reducible refine ai (f:=65) rfl ?_);refine gL 9 Tryz.func65 #[.agg #[.int .i64 a0_0,.slice A0_1 l0_1.length c0_1]] ?_;(with_reducible refine (cy.calls k a0_0 _ _ l0_1 true _ ?side1 ?side2 A6.out).mono ?_);(case side1=>exact qcs HR0_1.out HB.out);(case side2=>exact HC0_1.out);rintro e w11 ⟨rfl,hb⟩;refine ⟨_,rfl,?_⟩;replace BK44:=aM (bB BK44.out hb);replace BK45:=aM (bB BK45.out hb);replace HB:=aM (ag bw hb);(try clear hb);have hcz12_0:=cz BK44.out 0;have hcz12_1:=cz BK44.out 1;have hfz12_0:=af BK44.out 0;have hfz12_1:=af BK44.out 1)|(go_at_call 66;(with_reducible refine (cp.calls a1 0 (l0_1.length:Int) t47 _ A8.out).mono ?_);rintro e w' ⟨rfl,⟨nd,rfl⟩⟩))
   go_meet
   case rel=>exact ⟨_,(!t47),qrs,H',⟨by first|omega|exact Nat.le_refl _⟩,⟨bk1 BK44.out⟩,⟨bk1 BK45.out⟩,⟨by exact bw⟩⟩
  ·replace c7:=Bool.eq_false_iff.mpr c7;subst c7;rw [if_neg (show ¬ (false = true) by decide)] at H;have H':=aM H;clear H;have hnb13:=NB44_45.out;have hnc13:=NB45_44.out;have hcz14_0:=cz BK44.out 0;have hcz14_1:=cz BK44.out 1;have hfz14_0:=af BK44.out 0;have hfz14_1:=af BK44.out 1;go_wp2_with (first|((with_reducible refine ai (f:=65) rfl ?_);refine gL 9 Tryz.func65 #[.agg #[.int .i64 a0_0,.slice A0_1 l0_1.length c0_1]] ?_;(with_reducible refine (cy.calls k a0_0 _ _ l0_1 false _ ?side1 ?side2 A6.out).mono ?_);(case side1=>exact qcs HR0_1.out HB.out);(case side2=>exact HC0_1.out);rintro e w15 ⟨rfl,hb⟩;refine ⟨_,rfl,?_⟩;replace BK44:=aM (bB BK44.out hb);replace BK45:=aM (bB BK45.out hb);replace HB:=aM (ag bw hb);(try clear hb)))
   go_meet
   case rel=>exact ⟨_,(true),qrs,H',⟨by first|omega|exact Nat.le_refl _⟩,⟨bk1 BK44.out⟩,⟨bk1 BK45.out⟩,⟨by exact bw⟩⟩
 case rest =>
  clear HC3;(try clear c7);(try clear hcz10_0);(try clear hcz10_1);(try clear hcz12_0);(try clear hcz12_1);(try clear hcz14_0);(try clear hcz14_1);(try clear hfz10_0);(try clear hfz10_1);(try clear hfz12_0);(try clear hfz12_1);(try clear hfz14_0);(try clear hfz14_1)
  obtain ⟨kq,x18_2,rfl,HA,HJ2,BK44,BK45,HB⟩:=hcut
  cases kq with
  | zero=>exact absurd HA.out (by simp [bo.j0])
  | succ kj2 =>
   have H:=HA.out;clear HA;simp only [bo.j0] at H;by_cases c16:x18_2 = true
   ·subst c16;rw [if_pos rfl] at H;simp only [Option.some.injEq,Prod.mk.injEq] at H;obtain ⟨rfl,rfl,rfl⟩:=H;have hnb17:=NB45_44.out;have hnc17:=NB44_45.out;have hcz18_0:=cz BK45.out 0;have hcz18_1:=cz BK45.out 1;have hfz18_0:=af BK45.out 0;have hfz18_1:=af BK45.out 1;go_wp2
    refine bodyPost_ret (dV rfl _ _ gb45 30 #[.int .i64 0,.slice none 0 0] (0,0) _ rfl (by (with_reducible repeat (first|refine ax ?_ _|refine an ?_|refine au ?_ _));refine bI (cs:=#[.int .i64 0,.slice none 0 0]) ?_ 1 _ rfl;(with_reducible repeat (first|refine ax ?_ _|refine an ?_|refine au ?_ _));refine bI (cs:=#[.int .i64 0,.slice none 0 0]) ?_ 0 _ rfl;(with_reducible repeat (first|refine ax ?_ _|refine an ?_|refine au ?_ _));exact BK45.out) Tryz.underlying30 rfl kR) rfl ?_;exact ⟨_,eE,by first|exact Kd.gW _ _ _ _ _|exact Kd.gQ _ _ _ _ _|exact Kd.gP _ _ _ _ _|exact Kd.gU _ _ _ _ _|exact Kd.gx _ _ _ _ _,by exact bw⟩
   ·replace c16:=Bool.eq_false_iff.mpr c16;subst c16;rw [if_neg (show ¬ (false = true) by decide)] at H;replace H:=oB H;obtain ⟨t48,A19,H⟩:=H;(try dsimp only at H)
    have H':=aM H;clear H;have hnb20:=NB44_45.out;have hnc20:=NB45_44.out;have hcz21_0:=cz BK44.out 0;have hcz21_1:=cz BK44.out 1;have hfz21_0:=af BK44.out 0;have hfz21_1:=af BK44.out 1;go_wp2_with (first|((with_reducible refine ai (f:=67) rfl ?_);refine gL 21 Tryz.func67 #[.agg #[.int .i64 a0_0,.slice A0_1 l0_1.length c0_1]] ?_;(with_reducible refine (bW.calls kj2 a0_0 _ _ l0_1 t48 _ ?side1 ?side2 A19.out).mono ?_);(case side1=>exact qcs HR0_1.out HB.out);(case side2=>exact HC0_1.out);rintro e w22 ⟨v49,rfl,ho0,hb⟩;refine ⟨_,rfl,?_⟩;have HO50:=aM (Kd.cr ho0 (av bw));replace BK44:=aM (bB BK44.out hb);replace BK45:=aM (bB BK45.out hb);replace HB:=aM (ag bw hb);(try clear hb);(try clear ho0);obtain ⟨Ao23,co23,eo23⟩:=Kd.b5 HO50.out;subst eo23))
    go_loopg [24] kj2 (fun kq v24 w'=>∃ (x6_2:List Bool) (x24_2:Int),v24 = .int .i64 x24_2 ∧ aj (bo.l0 kq a1 x6_2 (t48.length:Int) x24_2 a0_0 l0_1 = some (r1,r2,r3)) ∧ aj (kq ≤ kj2) ∧ aj (Kd.R Kd.bool 4 w' w.heap.size (fun _=>True) (.slice Ao23 t48.length co23) x6_2) ∧ aj (w'.heap[gb44]? = some (.cells #[.int .i64 a0_0,(.slice A0_1 l0_1.length c0_1)] 25 (0,0))) ∧ aj (w'.heap[gb45]? = some (.cells #[.int .i64 0,(.slice none 0 0)] 30 (0,0))) ∧ aj (Below w.heap.size w w'))
    case atStart=>exact ⟨(t48),(0),qrs,H',⟨Nat.le_refl _⟩,⟨qra HO50.out⟩,⟨bk1 BK44.out⟩,⟨bk1 BK45.out⟩,⟨by exact bw⟩⟩
    case round =>
     clear H';(try clear c16);(try clear hcz18_0);(try clear hcz18_1);(try clear hcz21_0);(try clear hcz21_1);(try clear hfz18_0);(try clear hfz18_1);(try clear hfz21_0);(try clear hfz21_1)
     obtain ⟨x6_2,x24_2,rfl,HA,HK2,HO_6,BK44,BK45,HB⟩:=hrel;have hl6_2:=(Kd.aI HO_6.out).1;rw [hl6_2] at HO_6;(try simp only [hl6_2])
     (try simp only [hl6_2] at BK44)
     (try simp only [hl6_2] at BK45)
     cases gk with
     | zero=>exact absurd HA.out (by simp [bo.l0])
     | succ k2 =>
      have H:=HA.out;clear HA;simp only [bo.l0] at H;by_cases c24:x24_2 < (t48.length:Int)
      ·rw [if_pos c24] at H;have c24b0:=decide_eq_true c24;(try simp only [hl6_2] at c24b0)
       clear c24;replace H:=iN H;obtain ⟨c25,H⟩:=H;have c25b0:decide (0 ≤ x24_2) = true:=decide_eq_true c25;clear c25;replace H:=iN H;obtain ⟨c26,H⟩:=H;have c26b0:decide (x24_2 < (x6_2.length:Int)) = true:=decide_eq_true c26;(try simp only [hl6_2] at c26b0)
       clear c26;obtain ⟨bq27,hbq27⟩:∃ b_:Bool,b_ = (dE false x6_2 x24_2):=⟨_,rfl⟩;rw [← hbq27] at H;have Nbq27:=aM hbq27;clear hbq27;by_cases c28:bq27 = true
       ·subst c28;rw [if_pos rfl] at H;replace H:=oB H;obtain ⟨t52,A29,H⟩:=H;(try dsimp only at H)
        obtain ⟨y55,hy55⟩:∃ y_:List Bool,y_ = (x6_2.set (x24_2:Int).toNat (decide ((t52.length:Int) ≥ a1))):=⟨_,rfl⟩;replace H:(bo.l0 k2 a1 y55 (t48.length:Int) (wrap64 (x24_2 + 1)) a0_0 l0_1) = some (r1,r2,r3):=yR hy55 H;have Ny55:=aM hy55;clear hy55;have H':=aM H;clear H;have p51:0 ≤ (x24_2:Int):=of_decide_eq_true ab;have q51:x24_2 < (x6_2.length:Int):=of_decide_eq_true ab;obtain ⟨ad51,e51,hx51_0⟩:=Kd.b8 (Kd.aI HO_6.out).2.2 x24_2 p51 q51;(try rw [← Nbq27.out] at hx51_0)
        cases e51
        replace p51:=eq_true p51;replace q51:=eq_true q51;go_wp2_with (first|(go_at_call 68;(with_reducible refine (cx.calls k2 x24_2 t52 _ A29.out).mono ?_);rintro e w31 ⟨v53,rfl,ho0,hb⟩;replace HO_6:=aM (Kd.ba (qra HO_6.out) hb);have HO54:=aM (Kd.cr ho0 (av bw));replace BK44:=aM (bB BK44.out hb);replace BK45:=aM (bB BK45.out hb);replace HB:=aM (ag bw hb);(try clear hb);(try clear ho0);obtain ⟨Ao32,co32,eo32⟩:=Kd.b5 HO54.out;subst eo32;have p30:0 ≤ (x24_2:Int):=of_decide_eq_true ab;have q30:(x24_2:Int) < ((x6_2.length:Int):Int):=of_decide_eq_true ab;obtain ⟨go30,co30,eo30,gb30,gl30,cl30,HG30⟩:=Kd.jF HO_6.out (by omega);(first|cases eo30|(injection eo30 with ea_ en_ ec_;(first|subst ea_|(injection ea_ with ea_;subst ea_));subst ec_;clear en_));have GB30:=aM gb30;have GG30:=aM HG30;clear gb30 gl30 HG30;(first|simp only [add_plain] at hx51_0|skip);obtain ⟨hx30_0,hf30_0⟩:=Kd.gK false HO_6.out (x24_2:Int) p30 q30;replace p30:=eq_true p30;replace q30:=eq_true q30;obtain ⟨hy33_,hz33_⟩:=Kd.gK false HO_6.out (x24_2:Int) (of_decide_eq_true ab) (of_decide_eq_true ab);have HP33:=Kd.j3 HO_6.out (x24_2:Int) (decide ((t52.length:Int) ≥ a1)))|((with_reducible refine fG (t:=4) (p:=40) rfl ?_);refine fl (t:=4) (p:=40) (v:=?vo_w34) (w1:=(w31.setCell ⟨go30,(x24_2:Int).toNat,none⟩ (.bool (decide ((t52.length:Int) ≥ a1))))) ?hg ?ho ?hn ?hr ?_;(case ho=>rfl);(case hg=>rfl);(case hn=>rfl);(case hr=>first|(go_simp;done)|(go_simp;rfl));intro w34 hw;have hg:w31.grownBy w34 (some go30):=(by rw [hw];exact HP33.2);have hp_:Kd.R Kd.bool 4 w34 w.heap.size (fun _=>True) (.slice (some ⟨go30,0,none⟩) x6_2.length co23) y55:=(by rw [hw,Ny55.out];exact HP33.1);clear HP33;replace BK44:=aM (bH BK44.out hg (Kd.lY HO_6.out BK44.out (by decide)));replace BK45:=aM (bH BK45.out hg (Kd.lY HO_6.out BK45.out (by decide)));replace HO54:=aM (Kd.eW (v:=(.slice (some ⟨go30,0,none⟩) x6_2.length co23)) (qra HO54.out) (Kd.j7 HO_6.out) (by decide) hg);replace HO_6:=aM (hp_);replace HB:=aM ((by rw [hw];exact cY (HB.out) GB30.out:Below w.heap.size w w34));clear hg hw hp_))
        (try simp only [← hl6_2])
        go_roundg k2
        case measure=>have:=HJ2.out;have:=HK2.out;omega
        case rel=>exact ⟨(y55),(wrap64 (x24_2 + 1)),qrs,H',⟨by have:=HJ2.out;have:=HK2.out;omega⟩,⟨by (try simp only [hl6_2]);(with_reducible repeat (first|apply Kd.ca|apply Kd.b7|apply Kd.cu));exact HO_6.out⟩,⟨by (try simp only [hl6_2]);(with_reducible repeat (first|refine ax ?_ _|refine an ?_|refine au ?_ _));exact BK44.out⟩,⟨by (try simp only [hl6_2]);(with_reducible repeat (first|refine ax ?_ _|refine an ?_|refine au ?_ _));exact BK45.out⟩,⟨by exact bw⟩⟩
       ·replace c28:=Bool.eq_false_iff.mpr c28;subst c28;rw [if_neg (show ¬ (false = true) by decide)] at H;obtain ⟨y56,hy56⟩:∃ y_:List Bool,y_ = (x6_2.set (x24_2:Int).toNat false):=⟨_,rfl⟩;replace H:(bo.l0 k2 a1 y56 (t48.length:Int) (wrap64 (x24_2 + 1)) a0_0 l0_1) = some (r1,r2,r3):=yR hy56 H;have Ny56:=aM hy56;clear hy56;have H':=aM H;clear H;have p51:0 ≤ (x24_2:Int):=of_decide_eq_true ab;have q51:x24_2 < (x6_2.length:Int):=of_decide_eq_true ab;obtain ⟨ad51,e51,hx51_0⟩:=Kd.b8 (Kd.aI HO_6.out).2.2 x24_2 p51 q51;(try rw [← Nbq27.out] at hx51_0)
        cases e51
        replace p51:=eq_true p51;replace q51:=eq_true q51;have p35:0 ≤ (x24_2:Int):=of_decide_eq_true ab;have q35:(x24_2:Int) < ((x6_2.length:Int):Int):=of_decide_eq_true ab;obtain ⟨go35,co35,eo35,gb35,gl35,cl35,HG35⟩:=Kd.jF HO_6.out (by omega);(first|cases eo35|(injection eo35 with ea_ en_ ec_;(first|subst ea_|(injection ea_ with ea_;subst ea_));subst ec_;clear en_))
        have GB35:=aM gb35;have GG35:=aM HG35;clear gb35 gl35 HG35;(first|simp only [add_plain] at hx51_0|skip)
        obtain ⟨hx35_0,hf35_0⟩:=Kd.gK false HO_6.out (x24_2:Int) p35 q35;replace p35:=eq_true p35;replace q35:=eq_true q35;have HP36:=Kd.j3 HO_6.out (x24_2:Int) false;go_wp2_with (first|((with_reducible refine fG (t:=4) (p:=40) rfl ?_);refine fl (t:=4) (p:=40) (v:=?vo_w37) (w1:=(wr.setCell ⟨go35,(x24_2:Int).toNat,none⟩ (.bool false))) ?hg ?ho ?hn ?hr ?_;(case ho=>rfl);(case hg=>rfl);(case hn=>rfl);(case hr=>first|(go_simp;done)|(go_simp;rfl));intro w37 hw;have hg:wr.grownBy w37 (some go35):=(by rw [hw];exact HP36.2);have hp_:Kd.R Kd.bool 4 w37 w.heap.size (fun _=>True) (.slice (some ⟨go35,0,none⟩) x6_2.length co23) y56:=(by rw [hw,Ny56.out];exact HP36.1);clear HP36;replace BK44:=aM (bH BK44.out hg (Kd.lY HO_6.out BK44.out (by decide)));replace BK45:=aM (bH BK45.out hg (Kd.lY HO_6.out BK45.out (by decide)));replace HO_6:=aM (hp_);replace HB:=aM ((by rw [hw];exact cY (HB.out) GB35.out:Below w.heap.size w w37));clear hg hw hp_))
        (try simp only [← hl6_2])
        go_roundg k2
        case measure=>have:=HJ2.out;have:=HK2.out;omega
        case rel=>exact ⟨(y56),(wrap64 (x24_2 + 1)),qrs,H',⟨by have:=HJ2.out;have:=HK2.out;omega⟩,⟨by (try simp only [hl6_2]);(with_reducible repeat (first|apply Kd.ca|apply Kd.b7|apply Kd.cu));exact HO_6.out⟩,⟨by (try simp only [hl6_2]);(with_reducible repeat (first|refine ax ?_ _|refine an ?_|refine au ?_ _));exact BK44.out⟩,⟨by (try simp only [hl6_2]);(with_reducible repeat (first|refine ax ?_ _|refine an ?_|refine au ?_ _));exact BK45.out⟩,⟨by exact bw⟩⟩
      ·rw [if_neg c24] at H;have c24b0:=decide_eq_false c24;(try simp only [hl6_2] at c24b0)
       clear c24;replace H:=oB H;obtain ⟨⟨t57,t58⟩,A38,H⟩:=H;(try dsimp only at H)
       simp only [Option.some.injEq,Prod.mk.injEq] at H;obtain ⟨rfl,rfl,rfl⟩:=H;have hnb39:=NB44_45.out;have hnc39:=NB45_44.out;have hcz40_0:=cz BK44.out 0;have hcz40_1:=cz BK44.out 1;have hfz40_0:=af BK44.out 0;have hfz40_1:=af BK44.out 1;go_wp2_with (first|((with_reducible refine ai (f:=37) rfl ?_);refine gL 46 Tryz.func37 #[.int .i64 (l0_1.length:Int),.slice Ao23 x6_2.length co23] ?_;(with_reducible refine (eu.calls k2 (l0_1.length:Int) _ _ x6_2 t57 t58 _ ?side1 ?side2 A38.out).mono ?_);(case side1=>exact qc (Kd.aI HO_6.out).2.2);(case side2=>exact (Kd.aI HO_6.out).2.1);rintro e w41 ⟨v59,rfl,ho0,hb⟩;refine ⟨_,rfl,?_⟩;replace HO_6:=aM (Kd.ba (qra HO_6.out) hb);have HO60:=aM (Kd.gr ho0 (av bw));replace BK44:=aM (bB BK44.out hb);replace BK45:=aM (bB BK45.out hb);replace HB:=aM (ag bw hb);(try clear hb);(try clear ho0);have hcz42_0:=cz BK45.out 0;have hcz42_1:=cz BK45.out 1;have hfz42_0:=af BK45.out 0;have hfz42_1:=af BK45.out 1;obtain ⟨Ao43,co43,eo43⟩:=Kd.fH HO60.out;subst eo43))
       refine bodyPost_ret (dV rfl _ _ gb45 30 #[.int .i64 t57,.slice Ao43 t58.length co43] (0,0) _ rfl (by (with_reducible repeat (first|refine ax ?_ _|refine an ?_|refine au ?_ _));refine bI (cs:=#[.int .i64 t57,.slice none 0 0]) ?_ 1 _ rfl;(with_reducible repeat (first|refine ax ?_ _|refine an ?_|refine au ?_ _));refine bI (cs:=#[.int .i64 0,.slice none 0 0]) ?_ 0 _ rfl;(with_reducible repeat (first|refine ax ?_ _|refine an ?_|refine au ?_ _));exact BK45.out) Tryz.underlying30 rfl kR) rfl ?_;exact ⟨_,eE,by (with_reducible repeat (first|apply Kd.ez|apply Kd.eh|apply Kd.fb));exact Kd.eT (Kd.gh (p:=⟨gb45,1,none⟩) (Kd.gh (p:=⟨gb45,0,none⟩) (Kd.fL HO60.out BK45.out (by decide)) (fun _ hk=>hk.2) (.int .i64 t57)) (fun _ hk=>hk.2) (.slice Ao43 t58.length co43)) (fun _ hk=>trivial),by exact bw⟩

end Go.Proofs.YthipiojpoklpgaaGreat.P
