/- Part 5 of the texts below the law FnCouncilsWinOfAll. Printed by this session's driver over the kit's printer, but for the hand contracts and the plain laws. -/
import Derived.Shelf.SlSortCmp.NoneTotal
import Derived.Test.YtidkafljeldokaaGreatCFnCouncilsWinOfAll1
import Derived.Test.YtidkafljeldokaaGreatCFnCouncilsWinOfAll2
import Derived.Test.YtidkafljeldokaaGreatCFnCouncilsWinOfAll4
set_option linter.unusedVariables false
set_option linter.unusedSimpArgs false
namespace Go.Proofs.YtidkafljeldokaaGreat.P
open Go.RowKit Go.Proofs.YtidkafljeldokaaGreatW.PrintWords Go.Proofs.YtidkafljeldokaaGreatW.PrintLast Go.Proofs.YtidkafljeldokaaGreatW.PrintMore
attribute [local go_sem] max2_int min2_int max_two min_two max_three min_three max_four min_four   -- for this text's walks alone
set_option linter.unusedVariables false
set_option linter.unusedSimpArgs false

/-! ### slices_SortFunc_LLint_Lint: function 100 -/
-- OWN 0 0
-- IMPORT Lexc
-- KIT Derived.Shelf.SlSortCmp.NoneTotal
open Go.Shelf in
def slices_SortFunc_LLint_Lint.ren : Ren := ⟨fun x => match x with
| 6 => 100 | 14 => 103 | 15 => 104 | 20 => 105 | 21 => 106 | 22 => 107 | 23 => 108 | 24 => 109 | 25 => 110 | 26 => 111 | 27 => 112 | 28 => 113 | 29 => 114 | 46 => 115 | 47 => 116 | 48 => 117 | 49 => 118 | 50 => 119 | 57 => 120 | _ => 0, fun x => match x with
| 0 => 0 | 3 => 3 | 4 => 4 | 5 => 5 | 9 => 9 | 22 => 26 | 24 => 22 | 25 => 74 | 39 => 105 | 45 => 107 | 46 => 108 | 50 => 34 | 53 => 114 | 55 => 116 | 66 => 117 | 70 => 121 | 76 => 123 | 77 => 124 | _ => 0, fun x => x⟩
theorem slices_SortFunc_LLint_Lint.lay : SlLaysF.n6 Tryz.prog slices_SortFunc_LLint_Lint.ren := ⟨
  by kernel_rfl,
  ⟨"slices.SortFunc[[][]int,[]int]", by decide, by kernel_rfl⟩,
  ⟨"slices.pdqsortCmpFunc[[]int]", by decide, by kernel_rfl⟩,
  by kernel_rfl,
  ⟨"slices.insertionSortCmpFunc[[]int]", by decide, by kernel_rfl⟩,
  ⟨"slices.heapSortCmpFunc[[]int]", by decide, by kernel_rfl⟩,
  ⟨"slices.breakPatternsCmpFunc[[]int]", by decide, by kernel_rfl⟩,
  ⟨"slices.choosePivotCmpFunc[[]int]", by decide, by kernel_rfl⟩,
  ⟨"slices.reverseRangeCmpFunc[[]int]", by decide, by kernel_rfl⟩,
  ⟨"slices.partialInsertionSortCmpFunc[[]int]", by decide, by kernel_rfl⟩,
  ⟨"slices.partitionEqualCmpFunc[[]int]", by decide, by kernel_rfl⟩,
  ⟨"slices.partitionCmpFunc[[]int]", by decide, by kernel_rfl⟩,
  by kernel_rfl,
  by kernel_rfl,
  ⟨"slices.siftDownCmpFunc[[]int]", by decide, by kernel_rfl⟩,
  by kernel_rfl,
  by kernel_rfl,
  ⟨"slices.medianAdjacentCmpFunc[[]int]", by decide, by kernel_rfl⟩,
  ⟨"slices.medianCmpFunc[[]int]", by decide, by kernel_rfl⟩,
  ⟨"slices.order2CmpFunc[[]int]", by decide, by kernel_rfl⟩,
  by kernel_rfl,
  fun w => by kernel_rfl,
  fun w => by kernel_rfl,
  fun w => by kernel_rfl,
  by kernel_rfl,
  fun w => by kernel_rfl,
  fun w => by kernel_rfl,
  fun w => by kernel_rfl,
  by kernel_rfl,
  fun w => by kernel_rfl,
  fun w => by kernel_rfl,
  fun w => by kernel_rfl,
  by kernel_rfl,
  fun w => by kernel_rfl,
  fun w => by kernel_rfl,
  fun w => by kernel_rfl,
  by kernel_rfl,
  fun w => by kernel_rfl,
  fun w => by kernel_rfl,
  fun w => by kernel_rfl,
  by kernel_rfl,
  fun w => by kernel_rfl,
  fun w => by kernel_rfl,
  fun w => by kernel_rfl,
  fun w => by kernel_rfl,
  fun w => by kernel_rfl,
  by kernel_rfl,
  fun w => by kernel_rfl,
  fun w => by kernel_rfl,
  fun w => by kernel_rfl,
  by kernel_rfl,
  fun w => by kernel_rfl,
  fun w => by kernel_rfl,
  fun w => by kernel_rfl,
  by kernel_rfl,
  fun w => by kernel_rfl,
  fun w => by kernel_rfl,
  fun w => by kernel_rfl,
  by kernel_rfl,
  fun w => by kernel_rfl,
  fun w => by kernel_rfl,
  fun w => by kernel_rfl,
  by kernel_rfl,
  fun w => by kernel_rfl,
  fun w => by kernel_rfl,
  fun w => by kernel_rfl,
  by kernel_rfl,
  fun w => by kernel_rfl,
  fun w => by kernel_rfl,
  fun w => by kernel_rfl,
  by kernel_rfl,
  fun w => by kernel_rfl,
  fun w => by kernel_rfl,
  fun w => by kernel_rfl,
  by kernel_rfl,
  fun w => by kernel_rfl,
  fun w => by kernel_rfl,
  fun w => by kernel_rfl,
  by kernel_rfl,
  fun w => by kernel_rfl,
  fun w => by kernel_rfl,
  fun w => by kernel_rfl,
  by kernel_rfl,
  fun w => by kernel_rfl,
  fun w => by kernel_rfl,
  fun w => by kernel_rfl,
  by kernel_rfl,
  fun w => by kernel_rfl,
  fun w => by kernel_rfl,
  fun w => by kernel_rfl⟩
def slices_SortFunc_LLint_Lint.f (k : Nat) (l0 : List (List Int)) (a1 : (List Int → List Int → Option (Int))) : Option (List (List Int)) := if l0.length ≤ 1000000 ∧ ∀ x ∈ l0, ∀ y ∈ l0, a1 x y = some (lexc x y) then some (sorted l0) else none
open Go.Sort in
theorem slices_SortFunc_LLint_Lint.heap {α : Type} [Inhabited α] (enc : α → Value) (w : World) (g m : Nat) (d : Array α) (os : Array Obj) (cur : Array Value) (e : Nat) (hg : w.heap[g]? = some (.cells cur e (0, 0))) :
    (sortWorld enc w g 0 m d os).heap[g]? = some (.cells (putCells enc 0 d cur) e (0, 0)) ∧ (∀ k, k < w.heap.size → k ≠ g → (sortWorld enc w g 0 m d os).heap[k]? = w.heap[k]?) ∧ w.heap.size ≤ (sortWorld enc w g 0 m d os).heap.size := by
  have hlt : g < w.heap.size := blk_lt hg
  have e1 : ∀ k, k < w.heap.size → (sortWorld enc w g 0 m d os).heap[k]? = (w.heap.modify g (onCells (putCells enc 0 d)))[k]? := fun k hk => by
    show ((w.heap.modify g (onCells (putCells enc 0 d))) ++ os)[k]? = _
    rw [Array.getElem?_append_left (by rw [Array.size_modify]; exact hk)]
  refine ⟨?_, fun k hk hne => ?_, ?_⟩
  · rw [e1 g hlt, Array.getElem?_modify, if_pos rfl, hg]
    rfl
  · rw [e1 k hk, Array.getElem?_modify, if_neg (fun z => hne z.symm)]
  · show w.heap.size ≤ ((w.heap.modify g (onCells (putCells enc 0 d))) ++ os).size
    rw [Array.size_append, Array.size_modify]
    omega
open Go.Sort in
theorem slices_SortFunc_LLint_Lint.cells {α : Type} [Inhabited α] (enc : α → Value) (d : Array α) (cur : Array Value) (h : d.size ≤ cur.size) : (putCells enc 0 d cur).toList.take d.size = d.toList.map enc := by
  apply List.ext_getElem?
  intro j
  by_cases hj : j < d.size
  · rw [List.getElem?_take_of_lt hj, Array.getElem?_toList, List.getElem?_map, Array.getElem?_toList]
    unfold putCells
    rw [Array.getElem?_mapIdx, Array.getElem?_eq_getElem (by omega), Array.getElem?_eq_getElem hj, Option.map_some, Option.map_some, if_pos ⟨Nat.zero_le _, by omega⟩, Nat.sub_zero, getElem!_pos d j hj]
  · rw [List.getElem?_eq_none (by rw [List.length_take]; omega), List.getElem?_eq_none (by rw [List.length_map, Array.length_toList]; omega)]
set_option maxHeartbeats 2000000 in
theorem slices_SortFunc_LLint_Lint.calls (k : Nat) (P0_ : Nat → Prop) (u9000_ : Value) (l0 : List (List Int)) (a1 : (List Int → List Int → Option (Int))) (g1_ : Nat) (lb1_ : Array Value) (eg1_ : ∀ (args : Array Value) (w : World), (callFunc g1_ args).run Tryz.prog w = .ok (.enter g1_ args) w) (r : List (List Int)) (w0 w : World) (hB : Below w0.heap.size w0 w) (ho0 : Kd.S (Kd.slice 3 (Kd.int .i64)) 22 w w0.heap.size P0_ u9000_ l0) (hp1 : ∀ (W : World) (A0_ : Option Addr) (c0_ : Nat) (l0_ : List Int) (A1_ : Option Addr) (c1_ : Nat) (l1_ : List Int) (r0_ : Int), a1 l0_ l1_ = some r0_ → Kept w W (fun k_ => P0_ k_) → Kd.C (Kd.int .i64) W A0_ l0_.length l0_ → l0_.length ≤ c0_ → Kd.C (Kd.int .i64) W A1_ l1_.length l1_ → l1_.length ≤ c1_ → Calls Tryz.prog g1_ (#[.slice A0_ l0_.length c0_, .slice A1_ l1_.length c1_] ++ lb1_) W fun e w' => e = .returned (.int .i64 r0_) ∧ Drawn0 W w') (h : slices_SortFunc_LLint_Lint.f k l0 a1 = some r) :
    Calls Tryz.prog 100 #[u9000_, .func (.func g1_) #[] lb1_] w fun e w' => e = .returned (.tuple #[]) ∧ Kd.S (Kd.slice 3 (Kd.int .i64)) 22 w' w0.heap.size (fun k_ => P0_ k_) u9000_ r ∧ Below w0.heap.size w0 w' ∧ Kept w w' (fun k_ => P0_ k_) := by
  unfold slices_SortFunc_LLint_Lint.f at h
  split at h
  case isFalse => exact absurd h (by simp)
  rename_i hc
  obtain ⟨hlen, hcmp⟩ := hc
  obtain rfl := Option.some.inj h
  clear h
  obtain ⟨f, h0, inner, ho, hr⟩ := ho0
  rw [List.length_zipIdx] at ho
  rcases Nat.eq_zero_or_pos l0.length with hn | hn
  · obtain rfl := List.eq_nil_of_length_eq_zero hn
    obtain ⟨A, c, rfl⟩ : ∃ A c, u9000_ = .slice A 0 c := by
      rcases ho.2 with ⟨hv, _⟩ | ⟨g, cap, cur, hv, _⟩
      · exact ⟨_, _, hv⟩
      · exact ⟨_, _, hv⟩
    refine (AnyF.slices_SortFunc_none { slices_SortFunc_LLint_Lint.lay with } A c (.func (.func g1_) #[] lb1_) w).mono ?_
    rintro e w' ⟨rfl, rfl⟩
    have e : sorted ([] : List (List Int)) = [] := by simp [sorted]
    rw [e]
    exact ⟨rfl, ⟨f, h0, inner, ho, hr⟩, hB, Kept.refl _ _⟩
  · obtain ⟨hil, hv⟩ := ho
    have hil : inner.length = l0.length := by have h1 : inner.length = l0.length * 1 := hil; omega
    obtain ⟨g, cap, cur, rfl, hbase, hg, hcap, hmax, hcs, htk⟩ : ∃ g cap cur, u9000_ = .slice (some ⟨g, 0, none⟩) l0.length cap ∧ w0.heap.size ≤ g ∧ w.heap[g]? = some (.cells cur 22 (0, 0)) ∧ l0.length ≤ cap ∧ cap ≤ maxLen ∧ cur.size = cap * 1 ∧ cur.toList.take (l0.length * 1) = inner := by
      rcases hv with ⟨_, hz⟩ | hv
      · omega
      · exact hv
    have hPg : P0_ g := h0 g rfl
    have hglt : g < w.heap.size := blk_lt hg
    rw [Nat.mul_one] at htk hcs
    have hcell : ∀ i (hi : i < l0.length), inner[i]'(by omega) = cur[i]'(by omega) := fun i hi => by
      have : inner[i]? = cur.toList[i]? := by rw [← htk, List.getElem?_take_of_lt hi]
      rw [List.getElem?_eq_getElem (by omega), List.getElem?_eq_getElem (by rw [Array.length_toList]; omega)] at this
      exact Option.some.inj this
    have hM : ∀ (i : Nat) (hi : i < l0.length), ∃ v', inner[i]'(by omega) = v' ∧ Kd.R (Kd.int .i64) 3 w w0.heap.size (fun k => ((P0_ k ∧ some k ≠ some g) ∧ f k = i)) v' l0[i] := fun i hi => by
      have h1 := hr.2 i (l0[i], i) (Kd.zip_at (List.getElem?_eq_getElem hi))
      have h2 : (inner.drop (i * 1)).take 1 = [inner[i]'(by omega)] := by rw [Nat.mul_one, List.drop_eq_getElem_cons (by omega), List.take_succ_cons, List.take_zero]
      obtain ⟨v', hv', hR⟩ := (show ∃ v', (inner.drop (i * 1)).take 1 = [v'] ∧ Kd.R (Kd.int .i64) 3 w w0.heap.size (fun k => ((P0_ k ∧ some k ≠ some g) ∧ f k = i)) v' l0[i] from h1)
      rw [h2] at hv'
      injection hv' with hv' _
      exact ⟨v', hv', hR⟩
    haveI : Inhabited (Fin l0.length) := ⟨⟨0, hn⟩⟩
    let enc : Fin l0.length → Value := fun i => inner[i.1]'(by omega)
    have henc : ∀ i, enc i = inner[i.1]'(by omega) := fun _ => rfl
    have hlt : ∀ (i j : Fin l0.length), ltOf (fun (i j : Fin l0.length) => lexc l0[i.1] l0[j.1]) i j = decide (lexc l0[i.1] l0[j.1] < 0) := fun _ _ => rfl
    have hO : Go.Sort.SWO (ltOf (fun (i j : Fin l0.length) => lexc l0[i.1] l0[j.1])) := by
      refine ⟨fun x => ?_, fun x y z h1 h2 => ?_, fun x y z h1 h2 => ?_⟩
      · rw [hlt, lexc_refl]; rfl
      · rw [hlt] at h1 h2 ⊢
        have h1 := of_decide_eq_true h1
        have h2 := of_decide_eq_true h2
        have h3 := lexc_trans (a := l0[x.1]) (b := l0[y.1]) (c := l0[z.1]) (by omega) (by omega)
        refine decide_eq_true ?_
        rcases Int.lt_or_eq_of_le h3 with h4 | h4
        · exact h4
        · have e := lexc_zero h4
          have s := lexc_swap l0[x.1] l0[y.1]
          rw [e] at s h1
          omega
      · rw [hlt] at h1 h2 ⊢
        have h1 := of_decide_eq_false h1
        have h2 := of_decide_eq_false h2
        have s1 := lexc_swap l0[x.1] l0[y.1]
        have s2 := lexc_swap l0[y.1] l0[z.1]
        have s3 := lexc_swap l0[x.1] l0[z.1]
        have h3 := lexc_trans (a := l0[z.1]) (b := l0[y.1]) (c := l0[x.1]) (by omega) (by omega)
        exact decide_eq_false (by omega)
    have hd : (List.finRange l0.length).toArray.size = l0.length := by rw [List.size_toArray, List.length_finRange]
    have hdg : ∀ j, j < l0.length → ((List.finRange l0.length).toArray[j]!).1 = j := fun j hj => by
      rw [getElem!_pos _ j (by rw [hd]; exact hj)]
      simp
    have hone : OneCell enc := fun i => by
      obtain ⟨v', e, hR⟩ := hM i.1 i.2
      rw [henc, e]
      exact (Kd.R_val hR).2
    have lays := Any.slices_SortFunc slices_SortFunc_LLint_Lint.lay enc hone (fun i j => lexc l0[i.1] l0[j.1]) hO g1_ lb1_ g 0 cap (List.finRange l0.length).toArray w eg1_
      (by
        intro m os dk hs x y
        obtain ⟨hh1, hh2, hh3⟩ := slices_SortFunc_LLint_Lint.heap enc w g m dk os cur 22 hg
        have rd : ∀ i : Fin l0.length, ∃ A c, enc i = .slice A l0[i.1].length c ∧ l0[i.1].length ≤ c ∧ Kd.C (Kd.int .i64) (sortWorld enc w g 0 m dk os) A l0[i.1].length l0[i.1] := fun i => by
          obtain ⟨v', e, hR⟩ := hM i.1 i.2
          have hR2 := Kd.R_step (w1 := sortWorld enc w g 0 m dk os) hR (fun k hk hkl => hh2 k hkl (fun z => hk.1.2 (congrArg some z)))
          obtain ⟨A, c, hv, hl, hC⟩ := Kd.R_reads hR2
          exact ⟨A, c, by rw [henc, e, hv], hl, hC⟩
        obtain ⟨A0, c0, ex, hl0, hC0⟩ := rd x
        obtain ⟨A1, c1, ey, hl1, hC1⟩ := rd y
        rw [ex, ey]
        refine (hp1 (sortWorld enc w g 0 m dk os) A0 c0 l0[x.1] A1 c1 l0[y.1] _ (hcmp _ (List.getElem_mem _) _ (List.getElem_mem _)) ⟨hh3, fun k hk hne => hh2 k hk (fun z => hne (z ▸ hPg))⟩ hC0 hl0 hC1 hl1).mono ?_
        rintro e w' ⟨rfl, ⟨⟨q, hq⟩⟩⟩
        exact ⟨rfl, q, #[], by rw [hq, Go.Sort.grow_empty]⟩)
      (by
        intro j hj
        rw [hd] at hj
        refine ⟨?_, ?_⟩
        · rw [Nat.zero_add]
          have e1 : enc ((List.finRange l0.length).toArray[j]!) = cur[j]'(by omega) := by
            rw [henc, ← hcell j hj]
            congr 1
            exact hdg j hj
          rw [e1]
          have := blk_cell hg j
          rw [this, Array.getElem?_eq_getElem (by omega)]
        · exact blk_frozen hg _)
      hglt (by rw [hd]; omega)
    rw [hd] at lays
    refine lays.mono ?_
    rintro e w' ⟨rfl, d', m, os, hp, hs, rfl⟩
    obtain ⟨hps, _, hpp⟩ := hp
    rw [hd] at hps
    obtain ⟨hh1, hh2, hh3⟩ := slices_SortFunc_LLint_Lint.heap enc w g m d' os cur 22 hg
    have hpp2 : d'.toList.Perm (List.finRange l0.length) := by
      have e1 : d'.extract 0 l0.length = d' := by have h2 : d'.extract 0 d'.size = d' := Array.extract_size; rwa [hps] at h2
      have e2 : (List.finRange l0.length).toArray.extract 0 l0.length = (List.finRange l0.length).toArray := by
        have : (List.finRange l0.length).toArray.extract 0 (List.finRange l0.length).toArray.size = (List.finRange l0.length).toArray := Array.extract_size
        rwa [hd] at this
      rw [e1, e2] at hpp
      exact hpp
    have hres : d'.toList.map (fun i => l0[i.1]) = sorted l0 := by
      refine sorted_of ?_ ?_
      · refine (hpp2.map _).trans (List.Perm.of_eq ?_)
        apply List.ext_getElem
        · rw [List.length_map, List.length_finRange]
        · intro j h1 h2
          simp
      · rw [List.pairwise_map]
        refine List.pairwise_iff_getElem.2 (fun i j hi hj hij => ?_)
        rw [Array.length_toList] at hi hj
        have := hs i j (Nat.zero_le _) hij (by omega)
        rw [getElem!_pos d' j (by omega), getElem!_pos d' i (by omega), hlt] at this
        have := of_decide_eq_false this
        have s := lexc_swap l0[(d'[i]).1] l0[(d'[j]).1]
        exact decide_eq_true (by simp only [Array.getElem_toList]; omega)
    have hnd : (d'.toList.map (fun i => i.1)).Nodup := by
      refine ((hpp2.map (fun i : Fin l0.length => i.1)).nodup_iff).2 ?_
      have := List.nodup_finRange l0.length
      exact List.Pairwise.map _ (fun a b hab z => hab (Fin.ext z)) this
    have hdl : d'.toList.length = l0.length := by rw [Array.length_toList]; exact hps
    refine ⟨rfl, ⟨fun b => (d'.toList.map (fun i => i.1)).idxOf (f b), h0, d'.toList.map enc, ?_, ?_⟩, ?_, ?_⟩
    · rw [List.length_zipIdx, ← hres, List.length_map, hdl]
      refine ⟨by rw [List.length_map, hdl]; show l0.length = l0.length * 1; omega, .inr ⟨g, cap, _, rfl, hbase, hh1, hcap, hmax, ?_, ?_⟩⟩
      · show (Go.Sort.putCells enc 0 d' cur).size = cap * 1
        unfold Go.Sort.putCells
        rw [Array.size_mapIdx]; omega
      · show (Go.Sort.putCells enc 0 d' cur).toList.take (l0.length * 1) = _
        have := slices_SortFunc_LLint_Lint.cells enc d' cur (by omega)
        rw [hps] at this
        rw [Nat.mul_one]
        exact this
    · refine ⟨by rw [List.length_zipIdx, ← hres, List.length_map, List.length_map]; show _ = _ * 1; omega, ?_⟩
      intro j p hj
      rw [← hres, List.getElem?_zipIdx, Nat.zero_add] at hj
      obtain ⟨x, hx, rfl⟩ := Option.map_eq_some_iff.1 hj
      rw [List.getElem?_map] at hx
      obtain ⟨i, hi, rfl⟩ := Option.map_eq_some_iff.1 hx
      have hjl : j < d'.toList.length := (List.getElem?_eq_some_iff.1 hi).1
      have hi2 : d'.toList[j] = i := (List.getElem?_eq_some_iff.1 hi).2
      have hdr : ((d'.toList.map enc).drop (j * 1)).take 1 = [enc i] := by
        rw [Nat.mul_one, List.drop_eq_getElem_cons (by rw [List.length_map]; exact hjl), List.take_succ_cons, List.take_zero, List.getElem_map, hi2]
      show ∃ v', ((d'.toList.map enc).drop (j * 1)).take 1 = [v'] ∧ _
      obtain ⟨v', e, hR⟩ := hM i.1 i.2
      have hR2 := Kd.R_step (w1 := sortWorld enc w g 0 m d' os) hR (fun k hk hkl => hh2 k hkl (fun z => hk.1.2 (congrArg some z)))
      refine ⟨enc i, hdr, ?_⟩
      rw [henc, e]
      refine Kd.R_mono hR2 (fun k hk => ⟨hk.1, ?_⟩)
      show (d'.toList.map (fun i => i.1)).idxOf (f k) = j
      have h3 := List.Nodup.idxOf_getElem hnd j (by rw [List.length_map]; exact hjl)
      rw [List.getElem_map, hi2] at h3
      rw [hk.2]
      exact h3
    · refine ⟨?_, ?_, ?_, Nat.le_trans hB.size hh3, fun k hk => (hh2 k (Nat.lt_of_lt_of_le hk hB.size) (fun z => by omega)).trans (hB.block k hk)⟩
      · exact hB.os
      · exact hB.tape
      · exact hB.output
    · exact ⟨hh3, fun k hk hne => hh2 k hk (fun z => hne (z ▸ hPg))⟩


/-! ### impl_votes_sets: function 87 -/
def impl_votes_sets.l0:Nat → (Int → Option (Bool)) → List (List Int) → Int → Int → Option ((List (List Int)))
 | 0,_,_,_,_=>none
 | k + 1,x1,x5,x10,x11=>if x11 < x10 then ((x1 x11).bind fun t3=>(if t3 = true then ((impl_setOf.f k x11).bind fun t4=>(if x5.length < 5864062014805 then (impl_votes_sets.l0 k x1 (x5 ++ [t4]) x10 (wrap64 (x11 + 1))) else (none))) else (impl_votes_sets.l0 k x1 x5 x10 (wrap64 (x11 + 1))))) else ((slices_SortFunc_LLint_Lint.f k x5 (fun y0_ y1_=>slices_Compare_int_int.f k y0_ y1_)).bind fun t2=>(some t2))
def impl_votes_sets.f (k:Nat) (a0_0:Int) (l0_1:List Bool) (a1:(Int → Option (Bool))):Option ((List (List Int))):=impl_votes_sets.l0 k a1 (([]:List (List Int))) (l0_1.length:Int) 0
set_option maxHeartbeats 8000000 in
set_option maxRecDepth 100000 in
theorem impl_votes_sets.callsB (bd1_:Array Value) (k:Nat) (a0_0:Int) (A0_1:Option Addr) (c0_1:Nat) (l0_1:List Bool) (a1:(Int → Option (Bool))) (g1_:Nat) (lb1_:Array Value) (eg1_:∀ (args:Array Value) (w:World),(callFunc g1_ args).run Tryz.prog w = .ok (.enter g1_ args) w) (r:List (List Int)) (w:World) (hr0_1:Kd.C Kd.bool w A0_1 l0_1.length l0_1) (hc0_1:l0_1.length ≤ c0_1) (hp1:∀ (W:World) (b0_:Int) (r0_:Bool),a1 b0_ = some r0_ → Below w.heap.size w W → Calls Tryz.prog g1_ ((bd1_ ++ #[.int .i64 b0_]) ++ lb1_) W fun e w'=>e = .returned (.bool r0_) ∧ Below W.heap.size W w') (h:impl_votes_sets.f k a0_0 l0_1 a1 = some r) :
  Calls Tryz.prog 87 #[.agg #[.int .i64 a0_0,.slice A0_1 l0_1.length c0_1],.func (.func g1_) bd1_ lb1_] w fun e w'=>∃ v0_:Value,e = .returned (v0_) ∧ Kd.S (Kd.slice 3 (Kd.int .i64)) 22 w' w.heap.size (fun _=>True) v0_ r ∧ Below w.heap.size w w':=by
 have hu59:=Tryz.underlying59;have HR0_1:=aM hr0_1;have HC0_1:=aM hc0_1;clear hr0_1 hc0_1;have HP1:=aM hp1;clear hp1;have HB:=aM (Below.refl w.heap.size w);have H:(impl_votes_sets.l0 k a1 (([]:List (List Int))) (l0_1.length:Int) 0) = some r:=h;clear h;obtain ⟨y21,hy21⟩:∃ y_:List (List Int),y_ = (([]:List (List Int))):=⟨_,rfl⟩;replace H:(impl_votes_sets.l0 k a1 y21 (l0_1.length:Int) 0) = some r:=yR hy21 H;have Ny21:=aM hy21;clear hy21;have H':=aM H;clear H;go_enter Tryz.func87,Tryz.ntmps87;go_wp2_with (first|((with_reducible refine gate_dst (N:=2) rfl ?_);refine bE 2 #[.int .i64 a0_0,.slice A0_1 l0_1.length c0_1] 59 ?_;intro gb20 hg w3 hbox hb;have BK20:=aM (hbox);have GW20:=aM (gS hg);have GE20:=aM (gS hg);replace HB:=aM (below_step bw hb);clear hb hbox hg)|((with_reducible refine gate_dst (N:=7) rfl ?_);refine Kd.S_lit (Kd.slice 3 (Kd.int .i64)) _ 22 ?hg (N:=7) ?hd (xs:=([]:List (List Int))) (inner:=[]) (ok:=fun _=>True) (okp:=fun _=>True) ?hr ?hp (fun _ hk=>hk) trivial (Below.refl _ _) (Nat.le_refl _) (by simp) ?_;(case hd=>rfl);(case hg=>rfl);(case hr=>first|(go_simp;done)|(go_simp;rfl));(case hp=>exact (Reps.none _ _));intro v23 w4 ho5 hb hg_ hnew_;clear hg_ hnew_;(first|rw [← Ny21.out] at ho5|(simp only [Int.reduceToNat] at ho5;rw [← Ny21.out] at ho5));have HO24:=aM (Kd.S_lower ho5 (below_size bw));replace BK20:=aM (bB BK20.out hb);replace HB:=aM (below_step bw hb);clear hb ho5;have hcz6_0:=cz BK20.out 0;have hcz6_1:=cz BK20.out 1;have hfz6_0:=blk_frozen BK20.out 0;have hfz6_1:=blk_frozen BK20.out 1))
 go_loopg [5,11] k (fun kq v5 v11 w'=>∃ (x5_1:List (List Int)) (x11_1:Int),v11 = .int .i64 x11_1 ∧ Aside0 (impl_votes_sets.l0 kq a1 x5_1 (l0_1.length:Int) x11_1 = some r) ∧ Aside0 (kq ≤ k) ∧ Aside0 (Kd.S (Kd.slice 3 (Kd.int .i64)) 22 w' w.heap.size (fun _=>True) v5 x5_1) ∧ Aside0 (w'.heap[gb20]? = some (.cells #[.int .i64 a0_0,(.slice A0_1 l0_1.length c0_1)] 59 (0,0))) ∧ Aside0 (Below w.heap.size w w'))
 case atStart=>exact ⟨(y21),(0),qrs,H',⟨Nat.le_refl _⟩,⟨qsa HO24.out⟩,⟨bk1 BK20.out⟩,⟨by exact bw⟩⟩
 case round =>
  clear H';(try clear hcz6_0);(try clear hcz6_1);(try clear hfz6_0);(try clear hfz6_1)
  obtain ⟨x5_1,x11_1,rfl,HA,HK1,HO_5,BK20,HB⟩:=hrel
  cases gk with
  | zero=>exact absurd HA.out (by simp [impl_votes_sets.l0])
  | succ k1 =>
   have H:=HA.out;clear HA;simp only [impl_votes_sets.l0] at H;by_cases c7:x11_1 < (l0_1.length:Int)
   ·rw [if_pos c7] at H;have c7b0:=decide_eq_true c7;clear c7;replace H:=oB H;obtain ⟨t27,A8,H⟩:=H;(try dsimp only at H)
    by_cases c9:t27 = true
    ·subst c9;rw [if_pos rfl] at H;replace H:=oB H;obtain ⟨t28,A10,H⟩:=H;(try dsimp only at H)
     replace H:=iN H;obtain ⟨c11,H⟩:=H;have LMc11:=aM c11;clear c11;obtain ⟨y31,hy31⟩:∃ y_:List (List Int),y_ = (x5_1 ++ [t28]):=⟨_,rfl⟩;replace H:(impl_votes_sets.l0 k1 a1 y31 (l0_1.length:Int) (wrap64 (x11_1 + 1))) = some r:=yR hy31 H;have Ny31:=aM hy31;clear hy31;have H':=aM H;clear H;go_wp2_with (first|((with_reducible refine gate_fn (t:=14) rfl ?_);refine goesFB_ (some 16) rfl rfl eg1_ #[.int .i64 x11_1] rfl rfl mq ?_;(with_reducible refine (HP1.out _ x11_1 true A8.out ?side1).mono ?_);(case side1=>exact bw);rintro e w12 ⟨rfl,hb⟩;refine ⟨_,rfl,?_⟩;replace HO_5:=aM (Kd.S_below (qsa HO_5.out) hb);replace BK20:=aM (bB BK20.out hb);replace HB:=aM (below_step bw hb);(try clear hb);(try clear hk))|((with_reducible refine gate_callee (f:=99) rfl ?_);refine gL 19 Tryz.func99 #[.int .i64 x11_1] ?_;(with_reducible refine (impl_setOf.calls k1 x11_1 t28 _ A10.out).mono ?_);rintro e w13 ⟨v29,rfl,ho0,hb⟩;refine ⟨_,rfl,?_⟩;replace HO_5:=aM (Kd.S_elder' (qsa HO_5.out) (Kd.R_base ho0) hb);have HO30:=aM (Kd.R_lower ho0 (below_size bw));replace BK20:=aM (bB BK20.out hb);replace HB:=aM (below_step bw hb);(try clear hb);(try clear ho0);obtain ⟨Ao15,co15,eo15⟩:=Kd.R_slice HO30.out;subst eo15)|((with_reducible refine gate_builtin (b:=.append) (xs:=#[.tmp 17,.tmp 20]) rfl ?_);at_builtin;refine Kd.S_append (Kd.slice 3 (Kd.int .i64)) (w0:=w) w.heap.size rfl (.tmp 17) (.tmp 20) 26 22 (.slice none 0 0) 24 rfl Tryz.underlying26 info22 rfl (by decide) (by omega) u5 x5_1 t28 [.slice Ao15 t28.length co15] (fun _=>True) (fun k_=>some k_ = (.slice Ao15 t28.length co15:Value).ownBlock) rfl rfl ?aP (fun k_ hk_=>((Kd.R_mono (ok':=fun k_=>((fun _=>True)) k_ ∧ some k_ ≠ (u5:Value).ownBlock) (Kd.R_apart' (HO30.out) (Kd.S_typed HO_5.out) (by decide)) (fun k_ hk=>⟨trivial,hk.2⟩))).1 k_ hk_.symm) ?aF ?aO ?aB ?aS ?aL ?_;(case aP=>exact Kd.M_row (Kd.R_mono (Kd.R_tight rfl (Kd.R_mono (ok':=fun k_=>((fun _=>True)) k_ ∧ some k_ ≠ (u5:Value).ownBlock) (Kd.R_apart' (HO30.out) (Kd.S_typed HO_5.out) (by decide)) (fun k_ hk=>⟨trivial,hk.2⟩))) (fun _ h_=>h_)));(case aB=>exact bw);(case aF=>exact (fun _ _=>trivial));(case aO=>exact (by (with_reducible repeat (first|apply Kd.S_alloc|apply Kd.S_drewN|apply Kd.S_drew));exact Kd.S_mono HO_5.out (fun k_ hk=>⟨trivial,fun e_=>hk.2 e_⟩)));(case aS=>exact (below_size bw));(case aL=>have:=LMc11.out;omega);intro v32 w14 ho hb hg hat;rw [← Ny31.out] at ho;replace BK20:=aM (blk_grown (g:=gb20) (o:=.cells #[.int .i64 a0_0,.slice A0_1 l0_1.length c0_1] 59 (0,0)) (bk1 BK20.out) hg (Kd.S_ne HO_5.out BK20.out (by decide)));replace HB:=aM (hb);have HO33:=aM (ho);clear HO_5;clear HO30;clear ho hb hg hat))
     go_roundg k1
     case measure=>have:=HK1.out;omega
     case rel=>exact ⟨(y31),(wrap64 (x11_1 + 1)),qrs,H',⟨by have:=HK1.out;omega⟩,⟨qsa HO33.out⟩,⟨bk1 BK20.out⟩,⟨by exact bw⟩⟩
    ·replace c9:=Bool.eq_false_iff.mpr c9;subst c9;rw [if_neg (show ¬ (false = true) by decide)] at H;have H':=aM H;clear H;go_wp2_with (first|((with_reducible refine gate_fn (t:=14) rfl ?_);refine goesFB_ (some 16) rfl rfl eg1_ #[.int .i64 x11_1] rfl rfl mq ?_;(with_reducible refine (HP1.out _ x11_1 false A8.out ?side1).mono ?_);(case side1=>exact bw);rintro e w16 ⟨rfl,hb⟩;refine ⟨_,rfl,?_⟩;replace HO_5:=aM (Kd.S_below (qsa HO_5.out) hb);replace BK20:=aM (bB BK20.out hb);replace HB:=aM (below_step bw hb);(try clear hb);(try clear hk)))
     go_roundg k1
     case measure=>have:=HK1.out;omega
     case rel=>exact ⟨(x5_1),(wrap64 (x11_1 + 1)),qrs,H',⟨by have:=HK1.out;omega⟩,⟨qsa HO_5.out⟩,⟨bk1 BK20.out⟩,⟨by exact bw⟩⟩
   ·rw [if_neg c7] at H;have c7b0:=decide_eq_false c7;clear c7;replace H:=oB H;obtain ⟨t25,A17,H⟩:=H;(try dsimp only at H)
    obtain rfl:=Option.some.inj H;obtain ⟨Ao18,co18,eo18⟩:=Kd.S_slice HO_5.out;subst eo18;go_wp2_with (first|((with_reducible refine gate_callee (f:=100) rfl ?_);refine gL 24 Tryz.func100 #[.slice Ao18 x5_1.length co18,.func (.func 46) #[] #[]] ?_;(with_reducible refine (slices_SortFunc_LLint_Lint.calls k1 (fun k_=>(True ∧ k_ ≠ gb20)) (.slice Ao18 x5_1.length co18) x5_1 (fun y0_ y1_=>slices_Compare_int_int.f k1 y0_ y1_) 46 #[] slices_Compare_int_int.enters t25 w _ ?side1 ?side2 ?side3 A17.out).mono ?_);(case side1=>exact bw);(case side2=>exact (Kd.S_types HO_5.out BK20.out (by decide)));(case side3=>exact (fun W_ A0_ c0_ l0_ A1_ c1_ l1_ r0_ hx_ hb_ hr0_ hc0_ hr1_ hc1_=>(slices_Compare_int_int.calls k1 A0_ c0_ l0_ A1_ c1_ l1_  r0_ W_ hr0_ hc0_ hr1_ hc1_  hx_).mono (fun _ _ h_=>⟨h_.1,h_.2⟩)));rintro e w19 ⟨rfl,hy0,hb,hkp⟩;refine ⟨_,rfl,?_⟩;replace HO_5:=aM (Kd.S_mono (ok':=fun k_=>k_ ≠ gb20) hy0 (fun k_ hk_=>hk_.2));replace BK20:=aM (blk_kept (bk1 BK20.out) hkp (fun hs_=>(fun hp_=>(hp_.2) rfl) hs_));replace HB:=aM (hb);(try clear hb);(try clear hkp);(try clear hy0)))
    go_ret
    exact ⟨_,eE,by (with_reducible repeat (first|apply Kd.S_alloc|apply Kd.S_drewN|apply Kd.S_drew));exact Kd.S_mono HO_5.out (fun _ hk=>trivial),by exact bw⟩
theorem impl_votes_sets.calls (k:Nat) (a0_0:Int) (A0_1:Option Addr) (c0_1:Nat) (l0_1:List Bool) (a1:(Int → Option (Bool))) (g1_:Nat) (lb1_:Array Value) (eg1_:∀ (args:Array Value) (w:World),(callFunc g1_ args).run Tryz.prog w = .ok (.enter g1_ args) w) (r:List (List Int)) (w:World) (hr0_1:Kd.C Kd.bool w A0_1 l0_1.length l0_1) (hc0_1:l0_1.length ≤ c0_1) (hp1:∀ (W:World) (b0_:Int) (r0_:Bool),a1 b0_ = some r0_ → Below w.heap.size w W → Calls Tryz.prog g1_ (#[.int .i64 b0_] ++ lb1_) W fun e w'=>e = .returned (.bool r0_) ∧ Below W.heap.size W w') (h:impl_votes_sets.f k a0_0 l0_1 a1 = some r) :
  Calls Tryz.prog 87 #[.agg #[.int .i64 a0_0,.slice A0_1 l0_1.length c0_1],.func (.func g1_) #[] lb1_] w fun e w'=>∃ v0_:Value,e = .returned (v0_) ∧ Kd.S (Kd.slice 3 (Kd.int .i64)) 22 w' w.heap.size (fun _=>True) v0_ r ∧ Below w.heap.size w w' :=
 impl_votes_sets.callsB #[] k a0_0 A0_1 c0_1 l0_1 a1 g1_ lb1_ eg1_ r w hr0_1 hc0_1 (fun W b0_ r0_ h1 h2=>by simpa using hp1 W b0_ r0_ h1 h2) h


/-! ### impl_votes_least: function 62 -/
-- IMPORT P_impl_votes_sets
-- IMPORT P_impl_votes_isLeast
def impl_votes_least.f (k : Nat) (a0_0 : Int) (l0_1 : List Bool) : Option (List (List Int)) := impl_votes_sets.f k a0_0 l0_1 (fun y0_ => impl_votes_isLeast.f k a0_0 l0_1 y0_)
theorem impl_votes_least.en : ∀ (args : Array Value) (w : World), (callFunc 88 args).run Tryz.prog w = .ok (.enter 88 args) w := enters_of Tryz.func88 (by kernel_rfl) rfl
set_option maxHeartbeats 8000000 in
set_option maxRecDepth 100000 in
theorem impl_votes_least.calls (k : Nat) (a0_0 : Int) (A0_1 : Option Addr) (c0_1 : Nat) (l0_1 : List Bool) (r : List (List Int)) (w : World) (hr0_1 : Kd.C Kd.bool w A0_1 l0_1.length l0_1) (hc0_1 : l0_1.length ≤ c0_1) (h : impl_votes_least.f k a0_0 l0_1 = some r) :
    Calls Tryz.prog 62 #[.agg #[.int .i64 a0_0, .slice A0_1 l0_1.length c0_1]] w fun e w' => ∃ v0_ : Value, e = .returned (v0_) ∧ Kd.S (Kd.slice 3 (Kd.int .i64)) 22 w' w.heap.size (fun _ => True) v0_ r ∧ Below w.heap.size w w' := by
  have hu68 := Tryz.underlying59
  have HR0_1 := Aside0.mk hr0_1
  have HC0_1 := Aside0.mk hc0_1
  clear hr0_1 hc0_1
  have HB := Aside0.mk (Below.refl w.heap.size w)
  have H' := Aside0.mk (show impl_votes_sets.f k a0_0 l0_1 (fun y0_ => impl_votes_isLeast.f k a0_0 l0_1 y0_) = some r from h)
  clear h
  go_enter Tryz.func62, Tryz.ntmps62
  go_wp2_with (first | ((with_reducible refine gate_dst (N := 1) rfl ?_); refine box_event ?hg (N := 1) ?hd (cs := #[.int .i64 a0_0, .slice A0_1 l0_1.length c0_1]) (t := 59) ?hr ?_; (case hd => rfl); (case hg => rfl); (case hr => first | (go_simp; done) | (go_simp; rfl)); intro gb591 hg w3 hbox hb; have n0_ := Aside0.mk (below_step (by repeat (first | (with_reducible first | exact HB.out | apply below_alloc | apply pw_below_drewN | apply below_drew1) | exact HB.out)) hb); have n1_ := Aside0.mk (hbox); clear HB; have HB := n0_; have BK591 := n1_; clear n0_ n1_; clear hb hbox hg; have hcz6_0 : w3.cell? ⟨gb591, 0, none⟩ = some (.int .i64 a0_0) := (blk_cell BK591.out 0).trans rfl; have hcz6_1 : w3.cell? ⟨gb591, 1, none⟩ = some (.slice A0_1 l0_1.length c0_1) := (blk_cell BK591.out 1).trans rfl; have hfz6_0 := blk_frozen BK591.out 0; have hfz6_1 := blk_frozen BK591.out 1) | ((with_reducible refine gate_callee (f := 87) rfl ?_); refine goesL_ (some 6) rfl rfl Tryz.func87 (by kernel_rfl) rfl #[.agg #[.int .i64 a0_0, .slice A0_1 l0_1.length c0_1], .func (.func 88) #[.agg #[.int .i64 a0_0, .slice A0_1 l0_1.length c0_1]] #[]] rfl (by (try simp only [List.map_toArray, List.map_cons, List.map_nil]); first | done | rfl | (simp only [List.length_drop, List.length_take]; rfl)) ?_; (with_reducible refine (impl_votes_sets.callsB #[.agg #[.int .i64 a0_0, .slice A0_1 l0_1.length c0_1]] k a0_0 _ _ l0_1 (fun y0_ => impl_votes_isLeast.f k a0_0 l0_1 y0_) 88 #[] impl_votes_least.en r _ ?side1 ?side2 ?side3 H'.out).mono ?_); (case side1 => repeat (first | exact (Kd.C_below HR0_1.out HB.out) | (with_reducible refine Kd.C_alloc ?_ _) | (with_reducible refine Kd.C_drewN ?_ _) | (with_reducible refine Kd.C_drew ?_))); (case side2 => exact HC0_1.out); (case side3 => exact (fun W_ b0_ r0_ hx_ hb_ => (impl_votes_isLeast.calls k a0_0 A0_1 c0_1 l0_1 b0_ r0_ W_ (Kd.C_below HR0_1.out (below_step (by repeat (first | (with_reducible first | exact HB.out | apply below_alloc | apply pw_below_drewN | apply below_drew1) | exact HB.out)) hb_)) HC0_1.out hx_))); rintro e w6 ⟨v6, rfl, hy6, hb⟩; refine ⟨_, rfl, ?_⟩; have n0_ := Aside0.mk (Kd.S_lower hy6 (below_size (by repeat (first | (with_reducible first | exact HB.out | apply below_alloc | apply pw_below_drewN | apply below_drew1) | exact HB.out)))); have n1_ := Aside0.mk (below_step (by repeat (first | (with_reducible first | exact HB.out | apply below_alloc | apply pw_below_drewN | apply below_drew1) | exact HB.out)) hb); clear HB; have HO6 := n0_; have HB := n1_; clear n0_ n1_; clear hb hy6))
  go_ret
  exact ⟨_, by first | rfl | (simp [errW_none, errW_some] <;> rfl) | (simp [*, errW_none, errW_some] <;> rfl), by (with_reducible repeat (first | apply Kd.S_alloc | apply Kd.S_drewN | apply Kd.S_drew)); exact Kd.S_mono HO6.out (fun _ hk => trivial), by repeat (first | (with_reducible first | exact HB.out | apply below_alloc | apply pw_below_drewN | apply below_drew1) | exact HB.out)⟩


/-! ### impl_votes_game: function 30 -/
def impl_votes_game.f (k:Nat) (a0_0:Int) (l0_1:List Bool):Option (Int × (List (List Int))):=(impl_votes_least.f k a0_0 l0_1).bind fun t2=>(some (a0_0,t2))
set_option maxHeartbeats 8000000 in
set_option maxRecDepth 100000 in
theorem impl_votes_game.calls (k:Nat) (a0_0:Int) (A0_1:Option Addr) (c0_1:Nat) (l0_1:List Bool) (r1:Int) (r2:List (List Int)) (w:World) (hr0_1:Kd.C Kd.bool w A0_1 l0_1.length l0_1) (hc0_1:l0_1.length ≤ c0_1) (h:impl_votes_game.f k a0_0 l0_1 = some (r1,r2)) :
  Calls Tryz.prog 30 #[.agg #[.int .i64 a0_0,.slice A0_1 l0_1.length c0_1]] w fun e w'=>∃ v1_:Value,e = .returned (.agg #[.int .i64 r1,v1_]) ∧ Kd.S (Kd.slice 3 (Kd.int .i64)) 22 w' w.heap.size (fun _=>True) v1_ r2 ∧ Below w.heap.size w w':=by
 have hu59:=Tryz.underlying59;have hu28:=Tryz.underlying28;have HR0_1:=aM hr0_1;have HC0_1:=aM hc0_1;clear hr0_1 hc0_1;have HB:=aM (Below.refl w.heap.size w);have H:((impl_votes_least.f k a0_0 l0_1).bind fun t12=>(some (a0_0,t12))) = some (r1,r2):=h;clear h;replace H:=oB H;obtain ⟨t12,A2,H⟩:=H;(try dsimp only at H)
 simp only [Option.some.injEq,Prod.mk.injEq] at H;obtain ⟨rfl,rfl⟩:=H;go_enter Tryz.func30,Tryz.ntmps30
 try go_wp2_with (first|((with_reducible refine gate_dst (N:=1) rfl ?_);refine bE 1 #[.int .i64 a0_0,.slice A0_1 l0_1.length c0_1] 59 ?_;intro gb10 hg w3 hbox hb;have BK10:=aM (hbox);have GW10:=aM (gS hg);have GE10:=aM (gS hg);replace HB:=aM (below_step bw hb);clear hb hbox hg)|((with_reducible refine gate_dst (N:=2) rfl ?_);refine bE 2 #[.int .i64 0,.slice none 0 0] 28 ?_;intro gb11 hg w4 hbox hb;have BK11:=aM (hbox);have GW11:=aM (gS hg);have GE11:=aM (gS hg);replace HB:=aM (below_step bw hb);have NB10_11:=aM (nL BK10.out hg);have NB11_10:=aM (nR BK10.out hg);replace BK10:=aM (bB BK10.out hb);clear hb hbox hg))
 replace BK10:=aM (blk_drew BK10.out);replace BK11:=aM (blk_drew BK11.out);replace HB:=aM (below_drew1 HB.out);refine start_ (n:=6) (S:=fun w'=>w'.cell? ⟨gb10,0,none⟩ = some (.int .i64 a0_0) ∧ w'.cell? ⟨gb10,1,none⟩ = some (.slice A0_1 l0_1.length c0_1)) (ds:=[]) (mA 6 0) kR rfl rfl ⟨(blk_cell BK10.out 0).trans rfl,(blk_cell BK10.out 1).trans rfl⟩ (fun hHeld=>?_);generalize w4.drew = w5 at BK10 BK11 HB hHeld ⊢
 refine pure_ (i:=0) (N:=some 3) (v:=?_) (a':=?_) (mA 6 1) rfl rfl kR (fun _ _ _ h=>h) (Or.inl ⟨by rfl,?_⟩) ?_ ?_;rotate_left
 ·intro w';go_simp
  with_reducible rfl
 rotate_left
 ·simp only [Act.put,sA,sZ,sS,i64_w,i32_w];rfl
 refine take_ (i:=1) (N:=some 4) (v:=?_) (a':=?_) (mA 6 3) rfl rfl kR (fun _ _ _ h=>h) (Or.inl ⟨by rfl,?_⟩) hHeld ?_ ?_;rotate_left
 ·rintro w' ⟨s0,s1⟩
  go_simp
  with_reducible rfl
 rotate_left
 ·simp only [Act.put,sA,sZ,sS,i64_w,i32_w];rfl
 refine take_ (i:=2) (N:=some 5) (v:=?_) (a':=?_) (mA 6 7) rfl rfl kR (fun _ _ _ h=>h) (Or.inl ⟨by rfl,?_⟩) hHeld ?_ ?_;rotate_left
 ·rintro w' ⟨s0,s1⟩
  go_simp
  with_reducible rfl
 rotate_left
 ·simp only [Act.put,sA,sZ,sS,i64_w,i32_w];rfl
 refine one_ (i:=3) (N:=some 6) (mA 6 15) rfl rfl kR (by decide) (fun K hK=>?_);refine gC Tryz.func62 #[.agg #[.int .i64 a0_0,.slice A0_1 l0_1.length c0_1]] ?_
 with_reducible refine (impl_votes_least.calls k a0_0 _ _ l0_1 t12 _ ?side1 ?side2 A2.out).mono ?_
 (case side1=>exact qcs HR0_1.out HB.out)
 (case side2=>exact HC0_1.out)
 rintro e w6 ⟨v13,rfl,ho0,hb⟩
 refine ⟨_,rfl,?_⟩;have HO14:=aM (Kd.S_lower ho0 (below_size bw));replace BK10:=aM (bB BK10.out hb);replace BK11:=aM (bB BK11.out hb);replace HB:=aM (below_step bw hb);(try clear hb)
 (try clear ho0)
 obtain ⟨Ao7,co7,eo7⟩:=Kd.S_slice HO14.out;(first|subst eo7|(injection eo7 with f1_ f2_ f3_;have f4_:=f1_.symm;have f5_:=f3_.symm;clear f1_ f2_ f3_;subst f4_;subst f5_))
 refine hK.out _ _ ⟨(blk_cell BK10.out 0).trans rfl,(blk_cell BK10.out 1).trans rfl⟩ (fun hHeld=>?_);clear hK K;refine nM 6 ?_;refine pure_ (i:=4) (N:=some 7) (v:=?_) (a':=?_) (mA 6 31) rfl rfl kR (fun _ _ _ h=>h) (Or.inl ⟨by rfl,?_⟩) ?_ ?_;rotate_left
 ·intro w';go_simp
  with_reducible rfl
 rotate_left
 ·simp only [Act.put,sA,sZ,sS,i64_w,i32_w];rfl
 refine one_ (i:=5) (N:=none) (mA 6 63) rfl rfl kR (by decide) (fun K hK=>?_);have hs8:w6.cell? ⟨gb11,0,none⟩ = some (.int .i64 0):=(blk_cell BK11.out 0).trans rfl;have hfs8:=blk_frozen BK11.out 0;have hns8_0:=NB10_11.out;have hms8_0:=NB11_10.out;have hs9:w6.cell? ⟨gb11,1,none⟩ = some (.slice none 0 0):=(blk_cell BK11.out 1).trans rfl;have hfs9:=blk_frozen BK11.out 1;have hns9_0:=NB10_11.out;have hms9_0:=NB11_10.out;refine skip_ (w1:=?_) (by rfl) rfl ?_ ?_;rotate_left
 ·go_simp
  rfl
 refine hK.out _ _ ⟨((cell_far (p:=⟨gb11,_,none⟩) NB10_11.out _).trans (((cell_far (p:=⟨gb11,_,none⟩) NB10_11.out _).trans (hHeld.1)))),((cell_far (p:=⟨gb11,_,none⟩) NB10_11.out _).trans (((cell_far (p:=⟨gb11,_,none⟩) NB10_11.out _).trans (hHeld.2))))⟩ (fun hHeld=>?_);clear hK K;refine done_ kR ?_
 try go_wp2
 refine bodyPost_ret (results_cell_row rfl _ _ gb11 28 #[.int .i64 a0_0,.slice Ao7 t12.length co7] (0,0) _ rfl (by (with_reducible repeat (first|refine blk_drewN ?_ _|refine blk_drew ?_|refine blk_alloc ?_ _));refine blk_put (cs:=#[.int .i64 a0_0,.slice none 0 0]) ?_ 1 _ rfl;(with_reducible repeat (first|refine blk_drewN ?_ _|refine blk_drew ?_|refine blk_alloc ?_ _));refine blk_put (cs:=#[.int .i64 0,.slice none 0 0]) ?_ 0 _ rfl;(with_reducible repeat (first|refine blk_drewN ?_ _|refine blk_drew ?_|refine blk_alloc ?_ _));exact BK11.out) Tryz.underlying28 rfl kR) rfl ?_;exact ⟨_,eE,by (with_reducible repeat (first|apply Kd.S_alloc|apply Kd.S_drewN|apply Kd.S_drew));exact Kd.S_mono (Kd.S_far (p:=⟨gb11,1,none⟩) (Kd.S_far (p:=⟨gb11,0,none⟩) (Kd.S_types HO14.out BK11.out (by decide)) (fun _ hk=>hk.2) (.int .i64 a0_0)) (fun _ hk=>hk.2) (.slice Ao7 t12.length co7)) (fun _ hk=>trivial),by exact bw⟩


/-! ### impl_CouncilGame: function 4 -/
def impl_CouncilGame.f (k:Nat) (a0_0:Int) (l0_1:List Int) (l1:List (S_impl_Committee)):Option (Int × (List (List Int)) × Bool):=(impl_AreCouncil.f k a0_0 l0_1 l1).bind fun t2=>(if t2 = true then ((impl_councilVotes.f k a0_0 l0_1 l1).bind fun bt3=>((impl_votes_game.f k bt3.1 bt3.2).bind fun bt4=>(some (bt4.1,bt4.2,true)))) else (some (0,([]:List (List Int)),false)))
set_option maxHeartbeats 8000000 in
set_option maxRecDepth 100000 in
theorem impl_CouncilGame.calls (k:Nat) (a0_0:Int) (A0_1:Option Addr) (c0_1:Nat) (l0_1:List Int) (A1:Option Addr) (c1:Nat) (l1:List (S_impl_Committee)) (r1:Int) (r2:List (List Int)) (r3:Bool) (w:World) (hr0_1:Kd.C (Kd.int .i64) w A0_1 l0_1.length l0_1) (hc0_1:l0_1.length ≤ c0_1) (hr1:Kd.C k_impl_Committee w A1 l1.length l1) (hc1:l1.length ≤ c1) (h:impl_CouncilGame.f k a0_0 l0_1 l1 = some (r1,r2,r3)) :
  Calls Tryz.prog 4 #[.agg #[.int .i64 a0_0,.slice A0_1 l0_1.length c0_1],.slice A1 l1.length c1] w fun e w'=>∃ v1_:Value,e = .returned (.tuple #[.agg #[.int .i64 r1,v1_],.bool r3]) ∧ Kd.S (Kd.slice 3 (Kd.int .i64)) 22 w' w.heap.size (fun _=>True) v1_ r2 ∧ Below w.heap.size w w':=by
 have hu24:=Tryz.underlying24;have hu28:=Tryz.underlying28;have HR0_1:=aM hr0_1;have HC0_1:=aM hc0_1;clear hr0_1 hc0_1;have HR1:=aM hr1;have HC1:=aM hc1;clear hr1 hc1;have HB:=aM (Below.refl w.heap.size w);have H:((impl_AreCouncil.f k a0_0 l0_1 l1).bind fun t27=>(if t27 = true then ((impl_councilVotes.f k a0_0 l0_1 l1).bind fun bt31=>((impl_votes_game.f k bt31.1 bt31.2).bind fun bt35=>(some (bt35.1,bt35.2,true)))) else (some (0,([]:List (List Int)),false)))) = some (r1,r2,r3):=h;clear h;replace H:=oB H;obtain ⟨t27,A3,H⟩:=H;(try dsimp only at H)
 by_cases c4:t27 = true
 ·subst c4;rw [if_pos rfl] at H;replace H:=oB H;obtain ⟨⟨t31,t32⟩,A5,H⟩:=H;(try dsimp only at H)
  replace H:=oB H;obtain ⟨⟨t35,t36⟩,A6,H⟩:=H;(try dsimp only at H)
  simp only [Option.some.injEq,Prod.mk.injEq] at H;obtain ⟨rfl,rfl,rfl⟩:=H;go_enter Tryz.func4,Tryz.ntmps4;go_wp2_with (first|((with_reducible refine gate_dst (N:=2) rfl ?_);refine bE 2 #[.int .i64 a0_0,.slice A0_1 l0_1.length c0_1] 24 ?_;intro gb25 hg w7 hbox hb;have BK25:=aM (hbox);have GW25:=aM (gS hg);have GE25:=aM (gS hg);replace HB:=aM (below_step bw hb);clear hb hbox hg)|((with_reducible refine gate_dst (N:=4) rfl ?_);refine bE 4 #[.int .i64 0,.slice none 0 0] 28 ?_;intro gb26 hg w8 hbox hb;have BK26:=aM (hbox);have GW26:=aM (gS hg);have GE26:=aM (gS hg);replace HB:=aM (below_step bw hb);have NB25_26:=aM (nL BK25.out hg);have NB26_25:=aM (nR BK25.out hg);replace BK25:=aM (bB BK25.out hb);clear hb hbox hg;have hnb9:=NB25_26.out;have hnc9:=NB26_25.out;have hcz10_0:=cz BK25.out 0;have hcz10_1:=cz BK25.out 1;have hfz10_0:=blk_frozen BK25.out 0;have hfz10_1:=blk_frozen BK25.out 1)|((with_reducible refine gate_callee (f:=12) rfl ?_);refine gL 8 Tryz.func12 #[.agg #[.int .i64 a0_0,.slice A0_1 l0_1.length c0_1],.slice A1 l1.length c1] ?_;(with_reducible refine (impl_AreCouncil.calls k a0_0 _ _ l0_1 _ _ l1 true _ ?side1 ?side2 ?side3 ?side4 A3.out).mono ?_);(case side1=>exact qcs HR0_1.out HB.out);(case side2=>exact HC0_1.out);(case side3=>exact qcs HR1.out HB.out);(case side4=>exact HC1.out);rintro e w11 ⟨rfl,hb⟩;refine ⟨_,rfl,?_⟩;replace BK25:=aM (bB BK25.out hb);replace BK26:=aM (bB BK26.out hb);replace HB:=aM (below_step bw hb);(try clear hb);have hcz12_0:=cz BK25.out 0;have hcz12_1:=cz BK25.out 1;have hfz12_0:=blk_frozen BK25.out 0;have hfz12_1:=blk_frozen BK25.out 1)|((with_reducible refine gate_callee (f:=29) rfl ?_);refine gL 13 Tryz.func29 #[.agg #[.int .i64 a0_0,.slice A0_1 l0_1.length c0_1],.slice A1 l1.length c1] ?_;(with_reducible refine (impl_councilVotes.calls k a0_0 _ _ l0_1 _ _ l1 t31 t32 _ ?side1 ?side2 ?side3 ?side4 A5.out).mono ?_);(case side1=>exact qcs HR0_1.out HB.out);(case side2=>exact HC0_1.out);(case side3=>exact qcs HR1.out HB.out);(case side4=>exact HC1.out);rintro e w13 ⟨v33,rfl,ho0,hb⟩;refine ⟨_,rfl,?_⟩;have HO34:=aM (Kd.R_lower ho0 (below_size bw));replace BK25:=aM (bB BK25.out hb);replace BK26:=aM (bB BK26.out hb);replace HB:=aM (below_step bw hb);(try clear hb);(try clear ho0);obtain ⟨Ao14,co14,eo14⟩:=Kd.R_slice HO34.out;subst eo14)|((with_reducible refine gate_callee (f:=30) rfl ?_);refine gL 14 Tryz.func30 #[.agg #[.int .i64 t31,.slice Ao14 t32.length co14]] ?_;(with_reducible refine (impl_votes_game.calls k t31 _ _ t32 t35 t36 _ ?side1 ?side2 A6.out).mono ?_);(case side1=>exact qc (Kd.R_reads' HO34.out).2.2);(case side2=>exact (Kd.R_reads' HO34.out).2.1);rintro e w15 ⟨v37,rfl,ho0,hb⟩;refine ⟨_,rfl,?_⟩;replace HO34:=aM (Kd.R_below (qra HO34.out) hb);have HO38:=aM (Kd.S_lower ho0 (below_size bw));replace BK25:=aM (bB BK25.out hb);replace BK26:=aM (bB BK26.out hb);replace HB:=aM (below_step bw hb);(try clear hb);(try clear ho0);have hcz16_0:=cz BK26.out 0;have hcz16_1:=cz BK26.out 1;have hfz16_0:=blk_frozen BK26.out 0;have hfz16_1:=blk_frozen BK26.out 1;obtain ⟨Ao17,co17,eo17⟩:=Kd.S_slice HO38.out;subst eo17))
  refine bodyPost_ret (results_ct rfl _ _ gb26 28 #[.int .i64 t35,.slice Ao17 t36.length co17] (0,0) _ rfl (by (with_reducible repeat (first|refine blk_drewN ?_ _|refine blk_drew ?_|refine blk_alloc ?_ _));refine blk_put (cs:=#[.int .i64 t35,.slice none 0 0]) ?_ 1 _ rfl;(with_reducible repeat (first|refine blk_drewN ?_ _|refine blk_drew ?_|refine blk_alloc ?_ _));refine blk_put (cs:=#[.int .i64 0,.slice none 0 0]) ?_ 0 _ rfl;(with_reducible repeat (first|refine blk_drewN ?_ _|refine blk_drew ?_|refine blk_alloc ?_ _));exact BK26.out) Tryz.underlying28 rfl kR) rfl ?_;exact ⟨_,eE,by (with_reducible repeat (first|apply Kd.S_alloc|apply Kd.S_drewN|apply Kd.S_drew));exact Kd.S_mono (Kd.S_far (p:=⟨gb26,1,none⟩) (Kd.S_far (p:=⟨gb26,0,none⟩) (Kd.S_types HO38.out BK26.out (by decide)) (fun _ hk=>hk.2) (.int .i64 t35)) (fun _ hk=>hk.2) (.slice Ao17 t36.length co17)) (fun _ hk=>trivial),by exact bw⟩
 ·replace c4:=Bool.eq_false_iff.mpr c4;subst c4;rw [if_neg (show ¬ (false = true) by decide)] at H;simp only [Option.some.injEq,Prod.mk.injEq] at H;obtain ⟨rfl,rfl,rfl⟩:=H;go_enter Tryz.func4,Tryz.ntmps4;go_wp2_with (first|((with_reducible refine gate_dst (N:=2) rfl ?_);refine bE 2 #[.int .i64 a0_0,.slice A0_1 l0_1.length c0_1] 24 ?_;intro gb25 hg w18 hbox hb;have BK25:=aM (hbox);have GW25:=aM (gS hg);have GE25:=aM (gS hg);replace HB:=aM (below_step bw hb);clear hb hbox hg)|((with_reducible refine gate_dst (N:=4) rfl ?_);refine bE 4 #[.int .i64 0,.slice none 0 0] 28 ?_;intro gb26 hg w19 hbox hb;have BK26:=aM (hbox);have GW26:=aM (gS hg);have GE26:=aM (gS hg);replace HB:=aM (below_step bw hb);have NB25_26:=aM (nL BK25.out hg);have NB26_25:=aM (nR BK25.out hg);replace BK25:=aM (bB BK25.out hb);clear hb hbox hg;have hnb20:=NB25_26.out;have hnc20:=NB26_25.out;have hcz21_0:=cz BK25.out 0;have hcz21_1:=cz BK25.out 1;have hfz21_0:=blk_frozen BK25.out 0;have hfz21_1:=blk_frozen BK25.out 1)|((with_reducible refine gate_callee (f:=12) rfl ?_);refine gL 8 Tryz.func12 #[.agg #[.int .i64 a0_0,.slice A0_1 l0_1.length c0_1],.slice A1 l1.length c1] ?_;(with_reducible refine (impl_AreCouncil.calls k a0_0 _ _ l0_1 _ _ l1 false _ ?side1 ?side2 ?side3 ?side4 A3.out).mono ?_);(case side1=>exact qcs HR0_1.out HB.out);(case side2=>exact HC0_1.out);(case side3=>exact qcs HR1.out HB.out);(case side4=>exact HC1.out);rintro e w22 ⟨rfl,hb⟩;refine ⟨_,rfl,?_⟩;replace BK25:=aM (bB BK25.out hb);replace BK26:=aM (bB BK26.out hb);replace HB:=aM (below_step bw hb);(try clear hb);(try clear hk);have hcz23_0:=cz BK26.out 0;have hcz23_1:=cz BK26.out 1;have hfz23_0:=blk_frozen BK26.out 0;have hfz23_1:=blk_frozen BK26.out 1))
  refine bodyPost_ret (results_ct rfl _ _ gb26 28 #[.int .i64 0,.slice none 0 0] (0,0) _ rfl (by (with_reducible repeat (first|refine blk_drewN ?_ _|refine blk_drew ?_|refine blk_alloc ?_ _));refine blk_put (cs:=#[.int .i64 0,.slice none 0 0]) ?_ 1 _ rfl;(with_reducible repeat (first|refine blk_drewN ?_ _|refine blk_drew ?_|refine blk_alloc ?_ _));refine blk_put (cs:=#[.int .i64 0,.slice none 0 0]) ?_ 0 _ rfl;(with_reducible repeat (first|refine blk_drewN ?_ _|refine blk_drew ?_|refine blk_alloc ?_ _));exact BK26.out) Tryz.underlying28 rfl kR) rfl ?_;exact ⟨_,eE,by first|exact Kd.S_nil _ _ _ _ _|exact Kd.N_nil _ _ _ _ _|exact Kd.V_nil _ _ _ _ _|exact Kd.Q_nil _ _ _ _ _|exact Kd.R_nil _ _ _ _ _,by exact bw⟩


/-! ### spec_voSorted: function 90 -/
-- LEND 0 0
-- IMPORT B
-- IMPORT InsSort
-- IMPORT P_spec_voBefore
theorem spec_voSorted.at_ {α:Type} [Inhabited α] {enc:α → Value} {h1:∀ x,(enc x).oneCell' = true} {w:World} {A:Option Addr} {n:Nat} {xs:List α} (h:Kd.C (Kd.scalar enc h1) w A n xs) (i:Int) (h0:0 ≤ i) (hi:i < n):∃ ad,A = some ad ∧ w.cell? (ad.add i.toNat) = some (enc (rdOf default xs i)) :=
 ReadsOf.at_ (Kd.reads_of_C (enc:=enc) (d:=(default:α)) (h1:=h1) h) i h0 hi
mutual
def spec_voSorted.g0 {α:Type} [Inhabited α] (bf:α → α → Option Bool):Nat → List α → List α → Int → Int → Option (List α)
 | 0,_,_,_,_=>none
 | k + 1,x3,x8,x9,x10=>if x10 < x9 then (if 0 ≤ x10 then (if x10 < (x8.length:Int) then (spec_voSorted.g1 bf k x3 (rdOf default x8 x10) 0 x8 x9 x10) else (none)) else (none)) else (some x3)
def spec_voSorted.g1 {α:Type} [Inhabited α] (bf:α → α → Option Bool):Nat → List α → α → Int → List α → Int → Int → Option (List α)
 | 0,_,_,_,_,_,_=>none
 | k + 1,x3,x5,x6,x8,x9,x10=>if x6 < (x3.length:Int) then (if 0 ≤ x6 then ((bf (rdOf default x3 x6) x5).bind fun t745=>(if t745 = true then (spec_voSorted.g1 bf k x3 x5 (wrap64 (x6 + 1)) x8 x9 x10) else ((some (([]:List α):List α)).bind fun y746=>(if x6 ≤ (x3.length:Int) then ((some (x3.take (x6:Int).toNat:List α)).bind fun y749=>(if y746.length + y749.length < 5864062014805 then ((some (y746 ++ y749:List α)).bind fun y753=>(if y753.length < 5864062014805 then ((some (y753 ++ [x5]:List α)).bind fun y756=>((some (x3.drop (x6:Int).toNat:List α)).bind fun y759=>(if y756.length + y759.length < 5864062014805 then (spec_voSorted.g0 bf k (y756 ++ y759) x8 x9 (wrap64 (x10 + 1))) else (none)))) else (none))) else (none))) else (none))))) else (none)) else ((some (([]:List α):List α)).bind fun y766=>(if 0 ≤ x6 then (if x6 ≤ (x3.length:Int) then ((some (x3.take (x6:Int).toNat:List α)).bind fun y769=>(if y766.length + y769.length < 5864062014805 then ((some (y766 ++ y769:List α)).bind fun y773=>(if y773.length < 5864062014805 then ((some (y773 ++ [x5]:List α)).bind fun y776=>((some (x3.drop (x6:Int).toNat:List α)).bind fun y779=>(if y776.length + y779.length < 5864062014805 then (spec_voSorted.g0 bf k (y776 ++ y779) x8 x9 (wrap64 (x10 + 1))) else (none)))) else (none))) else (none))) else (none)) else (none)))
end
def spec_voSorted.gf {α:Type} [Inhabited α] (bf:α → α → Option Bool) (k:Nat) (l0:List α):Option (List α):=spec_voSorted.g0 bf k ([]:List α) l0 (l0.length:Int) 0
set_option maxHeartbeats 8000000 in
set_option maxRecDepth 100000 in
theorem spec_voSorted.callsG {α:Type} [Inhabited α] (sA:α → Option Addr) (sn sc:α → Nat) (bf:α → α → Option Bool) (k:Nat) (A0:Option Addr) (c0:Nat) (l0:List α) (r:List α) (w:World)
  (hbf:∀ (W:World) (x y:α) (b:Bool),bf x y = some b → Below w.heap.size w W → Calls Tryz.prog 101 #[.slice (sA x) (sn x) (sc x),.slice (sA y) (sn y) (sc y)] W fun e w'=>e = .returned (.bool b) ∧ Drawn0 W w') (hr0:Kd.C (Kd.scalar (fun x_:α=>Value.slice (sA x_) (sn x_) (sc x_)) (fun _=>rfl)) w A0 l0.length l0) (hc0:l0.length ≤ c0) (h:spec_voSorted.gf bf k l0 = some r) :
  Calls Tryz.prog 90 #[.slice A0 l0.length c0] w fun e w'=>∃ v0_:Value,e = .returned (v0_) ∧ Kd.R (Kd.scalar (fun x_:α=>Value.slice (sA x_) (sn x_) (sc x_)) (fun _=>rfl)) 22 w' w.heap.size (fun _=>True) v0_ r ∧ Below w.heap.size w w':=by
 have HR0:=aM hr0;have HC0:=aM hc0;have HBF:=aM hbf;clear hbf;clear hr0 hc0;have HB:=aM (Below.refl w.heap.size w);have H:(spec_voSorted.g0 bf k ([]:List α) l0 (l0.length:Int) 0) = some r:=h;clear h;have H':=aM H;clear H;go_enter Tryz.func90,Tryz.ntmps90;go_wp2
 go_loopg [3,10] k (fun kq v3 v10 w'=>∃ (x3_1:List α) (x10_1:Int),v10 = .int .i64 x10_1 ∧ Aside0 (spec_voSorted.g0 bf kq x3_1 l0 (l0.length:Int) x10_1 = some r) ∧ Aside0 (kq ≤ k) ∧ Aside0 (Kd.R (Kd.scalar (fun x_:α=>Value.slice (sA x_) (sn x_) (sc x_)) (fun _=>rfl)) 22 w' w.heap.size (fun _=>True) v3 x3_1) ∧ Aside0 (Below w.heap.size w w'))
 case atStart=>exact ⟨(([]:List α)),(0),qrs,H',⟨Nat.le_refl _⟩,⟨by first|exact Kd.R_nil _ _ _ _ _|exact Kd.N_nil _ _ _ _ _|exact Kd.V_nil _ _ _ _ _|exact Kd.Q_nil _ _ _ _ _|exact Kd.S_nil _ _ _ _ _⟩,⟨by exact bw⟩⟩
 case round =>
  clear H'
  try clear c1
  obtain ⟨x3_1,x10_1,rfl,HA,HK1,HO_3,HB⟩:=hrel
  cases gk with
  | zero=>exact absurd HA.out (by simp [spec_voSorted.g0])
  | succ k1 =>
   have H:=HA.out;clear HA;simp only [spec_voSorted.g0] at H;by_cases c2:x10_1 < (l0.length:Int)
   ·rw [if_pos c2] at H;have c2b0:decide (x10_1 < (l0.length:Int)) = true:=decide_eq_true c2;clear c2;by_cases c3:0 ≤ x10_1
    ·rw [if_pos c3] at H;have c3b0:decide (0 ≤ x10_1) = true:=decide_eq_true c3;clear c3;by_cases c4:x10_1 < (l0.length:Int)
     ·rw [if_pos c4] at H;have c4b0:decide (x10_1 < (l0.length:Int)) = true:=decide_eq_true c4;clear c4;have H':=aM H;clear H;have p743:0 ≤ (x10_1:Int):=of_decide_eq_true ab;have q743:x10_1 < (l0.length:Int):=of_decide_eq_true ab;obtain ⟨ad743,e743,hx743_0⟩:=spec_voSorted.at_ HR0.out x10_1 p743 q743;cases e743
      replace hx743_0:=(HB.out.cell (World.block_lt_of_cell? w _ hx743_0)).trans hx743_0;replace p743:=eq_true p743;replace q743:=eq_true q743;go_wp2
      go_loopg [6] k1 (fun kq v6 w'=>∃ (x6_2:Int),v6 = .int .i64 x6_2 ∧ Aside0 (spec_voSorted.g1 bf kq x3_1 (rdOf default l0 x10_1) x6_2 l0 (l0.length:Int) x10_1 = some r) ∧ Aside0 (kq ≤ k1) ∧ Aside0 (Kd.R (Kd.scalar (fun x_:α=>Value.slice (sA x_) (sn x_) (sc x_)) (fun _=>rfl)) 22 w' w.heap.size (fun _=>True) u3 x3_1) ∧ Aside0 (Below w.heap.size w w'))
      case atStart=>exact ⟨(0),qrs,H',⟨Nat.le_refl _⟩,⟨qra HO_3.out⟩,⟨by exact bw⟩⟩
      case round =>
       clear H';(try clear c1);(try clear c2);(try clear c2b0);(try clear p2);(try clear c3);(try clear c3b0);(try clear c4);(try clear c4b0);(try clear hx743_0);(try clear p743);(try clear q743)
       obtain ⟨x6_2,rfl,HA,HK2,HO_3,HB⟩:=hrel
       cases gk with
       | zero=>exact absurd HA.out (by simp [spec_voSorted.g1])
       | succ k2 =>
        have H:=HA.out;clear HA;simp only [spec_voSorted.g1] at H;by_cases c5:x6_2 < (x3_1.length:Int)
        ·rw [if_pos c5] at H;have c5b0:decide (x6_2 < (x3_1.length:Int)) = true:=decide_eq_true c5;clear c5;by_cases c6:0 ≤ x6_2
         ·rw [if_pos c6] at H;have c6b0:decide (0 ≤ x6_2) = true:=decide_eq_true c6;clear c6;replace H:=Option.bind_eq_some_iff.mp H;obtain ⟨t745,A70,H⟩:=H;replace H:(if t745 = true then (spec_voSorted.g1 bf k2 x3_1 (rdOf default l0 x10_1) (wrap64 (x6_2 + 1)) l0 (l0.length:Int) x10_1) else ((some (([]:List α):List α)).bind fun y746=>(if x6_2 ≤ (x3_1.length:Int) then ((some (x3_1.take (x6_2:Int).toNat:List α)).bind fun y749=>(if y746.length + y749.length < 5864062014805 then ((some (y746 ++ y749:List α)).bind fun y753=>(if y753.length < 5864062014805 then ((some (y753 ++ [(rdOf default l0 x10_1)]:List α)).bind fun y756=>((some (x3_1.drop (x6_2:Int).toNat:List α)).bind fun y759=>(if y756.length + y759.length < 5864062014805 then (spec_voSorted.g0 bf k2 (y756 ++ y759) l0 (l0.length:Int) (wrap64 (x10_1 + 1))) else (none)))) else (none))) else (none))) else (none)))) = some r:=H;have A7:=aM A70;clear A70;by_cases c8:t745 = true
          ·subst c8;have H1:(spec_voSorted.g1 bf k2 x3_1 (rdOf default l0 x10_1) (wrap64 (x6_2 + 1)) l0 (l0.length:Int) x10_1) = some r:=by rw [if_pos rfl] at H;exact H
           clear H;have H:=H1;clear H1;have H':=aM H;clear H;obtain ⟨Ao9,co9,eo9⟩:=Kd.R_slice HO_3.out;subst eo9;have p744:0 ≤ (x6_2:Int):=of_decide_eq_true ab;have q744:x6_2 < (x3_1.length:Int):=of_decide_eq_true ab;obtain ⟨ad744,e744,hx744_0⟩:=spec_voSorted.at_ (Kd.R_reads' HO_3.out).2.2 x6_2 p744 q744;cases e744
           replace p744:=eq_true p744;replace q744:=eq_true q744;go_wp2_with (first|(go_at_call 101;(with_reducible refine (HBF.out _ (rdOf default x3_1 x6_2) (rdOf default l0 x10_1) true A7.out bw).mono ?_);rintro e w' ⟨rfl,⟨nd,rfl⟩⟩))
           go_roundg k2
           case measure=>have:=HK1.out;have:=HK2.out;omega
           case rel=>exact ⟨(wrap64 (x6_2 + 1)),qrs,H',⟨by have:=HK1.out;have:=HK2.out;omega⟩,⟨qra HO_3.out⟩,⟨by exact bw⟩⟩
          ·replace c8:=Bool.eq_false_iff.mpr c8;subst c8;have H1:((some (([]:List α):List α)).bind fun y746=>(if x6_2 ≤ (x3_1.length:Int) then ((some (x3_1.take (x6_2:Int).toNat:List α)).bind fun y749=>(if y746.length + y749.length < 5864062014805 then ((some (y746 ++ y749:List α)).bind fun y753=>(if y753.length < 5864062014805 then ((some (y753 ++ [(rdOf default l0 x10_1)]:List α)).bind fun y756=>((some (x3_1.drop (x6_2:Int).toNat:List α)).bind fun y759=>(if y756.length + y759.length < 5864062014805 then (spec_voSorted.g0 bf k2 (y756 ++ y759) l0 (l0.length:Int) (wrap64 (x10_1 + 1))) else (none)))) else (none))) else (none))) else (none))) = some r:=by rw [if_neg (show ¬ (false = true) by decide)] at H;exact H
           clear H;have H:=H1;clear H1;obtain ⟨y746,hy746⟩:∃ y_:List α,y_ = (([]:List α)):=⟨_,rfl⟩;replace H:(if x6_2 ≤ (x3_1.length:Int) then ((some (x3_1.take (x6_2:Int).toNat:List α)).bind fun y749=>(if y746.length + y749.length < 5864062014805 then ((some (y746 ++ y749:List α)).bind fun y753=>(if y753.length < 5864062014805 then ((some (y753 ++ [(rdOf default l0 x10_1)]:List α)).bind fun y756=>((some (x3_1.drop (x6_2:Int).toNat:List α)).bind fun y759=>(if y756.length + y759.length < 5864062014805 then (spec_voSorted.g0 bf k2 (y756 ++ y759) l0 (l0.length:Int) (wrap64 (x10_1 + 1))) else (none)))) else (none))) else (none))) else (none)) = some r:=by first|(rw [hy746];with_reducible exact H)|(have H2_:=(Option.bind_some _ _).symm.trans H;rw [hy746];with_reducible exact H2_)|(have H2_:=(Option.bind_some _ _).symm.trans H;with_reducible exact H2_)|with_reducible exact H|(rw [hy746];exact H)|exact H
           have Ny746:=aM hy746;clear hy746;have c10b0:=eq_true (of_decide_eq_true ab:0 ≤ x6_2);by_cases c11:x6_2 ≤ (x3_1.length:Int)
           ·rw [if_pos c11] at H;have c11b0:=eq_true c11;have c11b1:decide (x6_2 ≤ (x3_1.length:Int)) = true:=decide_eq_true c11;clear c11;obtain ⟨y749,hy749⟩:∃ y_:List α,y_ = (x3_1.take (x6_2:Int).toNat):=⟨_,rfl⟩;replace H:(if y746.length + y749.length < 5864062014805 then ((some (y746 ++ y749:List α)).bind fun y753=>(if y753.length < 5864062014805 then ((some (y753 ++ [(rdOf default l0 x10_1)]:List α)).bind fun y756=>((some (x3_1.drop (x6_2:Int).toNat:List α)).bind fun y759=>(if y756.length + y759.length < 5864062014805 then (spec_voSorted.g0 bf k2 (y756 ++ y759) l0 (l0.length:Int) (wrap64 (x10_1 + 1))) else (none)))) else (none))) else (none)) = some r:=by first|(rw [hy749];with_reducible exact H)|(have H2_:=(Option.bind_some _ _).symm.trans H;rw [hy749];with_reducible exact H2_)|(have H2_:=(Option.bind_some _ _).symm.trans H;with_reducible exact H2_)|with_reducible exact H|(rw [hy749];exact H)|exact H
            have Ny749:=aM hy749;clear hy749;by_cases c12:y746.length + y749.length < 5864062014805
            ·rw [if_pos c12] at H;have LMc12:=aM c12;clear c12;obtain ⟨y753,hy753⟩:∃ y_:List α,y_ = (y746 ++ y749):=⟨_,rfl⟩;replace H:(if y753.length < 5864062014805 then ((some (y753 ++ [(rdOf default l0 x10_1)]:List α)).bind fun y756=>((some (x3_1.drop (x6_2:Int).toNat:List α)).bind fun y759=>(if y756.length + y759.length < 5864062014805 then (spec_voSorted.g0 bf k2 (y756 ++ y759) l0 (l0.length:Int) (wrap64 (x10_1 + 1))) else (none)))) else (none)) = some r:=by first|(rw [hy753];with_reducible exact H)|(have H2_:=(Option.bind_some _ _).symm.trans H;rw [hy753];with_reducible exact H2_)|(have H2_:=(Option.bind_some _ _).symm.trans H;with_reducible exact H2_)|with_reducible exact H|(rw [hy753];exact H)|exact H
             have Ny753:=aM hy753;clear hy753;by_cases c13:y753.length < 5864062014805
             ·rw [if_pos c13] at H;have LMc13:=aM c13;clear c13;obtain ⟨y756,hy756⟩:∃ y_:List α,y_ = (y753 ++ [(rdOf default l0 x10_1)]):=⟨_,rfl⟩;replace H:((some (x3_1.drop (x6_2:Int).toNat:List α)).bind fun y759=>(if y756.length + y759.length < 5864062014805 then (spec_voSorted.g0 bf k2 (y756 ++ y759) l0 (l0.length:Int) (wrap64 (x10_1 + 1))) else (none))) = some r:=by first|(rw [hy756];with_reducible exact H)|(have H2_:=(Option.bind_some _ _).symm.trans H;rw [hy756];with_reducible exact H2_)|(have H2_:=(Option.bind_some _ _).symm.trans H;with_reducible exact H2_)|with_reducible exact H|(rw [hy756];exact H)|exact H
              have Ny756:=aM hy756;clear hy756;have c14b0:=eq_true (of_decide_eq_true ab:0 ≤ x6_2);have c15b0:=eq_true (of_decide_eq_true ab:x6_2 ≤ (x3_1.length:Int));obtain ⟨y759,hy759⟩:∃ y_:List α,y_ = (x3_1.drop (x6_2:Int).toNat):=⟨_,rfl⟩;replace H:(if y756.length + y759.length < 5864062014805 then (spec_voSorted.g0 bf k2 (y756 ++ y759) l0 (l0.length:Int) (wrap64 (x10_1 + 1))) else (none)) = some r:=by first|(rw [hy759];with_reducible exact H)|(have H2_:=(Option.bind_some _ _).symm.trans H;rw [hy759];with_reducible exact H2_)|(have H2_:=(Option.bind_some _ _).symm.trans H;with_reducible exact H2_)|with_reducible exact H|(rw [hy759];exact H)|exact H
              have Ny759:=aM hy759;clear hy759;by_cases c16:y756.length + y759.length < 5864062014805
              ·rw [if_pos c16] at H;have LMc16:=aM c16;clear c16;obtain ⟨y763,hy763⟩:∃ y_:List α,y_ = (y756 ++ y759):=⟨_,rfl⟩;replace H:(spec_voSorted.g0 bf k2 y763 l0 (l0.length:Int) (wrap64 (x10_1 + 1))) = some r:=by first|(rw [hy763];with_reducible exact H)|(have H2_:=(Option.bind_some _ _).symm.trans H;rw [hy763];with_reducible exact H2_)|(have H2_:=(Option.bind_some _ _).symm.trans H;with_reducible exact H2_)|with_reducible exact H|(rw [hy763];exact H)|exact H
               have Ny763:=aM hy763;clear hy763;have H':=aM H;clear H;obtain ⟨Ao17,co17,eo17⟩:=Kd.R_slice HO_3.out;subst eo17;have p744:0 ≤ (x6_2:Int):=of_decide_eq_true ab;have q744:x6_2 < (x3_1.length:Int):=of_decide_eq_true ab;obtain ⟨ad744,e744,hx744_0⟩:=spec_voSorted.at_ (Kd.R_reads' HO_3.out).2.2 x6_2 p744 q744;cases e744
               replace p744:=eq_true p744;replace q744:=eq_true q744;go_wp2_with (first|(go_at_call 101;(with_reducible refine (HBF.out _ (rdOf default x3_1 x6_2) (rdOf default l0 x10_1) false A7.out bw).mono ?_);rintro e w' ⟨rfl,⟨nd,rfl⟩⟩)|((with_reducible refine gate_dst (N:=28) rfl ?_);refine Kd.R_lit (Kd.scalar (fun x_:α=>Value.slice (sA x_) (sn x_) (sc x_)) (fun _=>rfl)) _ 22 ?hg (N:=28) ?hd (xs:=([]:List α)) (inner:=[]) (ok:=fun _=>True) (okp:=fun _=>True) ?hr ?hp (fun _ hk=>hk) trivial (Below.refl _ _) (Nat.le_refl _) (by simp) ?_;(case hd=>rfl);(case hg=>rfl);(case hr=>first|(go_simp;done)|(go_simp;rfl));(case hp=>exact (Reps.none _ _));intro v747 w18 ho19 hb hg_ hnew_;clear hg_ hnew_;(first|rw [← Ny746.out] at ho19|(simp only [Int.reduceToNat] at ho19;rw [← Ny746.out] at ho19));have n0_:=aM (Kd.R_elder' (qra HO_3.out) (Kd.R_base ho19) hb);have n1_:=aM (Kd.R_lower (Kd.R_new' ho19 (Kd.R_lt (qra HO_3.out))) (below_size bw));have n2_:=aM (below_step bw hb);clear HO_3;clear HB;have HO_3:=n0_;have HO748:=n1_;have HB:=n2_;clear n0_ n1_ n2_;clear hb ho19;have q20:(x6_2:Int) ≤ ((x3_1.length:Int):Int):=of_decide_eq_true ab;obtain ⟨i020,hi020,_,hsz20,_⟩:=info_parts info22;have hroom20:x3_1.length ≤ co17:=(Kd.R_reads' HO_3.out).2.1;have hC20:Kd.C (Kd.scalar (fun x_:α=>Value.slice (sA x_) (sn x_) (sc x_)) (fun _=>rfl)) _ (some ad744) x3_1.length x3_1:=(Kd.R_reads' HO_3.out).2.2;have hcut20:=cut_to (P:=Tryz.prog) 26 22 .i64 Tryz.underlying26 hi020 (some ad744) x3_1.length co17 x6_2 (of_decide_eq_true ab) q20 hroom20;have hr20:=Kd.C_take (m:=(x6_2:Int).toNat) hC20 (by omega);have hy20:y749.length = (x6_2:Int).toNat:=(by rw [Ny749.out,List.length_take];omega);rw [← Ny749.out] at hr20;rw [← hy20] at hcut20;have HR752:=aM hr20;have HC752:=aM (show y749.length ≤ co17 from by omega);clear hr20 hC20 hroom20 hi020 hsz20;have KY20:=aM hy20;clear hy20;have KL20:=aM (show (x6_2:Int).toNat ≤ x3_1.length from by omega);replace q20:=eq_true q20)|((with_reducible refine gate_builtin (b:=.append) (xs:=#[.tmp 28,.tmp 31]) rfl ?_);at_builtin;refine Kd.R_append_rows (Kd.scalar (fun x_:α=>Value.slice (sA x_) (sn x_) (sc x_)) (fun _=>rfl)) (w0:=w) w.heap.size rfl (.tmp 28) (.tmp 31) 26 22 (.slice none 0 0) 24 rfl Tryz.underlying26 info22 rfl (Nat.lt_succ_self 0) (by omega) v747 y746 y749 _ _ _ (fun k_=>some k_ ≠ (.slice (some ad744) x3_1.length co17:Value).ownBlock) (fun _=>False) rfl rfl ?aO ?aR (fun _ _ h=>h) (fun _ h=>h.elim) ?aF ?aB ?aS ?aL ?_;(case aR=>repeat (first|exact (by repeat (first|(with_reducible exact HR752.out)|(with_reducible refine Kd.C_alloc ?_ _)|(with_reducible refine Kd.C_drewN ?_ _)|(with_reducible refine Kd.C_drew ?_)|exact HR752.out))|(with_reducible refine Kd.C_alloc ?_ _)|(with_reducible refine Kd.C_drewN ?_ _)|(with_reducible refine Kd.C_drew ?_)));(case aB=>exact bw);(case aF=>exact (fun k_ hk=>Kd.fresh' (Kd.R_lt (qra HO_3.out)) k_ hk));(case aO=>exact (by (with_reducible repeat (first|apply Kd.R_alloc|apply Kd.R_drewN|apply Kd.R_drew));exact Kd.R_mono HO748.out (fun _ hk=>hk.2)));(case aS=>exact (below_size bw));(case aL=>have:=LMc12.out;omega);intro v754 w21 ho hb hg hat;rw [← Ny753.out] at ho;have n0_:=aM (Kd.R_after (ok:=(fun _=>True)) (qra HO_3.out) hg hat);have n1_:=aM (hb);have n2_:=aM ((show Kd.C (Kd.scalar (fun x_:α=>Value.slice (sA x_) (sn x_) (sc x_)) (fun _=>rfl)) w21 (some ad744) y749.length y749 from by rw [Ny749.out];exact Kd.C_take (m:=(x6_2:Int).toNat) ((Kd.R_reads' (Kd.R_after (ok:=(fun _=>True)) (qra HO_3.out) hg hat)).2.2) KL20.out));have n3_:=aM (ho);clear HO_3;clear HB;clear HR752;clear HO748;have HO_3:=n0_;have HB:=n1_;have HR752:=n2_;have HO755:=n3_;clear n0_ n1_ n2_ n3_;clear ho hb hg hat)|((with_reducible refine gate_builtin (b:=.append) (xs:=#[.tmp 32,.tmp 34]) rfl ?_);at_builtin;refine Kd.R_append (Kd.scalar (fun x_:α=>Value.slice (sA x_) (sn x_) (sc x_)) (fun _=>rfl)) (w0:=w) w.heap.size rfl (.tmp 32) (.tmp 34) 26 22 (.slice none 0 0) 24 rfl Tryz.underlying26 info22 rfl (Nat.lt_succ_self 0) (by omega) v754 y753 (rdOf default l0 x10_1) [.slice (sA (rdOf default l0 x10_1)) (sn (rdOf default l0 x10_1)) (sc (rdOf default l0 x10_1))] (fun k_=>some k_ ≠ (.slice (some ad744) x3_1.length co17:Value).ownBlock) (fun _=>False) rfl rfl ?aP (fun _ hk=>hk.elim) ?aF ?aO ?aB ?aS ?aL ?_;(case aP=>exact rfl);(case aB=>exact bw);(case aF=>exact (fun k_ hk=>Kd.fresh' (Kd.R_lt (qra HO_3.out)) k_ hk));(case aO=>exact (qra HO755.out));(case aS=>exact (below_size bw));(case aL=>have:=LMc13.out;omega);intro v757 w22 ho hb hg hat;rw [← Ny756.out] at ho;have n0_:=aM (Kd.R_after (ok:=(fun _=>True)) (qra HO_3.out) hg hat);have n1_:=aM (hb);have n2_:=aM ((show Kd.C (Kd.scalar (fun x_:α=>Value.slice (sA x_) (sn x_) (sc x_)) (fun _=>rfl)) w22 (some ad744) y749.length y749 from by rw [Ny749.out];exact Kd.C_take (m:=(x6_2:Int).toNat) ((Kd.R_reads' (Kd.R_after (ok:=(fun _=>True)) (qra HO_3.out) hg hat)).2.2) KL20.out));have n3_:=aM (ho);clear HO_3;clear HB;clear HR752;clear HO755;have HO_3:=n0_;have HB:=n1_;have HR752:=n2_;have HO758:=n3_;clear n0_ n1_ n2_ n3_;clear ho hb hg hat;have q23:(x6_2:Int) ≤ ((x3_1.length:Int):Int):=of_decide_eq_true ab;obtain ⟨i023,hi023,_,hsz23,_⟩:=info_parts info22;have hroom23:x3_1.length ≤ co17:=(Kd.R_reads' HO_3.out).2.1;have hC23:Kd.C (Kd.scalar (fun x_:α=>Value.slice (sA x_) (sn x_) (sc x_)) (fun _=>rfl)) _ (some ad744) x3_1.length x3_1:=(Kd.R_reads' HO_3.out).2.2;have q023:(0:Int) ≤ (x6_2:Int):=of_decide_eq_true ab;have hcut23:=cut_from (P:=Tryz.prog) 26 22 .i64 Tryz.underlying26 hi023 1 hsz23 (some ad744) x3_1.length co17 x6_2 q023 q23;have hr23:=Kd.C_drop (m:=(x6_2:Int).toNat) (c:=co17) hC23 (by omega) hroom23;obtain ⟨A23,hA23⟩:∃ A1,A1 = (if co17 = (x6_2:Int).toNat then (some ad744) else ((some ad744):Option Addr).map (·.add ((x6_2:Int).toNat * 1))):=⟨_,rfl⟩;obtain ⟨c23,hc23⟩:∃ c1,c1 = co17 - (x6_2:Int).toNat:=⟨_,rfl⟩;have hy23:y759.length = x3_1.length - (x6_2:Int).toNat:=(by rw [Ny759.out,List.length_drop] <;> omega);rw [show (x3_1).drop (x6_2:Int).toNat = y759 from Ny759.out.symm] at hr23;replace hr23:Kd.C (Kd.scalar (fun x_:α=>Value.slice (sA x_) (sn x_) (sc x_)) (fun _=>rfl)) _ A23 y759.length y759:=(by rw [hA23];exact hr23);rw [← hy23,← hA23,← hc23] at hcut23;have HR762:=aM hr23;have HC762:=aM (show y759.length ≤ c23 from by rw [hy23,hc23];exact Nat.sub_le_sub_right hroom23 _);clear hr23 hC23 hroom23 hi023 hsz23 hc23;have KY23:=aM hy23;have KA23:=aM hA23;clear hy23 hA23;have KL23:=aM (show (x6_2:Int).toNat ≤ x3_1.length from by omega);replace q23:=eq_true q23)|((with_reducible refine gate_builtin (b:=.append) (xs:=#[.tmp 36,.tmp 39]) rfl ?_);at_builtin;refine Kd.R_append_rows (Kd.scalar (fun x_:α=>Value.slice (sA x_) (sn x_) (sc x_)) (fun _=>rfl)) (w0:=w) w.heap.size rfl (.tmp 36) (.tmp 39) 26 22 (.slice none 0 0) 24 rfl Tryz.underlying26 info22 rfl (Nat.lt_succ_self 0) (by omega) v757 y756 y759 _ _ _ (fun k_=>some k_ ≠ (.slice (some ad744) x3_1.length co17:Value).ownBlock) (fun _=>False) rfl rfl ?aO ?aR (fun _ _ h=>h) (fun _ h=>h.elim) ?aF ?aB ?aS ?aL ?_;(case aR=>repeat (first|exact (by repeat (first|(with_reducible exact HR762.out)|(with_reducible refine Kd.C_alloc ?_ _)|(with_reducible refine Kd.C_drewN ?_ _)|(with_reducible refine Kd.C_drew ?_)|exact HR762.out))|(with_reducible refine Kd.C_alloc ?_ _)|(with_reducible refine Kd.C_drewN ?_ _)|(with_reducible refine Kd.C_drew ?_)));(case aB=>exact bw);(case aF=>exact (fun k_ hk=>Kd.fresh' (Kd.R_lt (qra HO_3.out)) k_ hk));(case aO=>exact (qra HO758.out));(case aS=>exact (below_size bw));(case aL=>have:=LMc16.out;omega);intro v764 w24 ho hb hg hat;rw [← Ny763.out] at ho;have n0_:=aM (Kd.R_after (ok:=(fun _=>True)) (qra HO_3.out) hg hat);have n1_:=aM (hb);have n2_:=aM ((show Kd.C (Kd.scalar (fun x_:α=>Value.slice (sA x_) (sn x_) (sc x_)) (fun _=>rfl)) w24 (some ad744) y749.length y749 from by rw [Ny749.out];exact Kd.C_take (m:=(x6_2:Int).toNat) ((Kd.R_reads' (Kd.R_after (ok:=(fun _=>True)) (qra HO_3.out) hg hat)).2.2) KL20.out));have n3_:=aM ((show Kd.C (Kd.scalar (fun x_:α=>Value.slice (sA x_) (sn x_) (sc x_)) (fun _=>rfl)) w24 A23 y759.length y759 from by rw [Ny759.out,KA23.out];exact Kd.C_drop (m:=(x6_2:Int).toNat) (c:=co17) ((Kd.R_reads' (Kd.R_after (ok:=(fun _=>True)) (qra HO_3.out) hg hat)).2.2) KL23.out ((Kd.R_reads' (Kd.R_after (ok:=(fun _=>True)) (qra HO_3.out) hg hat)).2.1)));have n4_:=aM (ho);clear HO_3;clear HB;clear HR752;clear HR762;clear HO758;have HO_3:=n0_;have HB:=n1_;have HR752:=n2_;have HR762:=n3_;have HO765:=n4_;clear n0_ n1_ n2_ n3_ n4_;clear ho hb hg hat))
               go_roundg k2
               case measure=>have:=HK1.out;have:=HK2.out;omega
               case rel=>exact ⟨(y763),(wrap64 (x10_1 + 1)),qrs,H',⟨by have:=HK1.out;have:=HK2.out;omega⟩,⟨by (with_reducible repeat (first|apply Kd.R_alloc|apply Kd.R_drewN|apply Kd.R_drew));exact Kd.R_mono HO765.out (fun _ hk=>trivial)⟩,⟨by exact bw⟩⟩
              ·rw [if_neg c16] at H;exact absurd H (by simp)
             ·rw [if_neg c13] at H;exact absurd H (by simp)
            ·rw [if_neg c12] at H;exact absurd H (by simp)
           ·rw [if_neg c11] at H;exact absurd H (by simp)
         ·rw [if_neg c6] at H;exact absurd H (by simp)
        ·rw [if_neg c5] at H;have c5b0:decide (x6_2 < (x3_1.length:Int)) = false:=decide_eq_false c5;clear c5;obtain ⟨y766,hy766⟩:∃ y_:List α,y_ = (([]:List α)):=⟨_,rfl⟩;replace H:(if 0 ≤ x6_2 then (if x6_2 ≤ (x3_1.length:Int) then ((some (x3_1.take (x6_2:Int).toNat:List α)).bind fun y769=>(if y766.length + y769.length < 5864062014805 then ((some (y766 ++ y769:List α)).bind fun y773=>(if y773.length < 5864062014805 then ((some (y773 ++ [(rdOf default l0 x10_1)]:List α)).bind fun y776=>((some (x3_1.drop (x6_2:Int).toNat:List α)).bind fun y779=>(if y776.length + y779.length < 5864062014805 then (spec_voSorted.g0 bf k2 (y776 ++ y779) l0 (l0.length:Int) (wrap64 (x10_1 + 1))) else (none)))) else (none))) else (none))) else (none)) else (none)) = some r:=by first|(rw [hy766];with_reducible exact H)|(have H2_:=(Option.bind_some _ _).symm.trans H;rw [hy766];with_reducible exact H2_)|(have H2_:=(Option.bind_some _ _).symm.trans H;with_reducible exact H2_)|with_reducible exact H|(rw [hy766];exact H)|exact H
         have Ny766:=aM hy766;clear hy766;by_cases c25:0 ≤ x6_2
         ·rw [if_pos c25] at H;have c25b0:=eq_true c25;have c25b1:decide (0 ≤ x6_2) = true:=decide_eq_true c25;clear c25;by_cases c26:x6_2 ≤ (x3_1.length:Int)
          ·rw [if_pos c26] at H;have c26b0:=eq_true c26;have c26b1:decide (x6_2 ≤ (x3_1.length:Int)) = true:=decide_eq_true c26;clear c26;obtain ⟨y769,hy769⟩:∃ y_:List α,y_ = (x3_1.take (x6_2:Int).toNat):=⟨_,rfl⟩;replace H:(if y766.length + y769.length < 5864062014805 then ((some (y766 ++ y769:List α)).bind fun y773=>(if y773.length < 5864062014805 then ((some (y773 ++ [(rdOf default l0 x10_1)]:List α)).bind fun y776=>((some (x3_1.drop (x6_2:Int).toNat:List α)).bind fun y779=>(if y776.length + y779.length < 5864062014805 then (spec_voSorted.g0 bf k2 (y776 ++ y779) l0 (l0.length:Int) (wrap64 (x10_1 + 1))) else (none)))) else (none))) else (none)) = some r:=by first|(rw [hy769];with_reducible exact H)|(have H2_:=(Option.bind_some _ _).symm.trans H;rw [hy769];with_reducible exact H2_)|(have H2_:=(Option.bind_some _ _).symm.trans H;with_reducible exact H2_)|with_reducible exact H|(rw [hy769];exact H)|exact H
           have Ny769:=aM hy769;clear hy769;by_cases c27:y766.length + y769.length < 5864062014805
           ·rw [if_pos c27] at H;have LMc27:=aM c27;clear c27;obtain ⟨y773,hy773⟩:∃ y_:List α,y_ = (y766 ++ y769):=⟨_,rfl⟩;replace H:(if y773.length < 5864062014805 then ((some (y773 ++ [(rdOf default l0 x10_1)]:List α)).bind fun y776=>((some (x3_1.drop (x6_2:Int).toNat:List α)).bind fun y779=>(if y776.length + y779.length < 5864062014805 then (spec_voSorted.g0 bf k2 (y776 ++ y779) l0 (l0.length:Int) (wrap64 (x10_1 + 1))) else (none)))) else (none)) = some r:=by first|(rw [hy773];with_reducible exact H)|(have H2_:=(Option.bind_some _ _).symm.trans H;rw [hy773];with_reducible exact H2_)|(have H2_:=(Option.bind_some _ _).symm.trans H;with_reducible exact H2_)|with_reducible exact H|(rw [hy773];exact H)|exact H
            have Ny773:=aM hy773;clear hy773;by_cases c28:y773.length < 5864062014805
            ·rw [if_pos c28] at H;have LMc28:=aM c28;clear c28;obtain ⟨y776,hy776⟩:∃ y_:List α,y_ = (y773 ++ [(rdOf default l0 x10_1)]):=⟨_,rfl⟩;replace H:((some (x3_1.drop (x6_2:Int).toNat:List α)).bind fun y779=>(if y776.length + y779.length < 5864062014805 then (spec_voSorted.g0 bf k2 (y776 ++ y779) l0 (l0.length:Int) (wrap64 (x10_1 + 1))) else (none))) = some r:=by first|(rw [hy776];with_reducible exact H)|(have H2_:=(Option.bind_some _ _).symm.trans H;rw [hy776];with_reducible exact H2_)|(have H2_:=(Option.bind_some _ _).symm.trans H;with_reducible exact H2_)|with_reducible exact H|(rw [hy776];exact H)|exact H
             have Ny776:=aM hy776;clear hy776;have c29b0:=eq_true (of_decide_eq_true ab:0 ≤ x6_2);have c30b0:=eq_true (of_decide_eq_true ab:x6_2 ≤ (x3_1.length:Int));obtain ⟨y779,hy779⟩:∃ y_:List α,y_ = (x3_1.drop (x6_2:Int).toNat):=⟨_,rfl⟩;replace H:(if y776.length + y779.length < 5864062014805 then (spec_voSorted.g0 bf k2 (y776 ++ y779) l0 (l0.length:Int) (wrap64 (x10_1 + 1))) else (none)) = some r:=by first|(rw [hy779];with_reducible exact H)|(have H2_:=(Option.bind_some _ _).symm.trans H;rw [hy779];with_reducible exact H2_)|(have H2_:=(Option.bind_some _ _).symm.trans H;with_reducible exact H2_)|with_reducible exact H|(rw [hy779];exact H)|exact H
             have Ny779:=aM hy779;clear hy779;by_cases c31:y776.length + y779.length < 5864062014805
             ·rw [if_pos c31] at H;have LMc31:=aM c31;clear c31;obtain ⟨y783,hy783⟩:∃ y_:List α,y_ = (y776 ++ y779):=⟨_,rfl⟩;replace H:(spec_voSorted.g0 bf k2 y783 l0 (l0.length:Int) (wrap64 (x10_1 + 1))) = some r:=by first|(rw [hy783];with_reducible exact H)|(have H2_:=(Option.bind_some _ _).symm.trans H;rw [hy783];with_reducible exact H2_)|(have H2_:=(Option.bind_some _ _).symm.trans H;with_reducible exact H2_)|with_reducible exact H|(rw [hy783];exact H)|exact H
              have Ny783:=aM hy783;clear hy783;have H':=aM H;clear H;obtain ⟨Ao32,co32,eo32⟩:=Kd.R_slice HO_3.out;subst eo32;go_wp2_with (first|((with_reducible refine gate_dst (N:=28) rfl ?_);refine Kd.R_lit (Kd.scalar (fun x_:α=>Value.slice (sA x_) (sn x_) (sc x_)) (fun _=>rfl)) _ 22 ?hg (N:=28) ?hd (xs:=([]:List α)) (inner:=[]) (ok:=fun _=>True) (okp:=fun _=>True) ?hr ?hp (fun _ hk=>hk) trivial (Below.refl _ _) (Nat.le_refl _) (by simp) ?_;(case hd=>rfl);(case hg=>rfl);(case hr=>first|(go_simp;done)|(go_simp;rfl));(case hp=>exact (Reps.none _ _));intro v767 w33 ho34 hb hg_ hnew_;clear hg_ hnew_;(first|rw [← Ny766.out] at ho34|(simp only [Int.reduceToNat] at ho34;rw [← Ny766.out] at ho34));have n0_:=aM (Kd.R_elder' (qra HO_3.out) (Kd.R_base ho34) hb);have n1_:=aM (Kd.R_lower (Kd.R_new' ho34 (Kd.R_lt (qra HO_3.out))) (below_size bw));have n2_:=aM (below_step bw hb);clear HO_3;clear HB;have HO_3:=n0_;have HO768:=n1_;have HB:=n2_;clear n0_ n1_ n2_;clear hb ho34;have q35:(x6_2:Int) ≤ ((x3_1.length:Int):Int):=of_decide_eq_true ab;obtain ⟨i035,hi035,_,hsz35,_⟩:=info_parts info22;have hroom35:x3_1.length ≤ co32:=(Kd.R_reads' HO_3.out).2.1;have hC35:Kd.C (Kd.scalar (fun x_:α=>Value.slice (sA x_) (sn x_) (sc x_)) (fun _=>rfl)) _ Ao32 x3_1.length x3_1:=(Kd.R_reads' HO_3.out).2.2;have hcut35:=cut_to (P:=Tryz.prog) 26 22 .i64 Tryz.underlying26 hi035 Ao32 x3_1.length co32 x6_2 (of_decide_eq_true ab) q35 hroom35;have hr35:=Kd.C_take (m:=(x6_2:Int).toNat) hC35 (by omega);have hy35:y769.length = (x6_2:Int).toNat:=(by rw [Ny769.out,List.length_take];omega);rw [← Ny769.out] at hr35;rw [← hy35] at hcut35;have HR772:=aM hr35;have HC772:=aM (show y769.length ≤ co32 from by omega);clear hr35 hC35 hroom35 hi035 hsz35;have KY35:=aM hy35;clear hy35;have KL35:=aM (show (x6_2:Int).toNat ≤ x3_1.length from by omega);replace q35:=eq_true q35)|((with_reducible refine gate_builtin (b:=.append) (xs:=#[.tmp 28,.tmp 31]) rfl ?_);at_builtin;refine Kd.R_append_rows (Kd.scalar (fun x_:α=>Value.slice (sA x_) (sn x_) (sc x_)) (fun _=>rfl)) (w0:=w) w.heap.size rfl (.tmp 28) (.tmp 31) 26 22 (.slice none 0 0) 24 rfl Tryz.underlying26 info22 rfl (Nat.lt_succ_self 0) (by omega) v767 y766 y769 _ _ _ (fun k_=>some k_ ≠ (.slice Ao32 x3_1.length co32:Value).ownBlock) (fun _=>False) rfl rfl ?aO ?aR (fun _ _ h=>h) (fun _ h=>h.elim) ?aF ?aB ?aS ?aL ?_;(case aR=>repeat (first|exact (by repeat (first|(with_reducible exact HR772.out)|(with_reducible refine Kd.C_alloc ?_ _)|(with_reducible refine Kd.C_drewN ?_ _)|(with_reducible refine Kd.C_drew ?_)|exact HR772.out))|(with_reducible refine Kd.C_alloc ?_ _)|(with_reducible refine Kd.C_drewN ?_ _)|(with_reducible refine Kd.C_drew ?_)));(case aB=>exact bw);(case aF=>exact (fun k_ hk=>Kd.fresh' (Kd.R_lt (qra HO_3.out)) k_ hk));(case aO=>exact (by (with_reducible repeat (first|apply Kd.R_alloc|apply Kd.R_drewN|apply Kd.R_drew));exact Kd.R_mono HO768.out (fun _ hk=>hk.2)));(case aS=>exact (below_size bw));(case aL=>have:=LMc27.out;omega);intro v774 w36 ho hb hg hat;rw [← Ny773.out] at ho;have n0_:=aM (Kd.R_after (ok:=(fun _=>True)) (qra HO_3.out) hg hat);have n1_:=aM (hb);have n2_:=aM ((show Kd.C (Kd.scalar (fun x_:α=>Value.slice (sA x_) (sn x_) (sc x_)) (fun _=>rfl)) w36 Ao32 y769.length y769 from by rw [Ny769.out];exact Kd.C_take (m:=(x6_2:Int).toNat) ((Kd.R_reads' (Kd.R_after (ok:=(fun _=>True)) (qra HO_3.out) hg hat)).2.2) KL35.out));have n3_:=aM (ho);clear HO_3;clear HB;clear HR772;clear HO768;have HO_3:=n0_;have HB:=n1_;have HR772:=n2_;have HO775:=n3_;clear n0_ n1_ n2_ n3_;clear ho hb hg hat)|((with_reducible refine gate_builtin (b:=.append) (xs:=#[.tmp 32,.tmp 34]) rfl ?_);at_builtin;refine Kd.R_append (Kd.scalar (fun x_:α=>Value.slice (sA x_) (sn x_) (sc x_)) (fun _=>rfl)) (w0:=w) w.heap.size rfl (.tmp 32) (.tmp 34) 26 22 (.slice none 0 0) 24 rfl Tryz.underlying26 info22 rfl (Nat.lt_succ_self 0) (by omega) v774 y773 (rdOf default l0 x10_1) [.slice (sA (rdOf default l0 x10_1)) (sn (rdOf default l0 x10_1)) (sc (rdOf default l0 x10_1))] (fun k_=>some k_ ≠ (.slice Ao32 x3_1.length co32:Value).ownBlock) (fun _=>False) rfl rfl ?aP (fun _ hk=>hk.elim) ?aF ?aO ?aB ?aS ?aL ?_;(case aP=>exact rfl);(case aB=>exact bw);(case aF=>exact (fun k_ hk=>Kd.fresh' (Kd.R_lt (qra HO_3.out)) k_ hk));(case aO=>exact (qra HO775.out));(case aS=>exact (below_size bw));(case aL=>have:=LMc28.out;omega);intro v777 w37 ho hb hg hat;rw [← Ny776.out] at ho;have n0_:=aM (Kd.R_after (ok:=(fun _=>True)) (qra HO_3.out) hg hat);have n1_:=aM (hb);have n2_:=aM ((show Kd.C (Kd.scalar (fun x_:α=>Value.slice (sA x_) (sn x_) (sc x_)) (fun _=>rfl)) w37 Ao32 y769.length y769 from by rw [Ny769.out];exact Kd.C_take (m:=(x6_2:Int).toNat) ((Kd.R_reads' (Kd.R_after (ok:=(fun _=>True)) (qra HO_3.out) hg hat)).2.2) KL35.out));have n3_:=aM (ho);clear HO_3;clear HB;clear HR772;clear HO775;have HO_3:=n0_;have HB:=n1_;have HR772:=n2_;have HO778:=n3_;clear n0_ n1_ n2_ n3_;clear ho hb hg hat;have q38:(x6_2:Int) ≤ ((x3_1.length:Int):Int):=of_decide_eq_true ab;obtain ⟨i038,hi038,_,hsz38,_⟩:=info_parts info22;have hroom38:x3_1.length ≤ co32:=(Kd.R_reads' HO_3.out).2.1;have hC38:Kd.C (Kd.scalar (fun x_:α=>Value.slice (sA x_) (sn x_) (sc x_)) (fun _=>rfl)) _ Ao32 x3_1.length x3_1:=(Kd.R_reads' HO_3.out).2.2;have q038:(0:Int) ≤ (x6_2:Int):=of_decide_eq_true ab;have hcut38:=cut_from (P:=Tryz.prog) 26 22 .i64 Tryz.underlying26 hi038 1 hsz38 Ao32 x3_1.length co32 x6_2 q038 q38;have hr38:=Kd.C_drop (m:=(x6_2:Int).toNat) (c:=co32) hC38 (by omega) hroom38;obtain ⟨A38,hA38⟩:∃ A1,A1 = (if co32 = (x6_2:Int).toNat then Ao32 else (Ao32:Option Addr).map (·.add ((x6_2:Int).toNat * 1))):=⟨_,rfl⟩;obtain ⟨c38,hc38⟩:∃ c1,c1 = co32 - (x6_2:Int).toNat:=⟨_,rfl⟩;have hy38:y779.length = x3_1.length - (x6_2:Int).toNat:=(by rw [Ny779.out,List.length_drop] <;> omega);rw [show (x3_1).drop (x6_2:Int).toNat = y779 from Ny779.out.symm] at hr38;replace hr38:Kd.C (Kd.scalar (fun x_:α=>Value.slice (sA x_) (sn x_) (sc x_)) (fun _=>rfl)) _ A38 y779.length y779:=(by rw [hA38];exact hr38);rw [← hy38,← hA38,← hc38] at hcut38;have HR782:=aM hr38;have HC782:=aM (show y779.length ≤ c38 from by rw [hy38,hc38];exact Nat.sub_le_sub_right hroom38 _);clear hr38 hC38 hroom38 hi038 hsz38 hc38;have KY38:=aM hy38;have KA38:=aM hA38;clear hy38 hA38;have KL38:=aM (show (x6_2:Int).toNat ≤ x3_1.length from by omega);replace q38:=eq_true q38)|((with_reducible refine gate_builtin (b:=.append) (xs:=#[.tmp 36,.tmp 39]) rfl ?_);at_builtin;refine Kd.R_append_rows (Kd.scalar (fun x_:α=>Value.slice (sA x_) (sn x_) (sc x_)) (fun _=>rfl)) (w0:=w) w.heap.size rfl (.tmp 36) (.tmp 39) 26 22 (.slice none 0 0) 24 rfl Tryz.underlying26 info22 rfl (Nat.lt_succ_self 0) (by omega) v777 y776 y779 _ _ _ (fun k_=>some k_ ≠ (.slice Ao32 x3_1.length co32:Value).ownBlock) (fun _=>False) rfl rfl ?aO ?aR (fun _ _ h=>h) (fun _ h=>h.elim) ?aF ?aB ?aS ?aL ?_;(case aR=>repeat (first|exact (by repeat (first|(with_reducible exact HR782.out)|(with_reducible refine Kd.C_alloc ?_ _)|(with_reducible refine Kd.C_drewN ?_ _)|(with_reducible refine Kd.C_drew ?_)|exact HR782.out))|(with_reducible refine Kd.C_alloc ?_ _)|(with_reducible refine Kd.C_drewN ?_ _)|(with_reducible refine Kd.C_drew ?_)));(case aB=>exact bw);(case aF=>exact (fun k_ hk=>Kd.fresh' (Kd.R_lt (qra HO_3.out)) k_ hk));(case aO=>exact (qra HO778.out));(case aS=>exact (below_size bw));(case aL=>have:=LMc31.out;omega);intro v784 w39 ho hb hg hat;rw [← Ny783.out] at ho;have n0_:=aM (Kd.R_after (ok:=(fun _=>True)) (qra HO_3.out) hg hat);have n1_:=aM (hb);have n2_:=aM ((show Kd.C (Kd.scalar (fun x_:α=>Value.slice (sA x_) (sn x_) (sc x_)) (fun _=>rfl)) w39 Ao32 y769.length y769 from by rw [Ny769.out];exact Kd.C_take (m:=(x6_2:Int).toNat) ((Kd.R_reads' (Kd.R_after (ok:=(fun _=>True)) (qra HO_3.out) hg hat)).2.2) KL35.out));have n3_:=aM ((show Kd.C (Kd.scalar (fun x_:α=>Value.slice (sA x_) (sn x_) (sc x_)) (fun _=>rfl)) w39 A38 y779.length y779 from by rw [Ny779.out,KA38.out];exact Kd.C_drop (m:=(x6_2:Int).toNat) (c:=co32) ((Kd.R_reads' (Kd.R_after (ok:=(fun _=>True)) (qra HO_3.out) hg hat)).2.2) KL38.out ((Kd.R_reads' (Kd.R_after (ok:=(fun _=>True)) (qra HO_3.out) hg hat)).2.1)));have n4_:=aM (ho);clear HO_3;clear HB;clear HR772;clear HR782;clear HO778;have HO_3:=n0_;have HB:=n1_;have HR772:=n2_;have HR782:=n3_;have HO785:=n4_;clear n0_ n1_ n2_ n3_ n4_;clear ho hb hg hat))
              go_roundg k2
              case measure=>have:=HK1.out;have:=HK2.out;omega
              case rel=>exact ⟨(y783),(wrap64 (x10_1 + 1)),qrs,H',⟨by have:=HK1.out;have:=HK2.out;omega⟩,⟨by (with_reducible repeat (first|apply Kd.R_alloc|apply Kd.R_drewN|apply Kd.R_drew));exact Kd.R_mono HO785.out (fun _ hk=>trivial)⟩,⟨by exact bw⟩⟩
             ·rw [if_neg c31] at H;exact absurd H (by simp)
            ·rw [if_neg c28] at H;exact absurd H (by simp)
           ·rw [if_neg c27] at H;exact absurd H (by simp)
          ·rw [if_neg c26] at H;exact absurd H (by simp)
         ·rw [if_neg c25] at H;exact absurd H (by simp)
     ·rw [if_neg c4] at H;exact absurd H (by simp)
    ·rw [if_neg c3] at H;exact absurd H (by simp)
   ·rw [if_neg c2] at H;have c2b0:decide (x10_1 < (l0.length:Int)) = false:=decide_eq_false c2;clear c2;obtain rfl:=Option.some.inj H;go_wp2
    go_ret
    exact ⟨_,by first|rfl|(simp [errW_none,errW_some] <;> rfl)|(simp [*,errW_none,errW_some] <;> rfl),by (with_reducible repeat (first|apply Kd.R_alloc|apply Kd.R_drewN|apply Kd.R_drew));exact HO_3.out,by exact bw⟩
def spec_voSorted.bf {α:Type} (row:α → List Int) (y x:α):Option Bool:=some (ltR row y x)
theorem spec_voSorted.g1_ev {α:Type} [Inhabited α] (row:α → List Int) (o:List α) (x:α) (l0:List α) (i:Int) (R:List α) (ho:o.length ≤ 1000000) (h:Ev (fun k=>spec_voSorted.g0 (spec_voSorted.bf row) k (insR row x o) l0 (l0.length:Int) (wrap64 (i + 1))) R):Ev (fun k=>spec_voSorted.g1 (spec_voSorted.bf row) k o x 0 l0 (l0.length:Int) i) R:=by
 obtain ⟨h1,h2,h3,h4,h5⟩:=tw_spec (fun y=>ltR row y x) default o
 have hins:insR row x o = ((([]:List α) ++ o.take (o.takeWhile (fun y=>ltR row y x)).length) ++ [x]) ++ o.drop (o.takeWhile (fun y=>ltR row y x)).length:=by
  unfold insR;rw [List.nil_append,List.append_assoc,List.singleton_append,← h3,← h4]
 rw [hins] at h;generalize (o.takeWhile (fun y=>ltR row y x)).length = T at h h1 h2 h5
 have key:=Ev.down (G:=fun j k=>spec_voSorted.g1 (spec_voSorted.bf row) k o x (j:Int) l0 (l0.length:Int) i) (R:=fun _=>R) T
  (by
   refine Ev.shift ?_;simp only [spec_voSorted.g1];have ht:(o.take T).length ≤ T:=by rw [List.length_take];omega
   have hd:(o.drop T).length ≤ o.length:=by rw [List.length_drop];omega
   by_cases c:T < o.length
   ·refine Ev.ite_pos (by omega) (Ev.ite_pos (by omega) ?_)
    refine Ev.bind (Ev.one (show spec_voSorted.bf row (rdOf default o (T:Int)) x = some false from by
     unfold spec_voSorted.bf rdOf;rw [Int.toNat_natCast,h2 c])) ?_
    refine Ev.ite_neg (by decide) ?_;refine Ev.bind (Ev.one rfl) (Ev.ite_pos (by omega) (Ev.bind (Ev.one rfl) ?_));rw [Int.toNat_natCast];refine Ev.ite_pos (by rw [List.length_nil];omega) (Ev.bind (Ev.one rfl) (Ev.ite_pos (by rw [List.length_append,List.length_nil];omega) (Ev.bind (Ev.one rfl) (Ev.bind (Ev.one rfl) (Ev.ite_pos ?_ h)))));rw [List.length_append,List.length_append,List.length_nil,List.length_singleton];omega
   ·refine Ev.ite_neg (by omega) ?_;refine Ev.bind (Ev.one rfl) (Ev.ite_pos (by omega) (Ev.ite_pos (by omega) (Ev.bind (Ev.one rfl) ?_)));rw [Int.toNat_natCast];refine Ev.ite_pos (by rw [List.length_nil];omega) (Ev.bind (Ev.one rfl) (Ev.ite_pos (by rw [List.length_append,List.length_nil];omega) (Ev.bind (Ev.one rfl) (Ev.bind (Ev.one rfl) (Ev.ite_pos ?_ h)))));rw [List.length_append,List.length_append,List.length_nil,List.length_singleton];omega)
  (fun j hj ih=>by
   refine Ev.shift ?_;simp only [spec_voSorted.g1];refine Ev.ite_pos (by omega) (Ev.ite_pos (by omega) ?_)
   refine Ev.bind (Ev.one (show spec_voSorted.bf row (rdOf default o (j:Int)) x = some true from by
    unfold spec_voSorted.bf rdOf;rw [Int.toNat_natCast,h1 j hj])) ?_
   refine Ev.ite_pos rfl ?_;rw [w1 hj (by omega)];exact ih)
 exact key 0 (Nat.zero_le _)
theorem spec_voSorted.gf_ev {α:Type} [Inhabited α] (row:α → List Int) (l0:List α) (hl:l0.length ≤ 1000000):Ev (fun k=>spec_voSorted.gf (spec_voSorted.bf row) k l0) (istR row l0):=by
 unfold spec_voSorted.gf
 have key:=Ev.down (G:=fun i k=>spec_voSorted.g0 (spec_voSorted.bf row) k (istR row (l0.take i)) l0 (l0.length:Int) (i:Int)) (R:=fun _=>istR row l0) l0.length
  (by
   refine Ev.shift ?_;simp only [spec_voSorted.g0];refine Ev.ite_neg (by omega) ?_;rw [List.take_length];exact Ev.some)
  (fun i hi ih=>by
   refine Ev.shift ?_;simp only [spec_voSorted.g0];refine Ev.ite_pos (by omega) (Ev.ite_pos (by omega) (Ev.ite_pos (by omega) ?_));refine spec_voSorted.g1_ev row _ _ l0 _ _ ?_ ?_
   ·rw [(istR_perm row (l0.take i)).length_eq,List.length_take];omega
   ·rw [w1 hi (by omega)];have e:istR row (l0.take (i + 1)) = insR row (l0.getD i default) (istR row (l0.take i)):=foldl_take (fun o x=>insR row x o) [] l0 default i hi;rw [e] at ih;have e2:rdOf default l0 (i:Int) = l0.getD i default:=by unfold rdOf;rw [Int.toNat_natCast]
    rw [e2];exact ih)
 exact key 0 (Nat.zero_le _)
def spec_voSorted.f (k:Nat) (l0:List (List Int)):Option (List (List Int)):=if l0.length ≤ 1000000 ∧ ∀ x ∈ l0,∀ y ∈ l0,spec_voBefore.f k x y = some (decide (lexc x y < 0)) then some (sorted l0) else none
set_option maxHeartbeats 2000000 in
theorem spec_voSorted.callsN (k:Nat) (P0_:Nat → Prop) (u9000_:Value) (l0:List (List Int)) (r:List (List Int)) (w0 w:World) (hB:Below w0.heap.size w0 w) (ho0:Kd.S (Kd.slice 3 (Kd.int .i64)) 22 w w0.heap.size P0_ u9000_ l0) (h:spec_voSorted.f k l0 = some r) :
  Calls Tryz.prog 90 #[u9000_] w fun e w'=>∃ v0_:Value,e = .returned (v0_) ∧ Kd.S (Kd.slice 3 (Kd.int .i64)) 22 w' w0.heap.size (fun k_=>((P0_ k_ ∧ k_ < w.heap.size) ∨ some k_ = v0_.ownBlock)) v0_ r ∧ (∀ k_,v0_.ownBlock = some k_ → w.heap.size ≤ k_) ∧ Below w.heap.size w w':=by
 unfold spec_voSorted.f at h;split at h
 case isFalse=>exact absurd h (by simp)
 rename_i hc
 obtain ⟨hlen,hcmp⟩:=hc;obtain rfl:=Option.some.inj h;clear h;obtain ⟨f,h0,inner,ho,hr⟩:=ho0;rw [List.length_zipIdx] at ho;obtain ⟨hil,hv⟩:=ho;have hil:inner.length = l0.length:=by have h1:inner.length = l0.length * 1:=hil;omega
 have hM:∀ (i:Nat) (hi:i < l0.length),∃ A c,inner[i]'(by omega) = .slice A l0[i].length c ∧ Kd.R (Kd.int .i64) 3 w w0.heap.size (fun k=>((P0_ k ∧ some k ≠ u9000_.ownBlock) ∧ f k = i)) (.slice A l0[i].length c) l0[i]:=fun i hi=>by
  have h1:=hr.2 i (l0[i],i) (Kd.zip_at (List.getElem?_eq_getElem hi));have h2:(inner.drop (i * 1)).take 1 = [inner[i]'(by omega)]:=by rw [Nat.mul_one,List.drop_eq_getElem_cons (by omega),List.take_succ_cons,List.take_zero]
  obtain ⟨v',hv',hR⟩:=(show ∃ v',(inner.drop (i * 1)).take 1 = [v'] ∧ Kd.R (Kd.int .i64) 3 w w0.heap.size (fun k=>((P0_ k ∧ some k ≠ u9000_.ownBlock) ∧ f k = i)) v' l0[i] from h1);rw [h2] at hv';injection hv' with hv' _
  obtain ⟨A,c,e⟩:=Kd.R_slice hR;subst e;exact ⟨A,c,hv',hR⟩
 rcases Nat.eq_zero_or_pos l0.length with hn|hn
 ·obtain rfl:=List.eq_nil_of_length_eq_zero hn
  have hR0:Kd.R (Kd.scalar (fun _:Unit=>Value.slice none 0 0) (fun _=>rfl)) 22 w w0.heap.size P0_ u9000_ ([]:List Unit):=⟨h0,inner,⟨by rw [hil];rfl,hv⟩,by
   rw [List.eq_nil_of_length_eq_zero hil];exact Reps.none _ _⟩
  obtain ⟨A,c,rfl,hl,hC⟩:=Kd.R_reads hR0;refine (spec_voSorted.callsG (α:=Unit) (fun _=>none) (fun _=>0) (fun _=>0) (fun _ _=>none) 1 A c [] [] w (fun _ _ _ _ hz _=>absurd hz (by simp)) hC hl rfl).mono ?_;rintro e w' ⟨v0,rfl,hR,hb⟩
  have e0:sorted ([]:List (List Int)) = []:=by simp [sorted]
  rw [e0];obtain ⟨_,inner',ho',hr'⟩:=hR;have hnil:inner' = []:=List.eq_nil_of_length_eq_zero (by have h1:inner'.length = 0 * 1:=ho'.1;omega);subst hnil;exact ⟨v0,rfl,⟨fun _=>0,fun k hk=>.inr hk.symm,[],own_weaken ho' hB.size,Reps.none _ _⟩,fun k hk=>own_base ho' k hk,hb⟩
  -- the parts of each element's cell, by the element's index
 let sA:Fin l0.length → Option Addr:=fun i=>(hM i.1 i.2).choose
 let sn:Fin l0.length → Nat:=fun i=>l0[i.1].length
 let sc:Fin l0.length → Nat:=fun i=>(hM i.1 i.2).choose_spec.choose
 let row:Fin l0.length → List Int:=fun i=>l0[i.1]
 have cellE:∀ (i:Fin l0.length),inner[i.1]'(by omega) = .slice (sA i) (sn i) (sc i) ∧ Kd.R (Kd.int .i64) 3 w w0.heap.size (fun k=>((P0_ k ∧ some k ≠ u9000_.ownBlock) ∧ f k = i.1)) (.slice (sA i) (sn i) (sc i)) (row i):=fun i=>(hM i.1 i.2).choose_spec.choose_spec
 have snE:∀ i,sn i = (row i).length:=fun _=>rfl
 have rowE:∀ i:Fin l0.length,row i = l0[i.1]:=fun _=>rfl
 haveI:Inhabited (Fin l0.length):=⟨⟨0,hn⟩⟩
 clear_value sA sn sc row
 have hdl:(List.finRange l0.length).length = l0.length:=List.length_finRange
 have hrow:(List.finRange l0.length).map row = l0:=by
  apply List.ext_getElem
  ·rw [List.length_map,hdl]
  ·intro j h1 h2;rw [List.getElem_map,rowE];congr 1
   simp
 have hperm:=istR_perm row (List.finRange l0.length);have hsort:=istR_rows row (List.finRange l0.length);rw [hrow] at hsort;obtain ⟨K,hK⟩:=spec_voSorted.gf_ev row (List.finRange l0.length) (by rw [hdl];exact hlen);have hK:=hK K (Nat.le_refl K)
 have hinner:inner = encs (fun x_:Fin l0.length=>Value.slice (sA x_) (sn x_) (sc x_)) (List.finRange l0.length):=by
  apply List.ext_getElem
  ·rw [encs_length,hdl,hil]
  ·intro j h1 h2;have hj:j < l0.length:=by omega
   have e1:=(cellE ⟨j,hj⟩).1;refine e1.trans ?_;simp [encs]
 have hR0:Kd.R (Kd.scalar (fun x_:Fin l0.length=>Value.slice (sA x_) (sn x_) (sc x_)) (fun _=>rfl)) 22 w w0.heap.size P0_ u9000_ (List.finRange l0.length):=Kd.R_of_own (by rw [hdl,← hinner];exact ⟨by rw [hil,Nat.mul_one],hv⟩) h0;obtain ⟨A,c,hu,hl,hC⟩:=Kd.R_reads hR0;generalize hrs:istR row (List.finRange l0.length) = rs at hperm hsort hK
 have hrl:rs.length = l0.length:=hperm.length_eq.trans hdl
 have hnd:(rs.map (fun i=>i.1)).Nodup:=by
  refine ((hperm.map (fun i:Fin l0.length=>i.1)).nodup_iff).2 ?_;exact List.Pairwise.map _ (fun a b hab z=>hab (Fin.ext z)) (List.nodup_finRange l0.length)
 rw [hu];refine (spec_voSorted.callsG sA sn sc (spec_voSorted.bf row) K A c (List.finRange l0.length) rs w ?_ hC hl hK).mono ?_
 ·intro W x y b hb hW;obtain ⟨hx1,hx2,hx3⟩:=Kd.R_reads' (Kd.R_below (cellE x).2 hW);obtain ⟨hy1,hy2,hy3⟩:=Kd.R_reads' (Kd.R_below (cellE y).2 hW)
  have hb2:spec_voBefore.f k (row x) (row y) = some b:=by
   rw [rowE,rowE,hcmp _ (List.getElem_mem _) _ (List.getElem_mem _)];have:=hb;unfold spec_voSorted.bf ltR at this;rw [rowE,rowE] at this;exact this
  rw [hx1,hy1];rw [hx1] at hx2;rw [hy1] at hy2;exact spec_voBefore.calls k (sA x) (sc x) (row x) (sA y) (sc y) (row y) b W hx3 hx2 hy3 hy2 hb2
 ·rintro e w' ⟨v0,rfl,hR,hb⟩
  have ho':=Kd.own_of_R hR;refine ⟨v0,rfl,⟨fun q=>(rs.map (fun i=>i.1)).idxOf (f q),fun q hq=>.inr hq.symm,encs (fun x_:Fin l0.length=>Value.slice (sA x_) (sn x_) (sc x_)) rs,?_,?_⟩,fun q hq=>own_base ho' q hq,hb⟩
  ·rw [List.length_zipIdx,← hsort,List.length_map];exact own_weaken ho' hB.size
  ·refine ⟨by rw [List.length_zipIdx,← hsort,List.length_map,encs_length];show _ = _ * 1;omega,?_⟩;intro j p hj;rw [← hsort,List.getElem?_zipIdx,Nat.zero_add] at hj;obtain ⟨x,hx,rfl⟩:=Option.map_eq_some_iff.1 hj;rw [List.getElem?_map] at hx;obtain ⟨i,hi,rfl⟩:=Option.map_eq_some_iff.1 hx;have hjl:j < rs.length:=(List.getElem?_eq_some_iff.1 hi).1;have hi2:rs[j] = i:=(List.getElem?_eq_some_iff.1 hi).2
   have hdr:((encs (fun x_:Fin l0.length=>Value.slice (sA x_) (sn x_) (sc x_)) rs).drop (j * 1)).take 1 = [Value.slice (sA i) (sn i) (sc i)]:=by
    rw [Nat.mul_one,List.drop_eq_getElem_cons (by rw [encs_length];exact hjl),List.take_succ_cons,List.take_zero];congr 1
    simp [encs,hi2]
   have hR2:=Kd.R_below (Kd.R_bound (cellE i).2) hb;refine ⟨_,hdr,Kd.R_mono hR2 (fun q hq=>⟨⟨.inl ⟨hq.1.1.1,hq.2.2.1⟩,fun z=>?_⟩,?_⟩)⟩
   ·have:=own_base ho' q z.symm;have:=hq.2.2.1;omega
   ·show (rs.map (fun i=>i.1)).idxOf (f q) = j;have h3:=List.Nodup.idxOf_getElem hnd j (by rw [List.length_map];exact hjl);rw [List.getElem_map,hi2] at h3;rw [hq.1.2];exact h3
theorem spec_voSorted.calls (k:Nat) (P0_:Nat → Prop) (u9000_:Value) (l0:List (List Int)) (r:List (List Int)) (w0 w:World) (hB:Below w0.heap.size w0 w) (ho0:Kd.S (Kd.slice 3 (Kd.int .i64)) 22 w w0.heap.size P0_ u9000_ l0) (h:spec_voSorted.f k l0 = some r) :
  Calls Tryz.prog 90 #[u9000_] w fun e w'=>∃ v0_:Value,e = .returned (v0_) ∧ Kd.S (Kd.slice 3 (Kd.int .i64)) 22 w' w0.heap.size (fun k_=>(P0_ k_ ∨ w.heap.size ≤ k_)) v0_ r ∧ Below w0.heap.size w0 w' ∧ Kept w w' (fun k_=>P0_ k_):=by
 refine (spec_voSorted.callsN k P0_ u9000_ l0 r w0 w hB ho0 h).mono ?_;rintro e w' ⟨v0,rfl,h1,h2,h3⟩
 exact ⟨v0,rfl,Kd.S_mono h1 (fun q hq=>hq.elim (fun z=>.inl z.1) (fun z=>.inr (h2 q z.symm))),hB.trans (h3.mono hB.size),Kept.of_below h3 _⟩


/-! ### spec_voLeast: function 63 -/
mutual
def spec_voLeast.l0:Nat → List Bool → List (List Int) → List Bool → Int → Int → Option ((List (List Int)))
 | 0,_,_,_,_,_=>none
 | k + 1,x0,x3,x9,x10,x11=>if x11 < x10 then (if 0 ≤ x11 then (if x11 < (x9.length:Int) then (if rdOf false x9 x11 = true then ((spec_voList.f k x11).bind fun t5=>(spec_voLeast.l1 k x0 x3 x11 true x9 x10 x11 t5 (t5.length:Int) 0)) else (spec_voLeast.l0 k x0 x3 x9 x10 (wrap64 (x11 + 1)))) else (none)) else (none)) else ((spec_voSorted.f k x3).bind fun t2=>(some t2))
def spec_voLeast.l1:Nat → List Bool → List (List Int) → Int → Bool → List Bool → Int → Int → List Int → Int → Int → Option ((List (List Int)))
 | 0,_,_,_,_,_,_,_,_,_,_=>none
 | k + 1,x0,x3,x4,x6,x9,x10,x11,x19,x20,x21=>if x21 < x20 then (if 0 ≤ x21 then (if x21 < (x19.length:Int) then (if x6 = true then (if 0 ≤ (rd x19 x21) then (if 0 ≤ (wrap64 (x4 - (shl .i64 1 (rd x19 x21)))) then (if (wrap64 (x4 - (shl .i64 1 (rd x19 x21)))) < (x0.length:Int) then (spec_voLeast.l1 k x0 x3 x4 (!(rdOf false x0 (wrap64 (x4 - (shl .i64 1 (rd x19 x21)))))) x9 x10 x11 x19 x20 (wrap64 (x21 + 1))) else (none)) else (none)) else (none)) else (spec_voLeast.l1 k x0 x3 x4 false x9 x10 x11 x19 x20 (wrap64 (x21 + 1)))) else (none)) else (none)) else (if x6 = true then ((spec_voList.f k x4).bind fun t7=>(if x3.length < 5864062014805 then (spec_voLeast.l0 k x0 (x3 ++ [t7]) x9 x10 (wrap64 (x11 + 1))) else (none))) else (spec_voLeast.l0 k x0 x3 x9 x10 (wrap64 (x11 + 1))))
end
def spec_voLeast.f (k:Nat) (l0:List Bool):Option ((List (List Int))):=spec_voLeast.l0 k l0 ([]:List (List Int)) l0 (l0.length:Int) 0
set_option maxHeartbeats 8000000 in
set_option maxRecDepth 100000 in
theorem spec_voLeast.calls (k:Nat) (A0:Option Addr) (c0:Nat) (l0:List Bool) (r:List (List Int)) (w:World) (hr0:Kd.C Kd.bool w A0 l0.length l0) (hc0:l0.length ≤ c0) (h:spec_voLeast.f k l0 = some r) :
  Calls Tryz.prog 63 #[.slice A0 l0.length c0] w fun e w'=>∃ v0_:Value,e = .returned (v0_) ∧ Kd.S (Kd.slice 3 (Kd.int .i64)) 22 w' w.heap.size (fun _=>True) v0_ r ∧ Below w.heap.size w w':=by
 have HR0:=aM hr0;have HC0:=aM hc0;clear hr0 hc0;have HB:=aM (Below.refl w.heap.size w);have H:(spec_voLeast.l0 k l0 ([]:List (List Int)) l0 (l0.length:Int) 0) = some r:=h;clear h;have H':=aM H;clear H;go_enter Tryz.func63,Tryz.ntmps63;go_wp2
 go_loopg [3,11] k (fun kq v3 v11 w'=>∃ (x3_1:List (List Int)) (x11_1:Int),v11 = .int .i64 x11_1 ∧ Aside0 (spec_voLeast.l0 kq l0 x3_1 l0 (l0.length:Int) x11_1 = some r) ∧ Aside0 (kq ≤ k) ∧ Aside0 (Kd.S (Kd.slice 3 (Kd.int .i64)) 22 w' w.heap.size (fun _=>True) v3 x3_1) ∧ Aside0 (Below w.heap.size w w'))
 case atStart=>exact ⟨(([]:List (List Int))),(0),qrs,H',⟨Nat.le_refl _⟩,⟨by first|exact Kd.S_nil _ _ _ _ _|exact Kd.N_nil _ _ _ _ _|exact Kd.V_nil _ _ _ _ _|exact Kd.Q_nil _ _ _ _ _|exact Kd.R_nil _ _ _ _ _⟩,⟨by exact bw⟩⟩
 case round =>
  clear H';obtain ⟨x3_1,x11_1,rfl,HA,HK1,HO_3,HB⟩:=hrel
  cases gk with
  | zero=>exact absurd HA.out (by simp [spec_voLeast.l0])
  | succ k1 =>
   have H:=HA.out;clear HA;simp only [spec_voLeast.l0] at H;by_cases c2:x11_1 < (l0.length:Int)
   ·rw [if_pos c2] at H;have c2b0:=decide_eq_true c2;clear c2;replace H:=iN H;obtain ⟨c3,H⟩:=H;have c3b0:decide (0 ≤ x11_1) = true:=decide_eq_true c3;clear c3;replace H:=iN H;obtain ⟨c4,H⟩:=H;have c4b0:decide (x11_1 < (l0.length:Int)) = true:=decide_eq_true c4;clear c4;obtain ⟨bq5,hbq5⟩:∃ b_:Bool,b_ = (rdOf false l0 x11_1):=⟨_,rfl⟩;rw [← hbq5] at H;have Nbq5:=aM hbq5;clear hbq5;by_cases c6:bq5 = true
    ·subst c6;rw [if_pos rfl] at H;replace H:=oB H;obtain ⟨t32,A7,H⟩:=H;(try dsimp only at H)
     have H':=aM H;clear H;have p31:0 ≤ (x11_1:Int):=of_decide_eq_true ab;have q31:x11_1 < (l0.length:Int):=of_decide_eq_true ab;obtain ⟨ad31,e31,hx31_0⟩:=Kd.at_bool HR0.out x11_1 p31 q31;(try rw [← Nbq5.out] at hx31_0)
     cases e31
     replace hx31_0:=(HB.out.cell (World.block_lt_of_cell? w _ hx31_0)).trans hx31_0;replace p31:=eq_true p31;replace q31:=eq_true q31;go_wp2_with (first|((with_reducible refine gate_callee (f:=89) rfl ?_);refine gL 19 Tryz.func89 #[.int .i64 x11_1] ?_;(with_reducible refine (spec_voList.calls k1 x11_1 t32 _ A7.out).mono ?_);rintro e w8 ⟨v33,rfl,ho0,hb⟩;refine ⟨_,rfl,?_⟩;replace HO_3:=aM (Kd.S_elder' (qsa HO_3.out) (Kd.R_base ho0) hb);have HO34:=aM (Kd.R_lower ho0 (below_size bw));replace HB:=aM (below_step bw hb);(try clear hb);(try clear ho0);obtain ⟨Ao9,co9,eo9⟩:=Kd.R_slice HO34.out;subst eo9))
     go_loopg [6,21] k1 (fun kq v6 v21 w'=>∃ (x6_2:Bool) (x21_2:Int),v6 = .bool x6_2 ∧ v21 = .int .i64 x21_2 ∧ Aside0 (spec_voLeast.l1 kq l0 x3_1 x11_1 x6_2 l0 (l0.length:Int) x11_1 t32 (t32.length:Int) x21_2 = some r) ∧ Aside0 (kq ≤ k1) ∧ Aside0 (Kd.S (Kd.slice 3 (Kd.int .i64)) 22 w' w.heap.size (fun k_=>some k_ ≠ ((.slice Ao9 t32.length co9):Value).ownBlock) u3 x3_1) ∧ Aside0 (Kd.R (Kd.int .i64) 3 w' w.heap.size (fun _=>True) (.slice Ao9 t32.length co9) t32) ∧ Aside0 (Below w.heap.size w w'))
     case atStart=>exact ⟨(true),(0),qrs,qrs,H',⟨Nat.le_refl _⟩,⟨by (with_reducible repeat (first|apply Kd.S_alloc|apply Kd.S_drewN|apply Kd.S_drew));exact Kd.S_mono HO_3.out (fun _ hk=>hk.2)⟩,⟨qra HO34.out⟩,⟨by exact bw⟩⟩
     case round =>
      clear H';(try clear c2);(try clear c2b0);(try clear c3);(try clear c3b0);(try clear c4);(try clear c4b0);(try clear c6);(try clear hx31_0);(try clear p31);(try clear q31)
      obtain ⟨x6_2,x21_2,rfl,rfl,HA,HK2,HO_3,HO_19,HB⟩:=hrel
      cases gk with
      | zero=>exact absurd HA.out (by simp [spec_voLeast.l1])
      | succ k2 =>
       have H:=HA.out;clear HA;simp only [spec_voLeast.l1] at H;by_cases c10:x21_2 < (t32.length:Int)
       ·rw [if_pos c10] at H;have c10b0:=decide_eq_true c10;clear c10;replace H:=iN H;obtain ⟨c11,H⟩:=H;have c11b0:decide (0 ≤ x21_2) = true:=decide_eq_true c11;clear c11;replace H:=iN H;obtain ⟨c12,H⟩:=H;have c12b0:decide (x21_2 < (t32.length:Int)) = true:=decide_eq_true c12;clear c12;by_cases c13:x6_2 = true
        ·subst c13;rw [if_pos rfl] at H;replace H:=iN H;obtain ⟨c14,H⟩:=H;have c14b0:=eq_true c14;have c14b1:decide (0 ≤ (rd t32 x21_2)) = true:=decide_eq_true c14;clear c14;obtain ⟨ji15,hji15⟩:∃ j_:Int,(shl .i64 1 (rd t32 x21_2)) = j_:=⟨_,rfl⟩;(first|rw [hji15] at H|simp only [hji15] at H)
         have hji15_:(IntKind.i64.wrap (1 * 2 ^ min (rd t32 x21_2).toNat 64)) = ji15:=hji15;have hji15z:(rd t32 x21_2) ≤ 64 → (IntKind.i64.wrap (1 * 2 ^ (rd t32 x21_2).toNat)) = ji15:=shl_small hji15;have hji15u:(IntKind.i64.wrap (2 ^ min (rd t32 x21_2).toNat 64)) = ji15:=by have h_:=hji15_;rw [Int.one_mul] at h_;exact h_
         have hji15v:(rd t32 x21_2) ≤ 64 → (IntKind.i64.wrap (2 ^ (rd t32 x21_2).toNat)) = ji15:=fun hle_=>by have h_:=hji15z hle_;rw [Int.one_mul] at h_;exact h_
         have hji15y:(wrap64 (1 * 2 ^ min (rd t32 x21_2).toNat 64)) = ji15:=(i64_w _).symm.trans hji15_;have hji15x:(rd t32 x21_2) ≤ 64 → (wrap64 (1 * 2 ^ (rd t32 x21_2).toNat)) = ji15:=fun h_=>(i64_w _).symm.trans (hji15z h_)
         obtain ⟨ji16,hji16⟩:∃ j_:Int,(wrap64 (x11_1 - (ji15))) = j_:=⟨_,rfl⟩;(first|rw [hji16] at H|simp only [hji16] at H)
         have hji16w:(IntKind.i64.wrap (x11_1 - (ji15))) = ji16:=(i64_w _).trans hji16;replace H:=iN H;obtain ⟨c17,H⟩:=H;have c17b0:decide (0 ≤ (ji16)) = true:=decide_eq_true c17;clear c17;replace H:=iN H;obtain ⟨c18,H⟩:=H;have c18b0:decide ((ji16) < (l0.length:Int)) = true:=decide_eq_true c18;clear c18;have H':=aM H;clear H;have p35:0 ≤ (x21_2:Int):=of_decide_eq_true ab;have q35:x21_2 < (t32.length:Int):=of_decide_eq_true ab;obtain ⟨ad35,e35,hx35_0⟩:=Kd.at_int (Kd.R_reads' HO_19.out).2.2 x21_2 p35 q35;cases e35
         replace p35:=eq_true p35;replace q35:=eq_true q35;have p36:0 ≤ ((ji16):Int):=of_decide_eq_true ab;have q36:(ji16) < (l0.length:Int):=of_decide_eq_true ab;obtain ⟨ad36,e36,hx36_0⟩:=Kd.at_bool HR0.out (ji16) p36 q36;(try rw [← Nbq5.out] at hx36_0)
         obtain rfl:ad31 = ad36:=(by injection e36);replace hx36_0:=(HB.out.cell (World.block_lt_of_cell? w _ hx36_0)).trans hx36_0;replace p36:=eq_true p36;replace q36:=eq_true q36;go_wp2
         go_roundg k2
         case measure=>have:=HK1.out;have:=HK2.out;omega
         case rel=>exact ⟨(!(rdOf false l0 (ji16))),(wrap64 (x21_2 + 1)),(by first|rfl|(simp;done)|(simp only [← hji16] <;> (first|rfl|simp))|(simp [*];done)),qrs,H',⟨by have:=HK1.out;have:=HK2.out;omega⟩,⟨qsa HO_3.out⟩,⟨qra HO_19.out⟩,⟨by exact bw⟩⟩
        ·replace c13:=Bool.eq_false_iff.mpr c13;subst c13;rw [if_neg (show ¬ (false = true) by decide)] at H;have H':=aM H;clear H;have p35:0 ≤ (x21_2:Int):=of_decide_eq_true ab;have q35:x21_2 < (t32.length:Int):=of_decide_eq_true ab;obtain ⟨ad35,e35,hx35_0⟩:=Kd.at_int (Kd.R_reads' HO_19.out).2.2 x21_2 p35 q35;cases e35
         replace p35:=eq_true p35;replace q35:=eq_true q35;go_wp2
         go_roundg k2
         case measure=>have:=HK1.out;have:=HK2.out;omega
         case rel=>exact ⟨(false),(wrap64 (x21_2 + 1)),qrs,qrs,H',⟨by have:=HK1.out;have:=HK2.out;omega⟩,⟨qsa HO_3.out⟩,⟨qra HO_19.out⟩,⟨by exact bw⟩⟩
       ·rw [if_neg c10] at H;have c10b0:=decide_eq_false c10;clear c10;by_cases c19:x6_2 = true
        ·subst c19;rw [if_pos rfl] at H;replace H:=oB H;obtain ⟨t37,A20,H⟩:=H;(try dsimp only at H)
         replace H:=iN H;obtain ⟨c21,H⟩:=H;have LMc21:=aM c21;clear c21;obtain ⟨y40,hy40⟩:∃ y_:List (List Int),y_ = (x3_1 ++ [t37]):=⟨_,rfl⟩;replace H:(spec_voLeast.l0 k2 l0 y40 l0 (l0.length:Int) (wrap64 (x11_1 + 1))) = some r:=yR hy40 H;have Ny40:=aM hy40;clear hy40;have H':=aM H;clear H;go_wp2_with (first|((with_reducible refine gate_callee (f:=89) rfl ?_);refine gL 40 Tryz.func89 #[.int .i64 x11_1] ?_;(with_reducible refine (spec_voList.calls k2 x11_1 t37 _ A20.out).mono ?_);rintro e w22 ⟨v38,rfl,ho0,hb⟩;refine ⟨_,rfl,?_⟩;replace HO_3:=aM (Kd.S_elder' (qsa HO_3.out) (Kd.R_base ho0) hb);have HO39:=aM (Kd.R_lower (Kd.R_new' ho0 (Kd.R_lt (qra HO_19.out))) (below_size bw));replace HO_19:=aM (Kd.R_elder' (qra HO_19.out) (Kd.R_base ho0) hb);replace HB:=aM (below_step bw hb);(try clear hb);(try clear hk);(try clear ho0);obtain ⟨Ao24,co24,eo24⟩:=Kd.R_slice HO39.out;subst eo24)|((with_reducible refine gate_builtin (b:=.append) (xs:=#[.tmp 38,.tmp 41]) rfl ?_);at_builtin;refine Kd.S_append (Kd.slice 3 (Kd.int .i64)) (w0:=w) w.heap.size rfl (.tmp 38) (.tmp 41) 26 22 (.slice none 0 0) 24 rfl Tryz.underlying26 info22 rfl (by decide) (by omega) u3 x3_1 t37 [.slice Ao24 t37.length co24] (fun k_=>some k_ ≠ (.slice Ao9 t32.length co9:Value).ownBlock) (fun k_=>some k_ = (.slice Ao24 t37.length co24:Value).ownBlock) rfl rfl ?aP (fun k_ hk_=>((Kd.R_mono (ok':=fun k_=>((fun k_=>some k_ ≠ (.slice Ao9 t32.length co9:Value).ownBlock)) k_ ∧ some k_ ≠ (u3:Value).ownBlock) (Kd.R_apart' (HO39.out) (Kd.S_typed HO_3.out) (by decide)) (fun k_ hk=>⟨hk.1.2,hk.2⟩))).1 k_ hk_.symm) ?aF ?aO ?aB ?aS ?aL ?_;(case aP=>exact Kd.M_row (Kd.R_mono (Kd.R_tight rfl (Kd.R_mono (ok':=fun k_=>((fun k_=>some k_ ≠ (.slice Ao9 t32.length co9:Value).ownBlock)) k_ ∧ some k_ ≠ (u3:Value).ownBlock) (Kd.R_apart' (HO39.out) (Kd.S_typed HO_3.out) (by decide)) (fun k_ hk=>⟨hk.1.2,hk.2⟩))) (fun _ h_=>h_)));(case aB=>exact bw);(case aF=>exact (fun k_ hk=>Kd.fresh' (Kd.R_lt (qra HO_19.out)) k_ hk));(case aO=>exact (by (with_reducible repeat (first|apply Kd.S_alloc|apply Kd.S_drewN|apply Kd.S_drew));exact Kd.S_mono HO_3.out (fun k_ hk=>⟨hk.1,fun e_=>hk.2 e_⟩)));(case aS=>exact (below_size bw));(case aL=>have:=LMc21.out;omega);intro v41 w23 ho hb hg hat;rw [← Ny40.out] at ho;replace HO_19:=aM (Kd.R_over' (qra HO_19.out) (Kd.S_typed (qsa HO_3.out)) (by decide) hg);replace HB:=aM (hb);have HO42:=aM (ho);clear HO_3;clear HO39;clear ho hb hg hat))
         go_roundg k2
         case measure=>have:=HK1.out;have:=HK2.out;omega
         case rel=>exact ⟨(y40),(wrap64 (x11_1 + 1)),qrs,H',⟨by have:=HK1.out;have:=HK2.out;omega⟩,⟨by (with_reducible repeat (first|apply Kd.S_alloc|apply Kd.S_drewN|apply Kd.S_drew));exact Kd.S_mono HO42.out (fun _ hk=>trivial)⟩,⟨by exact bw⟩⟩
        ·replace c19:=Bool.eq_false_iff.mpr c19;subst c19;rw [if_neg (show ¬ (false = true) by decide)] at H;have H':=aM H;clear H;go_wp2
         go_roundg k2
         case measure=>have:=HK1.out;have:=HK2.out;omega
         case rel=>exact ⟨(x3_1),(wrap64 (x11_1 + 1)),qrs,H',⟨by have:=HK1.out;have:=HK2.out;omega⟩,⟨by (with_reducible repeat (first|apply Kd.S_alloc|apply Kd.S_drewN|apply Kd.S_drew));exact Kd.S_mono HO_3.out (fun _ hk=>trivial)⟩,⟨by exact bw⟩⟩
    ·replace c6:=Bool.eq_false_iff.mpr c6;subst c6;rw [if_neg (show ¬ (false = true) by decide)] at H;have H':=aM H;clear H;have p31:0 ≤ (x11_1:Int):=of_decide_eq_true ab;have q31:x11_1 < (l0.length:Int):=of_decide_eq_true ab;obtain ⟨ad31,e31,hx31_0⟩:=Kd.at_bool HR0.out x11_1 p31 q31;(try rw [← Nbq5.out] at hx31_0)
     cases e31
     replace hx31_0:=(HB.out.cell (World.block_lt_of_cell? w _ hx31_0)).trans hx31_0;replace p31:=eq_true p31;replace q31:=eq_true q31;go_wp2
     go_roundg k1
     case measure=>have:=HK1.out;omega
     case rel=>exact ⟨(x3_1),(wrap64 (x11_1 + 1)),qrs,H',⟨by have:=HK1.out;omega⟩,⟨qsa HO_3.out⟩,⟨by exact bw⟩⟩
   ·rw [if_neg c2] at H;have c2b0:=decide_eq_false c2;clear c2;replace H:=oB H;obtain ⟨t28,A25,H⟩:=H;(try dsimp only at H)
    obtain rfl:=Option.some.inj H;obtain ⟨Ao26,co26,eo26⟩:=Kd.S_slice HO_3.out;subst eo26;go_wp2_with (first|((with_reducible refine gate_callee (f:=90) rfl ?_);refine gL 45 Tryz.func90 #[.slice Ao26 x3_1.length co26] ?_;(with_reducible refine (spec_voSorted.calls k1 (fun k_=>True) (.slice Ao26 x3_1.length co26) x3_1 t28 w _ ?side1 ?side2 A25.out).mono ?_);(case side1=>exact bw);(case side2=>exact HO_3.out);rintro e w27 ⟨v29,rfl,ho0,hb,hkp⟩;refine ⟨_,rfl,?_⟩;have HO30:=aM (Kd.S_mono (ok':=fun k_=>True) ho0 (fun k_ hk_=>trivial));replace HB:=aM (hb);clear HO_3;(try clear hb);(try clear hkp);(try clear ho0)))
    go_ret
    exact ⟨_,eE,by (with_reducible repeat (first|apply Kd.S_alloc|apply Kd.S_drewN|apply Kd.S_drew));exact HO30.out,by exact bw⟩


/-! ### spec_gmOf: function 31 -/
def spec_gmOf.f (k:Nat) (a0:Int) (l1:List Bool):Option (Int × (List (List Int))):=(spec_voLeast.f k l1).bind fun t2=>(some (a0,t2))
set_option maxHeartbeats 8000000 in
set_option maxRecDepth 100000 in
theorem spec_gmOf.calls (k:Nat) (a0:Int) (A1:Option Addr) (c1:Nat) (l1:List Bool) (r1:Int) (r2:List (List Int)) (w:World) (hr1:Kd.C Kd.bool w A1 l1.length l1) (hc1:l1.length ≤ c1) (h:spec_gmOf.f k a0 l1 = some (r1,r2)) :
  Calls Tryz.prog 31 #[.int .i64 a0,.slice A1 l1.length c1] w fun e w'=>∃ v1_:Value,e = .returned (.agg #[.int .i64 r1,v1_]) ∧ Kd.S (Kd.slice 3 (Kd.int .i64)) 22 w' w.heap.size (fun _=>True) v1_ r2 ∧ Below w.heap.size w w':=by
 have hu28:=Tryz.underlying28;have HR1:=aM hr1;have HC1:=aM hc1;clear hr1 hc1;have HB:=aM (Below.refl w.heap.size w);have H:((spec_voLeast.f k l1).bind fun t9=>(some (a0,t9))) = some (r1,r2):=h;clear h;replace H:=oB H;obtain ⟨t9,A3,H⟩:=H;(try dsimp only at H)
 simp only [Option.some.injEq,Prod.mk.injEq] at H;obtain ⟨rfl,rfl⟩:=H;go_enter Tryz.func31,Tryz.ntmps31;go_wp2_with (first|((with_reducible refine gate_dst (N:=4) rfl ?_);refine bE 4 #[.int .i64 0,.slice none 0 0] 28 ?_;intro gb8 hg w4 hbox hb;have BK8:=aM (hbox);have GW8:=aM (gS hg);have GE8:=aM (gS hg);replace HB:=aM (below_step bw hb);clear hb hbox hg)|((with_reducible refine gate_callee (f:=63) rfl ?_);refine gL 7 Tryz.func63 #[.slice A1 l1.length c1] ?_;(with_reducible refine (spec_voLeast.calls k _ _ l1 t9 _ ?side1 ?side2 A3.out).mono ?_);(case side1=>exact qcs HR1.out HB.out);(case side2=>exact HC1.out);rintro e w5 ⟨v10,rfl,ho0,hb⟩;refine ⟨_,rfl,?_⟩;have HO11:=aM (Kd.S_lower ho0 (below_size bw));replace BK8:=aM (bB BK8.out hb);replace HB:=aM (below_step bw hb);(try clear hb);(try clear ho0);obtain ⟨Ao6,co6,eo6⟩:=Kd.S_slice HO11.out;subst eo6;have hcz7_0:=cz BK8.out 0;have hcz7_1:=cz BK8.out 1;have hfz7_0:=blk_frozen BK8.out 0;have hfz7_1:=blk_frozen BK8.out 1))
 refine bodyPost_ret (results_cell_row rfl _ _ gb8 28 #[.int .i64 a0,.slice Ao6 t9.length co6] (0,0) _ rfl (by (with_reducible repeat (first|refine blk_drewN ?_ _|refine blk_drew ?_|refine blk_alloc ?_ _));refine blk_put (cs:=#[.int .i64 a0,.slice none 0 0]) ?_ 1 _ rfl;(with_reducible repeat (first|refine blk_drewN ?_ _|refine blk_drew ?_|refine blk_alloc ?_ _));refine blk_put (cs:=#[.int .i64 0,.slice none 0 0]) ?_ 0 _ rfl;(with_reducible repeat (first|refine blk_drewN ?_ _|refine blk_drew ?_|refine blk_alloc ?_ _));exact BK8.out) Tryz.underlying28 rfl kR) rfl ?_;exact ⟨_,eE,by (with_reducible repeat (first|apply Kd.S_alloc|apply Kd.S_drewN|apply Kd.S_drew));exact Kd.S_mono (Kd.S_far (p:=⟨gb8,1,none⟩) (Kd.S_far (p:=⟨gb8,0,none⟩) (Kd.S_types HO11.out BK8.out (by decide)) (fun _ hk=>hk.2) (.int .i64 a0)) (fun _ hk=>hk.2) (.slice Ao6 t9.length co6)) (fun _ hk=>trivial),by exact bw⟩


/-! ### spec_CouncilGame: function 5 -/
def spec_CouncilGame.f (k:Nat) (a0_0:Int) (l0_1:List Int) (l1:List (S_impl_Committee)):Option (Int × (List (List Int)) × Bool):=(spec_AreCouncil.f k a0_0 l0_1 l1).bind fun t2=>(if t2 = true then ((spec_chMembers.f k l1).bind fun t3=>((spec_chCouncil.f k a0_0 l0_1 l1).bind fun t4=>((spec_gmOf.f k t3 t4).bind fun bt5=>(some (bt5.1,bt5.2,true))))) else (some (0,([]:List (List Int)),false)))
def spec_CouncilGame.T3:Bool × List (List Nat × List Nat):=(true,[([],[]),([0],[0]),([],[]),([],[]),([2,3,1],[2,3]),([1,4,4],[1,4]),([5,5,0,1,2,3,4,5],[5]),([6,0,1,2,3,4,5,6],[])])
def spec_CouncilGame.B3:List Nat:=[0,1,0,0,15,31,63,127]
theorem spec_CouncilGame.tab3:rtab .any (opsOf Tryz.f5 3) = spec_CouncilGame.T3:=by kernel_rfl
theorem spec_CouncilGame.bits3:waitsOk spec_CouncilGame.T3.2 spec_CouncilGame.B3 = true:=by kernel_rfl
set_option maxHeartbeats 8000000 in
set_option maxRecDepth 100000 in
theorem spec_CouncilGame.calls (k:Nat) (a0_0:Int) (A0_1:Option Addr) (c0_1:Nat) (l0_1:List Int) (A1:Option Addr) (c1:Nat) (l1:List (S_impl_Committee)) (r1:Int) (r2:List (List Int)) (r3:Bool) (w:World) (hr0_1:Kd.C (Kd.int .i64) w A0_1 l0_1.length l0_1) (hc0_1:l0_1.length ≤ c0_1) (hr1:Kd.C k_impl_Committee w A1 l1.length l1) (hc1:l1.length ≤ c1) (h:spec_CouncilGame.f k a0_0 l0_1 l1 = some (r1,r2,r3)) :
  Calls Tryz.prog 5 #[.agg #[.int .i64 a0_0,.slice A0_1 l0_1.length c0_1],.slice A1 l1.length c1] w fun e w'=>∃ v1_:Value,e = .returned (.tuple #[.agg #[.int .i64 r1,v1_],.bool r3]) ∧ Kd.S (Kd.slice 3 (Kd.int .i64)) 22 w' w.heap.size (fun _=>True) v1_ r2 ∧ Below w.heap.size w w':=by
 have hu24:=Tryz.underlying24;have hu28:=Tryz.underlying28;have HR0_1:=aM hr0_1;have HC0_1:=aM hc0_1;clear hr0_1 hc0_1;have HR1:=aM hr1;have HC1:=aM hc1;clear hr1 hc1;have HB:=aM (Below.refl w.heap.size w);have H:((spec_AreCouncil.f k a0_0 l0_1 l1).bind fun t30=>(if t30 = true then ((spec_chMembers.f k l1).bind fun t34=>((spec_chCouncil.f k a0_0 l0_1 l1).bind fun t35=>((spec_gmOf.f k t34 t35).bind fun bt38=>(some (bt38.1,bt38.2,true))))) else (some (0,([]:List (List Int)),false)))) = some (r1,r2,r3):=h;clear h;replace H:=oB H;obtain ⟨t30,A3,H⟩:=H;(try dsimp only at H)
 by_cases c4:t30 = true
 ·subst c4;rw [if_pos rfl] at H;replace H:=oB H;obtain ⟨t34,A5,H⟩:=H;(try dsimp only at H)
  replace H:=oB H;obtain ⟨t35,A6,H⟩:=H;(try dsimp only at H)
  replace H:=oB H;obtain ⟨⟨t38,t39⟩,A7,H⟩:=H;(try dsimp only at H)
  simp only [Option.some.injEq,Prod.mk.injEq] at H;obtain ⟨rfl,rfl,rfl⟩:=H;go_enter Tryz.func5,Tryz.ntmps5
  try go_wp2_with (first|((with_reducible refine gate_dst (N:=2) rfl ?_);refine bE 2 #[.int .i64 a0_0,.slice A0_1 l0_1.length c0_1] 24 ?_;intro gb27 hg w8 hbox hb;have BK27:=aM (hbox);have GW27:=aM (gS hg);have GE27:=aM (gS hg);replace HB:=aM (below_step bw hb);clear hb hbox hg)|((with_reducible refine gate_dst (N:=4) rfl ?_);refine bE 4 #[.int .i64 0,.slice none 0 0] 28 ?_;intro gb29 hg w9 hbox hb;have BK29:=aM (hbox);have GW29:=aM (gS hg);have GE29:=aM (gS hg);replace HB:=aM (below_step bw hb);have NB27_29:=aM (nL BK27.out hg);have NB29_27:=aM (nR BK27.out hg);replace BK27:=aM (bB BK27.out hb);clear hb hbox hg;have hnb10:=NB27_29.out;have hnc10:=NB29_27.out;have hcz11_0:=cz BK27.out 0;have hcz11_1:=cz BK27.out 1;have hfz11_0:=blk_frozen BK27.out 0;have hfz11_1:=blk_frozen BK27.out 1)|((with_reducible refine gate_callee (f:=13) rfl ?_);refine gL 8 Tryz.func13 #[.agg #[.int .i64 a0_0,.slice A0_1 l0_1.length c0_1],.slice A1 l1.length c1] ?_;(with_reducible refine (spec_AreCouncil.calls k a0_0 _ _ l0_1 _ _ l1 true _ ?side1 ?side2 ?side3 ?side4 A3.out).mono ?_);(case side1=>exact qcs HR0_1.out HB.out);(case side2=>exact HC0_1.out);(case side3=>exact qcs HR1.out HB.out);(case side4=>exact HC1.out);rintro e w12 ⟨rfl,hb⟩;refine ⟨_,rfl,?_⟩;replace BK27:=aM (bB BK27.out hb);replace BK29:=aM (bB BK29.out hb);replace HB:=aM (below_step bw hb);(try clear hb)))
  replace BK27:=aM (blk_drew BK27.out);replace BK29:=aM (blk_drew BK29.out);replace HB:=aM (below_drew1 HB.out);refine start_ (n:=8) (S:=fun w'=>w'.cell? ⟨gb27,0,none⟩ = some (.int .i64 a0_0) ∧ w'.cell? ⟨gb27,1,none⟩ = some (.slice A0_1 l0_1.length c0_1)) (ds:=[]) (mA 8 0) kR rfl rfl ⟨(blk_cell BK27.out 0).trans rfl,(blk_cell BK27.out 1).trans rfl⟩ (fun hHeld=>?_);refine with_tabW spec_CouncilGame.tab3 spec_CouncilGame.bits3 (fun HT_ HW_=>?_)
  generalize w12.drew = w13 at BK27 BK29 HB hHeld ⊢
  refine pT 0 11 HT_.out ?_;refine pT 3 14 HT_.out ?_;refine pK 2 13 HT_.out HW_.out hHeld ?_;refine oN 1 (some 12) HT_.out fun K hK=>?_
  refine gC Tryz.func32 #[.slice A1 l1.length c1] ?_
  with_reducible refine (spec_chMembers.calls k _ _ l1 t34 _ ?side1 ?side2 A5.out).mono ?_
  (case side1=>exact qcs HR1.out HB.out)
  (case side2=>exact HC1.out)
  rintro e w14 ⟨rfl,hb⟩
  refine ⟨_,rfl,?_⟩;replace BK27:=aM (bB BK27.out hb);replace BK29:=aM (bB BK29.out hb);replace HB:=aM (below_step bw hb);(try clear hb)
  refine hK.out _ _ ⟨(blk_cell BK27.out 0).trans rfl,(blk_cell BK27.out 1).trans rfl⟩ (fun hHeld=>?_);clear hK K;refine nM 12 ?_;refine oN 4 (some 15) HT_.out fun K hK=>?_
  refine gC Tryz.func33 #[.agg #[.int .i64 a0_0,.slice A0_1 l0_1.length c0_1],.slice A1 l1.length c1] ?_
  with_reducible refine (spec_chCouncil.calls k a0_0 _ _ l0_1 _ _ l1 t35 _ ?side1 ?side2 ?side3 ?side4 A6.out).mono ?_
  (case side1=>exact qcs HR0_1.out HB.out)
  (case side2=>exact HC0_1.out)
  (case side3=>exact qcs HR1.out HB.out)
  (case side4=>exact HC1.out)
  rintro e w15 ⟨v36,rfl,ho0,hb⟩
  refine ⟨_,rfl,?_⟩;have HO37:=aM (Kd.R_lower ho0 (below_size bw));replace BK27:=aM (bB BK27.out hb);replace BK29:=aM (bB BK29.out hb);replace HB:=aM (below_step bw hb);(try clear hb)
  (try clear ho0)
  obtain ⟨Ao16,co16,eo16⟩:=Kd.R_slice HO37.out;(first|subst eo16|(injection eo16 with f1_ f2_ f3_;have f4_:=f1_.symm;have f5_:=f3_.symm;clear f1_ f2_ f3_;subst f4_;subst f5_))
  refine hK.out _ _ ⟨(blk_cell BK27.out 0).trans rfl,(blk_cell BK27.out 1).trans rfl⟩ (fun hHeld=>?_);clear hK K;refine nM 15 ?_;refine oN 5 (some 16) HT_.out fun K hK=>?_
  refine gC Tryz.func31 #[.int .i64 t34,.slice Ao16 t35.length co16] ?_
  with_reducible refine (spec_gmOf.calls k t34 _ _ t35 t38 t39 _ ?side1 ?side2 A7.out).mono ?_
  (case side1=>exact qc (Kd.R_reads' HO37.out).2.2)
  (case side2=>exact (Kd.R_reads' HO37.out).2.1)
  rintro e w17 ⟨v40,rfl,ho0,hb⟩
  refine ⟨_,rfl,?_⟩;replace HO37:=aM (Kd.R_below (qra HO37.out) hb);have HO41:=aM (Kd.S_lower ho0 (below_size bw));replace BK27:=aM (bB BK27.out hb);replace BK29:=aM (bB BK29.out hb);replace HB:=aM (below_step bw hb);(try clear hb)
  (try clear ho0)
  obtain ⟨Ao19,co19,eo19⟩:=Kd.S_slice HO41.out;(first|subst eo19|(injection eo19 with f1_ f2_ f3_;have f4_:=f1_.symm;have f5_:=f3_.symm;clear f1_ f2_ f3_;subst f4_;subst f5_))
  refine hK.out _ _ ⟨(blk_cell BK27.out 0).trans rfl,(blk_cell BK27.out 1).trans rfl⟩ (fun hHeld=>?_);clear hK K;refine nM 16 ?_;refine oN 6 none HT_.out fun K hK=>?_
  have hs18:w17.cell? ⟨gb29,0,none⟩ = some (.int .i64 0):=(blk_cell BK29.out 0).trans rfl;have hfs18:=blk_frozen BK29.out 0;have hns18_0:=NB27_29.out;have hms18_0:=NB29_27.out;have hs20:w17.cell? ⟨gb29,1,none⟩ = some (.slice none 0 0):=(blk_cell BK29.out 1).trans rfl;have hfs20:=blk_frozen BK29.out 1;have hns20_0:=NB27_29.out;have hms20_0:=NB29_27.out;refine skip_ (w1:=?_) (by rfl) rfl ?_ ?_;rotate_left
  ·go_simp
   rfl
  refine hK.out _ _ ⟨((cell_far (p:=⟨gb29,_,none⟩) NB27_29.out _).trans (((cell_far (p:=⟨gb29,_,none⟩) NB27_29.out _).trans (hHeld.1)))),((cell_far (p:=⟨gb29,_,none⟩) NB27_29.out _).trans (((cell_far (p:=⟨gb29,_,none⟩) NB27_29.out _).trans (hHeld.2))))⟩ (fun hHeld=>?_);clear hK K;refine pT 7 5 HT_.out ?_;refine done_ (done_of HT_.out kR) ?_
  try go_wp2
  refine bodyPost_ret (results_ct rfl _ _ gb29 28 #[.int .i64 t38,.slice Ao19 t39.length co19] (0,0) _ rfl (by (with_reducible repeat (first|refine blk_drewN ?_ _|refine blk_drew ?_|refine blk_alloc ?_ _));refine blk_put (cs:=#[.int .i64 t38,.slice none 0 0]) ?_ 1 _ rfl;(with_reducible repeat (first|refine blk_drewN ?_ _|refine blk_drew ?_|refine blk_alloc ?_ _));refine blk_put (cs:=#[.int .i64 0,.slice none 0 0]) ?_ 0 _ rfl;(with_reducible repeat (first|refine blk_drewN ?_ _|refine blk_drew ?_|refine blk_alloc ?_ _));exact BK29.out) Tryz.underlying28 rfl kR) rfl ?_;exact ⟨_,eE,by (with_reducible repeat (first|apply Kd.S_alloc|apply Kd.S_drewN|apply Kd.S_drew));exact Kd.S_mono (Kd.S_far (p:=⟨gb29,1,none⟩) (Kd.S_far (p:=⟨gb29,0,none⟩) (Kd.S_types HO41.out BK29.out (by decide)) (fun _ hk=>hk.2) (.int .i64 t38)) (fun _ hk=>hk.2) (.slice Ao19 t39.length co19)) (fun _ hk=>trivial),by exact bw⟩
 ·replace c4:=Bool.eq_false_iff.mpr c4;subst c4;rw [if_neg (show ¬ (false = true) by decide)] at H;simp only [Option.some.injEq,Prod.mk.injEq] at H;obtain ⟨rfl,rfl,rfl⟩:=H;go_enter Tryz.func5,Tryz.ntmps5;go_wp2_with (first|((with_reducible refine gate_dst (N:=2) rfl ?_);refine bE 2 #[.int .i64 a0_0,.slice A0_1 l0_1.length c0_1] 24 ?_;intro gb27 hg w21 hbox hb;have BK27:=aM (hbox);have GW27:=aM (gS hg);have GE27:=aM (gS hg);replace HB:=aM (below_step bw hb);clear hb hbox hg)|((with_reducible refine gate_dst (N:=4) rfl ?_);refine bE 4 #[.int .i64 0,.slice none 0 0] 28 ?_;intro gb29 hg w22 hbox hb;have BK29:=aM (hbox);have GW29:=aM (gS hg);have GE29:=aM (gS hg);replace HB:=aM (below_step bw hb);have NB27_29:=aM (nL BK27.out hg);have NB29_27:=aM (nR BK27.out hg);replace BK27:=aM (bB BK27.out hb);clear hb hbox hg;have hnb23:=NB27_29.out;have hnc23:=NB29_27.out;have hcz24_0:=cz BK27.out 0;have hcz24_1:=cz BK27.out 1;have hfz24_0:=blk_frozen BK27.out 0;have hfz24_1:=blk_frozen BK27.out 1)|((with_reducible refine gate_callee (f:=13) rfl ?_);refine gL 8 Tryz.func13 #[.agg #[.int .i64 a0_0,.slice A0_1 l0_1.length c0_1],.slice A1 l1.length c1] ?_;(with_reducible refine (spec_AreCouncil.calls k a0_0 _ _ l0_1 _ _ l1 false _ ?side1 ?side2 ?side3 ?side4 A3.out).mono ?_);(case side1=>exact qcs HR0_1.out HB.out);(case side2=>exact HC0_1.out);(case side3=>exact qcs HR1.out HB.out);(case side4=>exact HC1.out);rintro e w25 ⟨rfl,hb⟩;refine ⟨_,rfl,?_⟩;replace BK27:=aM (bB BK27.out hb);replace BK29:=aM (bB BK29.out hb);replace HB:=aM (below_step bw hb);(try clear hb);(try clear hk);have hcz26_0:=cz BK29.out 0;have hcz26_1:=cz BK29.out 1;have hfz26_0:=blk_frozen BK29.out 0;have hfz26_1:=blk_frozen BK29.out 1))
  refine bodyPost_ret (results_ct rfl _ _ gb29 28 #[.int .i64 0,.slice none 0 0] (0,0) _ rfl (by (with_reducible repeat (first|refine blk_drewN ?_ _|refine blk_drew ?_|refine blk_alloc ?_ _));refine blk_put (cs:=#[.int .i64 0,.slice none 0 0]) ?_ 1 _ rfl;(with_reducible repeat (first|refine blk_drewN ?_ _|refine blk_drew ?_|refine blk_alloc ?_ _));refine blk_put (cs:=#[.int .i64 0,.slice none 0 0]) ?_ 0 _ rfl;(with_reducible repeat (first|refine blk_drewN ?_ _|refine blk_drew ?_|refine blk_alloc ?_ _));exact BK29.out) Tryz.underlying28 rfl kR) rfl ?_;exact ⟨_,eE,by first|exact Kd.S_nil _ _ _ _ _|exact Kd.N_nil _ _ _ _ _|exact Kd.V_nil _ _ _ _ _|exact Kd.Q_nil _ _ _ _ _|exact Kd.R_nil _ _ _ _ _,by exact bw⟩


/-! ### impl_votes_idle: function 43 -/
def impl_votes_idle.f (k:Nat) (a0_0:Int) (l0_1:List Bool):Option (List Int):=(impl_votes_least.f k a0_0 l0_1).bind fun t2=>((impl_members.f k a0_0 (fun y0_=>impl_votes_idle_1.f k y0_ t2)).bind fun t3=>(some t3))
set_option maxHeartbeats 8000000 in
set_option maxRecDepth 100000 in
theorem impl_votes_idle.calls (k:Nat) (a0_0:Int) (A0_1:Option Addr) (c0_1:Nat) (l0_1:List Bool) (r:List Int) (w:World) (hr0_1:Kd.C Kd.bool w A0_1 l0_1.length l0_1) (hc0_1:l0_1.length ≤ c0_1) (h:impl_votes_idle.f k a0_0 l0_1 = some r) :
  Calls Tryz.prog 43 #[.agg #[.int .i64 a0_0,.slice A0_1 l0_1.length c0_1]] w fun e w'=>∃ v0_:Value,e = .returned (v0_) ∧ Kd.R (Kd.int .i64) 3 w' w.heap.size (fun _=>True) v0_ r ∧ Below w.heap.size w w':=by
 have hmf:∀ (fn:Fn) (first cap:Array Value) (w:World),(Instr.makeFunc fn first cap).run Tryz.prog w = .ok (.func fn first cap) w:=fun _ _ _ _=>rfl
 have hu59:=Tryz.underlying59;have HR0_1:=aM hr0_1;have HC0_1:=aM hc0_1;clear hr0_1 hc0_1;have HB:=aM (Below.refl w.heap.size w);have H:((impl_votes_least.f k a0_0 l0_1).bind fun t14=>((impl_members.f k a0_0 (fun y0_=>impl_votes_idle_1.f k y0_ t14)).bind fun t18=>(some t18))) = some r:=h;clear h;replace H:=oB H;obtain ⟨t14,A2,H⟩:=H;(try dsimp only at H)
 replace H:=oB H;obtain ⟨t18,A3,H⟩:=H;(try dsimp only at H)
 obtain rfl:=Option.some.inj H;go_enter Tryz.func43,Tryz.ntmps43;go_wp2_with (first|((with_reducible refine gate_dst (N:=1) rfl ?_);refine bE 1 #[.int .i64 a0_0,.slice A0_1 l0_1.length c0_1] 59 ?_;intro gb13 hg w4 hbox hb;have BK13:=aM (hbox);have GW13:=aM (gS hg);have GE13:=aM (gS hg);replace HB:=aM (below_step bw hb);clear hb hbox hg;have hcz5_0:=cz BK13.out 0;have hcz5_1:=cz BK13.out 1;have hfz5_0:=blk_frozen BK13.out 0;have hfz5_1:=blk_frozen BK13.out 1)|((with_reducible refine gate_callee (f:=62) rfl ?_);refine gL 5 Tryz.func62 #[.agg #[.int .i64 a0_0,.slice A0_1 l0_1.length c0_1]] ?_;(with_reducible refine (impl_votes_least.calls k a0_0 _ _ l0_1 t14 _ ?side1 ?side2 A2.out).mono ?_);(case side1=>exact qcs HR0_1.out HB.out);(case side2=>exact HC0_1.out);rintro e w6 ⟨v15,rfl,ho0,hb⟩;refine ⟨_,rfl,?_⟩;have HO16:=aM (Kd.S_lower ho0 (below_size bw));replace BK13:=aM (bB BK13.out hb);replace HB:=aM (below_step bw hb);(try clear hb);(try clear ho0))|((with_reducible refine gate_dst (N:=3) rfl ?_);refine bE 3 #[.slice none 0 0] 26 ?_;intro gb17 hg w7 hbox hb;replace HO16:=aM (Kd.S_below (qsa HO16.out) hb);have BK17:=aM (hbox);have GW17:=aM (gS hg);have GE17:=aM (gS hg);replace HB:=aM (below_step bw hb);have NB13_17:=aM (nL BK13.out hg);have NB17_13:=aM (nR BK13.out hg);replace BK13:=aM (bB BK13.out hb);clear hb hbox hg;obtain ⟨Ao8,co8,eo8⟩:=Kd.S_slice HO16.out;subst eo8;have hnb9:=NB17_13.out;have hnc9:=NB13_17.out;have hcz10_0:=cz BK17.out 0;have hfz10_0:=blk_frozen BK17.out 0;have hcz11_0:=cz BK13.out 0;have hcz11_1:=cz BK13.out 1;have hfz11_0:=blk_frozen BK13.out 0;have hfz11_1:=blk_frozen BK13.out 1)|((with_reducible refine gate_callee (f:=72) rfl ?_);refine gL 9 Tryz.func72 #[.int .i64 a0_0,.func (.func 73) #[] #[.pointer (some ⟨gb17,0,none⟩)]] ?_;(with_reducible refine (impl_members.calls k a0_0 (fun y0_=>impl_votes_idle_1.f k y0_ t14) 73 #[.pointer (some ⟨gb17,0,none⟩)] impl_votes_idle_1.enters t18 _ ?side1 A3.out).mono ?_);(case side1=>exact (fun W_ a0_ r0_ hx_ hb_ =>(impl_votes_idle_1.calls k a0_ gb17 _ _ t14 r0_ W_  (Kd.C_below (by refine (Kd.S_reads' (e:=22) (base:=w.heap.size) (ok:=fun k_=>True) (n:=t14.length) (c:=co8) ?_).2.2;exact (by (with_reducible repeat (first|apply Kd.S_alloc|apply Kd.S_drewN|apply Kd.S_drew));exact (Kd.S_mono (Kd.S_far (p:=⟨gb17,0,none⟩) (Kd.S_types HO16.out BK17.out (by decide)) (fun _ hk=>hk.2) (.slice Ao8 t14.length co8)) (fun _ h_=>h_.1)))) hb_) (by exact (Kd.S_reads' HO16.out).2.1) (box_later (by (with_reducible repeat (first|refine blk_drewN ?_ _|refine blk_drew ?_|refine blk_alloc ?_ _));refine blk_put (cs:=#[.slice none 0 0]) ?_ 0 _ rfl;(with_reducible repeat (first|refine blk_drewN ?_ _|refine blk_drew ?_|refine blk_alloc ?_ _));exact BK17.out) hb_) hx_).mono (fun _ _ h_=>h_)));rintro e w12 ⟨v19,rfl,ho0,hb⟩;refine ⟨_,rfl,?_⟩;replace HO16:=aM (Kd.S_elder' (by (with_reducible repeat (first|apply Kd.S_alloc|apply Kd.S_drewN|apply Kd.S_drew));exact (Kd.S_mono (Kd.S_far (p:=⟨gb17,0,none⟩) (Kd.S_types HO16.out BK17.out (by decide)) (fun _ hk=>hk.2) (.slice Ao8 t14.length co8)) (fun _ h_=>h_.1))) (Kd.R_base ho0) hb);have HO20:=aM (Kd.R_lower ho0 (below_size bw));replace BK13:=aM (blk_below (g:=gb13) (o:=.cells #[.int .i64 a0_0,.slice A0_1 l0_1.length c0_1] 59 (0,0)) (by (with_reducible repeat (first|refine blk_drewN ?_ _|refine blk_drew ?_|refine blk_alloc ?_ _));refine blk_far ?_ NB13_17.out _;(with_reducible repeat (first|refine blk_drewN ?_ _|refine blk_drew ?_|refine blk_alloc ?_ _));exact BK13.out) hb);replace BK17:=aM (blk_below (g:=gb17) (o:=.cells #[.slice Ao8 t14.length co8] 26 (0,0)) (by (with_reducible repeat (first|refine blk_drewN ?_ _|refine blk_drew ?_|refine blk_alloc ?_ _));refine blk_put (cs:=#[.slice none 0 0]) ?_ 0 _ rfl;(with_reducible repeat (first|refine blk_drewN ?_ _|refine blk_drew ?_|refine blk_alloc ?_ _));exact BK17.out) hb);replace HB:=aM (below_step bw hb);(try clear hb);(try clear hk);(try clear ho0)))
 go_ret
 exact ⟨_,eE,by (with_reducible repeat (first|apply Kd.R_alloc|apply Kd.R_drewN|apply Kd.R_drew));exact HO20.out,by exact bw⟩


/-! ### impl_IdleMembers: function 15 -/
def impl_IdleMembers.f (k:Nat) (a0_0:Int) (l0_1:List (List Int)):Option (List Int × Bool):=(impl_IsGame.f k a0_0 l0_1).bind fun t2=>(if t2 = true then ((impl_Game_votes.f k a0_0 l0_1).bind fun bt3=>((impl_votes_idle.f k bt3.1 bt3.2).bind fun t4=>(some (t4,true)))) else (some (([]:List Int),false)))
set_option maxHeartbeats 8000000 in
set_option maxRecDepth 100000 in
theorem impl_IdleMembers.calls (k:Nat) (a0_0:Int) (A0_1:Option Addr) (c0_1:Nat) (l0_1:List (List Int)) (r1:List Int) (r2:Bool) (w:World) (hr0_1:Kd.C (Kd.slice 3 (Kd.int .i64)) w A0_1 l0_1.length l0_1) (hc0_1:l0_1.length ≤ c0_1) (h:impl_IdleMembers.f k a0_0 l0_1 = some (r1,r2)) :
  Calls Tryz.prog 15 #[.agg #[.int .i64 a0_0,.slice A0_1 l0_1.length c0_1]] w fun e w'=>∃ v0_:Value,e = .returned (.tuple #[v0_,.bool r2]) ∧ Kd.R (Kd.int .i64) 3 w' w.heap.size (fun _=>True) v0_ r1 ∧ Below w.heap.size w w':=by
 have hu28:=Tryz.underlying28;have HR0_1:=aM hr0_1;have HC0_1:=aM hc0_1;clear hr0_1 hc0_1;have HB:=aM (Below.refl w.heap.size w);have H:((impl_IsGame.f k a0_0 l0_1).bind fun t18=>(if t18 = true then ((impl_Game_votes.f k a0_0 l0_1).bind fun bt19=>((impl_votes_idle.f k bt19.1 bt19.2).bind fun t23=>(some (t23,true)))) else (some (([]:List Int),false)))) = some (r1,r2):=h;clear h;replace H:=oB H;obtain ⟨t18,A2,H⟩:=H;(try dsimp only at H)
 by_cases c3:t18 = true
 ·subst c3;rw [if_pos rfl] at H;replace H:=oB H;obtain ⟨⟨t19,t20⟩,A4,H⟩:=H;(try dsimp only at H)
  replace H:=oB H;obtain ⟨t23,A5,H⟩:=H;(try dsimp only at H)
  simp only [Option.some.injEq,Prod.mk.injEq] at H;obtain ⟨rfl,rfl⟩:=H;go_enter Tryz.func15,Tryz.ntmps15;go_wp2_with (first|((with_reducible refine gate_dst (N:=1) rfl ?_);refine bE 1 #[.int .i64 a0_0,.slice A0_1 l0_1.length c0_1] 28 ?_;intro gb17 hg w6 hbox hb;have BK17:=aM (hbox);have GW17:=aM (gS hg);have GE17:=aM (gS hg);replace HB:=aM (below_step bw hb);clear hb hbox hg;have hcz7_0:=cz BK17.out 0;have hcz7_1:=cz BK17.out 1;have hfz7_0:=blk_frozen BK17.out 0;have hfz7_1:=blk_frozen BK17.out 1)|((with_reducible refine gate_callee (f:=16) rfl ?_);refine gL 5 Tryz.func16 #[.agg #[.int .i64 a0_0,.slice A0_1 l0_1.length c0_1]] ?_;(with_reducible refine (impl_IsGame.calls k a0_0 _ _ l0_1 true _ ?side1 ?side2 A2.out).mono ?_);(case side1=>exact qcs HR0_1.out HB.out);(case side2=>exact HC0_1.out);rintro e w8 ⟨rfl,hb⟩;refine ⟨_,rfl,?_⟩;replace BK17:=aM (bB BK17.out hb);replace HB:=aM (below_step bw hb);(try clear hb);have hcz9_0:=cz BK17.out 0;have hcz9_1:=cz BK17.out 1;have hfz9_0:=blk_frozen BK17.out 0;have hfz9_1:=blk_frozen BK17.out 1)|((with_reducible refine gate_callee (f:=42) rfl ?_);refine gL 8 Tryz.func42 #[.agg #[.int .i64 a0_0,.slice A0_1 l0_1.length c0_1]] ?_;(with_reducible refine (impl_Game_votes.calls k a0_0 _ _ l0_1 t19 t20 _ ?side1 ?side2 A4.out).mono ?_);(case side1=>exact qcs HR0_1.out HB.out);(case side2=>exact HC0_1.out);rintro e w10 ⟨v21,rfl,ho0,hb⟩;refine ⟨_,rfl,?_⟩;have HO22:=aM (Kd.R_lower ho0 (below_size bw));replace BK17:=aM (bB BK17.out hb);replace HB:=aM (below_step bw hb);(try clear hb);(try clear ho0);obtain ⟨Ao11,co11,eo11⟩:=Kd.R_slice HO22.out;subst eo11)|((with_reducible refine gate_callee (f:=43) rfl ?_);refine gL 9 Tryz.func43 #[.agg #[.int .i64 t19,.slice Ao11 t20.length co11]] ?_;(with_reducible refine (impl_votes_idle.calls k t19 _ _ t20 t23 _ ?side1 ?side2 A5.out).mono ?_);(case side1=>exact qc (Kd.R_reads' HO22.out).2.2);(case side2=>exact (Kd.R_reads' HO22.out).2.1);rintro e w12 ⟨v24,rfl,ho0,hb⟩;refine ⟨_,rfl,?_⟩;replace HO22:=aM (Kd.R_below (qra HO22.out) hb);have HO25:=aM (Kd.R_lower ho0 (below_size bw));replace BK17:=aM (bB BK17.out hb);replace HB:=aM (below_step bw hb);(try clear hb);(try clear ho0)))
  go_ret2
  exact ⟨_,eE,by (with_reducible repeat (first|apply Kd.R_alloc|apply Kd.R_drewN|apply Kd.R_drew));exact HO25.out,by exact bw⟩
 ·replace c3:=Bool.eq_false_iff.mpr c3;subst c3;rw [if_neg (show ¬ (false = true) by decide)] at H;simp only [Option.some.injEq,Prod.mk.injEq] at H;obtain ⟨rfl,rfl⟩:=H;go_enter Tryz.func15,Tryz.ntmps15;go_wp2_with (first|((with_reducible refine gate_dst (N:=1) rfl ?_);refine bE 1 #[.int .i64 a0_0,.slice A0_1 l0_1.length c0_1] 28 ?_;intro gb17 hg w13 hbox hb;have BK17:=aM (hbox);have GW17:=aM (gS hg);have GE17:=aM (gS hg);replace HB:=aM (below_step bw hb);clear hb hbox hg;have hcz14_0:=cz BK17.out 0;have hcz14_1:=cz BK17.out 1;have hfz14_0:=blk_frozen BK17.out 0;have hfz14_1:=blk_frozen BK17.out 1)|((with_reducible refine gate_callee (f:=16) rfl ?_);refine gL 5 Tryz.func16 #[.agg #[.int .i64 a0_0,.slice A0_1 l0_1.length c0_1]] ?_;(with_reducible refine (impl_IsGame.calls k a0_0 _ _ l0_1 false _ ?side1 ?side2 A2.out).mono ?_);(case side1=>exact qcs HR0_1.out HB.out);(case side2=>exact HC0_1.out);rintro e w15 ⟨rfl,hb⟩;refine ⟨_,rfl,?_⟩;replace BK17:=aM (bB BK17.out hb);replace HB:=aM (below_step bw hb);(try clear hb)))
  go_ret2
  exact ⟨_,eE,by first|exact Kd.R_nil _ _ _ _ _|exact Kd.N_nil _ _ _ _ _|exact Kd.V_nil _ _ _ _ _|exact Kd.Q_nil _ _ _ _ _|exact Kd.S_nil _ _ _ _ _,by exact bw⟩


/-! ### impl_DummiesOf: function 19 -/
def impl_DummiesOf.f (k:Nat) (a0_0:Int) (l0_1:List Int):Option (List Int × Bool):=(impl_IsCommittee.f k a0_0 l0_1).bind fun t2=>(if t2 = true then ((impl_Committee_votes.f k a0_0 l0_1).bind fun bt3=>((impl_votes_idle.f k bt3.1 bt3.2).bind fun t4=>(some (t4,true)))) else (some (([]:List Int),false)))
set_option maxHeartbeats 8000000 in
set_option maxRecDepth 100000 in
theorem impl_DummiesOf.calls (k:Nat) (a0_0:Int) (A0_1:Option Addr) (c0_1:Nat) (l0_1:List Int) (r1:List Int) (r2:Bool) (w:World) (hr0_1:Kd.C (Kd.int .i64) w A0_1 l0_1.length l0_1) (hc0_1:l0_1.length ≤ c0_1) (h:impl_DummiesOf.f k a0_0 l0_1 = some (r1,r2)) :
  Calls Tryz.prog 19 #[.agg #[.int .i64 a0_0,.slice A0_1 l0_1.length c0_1]] w fun e w'=>∃ v0_:Value,e = .returned (.tuple #[v0_,.bool r2]) ∧ Kd.R (Kd.int .i64) 3 w' w.heap.size (fun _=>True) v0_ r1 ∧ Below w.heap.size w w':=by
 have hu24:=Tryz.underlying24;have HR0_1:=aM hr0_1;have HC0_1:=aM hc0_1;clear hr0_1 hc0_1;have HB:=aM (Below.refl w.heap.size w);have H:((impl_IsCommittee.f k a0_0 l0_1).bind fun t17=>(if t17 = true then ((impl_Committee_votes.f k a0_0 l0_1).bind fun bt18=>((impl_votes_idle.f k bt18.1 bt18.2).bind fun t23=>(some (t23,true)))) else (some (([]:List Int),false)))) = some (r1,r2):=h;clear h;replace H:=oB H;obtain ⟨t17,A2,H⟩:=H;(try dsimp only at H)
 by_cases c3:t17 = true
 ·subst c3;rw [if_pos rfl] at H;replace H:=oB H;obtain ⟨⟨t18,t20⟩,A4,H⟩:=H;(try dsimp only at H)
  replace H:=oB H;obtain ⟨t23,A5,H⟩:=H;(try dsimp only at H)
  simp only [Option.some.injEq,Prod.mk.injEq] at H;obtain ⟨rfl,rfl⟩:=H;go_enter Tryz.func19,Tryz.ntmps19;go_wp2_with (first|((with_reducible refine gate_dst (N:=1) rfl ?_);refine bE 1 #[.int .i64 a0_0,.slice A0_1 l0_1.length c0_1] 24 ?_;intro gb16 hg w6 hbox hb;have BK16:=aM (hbox);have GW16:=aM (gS hg);have GE16:=aM (gS hg);replace HB:=aM (below_step bw hb);clear hb hbox hg;have hcz7_0:=cz BK16.out 0;have hcz7_1:=cz BK16.out 1;have hfz7_0:=blk_frozen BK16.out 0;have hfz7_1:=blk_frozen BK16.out 1)|((with_reducible refine gate_callee (f:=27) rfl ?_);refine gL 5 Tryz.func27 #[.agg #[.int .i64 a0_0,.slice A0_1 l0_1.length c0_1]] ?_;(with_reducible refine (impl_IsCommittee.calls k a0_0 _ _ l0_1 true _ ?side1 ?side2 A2.out).mono ?_);(case side1=>exact qcs HR0_1.out HB.out);(case side2=>exact HC0_1.out);rintro e w8 ⟨rfl,hb⟩;refine ⟨_,rfl,?_⟩;replace BK16:=aM (bB BK16.out hb);replace HB:=aM (below_step bw hb);(try clear hb);have hcz9_0:=cz BK16.out 0;have hcz9_1:=cz BK16.out 1;have hfz9_0:=blk_frozen BK16.out 0;have hfz9_1:=blk_frozen BK16.out 1)|((with_reducible refine gate_callee (f:=49) rfl ?_);refine gL 8 Tryz.func49 #[.agg #[.int .i64 a0_0,.slice A0_1 l0_1.length c0_1]] ?_;(with_reducible refine (impl_Committee_votes.calls k a0_0 _ _ l0_1 t18 t20 _ ?side1 ?side2 A4.out).mono ?_);(case side1=>exact qcs HR0_1.out HB.out);(case side2=>exact HC0_1.out);rintro e w10 ⟨v21,rfl,ho0,hb⟩;refine ⟨_,rfl,?_⟩;have HO22:=aM (Kd.R_lower ho0 (below_size bw));replace BK16:=aM (bB BK16.out hb);replace HB:=aM (below_step bw hb);(try clear hb);(try clear ho0);obtain ⟨Ao11,co11,eo11⟩:=Kd.R_slice HO22.out;subst eo11)|((with_reducible refine gate_callee (f:=43) rfl ?_);refine gL 9 Tryz.func43 #[.agg #[.int .i64 t18,.slice Ao11 t20.length co11]] ?_;(with_reducible refine (impl_votes_idle.calls k t18 _ _ t20 t23 _ ?side1 ?side2 A5.out).mono ?_);(case side1=>exact qc (Kd.R_reads' HO22.out).2.2);(case side2=>exact (Kd.R_reads' HO22.out).2.1);rintro e w12 ⟨v25,rfl,ho0,hb⟩;refine ⟨_,rfl,?_⟩;replace HO22:=aM (Kd.R_below (qra HO22.out) hb);have HO26:=aM (Kd.R_lower ho0 (below_size bw));replace BK16:=aM (bB BK16.out hb);replace HB:=aM (below_step bw hb);(try clear hb);(try clear ho0)))
  go_ret2
  exact ⟨_,eE,by (with_reducible repeat (first|apply Kd.R_alloc|apply Kd.R_drewN|apply Kd.R_drew));exact HO26.out,by exact bw⟩
 ·replace c3:=Bool.eq_false_iff.mpr c3;subst c3;rw [if_neg (show ¬ (false = true) by decide)] at H;simp only [Option.some.injEq,Prod.mk.injEq] at H;obtain ⟨rfl,rfl⟩:=H;go_enter Tryz.func19,Tryz.ntmps19;go_wp2_with (first|((with_reducible refine gate_dst (N:=1) rfl ?_);refine bE 1 #[.int .i64 a0_0,.slice A0_1 l0_1.length c0_1] 24 ?_;intro gb16 hg w13 hbox hb;have BK16:=aM (hbox);have GW16:=aM (gS hg);have GE16:=aM (gS hg);replace HB:=aM (below_step bw hb);clear hb hbox hg;have hcz14_0:=cz BK16.out 0;have hcz14_1:=cz BK16.out 1;have hfz14_0:=blk_frozen BK16.out 0;have hfz14_1:=blk_frozen BK16.out 1)|((with_reducible refine gate_callee (f:=27) rfl ?_);refine gL 5 Tryz.func27 #[.agg #[.int .i64 a0_0,.slice A0_1 l0_1.length c0_1]] ?_;(with_reducible refine (impl_IsCommittee.calls k a0_0 _ _ l0_1 false _ ?side1 ?side2 A2.out).mono ?_);(case side1=>exact qcs HR0_1.out HB.out);(case side2=>exact HC0_1.out);rintro e w15 ⟨rfl,hb⟩;refine ⟨_,rfl,?_⟩;replace BK16:=aM (bB BK16.out hb);replace HB:=aM (below_step bw hb);(try clear hb)))
  go_ret2
  exact ⟨_,eE,by first|exact Kd.R_nil _ _ _ _ _|exact Kd.N_nil _ _ _ _ _|exact Kd.V_nil _ _ _ _ _|exact Kd.Q_nil _ _ _ _ _|exact Kd.S_nil _ _ _ _ _,by exact bw⟩


/-! ### impl_GameOf: function 28 -/
def impl_GameOf.f (k:Nat) (a0_0:Int) (l0_1:List Int):Option (Int × (List (List Int)) × Bool):=(impl_IsCommittee.f k a0_0 l0_1).bind fun t2=>(if t2 = true then ((impl_Committee_votes.f k a0_0 l0_1).bind fun bt3=>((impl_votes_game.f k bt3.1 bt3.2).bind fun bt4=>(some (bt4.1,bt4.2,true)))) else (some (0,([]:List (List Int)),false)))
set_option maxHeartbeats 8000000 in
set_option maxRecDepth 100000 in
theorem impl_GameOf.calls (k:Nat) (a0_0:Int) (A0_1:Option Addr) (c0_1:Nat) (l0_1:List Int) (r1:Int) (r2:List (List Int)) (r3:Bool) (w:World) (hr0_1:Kd.C (Kd.int .i64) w A0_1 l0_1.length l0_1) (hc0_1:l0_1.length ≤ c0_1) (h:impl_GameOf.f k a0_0 l0_1 = some (r1,r2,r3)) :
  Calls Tryz.prog 28 #[.agg #[.int .i64 a0_0,.slice A0_1 l0_1.length c0_1]] w fun e w'=>∃ v1_:Value,e = .returned (.tuple #[.agg #[.int .i64 r1,v1_],.bool r3]) ∧ Kd.S (Kd.slice 3 (Kd.int .i64)) 22 w' w.heap.size (fun _=>True) v1_ r2 ∧ Below w.heap.size w w':=by
 have hu24:=Tryz.underlying24;have hu28:=Tryz.underlying28;have HR0_1:=aM hr0_1;have HC0_1:=aM hc0_1;clear hr0_1 hc0_1;have HB:=aM (Below.refl w.heap.size w);have H:((impl_IsCommittee.f k a0_0 l0_1).bind fun t26=>(if t26 = true then ((impl_Committee_votes.f k a0_0 l0_1).bind fun bt29=>((impl_votes_game.f k bt29.1 bt29.2).bind fun bt34=>(some (bt34.1,bt34.2,true)))) else (some (0,([]:List (List Int)),false)))) = some (r1,r2,r3):=h;clear h;replace H:=oB H;obtain ⟨t26,A2,H⟩:=H;(try dsimp only at H)
 by_cases c3:t26 = true
 ·subst c3;rw [if_pos rfl] at H;replace H:=oB H;obtain ⟨⟨t29,t31⟩,A4,H⟩:=H;(try dsimp only at H)
  replace H:=oB H;obtain ⟨⟨t34,t35⟩,A5,H⟩:=H;(try dsimp only at H)
  simp only [Option.some.injEq,Prod.mk.injEq] at H;obtain ⟨rfl,rfl,rfl⟩:=H;go_enter Tryz.func28,Tryz.ntmps28;go_wp2_with (first|((with_reducible refine gate_dst (N:=1) rfl ?_);refine bE 1 #[.int .i64 a0_0,.slice A0_1 l0_1.length c0_1] 24 ?_;intro gb23 hg w6 hbox hb;have BK23:=aM (hbox);have GW23:=aM (gS hg);have GE23:=aM (gS hg);replace HB:=aM (below_step bw hb);clear hb hbox hg)|((with_reducible refine gate_dst (N:=2) rfl ?_);refine bE 2 #[.int .i64 0,.slice none 0 0] 28 ?_;intro gb25 hg w7 hbox hb;have BK25:=aM (hbox);have GW25:=aM (gS hg);have GE25:=aM (gS hg);replace HB:=aM (below_step bw hb);have NB23_25:=aM (nL BK23.out hg);have NB25_23:=aM (nR BK23.out hg);replace BK23:=aM (bB BK23.out hb);clear hb hbox hg;have hnb8:=NB23_25.out;have hnc8:=NB25_23.out;have hcz9_0:=cz BK23.out 0;have hcz9_1:=cz BK23.out 1;have hfz9_0:=blk_frozen BK23.out 0;have hfz9_1:=blk_frozen BK23.out 1)|((with_reducible refine gate_callee (f:=27) rfl ?_);refine gL 5 Tryz.func27 #[.agg #[.int .i64 a0_0,.slice A0_1 l0_1.length c0_1]] ?_;(with_reducible refine (impl_IsCommittee.calls k a0_0 _ _ l0_1 true _ ?side1 ?side2 A2.out).mono ?_);(case side1=>exact qcs HR0_1.out HB.out);(case side2=>exact HC0_1.out);rintro e w10 ⟨rfl,hb⟩;refine ⟨_,rfl,?_⟩;replace BK23:=aM (bB BK23.out hb);replace BK25:=aM (bB BK25.out hb);replace HB:=aM (below_step bw hb);(try clear hb);have hcz11_0:=cz BK23.out 0;have hcz11_1:=cz BK23.out 1;have hfz11_0:=blk_frozen BK23.out 0;have hfz11_1:=blk_frozen BK23.out 1)|((with_reducible refine gate_callee (f:=49) rfl ?_);refine gL 9 Tryz.func49 #[.agg #[.int .i64 a0_0,.slice A0_1 l0_1.length c0_1]] ?_;(with_reducible refine (impl_Committee_votes.calls k a0_0 _ _ l0_1 t29 t31 _ ?side1 ?side2 A4.out).mono ?_);(case side1=>exact qcs HR0_1.out HB.out);(case side2=>exact HC0_1.out);rintro e w12 ⟨v32,rfl,ho0,hb⟩;refine ⟨_,rfl,?_⟩;have HO33:=aM (Kd.R_lower ho0 (below_size bw));replace BK23:=aM (bB BK23.out hb);replace BK25:=aM (bB BK25.out hb);replace HB:=aM (below_step bw hb);(try clear hb);(try clear ho0);obtain ⟨Ao13,co13,eo13⟩:=Kd.R_slice HO33.out;subst eo13)|((with_reducible refine gate_callee (f:=30) rfl ?_);refine gL 10 Tryz.func30 #[.agg #[.int .i64 t29,.slice Ao13 t31.length co13]] ?_;(with_reducible refine (impl_votes_game.calls k t29 _ _ t31 t34 t35 _ ?side1 ?side2 A5.out).mono ?_);(case side1=>exact qc (Kd.R_reads' HO33.out).2.2);(case side2=>exact (Kd.R_reads' HO33.out).2.1);rintro e w14 ⟨v36,rfl,ho0,hb⟩;refine ⟨_,rfl,?_⟩;replace HO33:=aM (Kd.R_below (qra HO33.out) hb);have HO37:=aM (Kd.S_lower ho0 (below_size bw));replace BK23:=aM (bB BK23.out hb);replace BK25:=aM (bB BK25.out hb);replace HB:=aM (below_step bw hb);(try clear hb);(try clear ho0);have hcz15_0:=cz BK25.out 0;have hcz15_1:=cz BK25.out 1;have hfz15_0:=blk_frozen BK25.out 0;have hfz15_1:=blk_frozen BK25.out 1;obtain ⟨Ao16,co16,eo16⟩:=Kd.S_slice HO37.out;subst eo16))
  refine bodyPost_ret (results_ct rfl _ _ gb25 28 #[.int .i64 t34,.slice Ao16 t35.length co16] (0,0) _ rfl (by (with_reducible repeat (first|refine blk_drewN ?_ _|refine blk_drew ?_|refine blk_alloc ?_ _));refine blk_put (cs:=#[.int .i64 t34,.slice none 0 0]) ?_ 1 _ rfl;(with_reducible repeat (first|refine blk_drewN ?_ _|refine blk_drew ?_|refine blk_alloc ?_ _));refine blk_put (cs:=#[.int .i64 0,.slice none 0 0]) ?_ 0 _ rfl;(with_reducible repeat (first|refine blk_drewN ?_ _|refine blk_drew ?_|refine blk_alloc ?_ _));exact BK25.out) Tryz.underlying28 rfl kR) rfl ?_;exact ⟨_,eE,by (with_reducible repeat (first|apply Kd.S_alloc|apply Kd.S_drewN|apply Kd.S_drew));exact Kd.S_mono (Kd.S_far (p:=⟨gb25,1,none⟩) (Kd.S_far (p:=⟨gb25,0,none⟩) (Kd.S_types HO37.out BK25.out (by decide)) (fun _ hk=>hk.2) (.int .i64 t34)) (fun _ hk=>hk.2) (.slice Ao16 t35.length co16)) (fun _ hk=>trivial),by exact bw⟩
 ·replace c3:=Bool.eq_false_iff.mpr c3;subst c3;rw [if_neg (show ¬ (false = true) by decide)] at H;simp only [Option.some.injEq,Prod.mk.injEq] at H;obtain ⟨rfl,rfl,rfl⟩:=H;go_enter Tryz.func28,Tryz.ntmps28;go_wp2_with (first|((with_reducible refine gate_dst (N:=1) rfl ?_);refine bE 1 #[.int .i64 a0_0,.slice A0_1 l0_1.length c0_1] 24 ?_;intro gb23 hg w17 hbox hb;have BK23:=aM (hbox);have GW23:=aM (gS hg);have GE23:=aM (gS hg);replace HB:=aM (below_step bw hb);clear hb hbox hg)|((with_reducible refine gate_dst (N:=2) rfl ?_);refine bE 2 #[.int .i64 0,.slice none 0 0] 28 ?_;intro gb25 hg w18 hbox hb;have BK25:=aM (hbox);have GW25:=aM (gS hg);have GE25:=aM (gS hg);replace HB:=aM (below_step bw hb);have NB23_25:=aM (nL BK23.out hg);have NB25_23:=aM (nR BK23.out hg);replace BK23:=aM (bB BK23.out hb);clear hb hbox hg;have hnb19:=NB23_25.out;have hnc19:=NB25_23.out;have hcz20_0:=cz BK23.out 0;have hcz20_1:=cz BK23.out 1;have hfz20_0:=blk_frozen BK23.out 0;have hfz20_1:=blk_frozen BK23.out 1)|((with_reducible refine gate_callee (f:=27) rfl ?_);refine gL 5 Tryz.func27 #[.agg #[.int .i64 a0_0,.slice A0_1 l0_1.length c0_1]] ?_;(with_reducible refine (impl_IsCommittee.calls k a0_0 _ _ l0_1 false _ ?side1 ?side2 A2.out).mono ?_);(case side1=>exact qcs HR0_1.out HB.out);(case side2=>exact HC0_1.out);rintro e w21 ⟨rfl,hb⟩;refine ⟨_,rfl,?_⟩;replace BK23:=aM (bB BK23.out hb);replace BK25:=aM (bB BK25.out hb);replace HB:=aM (below_step bw hb);(try clear hb);(try clear hk);have hcz22_0:=cz BK25.out 0;have hcz22_1:=cz BK25.out 1;have hfz22_0:=blk_frozen BK25.out 0;have hfz22_1:=blk_frozen BK25.out 1))
  refine bodyPost_ret (results_ct rfl _ _ gb25 28 #[.int .i64 0,.slice none 0 0] (0,0) _ rfl (by (with_reducible repeat (first|refine blk_drewN ?_ _|refine blk_drew ?_|refine blk_alloc ?_ _));refine blk_put (cs:=#[.int .i64 0,.slice none 0 0]) ?_ 1 _ rfl;(with_reducible repeat (first|refine blk_drewN ?_ _|refine blk_drew ?_|refine blk_alloc ?_ _));refine blk_put (cs:=#[.int .i64 0,.slice none 0 0]) ?_ 0 _ rfl;(with_reducible repeat (first|refine blk_drewN ?_ _|refine blk_drew ?_|refine blk_alloc ?_ _));exact BK25.out) Tryz.underlying28 rfl kR) rfl ?_;exact ⟨_,eE,by first|exact Kd.S_nil _ _ _ _ _|exact Kd.N_nil _ _ _ _ _|exact Kd.V_nil _ _ _ _ _|exact Kd.Q_nil _ _ _ _ _|exact Kd.R_nil _ _ _ _ _,by exact bw⟩

end Go.Proofs.YtidkafljeldokaaGreat.P
