/- Part 5 of the texts below the law FnExactHasWeights. Printed by this session's driver over the kit's printer, but for the hand contracts and the plain laws. -/
import Derived.Shelf.SlSortCmp.NoneTotal
import Derived.Test.YtokelcedamegbaaCHasWeights1
import Derived.Test.YtokelcedamegbaaCHasWeights2
import Derived.Test.YtokelcedamegbaaCHasWeights3
import Derived.Test.YtokelcedamegbaaCHasWeights4
set_option linter.unusedVariables false
set_option linter.unusedSimpArgs false
namespace Go.Proofs.Ytokelcedamegbaa.P
open Go.RowKit Go.Proofs.YtokelcedamegbaaW.PrintWords Go.Proofs.YtokelcedamegbaaW.PrintLast Go.Proofs.YtokelcedamegbaaW.PrintMore
attribute [local go_sem] max2_int min2_int max_two min_two max_three min_three max_four min_four   -- for this text's walks alone
set_option linter.unusedVariables false
set_option linter.unusedSimpArgs false

/-! ### slices_SortFunc_LLint_Lint: function 165 -/
-- OWN 0 0
-- IMPORT Lexc
-- KIT Derived.Shelf.SlSortCmp.NoneTotal
open Go.Shelf in
def slices_SortFunc_LLint_Lint.ren : Ren := ⟨fun x => match x with
| 6 => 165 | 14 => 181 | 15 => 160 | 20 => 188 | 21 => 189 | 22 => 190 | 23 => 191 | 24 => 192 | 25 => 193 | 26 => 194 | 27 => 195 | 28 => 179 | 29 => 180 | 46 => 197 | 47 => 184 | 48 => 185 | 49 => 198 | 50 => 199 | 57 => 200 | _ => 0, fun x => match x with
| 0 => 0 | 3 => 3 | 4 => 4 | 5 => 5 | 9 => 9 | 22 => 22 | 24 => 40 | 25 => 124 | 39 => 114 | 45 => 150 | 46 => 151 | 50 => 35 | 53 => 133 | 55 => 135 | 66 => 157 | 70 => 161 | 76 => 168 | 77 => 169 | _ => 0, fun x => x⟩
theorem slices_SortFunc_LLint_Lint.lay : SlLaysF.n6 Try.prog slices_SortFunc_LLint_Lint.ren := ⟨
  by kernel_rfl,
  ⟨"slices.SortFunc[[][]int,[]int]", by decide, by kernel_rfl⟩,
  ⟨"slices.pdqsortCmpFunc[[]int]", by decide, by kernel_rfl⟩,
  by kernel_rfl,
  ⟨"slices.insertionSortCmpFunc[[]int]", by decide, by kernel_rfl⟩,
  ⟨"slices.heapSortCmpFunc[[]int]", by decide, by kernel_rfl⟩,
  ⟨"slices.breakPatternsCmpFunc[[]int]", by decide, by kernel_rfl⟩,
  ⟨"slices.choosePivotCmpFunc[[]int]", by decide, by kernel_rfl⟩,
  ⟨"slices.reverseRangeCmpFunc[[]int]", by decide, by kernel_rfl⟩,
  ⟨"slices.partialInsertionSortCmpFunc[[]int]", by decide, by kernel_rfl⟩,
  ⟨"slices.partitionEqualCmpFunc[[]int]", by decide, by kernel_rfl⟩,
  ⟨"slices.partitionCmpFunc[[]int]", by decide, by kernel_rfl⟩,
  by kernel_rfl,
  by kernel_rfl,
  ⟨"slices.siftDownCmpFunc[[]int]", by decide, by kernel_rfl⟩,
  by kernel_rfl,
  by kernel_rfl,
  ⟨"slices.medianAdjacentCmpFunc[[]int]", by decide, by kernel_rfl⟩,
  ⟨"slices.medianCmpFunc[[]int]", by decide, by kernel_rfl⟩,
  ⟨"slices.order2CmpFunc[[]int]", by decide, by kernel_rfl⟩,
  by kernel_rfl,
  fun w => by kernel_rfl,
  fun w => by kernel_rfl,
  fun w => by kernel_rfl,
  by kernel_rfl,
  fun w => by kernel_rfl,
  fun w => by kernel_rfl,
  fun w => by kernel_rfl,
  by kernel_rfl,
  fun w => by kernel_rfl,
  fun w => by kernel_rfl,
  fun w => by kernel_rfl,
  by kernel_rfl,
  fun w => by kernel_rfl,
  fun w => by kernel_rfl,
  fun w => by kernel_rfl,
  by kernel_rfl,
  fun w => by kernel_rfl,
  fun w => by kernel_rfl,
  fun w => by kernel_rfl,
  by kernel_rfl,
  fun w => by kernel_rfl,
  fun w => by kernel_rfl,
  fun w => by kernel_rfl,
  fun w => by kernel_rfl,
  fun w => by kernel_rfl,
  by kernel_rfl,
  fun w => by kernel_rfl,
  fun w => by kernel_rfl,
  fun w => by kernel_rfl,
  by kernel_rfl,
  fun w => by kernel_rfl,
  fun w => by kernel_rfl,
  fun w => by kernel_rfl,
  by kernel_rfl,
  fun w => by kernel_rfl,
  fun w => by kernel_rfl,
  fun w => by kernel_rfl,
  by kernel_rfl,
  fun w => by kernel_rfl,
  fun w => by kernel_rfl,
  fun w => by kernel_rfl,
  by kernel_rfl,
  fun w => by kernel_rfl,
  fun w => by kernel_rfl,
  fun w => by kernel_rfl,
  by kernel_rfl,
  fun w => by kernel_rfl,
  fun w => by kernel_rfl,
  fun w => by kernel_rfl,
  by kernel_rfl,
  fun w => by kernel_rfl,
  fun w => by kernel_rfl,
  fun w => by kernel_rfl,
  by kernel_rfl,
  fun w => by kernel_rfl,
  fun w => by kernel_rfl,
  fun w => by kernel_rfl,
  by kernel_rfl,
  fun w => by kernel_rfl,
  fun w => by kernel_rfl,
  fun w => by kernel_rfl,
  by kernel_rfl,
  fun w => by kernel_rfl,
  fun w => by kernel_rfl,
  fun w => by kernel_rfl,
  by kernel_rfl,
  fun w => by kernel_rfl,
  fun w => by kernel_rfl,
  fun w => by kernel_rfl⟩
/-- Under a function that is the lists' own order: the lists in order. -/
def slices_SortFunc_LLint_Lint.f (k : Nat) (l0 : List (List Int)) (a1 : (List Int → List Int → Option (Int))) : Option (List (List Int)) := if l0.length ≤ 1000000 ∧ ∀ x ∈ l0, ∀ y ∈ l0, a1 x y = some (lexc x y) then some (sorted l0) else none
theorem slices_SortFunc_LLint_Lint.mono : ∀ a0 a1 k, LeO (slices_SortFunc_LLint_Lint.f k a0 a1) (slices_SortFunc_LLint_Lint.f (k + 1) a0 a1) := fun _ _ _ => LeO.refl _
theorem slices_SortFunc_LLint_Lint.mono_p {p_ q_ : (List Int → List Int → Option (Int))} (h_ : ∀ x0_ x1_, LeO (p_ x0_ x1_) (q_ x0_ x1_)) : ∀ a0 k, LeO (slices_SortFunc_LLint_Lint.f k a0 p_) (slices_SortFunc_LLint_Lint.f k a0 q_) := by
  intro a0 k r hr
  unfold slices_SortFunc_LLint_Lint.f at hr ⊢
  split at hr
  · rename_i hc
    rw [if_pos ⟨hc.1, fun x hx y hy => h_ x y _ (hc.2 x hx y hy)⟩]
    exact hr
  · exact absurd hr (by simp)
open Go.Sort in
/-- What a sort of such a row leaves at its block, and elsewhere. -/
theorem slices_SortFunc_LLint_Lint.heap {α : Type} [Inhabited α] (enc : α → Value) (w : World) (g m : Nat) (d : Array α) (os : Array Obj) (cur : Array Value) (e : Nat) (hg : w.heap[g]? = some (.cells cur e (0, 0))) :
    (sortWorld enc w g 0 m d os).heap[g]? = some (.cells (putCells enc 0 d cur) e (0, 0)) ∧ (∀ k, k < w.heap.size → k ≠ g → (sortWorld enc w g 0 m d os).heap[k]? = w.heap[k]?) ∧ w.heap.size ≤ (sortWorld enc w g 0 m d os).heap.size := by
  have hlt : g < w.heap.size := blk_lt hg
  have e1 : ∀ k, k < w.heap.size → (sortWorld enc w g 0 m d os).heap[k]? = (w.heap.modify g (onCells (putCells enc 0 d)))[k]? := fun k hk => by
    show ((w.heap.modify g (onCells (putCells enc 0 d))) ++ os)[k]? = _
    rw [Array.getElem?_append_left (by rw [Array.size_modify]; exact hk)]
  refine ⟨?_, fun k hk hne => ?_, ?_⟩
  · rw [e1 g hlt, Array.getElem?_modify, if_pos rfl, hg]
    rfl
  · rw [e1 k hk, Array.getElem?_modify, if_neg (fun z => hne z.symm)]
  · show w.heap.size ≤ ((w.heap.modify g (onCells (putCells enc 0 d))) ++ os).size
    rw [Array.size_append, Array.size_modify]
    omega
open Go.Sort in
theorem slices_SortFunc_LLint_Lint.cells {α : Type} [Inhabited α] (enc : α → Value) (d : Array α) (cur : Array Value) (h : d.size ≤ cur.size) : (putCells enc 0 d cur).toList.take d.size = d.toList.map enc := by
  apply List.ext_getElem?
  intro j
  by_cases hj : j < d.size
  · rw [List.getElem?_take_of_lt hj, Array.getElem?_toList, List.getElem?_map, Array.getElem?_toList]
    unfold putCells
    rw [Array.getElem?_mapIdx, Array.getElem?_eq_getElem (by omega), Array.getElem?_eq_getElem hj, Option.map_some, Option.map_some, if_pos ⟨Nat.zero_le _, by omega⟩, Nat.sub_zero, getElem!_pos d j hj]
  · rw [List.getElem?_eq_none (by rw [List.length_take]; omega), List.getElem?_eq_none (by rw [List.length_map, Array.length_toList]; omega)]
set_option maxHeartbeats 2000000 in
theorem slices_SortFunc_LLint_Lint.calls (k : Nat) (P0_ : Nat → Prop) (u9000_ : Value) (l0 : List (List Int)) (a1 : (List Int → List Int → Option (Int))) (g1_ : Nat) (lb1_ : Array Value) (eg1_ : ∀ (args : Array Value) (w : World), (callFunc g1_ args).run Try.prog w = .ok (.enter g1_ args) w) (r : List (List Int)) (w0 w : World) (hB : Below w0.heap.size w0 w) (ho0 : Kd.S (Kd.slice 3 (Kd.int .i64)) 40 w w0.heap.size P0_ u9000_ l0) (hp1 : ∀ (W : World) (A0_ : Option Addr) (c0_ : Nat) (l0_ : List Int) (A1_ : Option Addr) (c1_ : Nat) (l1_ : List Int) (r0_ : Int), a1 l0_ l1_ = some r0_ → Kept w W (fun k_ => P0_ k_) → Kd.C (Kd.int .i64) W A0_ l0_.length l0_ → l0_.length ≤ c0_ → Kd.C (Kd.int .i64) W A1_ l1_.length l1_ → l1_.length ≤ c1_ → Calls Try.prog g1_ (#[.slice A0_ l0_.length c0_, .slice A1_ l1_.length c1_] ++ lb1_) W fun e w' => e = .returned (.int .i64 r0_) ∧ Drawn0 W w') (h : slices_SortFunc_LLint_Lint.f k l0 a1 = some r) :
    Calls Try.prog 165 #[u9000_, .func (.func g1_) #[] lb1_] w fun e w' => e = .returned (.tuple #[]) ∧ Kd.S (Kd.slice 3 (Kd.int .i64)) 40 w' w0.heap.size (fun k_ => P0_ k_) u9000_ r ∧ Below w0.heap.size w0 w' ∧ Kept w w' (fun k_ => P0_ k_) := by
  unfold slices_SortFunc_LLint_Lint.f at h
  split at h
  case isFalse => exact absurd h (by simp)
  rename_i hc
  obtain ⟨hlen, hcmp⟩ := hc
  obtain rfl := Option.some.inj h
  clear h
  obtain ⟨f, h0, inner, ho, hr⟩ := ho0
  rw [List.length_zipIdx] at ho
  rcases Nat.eq_zero_or_pos l0.length with hn | hn
  · obtain rfl := List.eq_nil_of_length_eq_zero hn
    obtain ⟨A, c, rfl⟩ : ∃ A c, u9000_ = .slice A 0 c := by
      rcases ho.2 with ⟨hv, _⟩ | ⟨g, cap, cur, hv, _⟩
      · exact ⟨_, _, hv⟩
      · exact ⟨_, _, hv⟩
    refine (AnyF.slices_SortFunc_none { slices_SortFunc_LLint_Lint.lay with } A c (.func (.func g1_) #[] lb1_) w).mono ?_
    rintro e w' ⟨rfl, rfl⟩
    have e : sorted ([] : List (List Int)) = [] := by simp [sorted]
    rw [e]
    exact ⟨rfl, ⟨f, h0, inner, ho, hr⟩, hB, Kept.refl _ _⟩
  · obtain ⟨hil, hv⟩ := ho
    have hil : inner.length = l0.length := by have h1 : inner.length = l0.length * 1 := hil; omega
    obtain ⟨g, cap, cur, rfl, hbase, hg, hcap, hmax, hcs, htk⟩ : ∃ g cap cur, u9000_ = .slice (some ⟨g, 0, none⟩) l0.length cap ∧ w0.heap.size ≤ g ∧ w.heap[g]? = some (.cells cur 40 (0, 0)) ∧ l0.length ≤ cap ∧ cap ≤ maxLen ∧ cur.size = cap * 1 ∧ cur.toList.take (l0.length * 1) = inner := by
      rcases hv with ⟨_, hz⟩ | hv
      · omega
      · exact hv
    have hPg : P0_ g := h0 g rfl
    have hglt : g < w.heap.size := blk_lt hg
    rw [Nat.mul_one] at htk hcs
    have hcell : ∀ i (hi : i < l0.length), inner[i]'(by omega) = cur[i]'(by omega) := fun i hi => by
      have : inner[i]? = cur.toList[i]? := by rw [← htk, List.getElem?_take_of_lt hi]
      rw [List.getElem?_eq_getElem (by omega), List.getElem?_eq_getElem (by rw [Array.length_toList]; omega)] at this
      exact Option.some.inj this
    have hM : ∀ (i : Nat) (hi : i < l0.length), ∃ v', inner[i]'(by omega) = v' ∧ Kd.R (Kd.int .i64) 3 w w0.heap.size (fun k => ((P0_ k ∧ some k ≠ some g) ∧ f k = i)) v' l0[i] := fun i hi => by
      have h1 := hr.2 i (l0[i], i) (Kd.zip_at (List.getElem?_eq_getElem hi))
      have h2 : (inner.drop (i * 1)).take 1 = [inner[i]'(by omega)] := by rw [Nat.mul_one, List.drop_eq_getElem_cons (by omega), List.take_succ_cons, List.take_zero]
      obtain ⟨v', hv', hR⟩ := (show ∃ v', (inner.drop (i * 1)).take 1 = [v'] ∧ Kd.R (Kd.int .i64) 3 w w0.heap.size (fun k => ((P0_ k ∧ some k ≠ some g) ∧ f k = i)) v' l0[i] from h1)
      rw [h2] at hv'
      injection hv' with hv' _
      exact ⟨v', hv', hR⟩
    haveI : Inhabited (Fin l0.length) := ⟨⟨0, hn⟩⟩
    let enc : Fin l0.length → Value := fun i => inner[i.1]'(by omega)
    have henc : ∀ i, enc i = inner[i.1]'(by omega) := fun _ => rfl
    have hlt : ∀ (i j : Fin l0.length), ltOf (fun (i j : Fin l0.length) => lexc l0[i.1] l0[j.1]) i j = decide (lexc l0[i.1] l0[j.1] < 0) := fun _ _ => rfl
    have hO : Go.Sort.SWO (ltOf (fun (i j : Fin l0.length) => lexc l0[i.1] l0[j.1])) := by
      refine ⟨fun x => ?_, fun x y z h1 h2 => ?_, fun x y z h1 h2 => ?_⟩
      · rw [hlt, lexc_refl]; rfl
      · rw [hlt] at h1 h2 ⊢
        have h1 := of_decide_eq_true h1
        have h2 := of_decide_eq_true h2
        have h3 := lexc_trans (a := l0[x.1]) (b := l0[y.1]) (c := l0[z.1]) (by omega) (by omega)
        refine decide_eq_true ?_
        rcases Int.lt_or_eq_of_le h3 with h4 | h4
        · exact h4
        · have e := lexc_zero h4
          have s := lexc_swap l0[x.1] l0[y.1]
          rw [e] at s h1
          omega
      · rw [hlt] at h1 h2 ⊢
        have h1 := of_decide_eq_false h1
        have h2 := of_decide_eq_false h2
        have s1 := lexc_swap l0[x.1] l0[y.1]
        have s2 := lexc_swap l0[y.1] l0[z.1]
        have s3 := lexc_swap l0[x.1] l0[z.1]
        have h3 := lexc_trans (a := l0[z.1]) (b := l0[y.1]) (c := l0[x.1]) (by omega) (by omega)
        exact decide_eq_false (by omega)
    have hd : (List.finRange l0.length).toArray.size = l0.length := by rw [List.size_toArray, List.length_finRange]
    have hdg : ∀ j, j < l0.length → ((List.finRange l0.length).toArray[j]!).1 = j := fun j hj => by
      rw [getElem!_pos _ j (by rw [hd]; exact hj)]
      simp
    have hone : OneCell enc := fun i => by
      obtain ⟨v', e, hR⟩ := hM i.1 i.2
      rw [henc, e]
      exact (Kd.R_val hR).2
    have lays := Any.slices_SortFunc slices_SortFunc_LLint_Lint.lay enc hone (fun i j => lexc l0[i.1] l0[j.1]) hO g1_ lb1_ g 0 cap (List.finRange l0.length).toArray w eg1_
      (by
        intro m os dk hs x y
        obtain ⟨hh1, hh2, hh3⟩ := slices_SortFunc_LLint_Lint.heap enc w g m dk os cur 40 hg
        have rd : ∀ i : Fin l0.length, ∃ A c, enc i = .slice A l0[i.1].length c ∧ l0[i.1].length ≤ c ∧ Kd.C (Kd.int .i64) (sortWorld enc w g 0 m dk os) A l0[i.1].length l0[i.1] := fun i => by
          obtain ⟨v', e, hR⟩ := hM i.1 i.2
          have hR2 := Kd.R_step (w1 := sortWorld enc w g 0 m dk os) hR (fun k hk hkl => hh2 k hkl (fun z => hk.1.2 (congrArg some z)))
          obtain ⟨A, c, hv, hl, hC⟩ := Kd.R_reads hR2
          exact ⟨A, c, by rw [henc, e, hv], hl, hC⟩
        obtain ⟨A0, c0, ex, hl0, hC0⟩ := rd x
        obtain ⟨A1, c1, ey, hl1, hC1⟩ := rd y
        rw [ex, ey]
        refine (hp1 (sortWorld enc w g 0 m dk os) A0 c0 l0[x.1] A1 c1 l0[y.1] _ (hcmp _ (List.getElem_mem _) _ (List.getElem_mem _)) ⟨hh3, fun k hk hne => hh2 k hk (fun z => hne (z ▸ hPg))⟩ hC0 hl0 hC1 hl1).mono ?_
        rintro e w' ⟨rfl, ⟨⟨q, hq⟩⟩⟩
        exact ⟨rfl, q, #[], by rw [hq, Go.Sort.grow_empty]⟩)
      (by
        intro j hj
        rw [hd] at hj
        refine ⟨?_, ?_⟩
        · rw [Nat.zero_add]
          have e1 : enc ((List.finRange l0.length).toArray[j]!) = cur[j]'(by omega) := by
            rw [henc, ← hcell j hj]
            congr 1
            exact hdg j hj
          rw [e1]
          have := blk_cell hg j
          rw [this, Array.getElem?_eq_getElem (by omega)]
        · exact blk_frozen hg _)
      hglt (by rw [hd]; omega)
    rw [hd] at lays
    refine lays.mono ?_
    rintro e w' ⟨rfl, d', m, os, hp, hs, rfl⟩
    obtain ⟨hps, _, hpp⟩ := hp
    rw [hd] at hps
    obtain ⟨hh1, hh2, hh3⟩ := slices_SortFunc_LLint_Lint.heap enc w g m d' os cur 40 hg
    have hpp2 : d'.toList.Perm (List.finRange l0.length) := by
      have e1 : d'.extract 0 l0.length = d' := by have h2 : d'.extract 0 d'.size = d' := Array.extract_size; rwa [hps] at h2
      have e2 : (List.finRange l0.length).toArray.extract 0 l0.length = (List.finRange l0.length).toArray := by
        have : (List.finRange l0.length).toArray.extract 0 (List.finRange l0.length).toArray.size = (List.finRange l0.length).toArray := Array.extract_size
        rwa [hd] at this
      rw [e1, e2] at hpp
      exact hpp
    have hres : d'.toList.map (fun i => l0[i.1]) = sorted l0 := by
      refine sorted_of ?_ ?_
      · refine (hpp2.map _).trans (List.Perm.of_eq ?_)
        apply List.ext_getElem
        · rw [List.length_map, List.length_finRange]
        · intro j h1 h2
          simp
      · rw [List.pairwise_map]
        refine List.pairwise_iff_getElem.2 (fun i j hi hj hij => ?_)
        rw [Array.length_toList] at hi hj
        have := hs i j (Nat.zero_le _) hij (by omega)
        rw [getElem!_pos d' j (by omega), getElem!_pos d' i (by omega), hlt] at this
        have := of_decide_eq_false this
        have s := lexc_swap l0[(d'[i]).1] l0[(d'[j]).1]
        exact decide_eq_true (by simp only [Array.getElem_toList]; omega)
    have hnd : (d'.toList.map (fun i => i.1)).Nodup := by
      refine ((hpp2.map (fun i : Fin l0.length => i.1)).nodup_iff).2 ?_
      have := List.nodup_finRange l0.length
      exact List.Pairwise.map _ (fun a b hab z => hab (Fin.ext z)) this
    have hdl : d'.toList.length = l0.length := by rw [Array.length_toList]; exact hps
    refine ⟨rfl, ⟨fun b => (d'.toList.map (fun i => i.1)).idxOf (f b), h0, d'.toList.map enc, ?_, ?_⟩, ?_, ?_⟩
    · rw [List.length_zipIdx, ← hres, List.length_map, hdl]
      refine ⟨by rw [List.length_map, hdl]; show l0.length = l0.length * 1; omega, .inr ⟨g, cap, _, rfl, hbase, hh1, hcap, hmax, ?_, ?_⟩⟩
      · show (Go.Sort.putCells enc 0 d' cur).size = cap * 1
        unfold Go.Sort.putCells
        rw [Array.size_mapIdx]; omega
      · show (Go.Sort.putCells enc 0 d' cur).toList.take (l0.length * 1) = _
        have := slices_SortFunc_LLint_Lint.cells enc d' cur (by omega)
        rw [hps] at this
        rw [Nat.mul_one]
        exact this
    · refine ⟨by rw [List.length_zipIdx, ← hres, List.length_map, List.length_map]; show _ = _ * 1; omega, ?_⟩
      intro j p hj
      rw [← hres, List.getElem?_zipIdx, Nat.zero_add] at hj
      obtain ⟨x, hx, rfl⟩ := Option.map_eq_some_iff.1 hj
      rw [List.getElem?_map] at hx
      obtain ⟨i, hi, rfl⟩ := Option.map_eq_some_iff.1 hx
      have hjl : j < d'.toList.length := (List.getElem?_eq_some_iff.1 hi).1
      have hi2 : d'.toList[j] = i := (List.getElem?_eq_some_iff.1 hi).2
      have hdr : ((d'.toList.map enc).drop (j * 1)).take 1 = [enc i] := by
        rw [Nat.mul_one, List.drop_eq_getElem_cons (by rw [List.length_map]; exact hjl), List.take_succ_cons, List.take_zero, List.getElem_map, hi2]
      show ∃ v', ((d'.toList.map enc).drop (j * 1)).take 1 = [v'] ∧ _
      obtain ⟨v', e, hR⟩ := hM i.1 i.2
      have hR2 := Kd.R_step (w1 := sortWorld enc w g 0 m d' os) hR (fun k hk hkl => hh2 k hkl (fun z => hk.1.2 (congrArg some z)))
      refine ⟨enc i, hdr, ?_⟩
      rw [henc, e]
      refine Kd.R_mono hR2 (fun k hk => ⟨hk.1, ?_⟩)
      show (d'.toList.map (fun i => i.1)).idxOf (f k) = j
      have h3 := List.Nodup.idxOf_getElem hnd j (by rw [List.length_map]; exact hjl)
      rw [List.getElem_map, hi2] at h3
      rw [hk.2]
      exact h3
    · refine ⟨?_, ?_, ?_, Nat.le_trans hB.size hh3, fun k hk => (hh2 k (Nat.lt_of_lt_of_le hk hB.size) (fun z => by omega)).trans (hB.block k hk)⟩
      · exact hB.os
      · exact hB.tape
      · exact hB.output
    · exact ⟨hh3, fun k hk hne => hh2 k hk (fun z => hne (z ▸ hPg))⟩


/-! ### impl_votes_sets: function 147 -/
def impl_votes_sets.l0:Nat → (Int → Option (Bool)) → List (List Int) → Int → Int → Option ((List (List Int)))
 | 0,_,_,_,_=>none
 | k + 1,x1,x5,x10,x11=>if x11 < x10 then ((x1 x11).bind fun t520=>(if t520 = true then ((impl_setOf.f k x11).bind fun t521=>(if x5.length < 5864062014805 then (impl_votes_sets.l0 k x1 (x5 ++ [t521]) x10 (wrap64 (x11 + 1))) else (none))) else (impl_votes_sets.l0 k x1 x5 x10 (wrap64 (x11 + 1))))) else ((slices_SortFunc_LLint_Lint.f k x5 (fun y0_ y1_=>slices_Compare_int_int.f k y0_ y1_)).bind fun t519=>(some t519))
def impl_votes_sets.f (k:Nat) (a0_0:Int) (l0_1:List Bool) (a1:(Int → Option (Bool))):Option ((List (List Int))):=impl_votes_sets.l0 k a1 (([]:List (List Int))) (l0_1.length:Int) 0
theorem impl_votes_sets.mono_l:∀ k,(∀ y0 y1 y2 y3,LeO (impl_votes_sets.l0 k y0 y1 y2 y3) (impl_votes_sets.l0 (k + 1) y0 y1 y2 y3))
 | 0=>fun _ _ _ _ r h=>by simp [impl_votes_sets.l0] at h
 | k + 1=>by
  have ih0:=impl_votes_sets.mono_l k
  ·intro y0 y1 y2 y3;unfold impl_votes_sets.l0
   repeat' with_reducible first|exact ih0 _ _ _ _|exact impl_setOf.mono _ _|exact slices_Compare_int_int.mono _ _ _|refine LeO.trans (slices_SortFunc_LLint_Lint.mono _ _ _) (slices_SortFunc_LLint_Lint.mono_p (fun _ _=>?_) _ _)|exact LeO.refl _|exact LeO.none _|refine LeO.ite ?_ ?_|refine LeO.bind ?_ (fun _=>?_)
theorem impl_votes_sets.mono:∀ a0 a1 a2 k,LeO (impl_votes_sets.f k a0 a1 a2) (impl_votes_sets.f (k + 1) a0 a1 a2):=by
 intro a0 a1 a2 k;have ih0:=impl_votes_sets.mono_l k;unfold impl_votes_sets.f
 repeat' with_reducible first|exact ih0 _ _ _ _|exact impl_setOf.mono _ _|exact slices_Compare_int_int.mono _ _ _|refine LeO.trans (slices_SortFunc_LLint_Lint.mono _ _ _) (slices_SortFunc_LLint_Lint.mono_p (fun _ _=>?_) _ _)|exact LeO.refl _|exact LeO.none _|refine LeO.ite ?_ ?_|refine LeO.bind ?_ (fun _=>?_)
theorem impl_votes_sets.monop_l {p_ q_:(Int → Option (Bool))} (h_:∀ x0_,LeO (p_ x0_) (q_ x0_)):∀ k,(∀ y1 y2 y3,LeO (impl_votes_sets.l0 k p_ y1 y2 y3) (impl_votes_sets.l0 k q_ y1 y2 y3))
 | 0=>fun _ _ _ r hz=>by simp [impl_votes_sets.l0] at hz
 | k + 1=>by
  have ih0:=impl_votes_sets.monop_l h_ k
  ·intro y0 y1 y2;unfold impl_votes_sets.l0
   repeat' with_reducible first|exact ih0 _ _ _|exact h_ _|exact LeO.refl _|refine LeO.ite ?_ ?_|refine LeO.bind ?_ (fun _=>?_)
theorem impl_votes_sets.mono_p {p_ q_:(Int → Option (Bool))} (h_:∀ x0_,LeO (p_ x0_) (q_ x0_)):∀ a0 a1 k,LeO (impl_votes_sets.f k a0 a1 p_) (impl_votes_sets.f k a0 a1 q_):=by
 intro a0 a1 k;have ih0:=impl_votes_sets.monop_l h_ k;unfold impl_votes_sets.f
 repeat' with_reducible first|exact ih0 _ _ _|exact h_ _|exact LeO.refl _|refine LeO.ite ?_ ?_|refine LeO.bind ?_ (fun _=>?_)
set_option maxHeartbeats 8000000 in
set_option maxRecDepth 100000 in
theorem impl_votes_sets.callsB (bd1_:Array Value) (k:Nat) (a0_0:Int) (A0_1:Option Addr) (c0_1:Nat) (l0_1:List Bool) (a1:(Int → Option (Bool))) (g1_:Nat) (lb1_:Array Value) (eg1_:∀ (args:Array Value) (w:World),(callFunc g1_ args).run Try.prog w = .ok (.enter g1_ args) w) (r:List (List Int)) (w:World) (hr0_1:Kd.C Kd.bool w A0_1 l0_1.length l0_1) (hc0_1:l0_1.length ≤ c0_1) (hp1:∀ (W:World) (b0_:Int) (r0_:Bool),a1 b0_ = some r0_ → Below w.heap.size w W → Calls Try.prog g1_ ((bd1_ ++ #[.int .i64 b0_]) ++ lb1_) W fun e w'=>e = .returned (.bool r0_) ∧ Below W.heap.size W w') (h:impl_votes_sets.f k a0_0 l0_1 a1 = some r) :
  Calls Try.prog 147 #[.agg #[.int .i64 a0_0,.slice A0_1 l0_1.length c0_1],.func (.func g1_) bd1_ lb1_] w fun e w'=>∃ v0_:Value,e = .returned (v0_) ∧ Kd.S (Kd.slice 3 (Kd.int .i64)) 40 w' w.heap.size (fun _=>True) v0_ r ∧ Below w.heap.size w w':=by
 have hu68:=Try.underlying68;have HR0_1:=Aside0.mk hr0_1;have HC0_1:=Aside0.mk hc0_1;clear hr0_1 hc0_1;have HP1:=Aside0.mk hp1;clear hp1;have HB:=Aside0.mk (Below.refl w.heap.size w);have H:(impl_votes_sets.l0 k a1 (([]:List (List Int))) (l0_1.length:Int) 0) = some r:=h;clear h;obtain ⟨y516,hy516⟩:∃ y_:List (List Int),y_ = (([]:List (List Int))):=⟨_,rfl⟩;replace H:(impl_votes_sets.l0 k a1 y516 (l0_1.length:Int) 0) = some r:=by first|(rw [hy516];with_reducible exact H)|(have H2_:=(Option.bind_some _ _).symm.trans H;rw [hy516];with_reducible exact H2_)|(have H2_:=(Option.bind_some _ _).symm.trans H;with_reducible exact H2_)|with_reducible exact H|(rw [hy516];exact H)|exact H
 have Ny516:=Aside0.mk hy516;clear hy516;have H':=Aside0.mk H;clear H;go_enter Try.func147,Try.ntmps147;go_wp2_with (first|((with_reducible refine gate_dst (N:=2) rfl ?_);refine box_event ?hg (N:=2) ?hd (cs:=#[.int .i64 a0_0,.slice A0_1 l0_1.length c0_1]) (t:=68) ?hr ?_;(case hd=>rfl);(case hg=>rfl);(case hr=>first|(go_simp;done)|(go_simp;rfl));intro gb515 hg w3 hbox hb;have n0_:=Aside0.mk (below_step bw hb);have n1_:=Aside0.mk (hbox);have n2_:=Aside0.mk ((by rw [hg];exact (below_size bw):w.heap.size ≤ gb515));have n3_:=Aside0.mk ((by rw [hg];exact (below_size bw):w.heap.size ≤ gb515));clear HB;have HB:=n0_;have BK515:=n1_;have GW515:=n2_;have GE515:=n3_;clear n0_ n1_ n2_ n3_;clear hb hbox hg)|((with_reducible refine gate_dst (N:=7) rfl ?_);refine Kd.S_lit (Kd.slice 3 (Kd.int .i64)) _ 40 ?hg (N:=7) ?hd (xs:=([]:List (List Int))) (inner:=[]) (ok:=fun _=>True) (okp:=fun _=>True) ?hr ?hp (fun _ hk=>hk) trivial (Below.refl _ _) (Nat.le_refl _) (by simp) ?_;(case hd=>rfl);(case hg=>rfl);(case hr=>first|(go_simp;done)|(go_simp;rfl));(case hp=>exact (Reps.none _ _));intro v517 w4 ho5 hb hg_ hnew_;clear hg_ hnew_;(first|rw [← Ny516.out] at ho5|(simp only [Int.reduceToNat] at ho5;rw [← Ny516.out] at ho5));have n0_:=Aside0.mk (Kd.S_lower ho5 (below_size bw));have n1_:=Aside0.mk (blk_below (g:=gb515) (o:=.cells #[.int .i64 a0_0,.slice A0_1 l0_1.length c0_1] 68 (0,0)) bk hb);have n2_:=Aside0.mk (below_step bw hb);clear BK515;clear HB;have HO518:=n0_;have BK515:=n1_;have HB:=n2_;clear n0_ n1_ n2_;clear hb ho5;have hcz6_0:w4.cell? ⟨gb515,0,none⟩ = some (.int .i64 a0_0):=(blk_cell BK515.out 0).trans rfl;have hcz6_1:w4.cell? ⟨gb515,1,none⟩ = some (.slice A0_1 l0_1.length c0_1):=(blk_cell BK515.out 1).trans rfl;have hfz6_0:=blk_frozen BK515.out 0;have hfz6_1:=blk_frozen BK515.out 1))
 go_loopg [5,11] k (fun kq v5 v11 w'=>∃ (x5_1:List (List Int)) (x11_1:Int),v11 = .int .i64 x11_1 ∧ Aside0 (impl_votes_sets.l0 kq a1 x5_1 (l0_1.length:Int) x11_1 = some r) ∧ Aside0 (kq ≤ k) ∧ Aside0 (Kd.S (Kd.slice 3 (Kd.int .i64)) 40 w' w.heap.size (fun _=>True) v5 x5_1) ∧ Aside0 (w'.heap[gb515]? = some (.cells #[.int .i64 a0_0,(.slice A0_1 l0_1.length c0_1)] 68 (0,0))) ∧ Aside0 (Below w.heap.size w w'))
 case atStart=>exact ⟨(y516),(0),(by first|rfl|(simp;done)|(simp [*];done)),H',⟨Nat.le_refl _⟩,⟨by (with_reducible repeat (first|apply Kd.S_alloc|apply Kd.S_drewN|apply Kd.S_drew));exact HO518.out⟩,⟨by (with_reducible repeat (first|refine blk_drewN ?_ _|refine blk_drew ?_|refine blk_alloc ?_ _));exact BK515.out⟩,⟨by repeat (first|(with_reducible first|exact HB.out|apply below_alloc|apply pw_below_drewN|apply below_drew1|refine below_set ?_ GE515.out)|exact HB.out)⟩⟩
 case round =>
  clear H'
  try clear c1
  try clear p1
  try clear p2
  try clear hcz6_0
  try clear hcz6_1
  try clear hfz6_0
  try clear hfz6_1
  obtain ⟨x5_1,x11_1,rfl,HA,HK1,HO_5,BK515,HB⟩:=hrel
  cases gk with
  | zero=>exact absurd HA.out (by simp [impl_votes_sets.l0])
  | succ k1 =>
   have H:=HA.out;clear HA;simp only [impl_votes_sets.l0] at H;by_cases c7:x11_1 < (l0_1.length:Int)
   ·rw [if_pos c7] at H;have c7b0:decide (x11_1 < (l0_1.length:Int)) = true:=decide_eq_true c7;clear c7;replace H:=Option.bind_eq_some_iff.mp H;obtain ⟨t520,A80,H⟩:=H;replace H:(if t520 = true then ((impl_setOf.f k1 x11_1).bind fun t521=>(if x5_1.length < 5864062014805 then (impl_votes_sets.l0 k1 a1 (x5_1 ++ [t521]) (l0_1.length:Int) (wrap64 (x11_1 + 1))) else (none))) else (impl_votes_sets.l0 k1 a1 x5_1 (l0_1.length:Int) (wrap64 (x11_1 + 1)))) = some r:=H;have A8:=Aside0.mk A80;clear A80;by_cases c9:t520 = true
    ·subst c9;have H1:((impl_setOf.f k1 x11_1).bind fun t521=>(if x5_1.length < 5864062014805 then (impl_votes_sets.l0 k1 a1 (x5_1 ++ [t521]) (l0_1.length:Int) (wrap64 (x11_1 + 1))) else (none))) = some r:=by rw [if_pos rfl] at H;exact H
     clear H;have H:=H1;clear H1;replace H:=Option.bind_eq_some_iff.mp H;obtain ⟨t521,A100,H⟩:=H;replace H:(if x5_1.length < 5864062014805 then (impl_votes_sets.l0 k1 a1 (x5_1 ++ [t521]) (l0_1.length:Int) (wrap64 (x11_1 + 1))) else (none)) = some r:=H;have A10:=Aside0.mk A100;clear A100;by_cases c11:x5_1.length < 5864062014805
     ·rw [if_pos c11] at H;have LMc11:=Aside0.mk c11;clear c11;obtain ⟨y524,hy524⟩:∃ y_:List (List Int),y_ = (x5_1 ++ [t521]):=⟨_,rfl⟩;replace H:(impl_votes_sets.l0 k1 a1 y524 (l0_1.length:Int) (wrap64 (x11_1 + 1))) = some r:=by first|(rw [hy524];with_reducible exact H)|(have H2_:=(Option.bind_some _ _).symm.trans H;rw [hy524];with_reducible exact H2_)|(have H2_:=(Option.bind_some _ _).symm.trans H;with_reducible exact H2_)|with_reducible exact H|(rw [hy524];exact H)|exact H
      have Ny524:=Aside0.mk hy524;clear hy524;have H':=Aside0.mk H;clear H;go_wp2_with (first|((with_reducible refine gate_fn (t:=14) rfl ?_);refine goesFB_ (some 16) rfl rfl eg1_ #[.int .i64 x11_1] rfl rfl mq ?_;(with_reducible refine (HP1.out _ x11_1 true A8.out ?side1).mono ?_);(case side1=>repeat (first|(with_reducible first|exact HB.out|apply below_alloc|apply pw_below_drewN|apply below_drew1|refine below_set ?_ GE515.out)|exact HB.out));rintro e w12 ⟨rfl,hb⟩;refine ⟨_,rfl,?_⟩;have n0_:=Aside0.mk (Kd.S_below (by (with_reducible repeat (first|apply Kd.S_alloc|apply Kd.S_drewN|apply Kd.S_drew));exact HO_5.out) hb);have n1_:=Aside0.mk (blk_below (g:=gb515) (o:=.cells #[.int .i64 a0_0,.slice A0_1 l0_1.length c0_1] 68 (0,0)) bk hb);have n2_:=Aside0.mk (below_step bw hb);clear HO_5;clear BK515;clear HB;have HO_5:=n0_;have BK515:=n1_;have HB:=n2_;clear n0_ n1_ n2_;(try clear hb);(try clear hb2);(try clear hk);(try clear hi))|((with_reducible refine gate_callee (f:=164) rfl ?_);refine goesL_ (some 19) rfl rfl Try.func164 (by kernel_rfl) rfl #[.int .i64 x11_1] rfl mq ?_;(with_reducible refine (impl_setOf.calls k1 x11_1 t521 _ A10.out).mono ?_);rintro e w13 ⟨v522,rfl,ho0,hb⟩;refine ⟨_,rfl,?_⟩;have n0_:=Aside0.mk (Kd.S_elder' (by (with_reducible repeat (first|apply Kd.S_alloc|apply Kd.S_drewN|apply Kd.S_drew));exact HO_5.out) (Kd.R_base ho0) hb);have n1_:=Aside0.mk (Kd.R_lower ho0 (below_size bw));have n2_:=Aside0.mk (blk_below (g:=gb515) (o:=.cells #[.int .i64 a0_0,.slice A0_1 l0_1.length c0_1] 68 (0,0)) bk hb);have n3_:=Aside0.mk (below_step bw hb);clear HO_5;clear BK515;clear HB;have HO_5:=n0_;have HO523:=n1_;have BK515:=n2_;have HB:=n3_;clear n0_ n1_ n2_ n3_;(try clear hb);(try clear hb2);(try clear hk);(try clear hi);(try clear ho0);obtain ⟨Ao15,co15,eo15⟩:=Kd.R_slice HO523.out;subst eo15)|((with_reducible refine gate_builtin (b:=.append) (xs:=#[.tmp 17,.tmp 20]) rfl ?_);at_builtin;refine Kd.S_append (Kd.slice 3 (Kd.int .i64)) (w0:=w) w.heap.size rfl (.tmp 17) (.tmp 20) 22 40 (.slice none 0 0) 24 rfl Try.underlying22 info40 rfl (by decide) (by omega) u5 x5_1 t521 [.slice Ao15 t521.length co15] (fun _=>True) (fun k_=>some k_ = (.slice Ao15 t521.length co15:Value).ownBlock) rfl rfl ?aP (fun k_ hk_=>((Kd.R_mono (ok':=fun k_=>((fun _=>True)) k_ ∧ some k_ ≠ (u5:Value).ownBlock) (Kd.R_apart' (HO523.out) (Kd.S_typed HO_5.out) (by decide)) (fun k_ hk=>⟨trivial,hk.2⟩))).1 k_ hk_.symm) ?aF ?aO ?aB ?aS ?aL ?_;(case aP=>exact Kd.M_row (Kd.R_mono (Kd.R_tight rfl (Kd.R_mono (ok':=fun k_=>((fun _=>True)) k_ ∧ some k_ ≠ (u5:Value).ownBlock) (Kd.R_apart' (HO523.out) (Kd.S_typed HO_5.out) (by decide)) (fun k_ hk=>⟨trivial,hk.2⟩))) (fun _ h_=>h_)));(case aB=>exact bw);(case aF=>exact (fun _ _=>trivial));(case aO=>exact (by (with_reducible repeat (first|apply Kd.S_alloc|apply Kd.S_drewN|apply Kd.S_drew));exact Kd.S_mono HO_5.out (fun k_ hk=>⟨trivial,fun e_=>hk.2 e_⟩)));(case aS=>exact (below_size bw));(case aL=>have:=LMc11.out;omega);intro v525 w14 ho hb hg hat;rw [← Ny524.out] at ho;have n0_:=Aside0.mk (blk_grown (g:=gb515) (o:=.cells #[.int .i64 a0_0,.slice A0_1 l0_1.length c0_1] 68 (0,0)) bk hg (Kd.S_ne HO_5.out BK515.out (by decide)));have n1_:=Aside0.mk (hb);have n2_:=Aside0.mk (ho);clear BK515;clear HB;clear HO_5;clear HO523;have BK515:=n0_;have HB:=n1_;have HO526:=n2_;clear n0_ n1_ n2_;clear ho hb hg hat))
      go_roundg k1
      case measure=>have:=HK1.out;omega
      case rel=>exact ⟨(y524),(wrap64 (x11_1 + 1)),(by first|rfl|(simp;done)|(simp [*];done)),H',⟨by have:=HK1.out;omega⟩,⟨by (with_reducible repeat (first|apply Kd.S_alloc|apply Kd.S_drewN|apply Kd.S_drew));exact HO526.out⟩,⟨by (with_reducible repeat (first|refine blk_drewN ?_ _|refine blk_drew ?_|refine blk_alloc ?_ _));exact BK515.out⟩,⟨by repeat (first|(with_reducible first|exact HB.out|apply below_alloc|apply pw_below_drewN|apply below_drew1|refine below_set ?_ GE515.out)|exact HB.out)⟩⟩
     ·rw [if_neg c11] at H;exact absurd H (by simp)
    ·replace c9:=Bool.eq_false_iff.mpr c9;subst c9;have H1:(impl_votes_sets.l0 k1 a1 x5_1 (l0_1.length:Int) (wrap64 (x11_1 + 1))) = some r:=by rw [if_neg (show ¬ (false = true) by decide)] at H;exact H
     clear H;have H:=H1;clear H1;have H':=Aside0.mk H;clear H;go_wp2_with (first|((with_reducible refine gate_fn (t:=14) rfl ?_);refine goesFB_ (some 16) rfl rfl eg1_ #[.int .i64 x11_1] rfl rfl mq ?_;(with_reducible refine (HP1.out _ x11_1 false A8.out ?side1).mono ?_);(case side1=>repeat (first|(with_reducible first|exact HB.out|apply below_alloc|apply pw_below_drewN|apply below_drew1|refine below_set ?_ GE515.out)|exact HB.out));rintro e w16 ⟨rfl,hb⟩;refine ⟨_,rfl,?_⟩;have n0_:=Aside0.mk (Kd.S_below (by (with_reducible repeat (first|apply Kd.S_alloc|apply Kd.S_drewN|apply Kd.S_drew));exact HO_5.out) hb);have n1_:=Aside0.mk (blk_below (g:=gb515) (o:=.cells #[.int .i64 a0_0,.slice A0_1 l0_1.length c0_1] 68 (0,0)) bk hb);have n2_:=Aside0.mk (below_step bw hb);clear HO_5;clear BK515;clear HB;have HO_5:=n0_;have BK515:=n1_;have HB:=n2_;clear n0_ n1_ n2_;(try clear hb);(try clear hb2);(try clear hk);(try clear hi)))
     go_roundg k1
     case measure=>have:=HK1.out;omega
     case rel=>exact ⟨(x5_1),(wrap64 (x11_1 + 1)),(by first|rfl|(simp;done)|(simp [*];done)),H',⟨by have:=HK1.out;omega⟩,⟨by (with_reducible repeat (first|apply Kd.S_alloc|apply Kd.S_drewN|apply Kd.S_drew));exact HO_5.out⟩,⟨by (with_reducible repeat (first|refine blk_drewN ?_ _|refine blk_drew ?_|refine blk_alloc ?_ _));exact BK515.out⟩,⟨by repeat (first|(with_reducible first|exact HB.out|apply below_alloc|apply pw_below_drewN|apply below_drew1|refine below_set ?_ GE515.out)|exact HB.out)⟩⟩
   ·rw [if_neg c7] at H;have c7b0:decide (x11_1 < (l0_1.length:Int)) = false:=decide_eq_false c7;clear c7;replace H:=Option.bind_eq_some_iff.mp H;obtain ⟨t519,A170,H⟩:=H;replace H:(some t519) = some r:=H;have A17:=Aside0.mk A170;clear A170;obtain rfl:=Option.some.inj H;obtain ⟨Ao18,co18,eo18⟩:=Kd.S_slice HO_5.out;subst eo18;go_wp2_with (first|((with_reducible refine gate_callee (f:=165) rfl ?_);refine goesL_ (some 24) rfl rfl Try.func165 (by kernel_rfl) rfl #[.slice Ao18 x5_1.length co18,.func (.func 128) #[] #[]] rfl mq ?_;(with_reducible refine (slices_SortFunc_LLint_Lint.calls k1 (fun k_=>(True ∧ k_ ≠ gb515)) (.slice Ao18 x5_1.length co18) x5_1 (fun y0_ y1_=>slices_Compare_int_int.f k1 y0_ y1_) 128 #[] slices_Compare_int_int.enters t519 w _ ?side1 ?side2 ?side3 A17.out).mono ?_);(case side1=>repeat (first|(with_reducible first|exact HB.out|apply below_alloc|apply pw_below_drewN|apply below_drew1|refine below_set ?_ GE515.out)|exact HB.out));(case side2=>exact (Kd.S_types HO_5.out BK515.out (by decide)));(case side3=>exact (fun W_ A0_ c0_ l0_ A1_ c1_ l1_ r0_ hx_ hb_ hr0_ hc0_ hr1_ hc1_=>(slices_Compare_int_int.calls k1 A0_ c0_ l0_ A1_ c1_ l1_  r0_ W_ hr0_ hc0_ hr1_ hc1_  hx_).mono (fun _ _ h_=>⟨h_.1,h_.2⟩)));rintro e w19 ⟨rfl,hy0,hb,hkp⟩;refine ⟨_,rfl,?_⟩;have n0_:=Aside0.mk (Kd.S_mono (ok':=fun k_=>k_ ≠ gb515) hy0 (fun k_ hk_=>hk_.2));have n1_:=Aside0.mk (blk_kept bk hkp (fun hs_=>(fun hp_=>(hp_.2) rfl) hs_));have n2_:=Aside0.mk (hb);clear HO_5;clear BK515;clear HB;have HO_5:=n0_;have BK515:=n1_;have HB:=n2_;clear n0_ n1_ n2_;(try clear hb);(try clear hkp);(try clear hy0)))
    go_ret
    exact ⟨_,by first|rfl|(simp [errW_none,errW_some] <;> rfl)|(simp [*,errW_none,errW_some] <;> rfl),by (with_reducible repeat (first|apply Kd.S_alloc|apply Kd.S_drewN|apply Kd.S_drew));exact Kd.S_mono HO_5.out (fun _ hk=>trivial),by repeat (first|(with_reducible first|exact HB.out|apply below_alloc|apply pw_below_drewN|apply below_drew1|refine below_set ?_ GE515.out)|exact HB.out)⟩
theorem impl_votes_sets.calls (k:Nat) (a0_0:Int) (A0_1:Option Addr) (c0_1:Nat) (l0_1:List Bool) (a1:(Int → Option (Bool))) (g1_:Nat) (lb1_:Array Value) (eg1_:∀ (args:Array Value) (w:World),(callFunc g1_ args).run Try.prog w = .ok (.enter g1_ args) w) (r:List (List Int)) (w:World) (hr0_1:Kd.C Kd.bool w A0_1 l0_1.length l0_1) (hc0_1:l0_1.length ≤ c0_1) (hp1:∀ (W:World) (b0_:Int) (r0_:Bool),a1 b0_ = some r0_ → Below w.heap.size w W → Calls Try.prog g1_ (#[.int .i64 b0_] ++ lb1_) W fun e w'=>e = .returned (.bool r0_) ∧ Below W.heap.size W w') (h:impl_votes_sets.f k a0_0 l0_1 a1 = some r) :
  Calls Try.prog 147 #[.agg #[.int .i64 a0_0,.slice A0_1 l0_1.length c0_1],.func (.func g1_) #[] lb1_] w fun e w'=>∃ v0_:Value,e = .returned (v0_) ∧ Kd.S (Kd.slice 3 (Kd.int .i64)) 40 w' w.heap.size (fun _=>True) v0_ r ∧ Below w.heap.size w w' :=
 impl_votes_sets.callsB #[] k a0_0 A0_1 c0_1 l0_1 a1 g1_ lb1_ eg1_ r w hr0_1 hc0_1 (fun W b0_ r0_ h1 h2=>by simpa using hp1 W b0_ r0_ h1 h2) h


/-! ### impl_votes_ordered: function 140 -/
def impl_votes_ordered.l0:Nat → List Int → List (List Int) → Int → Int → Option (List Int)
 | 0,_,_,_,_=>none
 | k + 1,x3,x8,x9,x10=>if x10 < x9 then (if 0 ≤ x10 then (if x10 < (x8.length:Int) then ((impl_maskOf.f k (rd_LI x8 x10)).bind fun t601=>(if x3.length < 17592186044416 then (impl_votes_ordered.l0 k (x3 ++ [t601]) x8 x9 (wrap64 (x10 + 1))) else (none))) else (none)) else (none)) else (some x3)
def impl_votes_ordered.f (k:Nat) (a0_0:Int) (l0_1:List Bool):Option (List Int):=(impl_votes_sets.f k a0_0 l0_1 (fun y0_=>impl_votes_ordered_1.f y0_)).bind fun t597=>(impl_votes_ordered.l0 k (([]:List Int)) t597 (t597.length:Int) 0)
theorem impl_votes_ordered.mono_l:∀ k,(∀ y0 y1 y2 y3,LeO (impl_votes_ordered.l0 k y0 y1 y2 y3) (impl_votes_ordered.l0 (k + 1) y0 y1 y2 y3))
 | 0=>fun _ _ _ _ r h=>by simp [impl_votes_ordered.l0] at h
 | k + 1=>by
  have ih0:=impl_votes_ordered.mono_l k
  ·intro y0 y1 y2 y3;unfold impl_votes_ordered.l0
   repeat' with_reducible first|exact ih0 _ _ _ _|exact impl_maskOf.mono _ _|exact impl_votes_sets.mono _ _ _ _|exact LeO.refl _|exact LeO.none _|refine LeO.trans (impl_votes_sets.mono _ _ _ _) (impl_votes_sets.mono_p (fun _=>?_) _ _ _)|refine LeO.ite ?_ ?_|refine LeO.bind ?_ (fun _=>?_)
theorem impl_votes_ordered.mono:∀ a0 a1 k,LeO (impl_votes_ordered.f k a0 a1) (impl_votes_ordered.f (k + 1) a0 a1):=by
 intro a0 a1 k;have ih0:=impl_votes_ordered.mono_l k;unfold impl_votes_ordered.f
 repeat' with_reducible first|exact ih0 _ _ _ _|exact impl_maskOf.mono _ _|exact impl_votes_sets.mono _ _ _ _|exact LeO.refl _|exact LeO.none _|refine LeO.trans (impl_votes_sets.mono _ _ _ _) (impl_votes_sets.mono_p (fun _=>?_) _ _ _)|refine LeO.ite ?_ ?_|refine LeO.bind ?_ (fun _=>?_)
set_option maxHeartbeats 8000000 in
set_option maxRecDepth 100000 in
theorem impl_votes_ordered.calls (k:Nat) (a0_0:Int) (A0_1:Option Addr) (c0_1:Nat) (l0_1:List Bool) (r:List Int) (w:World) (hr0_1:Kd.C Kd.bool w A0_1 l0_1.length l0_1) (hc0_1:l0_1.length ≤ c0_1) (h:impl_votes_ordered.f k a0_0 l0_1 = some r) :
  Calls Try.prog 140 #[.agg #[.int .i64 a0_0,.slice A0_1 l0_1.length c0_1]] w fun e w'=>∃ v0_:Value,e = .returned (v0_) ∧ Kd.R (Kd.int .i64) 3 w' w.heap.size (fun _=>True) v0_ r ∧ Below w.heap.size w w':=by
 have hu68:=Try.underlying68;have HR0_1:=Aside0.mk hr0_1;have HC0_1:=Aside0.mk hc0_1;clear hr0_1 hc0_1;have HB:=Aside0.mk (Below.refl w.heap.size w);have H:((impl_votes_sets.f k a0_0 l0_1 (fun y0_=>impl_votes_ordered_1.f y0_)).bind fun t597=>(impl_votes_ordered.l0 k (([]:List Int)) t597 (t597.length:Int) 0)) = some r:=h;clear h;obtain ⟨y594,hy594⟩:∃ y_:List Int,y_ = (([]:List Int)):=⟨_,rfl⟩;replace H:((impl_votes_sets.f k a0_0 l0_1 (fun y0_=>impl_votes_ordered_1.f y0_)).bind fun t597=>(impl_votes_ordered.l0 k y594 t597 (t597.length:Int) 0)) = some r:=by first|(rw [hy594];with_reducible exact H)|(have H2_:=(Option.bind_some _ _).symm.trans H;rw [hy594];with_reducible exact H2_)|(have H2_:=(Option.bind_some _ _).symm.trans H;with_reducible exact H2_)|with_reducible exact H|(rw [hy594];exact H)|exact H
 have Ny594:=Aside0.mk hy594;clear hy594;replace H:=Option.bind_eq_some_iff.mp H;obtain ⟨t597,A20,H⟩:=H;replace H:(impl_votes_ordered.l0 k y594 t597 (t597.length:Int) 0) = some r:=H;have A2:=Aside0.mk A20;clear A20;have H':=Aside0.mk H;clear H;go_enter Try.func140,Try.ntmps140;go_wp2_with (first|((with_reducible refine gate_dst (N:=1) rfl ?_);refine box_event ?hg (N:=1) ?hd (cs:=#[.int .i64 a0_0,.slice A0_1 l0_1.length c0_1]) (t:=68) ?hr ?_;(case hd=>rfl);(case hg=>rfl);(case hr=>first|(go_simp;done)|(go_simp;rfl));intro gb593 hg w3 hbox hb;have n0_:=Aside0.mk (below_step bw hb);have n1_:=Aside0.mk (hbox);have n2_:=Aside0.mk ((by rw [hg];exact (below_size bw):w.heap.size ≤ gb593));have n3_:=Aside0.mk ((by rw [hg];exact (below_size bw):w.heap.size ≤ gb593));clear HB;have HB:=n0_;have BK593:=n1_;have GW593:=n2_;have GE593:=n3_;clear n0_ n1_ n2_ n3_;clear hb hbox hg)|((with_reducible refine gate_dst (N:=6) rfl ?_);refine Kd.R_lit (Kd.int .i64) _ 3 ?hg (N:=6) ?hd (xs:=([]:List Int)) (inner:=[]) (ok:=fun _=>True) (okp:=fun _=>True) ?hr ?hp (fun _ hk=>hk) trivial (Below.refl _ _) (Nat.le_refl _) (by simp) ?_;(case hd=>rfl);(case hg=>rfl);(case hr=>first|(go_simp;done)|(go_simp;rfl));(case hp=>exact (Reps.none _ _));intro v595 w4 ho5 hb hg_ hnew_;clear hg_ hnew_;(first|rw [← Ny594.out] at ho5|(simp only [Int.reduceToNat] at ho5;rw [← Ny594.out] at ho5));have n0_:=Aside0.mk (Kd.R_lower ho5 (below_size bw));have n1_:=Aside0.mk (blk_below (g:=gb593) (o:=.cells #[.int .i64 a0_0,.slice A0_1 l0_1.length c0_1] 68 (0,0)) bk hb);have n2_:=Aside0.mk (below_step bw hb);clear BK593;clear HB;have HO596:=n0_;have BK593:=n1_;have HB:=n2_;clear n0_ n1_ n2_;clear hb ho5;have hcz6_0:w4.cell? ⟨gb593,0,none⟩ = some (.int .i64 a0_0):=(blk_cell BK593.out 0).trans rfl;have hcz6_1:w4.cell? ⟨gb593,1,none⟩ = some (.slice A0_1 l0_1.length c0_1):=(blk_cell BK593.out 1).trans rfl;have hfz6_0:=blk_frozen BK593.out 0;have hfz6_1:=blk_frozen BK593.out 1)|((with_reducible refine gate_callee (f:=147) rfl ?_);refine goesL_ (some 8) rfl rfl Try.func147 (by kernel_rfl) rfl #[.agg #[.int .i64 a0_0,.slice A0_1 l0_1.length c0_1],.func (.func 162) #[] #[]] rfl mq ?_;(with_reducible refine (impl_votes_sets.calls k a0_0 _ _ l0_1 (fun y0_=>impl_votes_ordered_1.f y0_) 162 #[] impl_votes_ordered_1.enters t597 _ ?side1 ?side2 ?side3 A2.out).mono ?_);(case side1=>repeat (first|exact (Kd.C_below HR0_1.out HB.out)|(with_reducible refine Kd.C_alloc ?_ _)|(with_reducible refine Kd.C_drewN ?_ _)|(with_reducible refine Kd.C_drew ?_)));(case side2=>exact HC0_1.out);(case side3=>exact (fun W_ a0_ r0_ hx_ hb_ =>(impl_votes_ordered_1.calls a0_  r0_ W_   hx_).mono (fun _ _ h_=>⟨h_.1,h_.2.below⟩)));rintro e w7 ⟨v598,rfl,ho0,hb⟩;refine ⟨_,rfl,?_⟩;have n0_:=Aside0.mk (Kd.R_below (by (with_reducible repeat (first|apply Kd.R_alloc|apply Kd.R_drewN|apply Kd.R_drew));exact HO596.out) hb);have n1_:=Aside0.mk (Kd.S_lower (Kd.S_new' ho0 (Kd.R_lt (by (with_reducible repeat (first|apply Kd.R_alloc|apply Kd.R_drewN|apply Kd.R_drew));exact HO596.out))) (below_size bw));have n2_:=Aside0.mk (blk_below (g:=gb593) (o:=.cells #[.int .i64 a0_0,.slice A0_1 l0_1.length c0_1] 68 (0,0)) bk hb);have n3_:=Aside0.mk (below_step bw hb);clear HO596;clear BK593;clear HB;have HO596:=n0_;have HO599:=n1_;have BK593:=n2_;have HB:=n3_;clear n0_ n1_ n2_ n3_;(try clear hb);(try clear hb2);(try clear hk);(try clear hi);(try clear ho0);obtain ⟨Ao8,co8,eo8⟩:=Kd.S_slice HO599.out;subst eo8))
 go_loopg [3,10] k (fun kq v3 v10 w'=>∃ (x3_1:List Int) (x10_1:Int),v10 = .int .i64 x10_1 ∧ Aside0 (impl_votes_ordered.l0 kq x3_1 t597 (t597.length:Int) x10_1 = some r) ∧ Aside0 (kq ≤ k) ∧ Aside0 (Kd.R (Kd.int .i64) 3 w' w.heap.size (fun _=>True) v3 x3_1) ∧ Aside0 (Kd.S (Kd.slice 3 (Kd.int .i64)) 40 w' w.heap.size (fun k_=>some k_ ≠ (v3:Value).ownBlock) (.slice Ao8 t597.length co8) t597) ∧ Aside0 (w'.heap[gb593]? = some (.cells #[.int .i64 a0_0,(.slice A0_1 l0_1.length c0_1)] 68 (0,0))) ∧ Aside0 (Below w.heap.size w w'))
 case atStart=>exact ⟨(y594),(0),(by first|rfl|(simp;done)|(simp [*];done)),H',⟨Nat.le_refl _⟩,⟨by (with_reducible repeat (first|apply Kd.R_alloc|apply Kd.R_drewN|apply Kd.R_drew));exact HO596.out⟩,⟨by (with_reducible repeat (first|apply Kd.S_alloc|apply Kd.S_drewN|apply Kd.S_drew));exact Kd.S_mono HO599.out (fun _ hk=>hk.2)⟩,⟨by (with_reducible repeat (first|refine blk_drewN ?_ _|refine blk_drew ?_|refine blk_alloc ?_ _));exact BK593.out⟩,⟨by repeat (first|(with_reducible first|exact HB.out|apply below_alloc|apply pw_below_drewN|apply below_drew1|refine below_set ?_ GE593.out)|exact HB.out)⟩⟩
 case round =>
  clear H'
  try clear c1
  try clear p2
  try clear hcz6_0
  try clear hcz6_1
  try clear hfz6_0
  try clear hfz6_1
  obtain ⟨x3_1,x10_1,rfl,HA,HK1,HO_3,HO_8,BK593,HB⟩:=hrel
  cases gk with
  | zero=>exact absurd HA.out (by simp [impl_votes_ordered.l0])
  | succ k1 =>
   have H:=HA.out;clear HA;simp only [impl_votes_ordered.l0] at H;by_cases c9:x10_1 < (t597.length:Int)
   ·rw [if_pos c9] at H;have c9b0:decide (x10_1 < (t597.length:Int)) = true:=decide_eq_true c9;clear c9;by_cases c10:0 ≤ x10_1
    ·rw [if_pos c10] at H;have c10b0:decide (0 ≤ x10_1) = true:=decide_eq_true c10;clear c10;by_cases c11:x10_1 < (t597.length:Int)
     ·rw [if_pos c11] at H;have c11b0:decide (x10_1 < (t597.length:Int)) = true:=decide_eq_true c11;clear c11;replace H:=Option.bind_eq_some_iff.mp H;obtain ⟨t601,A120,H⟩:=H;replace H:(if x3_1.length < 17592186044416 then (impl_votes_ordered.l0 k1 (x3_1 ++ [t601]) t597 (t597.length:Int) (wrap64 (x10_1 + 1))) else (none)) = some r:=H;have A12:=Aside0.mk A120;clear A120;by_cases c13:x3_1.length < 17592186044416
      ·rw [if_pos c13] at H;have LMc13:=Aside0.mk c13;clear c13;obtain ⟨y602,hy602⟩:∃ y_:List Int,y_ = (x3_1 ++ [t601]):=⟨_,rfl⟩;replace H:(impl_votes_ordered.l0 k1 y602 t597 (t597.length:Int) (wrap64 (x10_1 + 1))) = some r:=by first|(rw [hy602];with_reducible exact H)|(have H2_:=(Option.bind_some _ _).symm.trans H;rw [hy602];with_reducible exact H2_)|(have H2_:=(Option.bind_some _ _).symm.trans H;with_reducible exact H2_)|with_reducible exact H|(rw [hy602];exact H)|exact H
       have Ny602:=Aside0.mk hy602;clear hy602;have H':=Aside0.mk H;clear H;have p600:0 ≤ (x10_1:Int):=of_decide_eq_true ab;have q600:x10_1 < (t597.length:Int):=of_decide_eq_true ab;obtain ⟨ad600,A600_0,c600_0,e600,hx600_0,hl600_0,hi600_0⟩:=at_LI (Kd.S_reads' HO_8.out).2.2 x10_1 p600 q600;cases e600
       obtain ⟨ce600,hce600,hMe600,hcc600⟩:=Kd.S_get HO_8.out [] x10_1 p600 (by first|exact q600|exact of_decide_eq_true ab|(have e_:=(Kd.S_reads' HO_8.out).1;omega));obtain ⟨ve600_0,rfl,ge600_0⟩:=hMe600;have hv600_0:=hcc600 0 _ rfl;rw [Nat.add_zero,show ((Kd.slice 3 (Kd.int .i64))).sz = 1 from rfl,Nat.mul_one] at hv600_0;replace hv600_0:=Option.some.inj (hv600_0.symm.trans hx600_0);rw [hv600_0] at ge600_0;have HL600_0:=Aside0.mk (show Kd.R (Kd.int .i64) 3 _ _ _ _ (rd_LI t597 x10_1) from ge600_0);clear hv600_0 ge600_0;clear hcc600 hce600;have HR600_0:=Aside0.mk hi600_0;have HC600_0:=Aside0.mk hl600_0;clear hi600_0 hl600_0;replace p600:=eq_true p600;replace q600:=eq_true q600;go_wp2_with (first|((with_reducible refine gate_callee (f:=129) rfl ?_);refine goesL_ (some 16) rfl rfl Try.func129 (by kernel_rfl) rfl #[.slice A600_0 (rd_LI t597 x10_1).length c600_0] rfl mq ?_;(with_reducible refine (impl_maskOf.calls k1 _ _ (rd_LI t597 x10_1) t601 _ ?side1 ?side2 A12.out).mono ?_);(case side1=>repeat (first|exact (by repeat (first|(with_reducible exact HR600_0.out)|(with_reducible refine Kd.C_alloc ?_ _)|(with_reducible refine Kd.C_drewN ?_ _)|(with_reducible refine Kd.C_drew ?_)|exact HR600_0.out))|(with_reducible refine Kd.C_alloc ?_ _)|(with_reducible refine Kd.C_drewN ?_ _)|(with_reducible refine Kd.C_drew ?_)));(case side2=>exact HC600_0.out);rintro e w' ⟨rfl,⟨nd,rfl⟩⟩;refine ⟨_,rfl,?_⟩)|((with_reducible refine gate_builtin (b:=.append) (xs:=#[.tmp 14,.tmp 17]) rfl ?_);at_builtin;refine Kd.R_append (Kd.int .i64) (w0:=w) w.heap.size rfl (.tmp 14) (.tmp 17) 40 3 (.int .i64 0) 8 rfl Try.underlying40 info3 rfl (by decide) (by omega) u3 x3_1 t601 [.int .i64 t601] (fun _=>True) (fun _=>False) rfl rfl ?aP (fun _ hk=>hk.elim) ?aF ?aO ?aB ?aS ?aL ?_;(case aP=>exact rfl);(case aB=>exact bw);(case aF=>exact (fun _ _=>trivial));(case aO=>exact (by (with_reducible repeat (first|apply Kd.R_alloc|apply Kd.R_drewN|apply Kd.R_drew));exact HO_3.out));(case aS=>exact (below_size bw));(case aL=>have:=LMc13.out;omega);intro v603 w14 ho hb hg hat;rw [← Ny602.out] at ho;have n0_:=Aside0.mk (Kd.S_after (ok:=(fun _=>True)) (by (with_reducible repeat (first|apply Kd.S_alloc|apply Kd.S_drewN|apply Kd.S_drew));exact Kd.S_mono HO_8.out (fun _ hk=>⟨trivial,hk⟩)) hg hat);have n1_:=Aside0.mk (blk_grown (g:=gb593) (o:=.cells #[.int .i64 a0_0,.slice A0_1 l0_1.length c0_1] 68 (0,0)) bk hg (Kd.R_ne HO_3.out BK593.out (by decide)));have n2_:=Aside0.mk (Kd.R_after (ok:=(fun k_=>some k_ ≠ (.slice (some ad600) t597.length co8:Value).ownBlock)) (by (with_reducible repeat (first|apply Kd.R_alloc|apply Kd.R_drewN|apply Kd.R_drew));exact Kd.R_mono HL600_0.out (fun _ hk=>⟨hk.2,hk.1⟩)) hg hat);have n3_:=Aside0.mk (hb);have n4_:=Aside0.mk (ho);clear HO_8;clear BK593;clear HL600_0;clear HB;clear HO_3;have HO_8:=n0_;have BK593:=n1_;have HL600_0:=n2_;have HB:=n3_;have HO604:=n4_;clear n0_ n1_ n2_ n3_ n4_;clear ho hb hg hat))
       go_roundg k1
       case measure=>have:=HK1.out;omega
       case rel=>exact ⟨(y602),(wrap64 (x10_1 + 1)),(by first|rfl|(simp;done)|(simp [*];done)),H',⟨by have:=HK1.out;omega⟩,⟨by (with_reducible repeat (first|apply Kd.R_alloc|apply Kd.R_drewN|apply Kd.R_drew));exact HO604.out⟩,⟨by (with_reducible repeat (first|apply Kd.S_alloc|apply Kd.S_drewN|apply Kd.S_drew));exact Kd.S_mono HO_8.out (fun _ hk=>hk.2)⟩,⟨by (with_reducible repeat (first|refine blk_drewN ?_ _|refine blk_drew ?_|refine blk_alloc ?_ _));exact BK593.out⟩,⟨by repeat (first|(with_reducible first|exact HB.out|apply below_alloc|apply pw_below_drewN|apply below_drew1|refine below_set ?_ GE593.out)|exact HB.out)⟩⟩
      ·rw [if_neg c13] at H;exact absurd H (by simp)
     ·rw [if_neg c11] at H;exact absurd H (by simp)
    ·rw [if_neg c10] at H;exact absurd H (by simp)
   ·rw [if_neg c9] at H;have c9b0:decide (x10_1 < (t597.length:Int)) = false:=decide_eq_false c9;clear c9;obtain rfl:=Option.some.inj H;go_wp2
    go_ret
    exact ⟨_,by first|rfl|(simp [errW_none,errW_some] <;> rfl)|(simp [*,errW_none,errW_some] <;> rfl),by (with_reducible repeat (first|apply Kd.R_alloc|apply Kd.R_drewN|apply Kd.R_drew));exact HO_3.out,by repeat (first|(with_reducible first|exact HB.out|apply below_alloc|apply pw_below_drewN|apply below_drew1|refine below_set ?_ GE593.out)|exact HB.out)⟩


/-! ### impl_votes_firstOfTwo: function 100 -/
mutual
def impl_votes_firstOfTwo.l0:Nat → (Int → Int → Int → Int → Option (Bool)) → List Int → List Int → Int → Int → Int → List Bool → Option ((List (List Int)) × (List (List Int)) × Bool)
 | 0,_,_,_,_,_,_,_=>none
 | k + 1,x1,x6,x16,x17,x18,x624000,x624001=>if x18 < x17 then (if 0 ≤ x18 then (if x18 < (x16.length:Int) then (if x18 ≤ (x6.length:Int) then ((some (x6.drop (x18:Int).toNat:List Int)).bind fun y629=>(impl_votes_firstOfTwo.l1 k x1 x6 (rd x16 x18) x16 x17 x18 y629 (y629.length:Int) 0 x624000 x624001)) else (none)) else (none)) else (none)) else (some (([]:List (List Int)),([]:List (List Int)),false))
def impl_votes_firstOfTwo.l1:Nat → (Int → Int → Int → Int → Option (Bool)) → List Int → Int → List Int → Int → Int → List Int → Int → Int → Int → List Bool → Option ((List (List Int)) × (List (List Int)) × Bool)
 | 0,_,_,_,_,_,_,_,_,_,_,_=>none
 | k + 1,x1,x6,x8,x16,x17,x18,x25,x26,x27,x624000,x624001=>if x27 < x26 then (if 0 ≤ x27 then (if x27 < (x25.length:Int) then (if 0 ≤ x8 then (if x8 < (x624001.length:Int) then (if rdOf false x624001 x8 = true then (if 0 ≤ (rd x25 x27) then (if (rd x25 x27) < (x624001.length:Int) then (impl_votes_firstOfTwo.j2 k x1 x6 x8 (rd x25 x27) x16 x17 x18 x25 x26 x27 (!(rdOf false x624001 (rd x25 x27))) x624000 x624001) else (none)) else (none)) else (impl_votes_firstOfTwo.j2 k x1 x6 x8 (rd x25 x27) x16 x17 x18 x25 x26 x27 true x624000 x624001)) else (none)) else (none)) else (none)) else (none)) else (impl_votes_firstOfTwo.l0 k x1 x6 x16 x17 (wrap64 (x18 + 1)) x624000 x624001)
def impl_votes_firstOfTwo.j2:Nat → (Int → Int → Int → Int → Option (Bool)) → List Int → Int → Int → List Int → Int → Int → List Int → Int → Int → Bool → Int → List Bool → Option ((List (List Int)) × (List (List Int)) × Bool)
 | 0,_,_,_,_,_,_,_,_,_,_,_,_,_=>none
 | k + 1,x1,x6,x8,x10,x16,x17,x18,x25,x26,x27,x44,x624000,x624001=>if x44 = true then (impl_votes_firstOfTwo.l1 k x1 x6 x8 x16 x17 x18 x25 x26 (wrap64 (x27 + 1)) x624000 x624001) else (impl_votes_firstOfTwo.l2 k x1 x6 x8 x10 x16 x17 x18 x25 x26 x27 x6 (x6.length:Int) 0 x624000 x624001)
def impl_votes_firstOfTwo.l2:Nat → (Int → Int → Int → Int → Option (Bool)) → List Int → Int → Int → List Int → Int → Int → List Int → Int → Int → List Int → Int → Int → Int → List Bool → Option ((List (List Int)) × (List (List Int)) × Bool)
 | 0,_,_,_,_,_,_,_,_,_,_,_,_,_,_,_=>none
 | k + 1,x1,x6,x8,x10,x16,x17,x18,x25,x26,x27,x45,x46,x47,x624000,x624001=>if x47 < x46 then (if 0 ≤ x47 then (if x47 < (x45.length:Int) then (if 0 ≤ (rd x45 x47) then (if (rd x45 x47) < (x624001.length:Int) then (if rdOf false x624001 (rd x45 x47) = true then (impl_votes_firstOfTwo.j4 k x1 x6 x8 x10 x47 (rd x45 x47) x16 x17 x18 x25 x26 x27 x45 x46 x47 true x624000 x624001) else (if (Go.bits .and .i64 (rd x45 x47) (Go.bits .and .i64 x8 x10)) = (Go.bits .and .i64 x8 x10) then (impl_votes_firstOfTwo.j4 k x1 x6 x8 x10 x47 (rd x45 x47) x16 x17 x18 x25 x26 x27 x45 x46 x47 ((Go.bits .andNot .i64 (rd x45 x47) (Go.bits .or .i64 x8 x10)) != 0) x624000 x624001) else (impl_votes_firstOfTwo.j4 k x1 x6 x8 x10 x47 (rd x45 x47) x16 x17 x18 x25 x26 x27 x45 x46 x47 true x624000 x624001))) else (none)) else (none)) else (none)) else (none)) else (impl_votes_firstOfTwo.l1 k x1 x6 x8 x16 x17 x18 x25 x26 (wrap64 (x27 + 1)) x624000 x624001)
def impl_votes_firstOfTwo.j4:Nat → (Int → Int → Int → Int → Option (Bool)) → List Int → Int → Int → Int → Int → List Int → Int → Int → List Int → Int → Int → List Int → Int → Int → Bool → Int → List Bool → Option ((List (List Int)) × (List (List Int)) × Bool)
 | 0,_,_,_,_,_,_,_,_,_,_,_,_,_,_,_,_,_,_=>none
 | k + 1,x1,x6,x8,x10,x11,x12,x16,x17,x18,x25,x26,x27,x45,x46,x47,x75,x624000,x624001=>if x75 = true then (impl_votes_firstOfTwo.l2 k x1 x6 x8 x10 x16 x17 x18 x25 x26 x27 x45 x46 (wrap64 (x47 + 1)) x624000 x624001) else (if 0 ≤ (Go.bits .or .i64 (Go.bits .and .i64 x8 x10) (Go.bits .andNot .i64 (Go.bits .or .i64 x8 x10) x12)) then (if (Go.bits .or .i64 (Go.bits .and .i64 x8 x10) (Go.bits .andNot .i64 (Go.bits .or .i64 x8 x10) x12)) < (x624001.length:Int) then (if (rdOf false x624001 (Go.bits .or .i64 (Go.bits .and .i64 x8 x10) (Go.bits .andNot .i64 (Go.bits .or .i64 x8 x10) x12)) = true) then (impl_votes_firstOfTwo.l2 k x1 x6 x8 x10 x16 x17 x18 x25 x26 x27 x45 x46 (wrap64 (x47 + 1)) x624000 x624001) else (if 0 ≤ x11 then (if x11 ≤ (x6.length:Int) then ((slices_Contains_int_int.f k (x6.drop (x11:Int).toNat) (Go.bits .or .i64 (Go.bits .and .i64 x8 x10) (Go.bits .andNot .i64 (Go.bits .or .i64 x8 x10) x12))).bind fun t643=>(if t643 = true then ((x1 x8 x10 x12 (Go.bits .or .i64 (Go.bits .and .i64 x8 x10) (Go.bits .andNot .i64 (Go.bits .or .i64 x8 x10) x12))).bind fun t644=>(if t644 = true then ((impl_pairs.f k (([x8,x10]:List Int)) (([x12,Go.bits .or .i64 (Go.bits .and .i64 x8 x10) (Go.bits .andNot .i64 (Go.bits .or .i64 x8 x10) x12)]:List Int))).bind fun bt651=>(some (bt651.1,bt651.2,true))) else (impl_votes_firstOfTwo.l2 k x1 x6 x8 x10 x16 x17 x18 x25 x26 x27 x45 x46 (wrap64 (x47 + 1)) x624000 x624001))) else (impl_votes_firstOfTwo.l2 k x1 x6 x8 x10 x16 x17 x18 x25 x26 x27 x45 x46 (wrap64 (x47 + 1)) x624000 x624001))) else (none)) else (none))) else (none)) else (none))
end
def impl_votes_firstOfTwo.f (k:Nat) (a0_0:Int) (l0_1:List Bool) (a1:(Int → Int → Int → Int → Option (Bool))):Option ((List (List Int)) × (List (List Int)) × Bool):=(impl_votes_ordered.f k a0_0 l0_1).bind fun t625=>(impl_votes_firstOfTwo.l0 k a1 t625 t625 (t625.length:Int) 0 a0_0 l0_1)
theorem impl_votes_firstOfTwo.mono_l:∀ k,(∀ y0 y1 y2 y3 y4 y5 y6,LeO (impl_votes_firstOfTwo.l0 k y0 y1 y2 y3 y4 y5 y6) (impl_votes_firstOfTwo.l0 (k + 1) y0 y1 y2 y3 y4 y5 y6)) ∧ (∀ y0 y1 y2 y3 y4 y5 y6 y7 y8 y9 y10,LeO (impl_votes_firstOfTwo.l1 k y0 y1 y2 y3 y4 y5 y6 y7 y8 y9 y10) (impl_votes_firstOfTwo.l1 (k + 1) y0 y1 y2 y3 y4 y5 y6 y7 y8 y9 y10)) ∧ (∀ y0 y1 y2 y3 y4 y5 y6 y7 y8 y9 y10 y11 y12,LeO (impl_votes_firstOfTwo.j2 k y0 y1 y2 y3 y4 y5 y6 y7 y8 y9 y10 y11 y12) (impl_votes_firstOfTwo.j2 (k + 1) y0 y1 y2 y3 y4 y5 y6 y7 y8 y9 y10 y11 y12)) ∧ (∀ y0 y1 y2 y3 y4 y5 y6 y7 y8 y9 y10 y11 y12 y13 y14,LeO (impl_votes_firstOfTwo.l2 k y0 y1 y2 y3 y4 y5 y6 y7 y8 y9 y10 y11 y12 y13 y14) (impl_votes_firstOfTwo.l2 (k + 1) y0 y1 y2 y3 y4 y5 y6 y7 y8 y9 y10 y11 y12 y13 y14)) ∧ (∀ y0 y1 y2 y3 y4 y5 y6 y7 y8 y9 y10 y11 y12 y13 y14 y15 y16 y17,LeO (impl_votes_firstOfTwo.j4 k y0 y1 y2 y3 y4 y5 y6 y7 y8 y9 y10 y11 y12 y13 y14 y15 y16 y17) (impl_votes_firstOfTwo.j4 (k + 1) y0 y1 y2 y3 y4 y5 y6 y7 y8 y9 y10 y11 y12 y13 y14 y15 y16 y17))
 | 0=>⟨fun _ _ _ _ _ _ _ r h=>by simp [impl_votes_firstOfTwo.l0] at h,fun _ _ _ _ _ _ _ _ _ _ _ r h=>by simp [impl_votes_firstOfTwo.l1] at h,fun _ _ _ _ _ _ _ _ _ _ _ _ _ r h=>by simp [impl_votes_firstOfTwo.j2] at h,fun _ _ _ _ _ _ _ _ _ _ _ _ _ _ _ r h=>by simp [impl_votes_firstOfTwo.l2] at h,fun _ _ _ _ _ _ _ _ _ _ _ _ _ _ _ _ _ _ r h=>by simp [impl_votes_firstOfTwo.j4] at h⟩
 | k + 1=>by
  obtain ⟨ih0,ih1,ih2,ih3,ih4⟩:=impl_votes_firstOfTwo.mono_l k;refine ⟨?_,?_,?_,?_,?_⟩
  ·intro y0 y1 y2 y3 y4 y5 y6;unfold impl_votes_firstOfTwo.l0
   repeat' with_reducible first|exact ih0 _ _ _ _ _ _ _|exact ih1 _ _ _ _ _ _ _ _ _ _ _|exact ih2 _ _ _ _ _ _ _ _ _ _ _ _ _|exact ih3 _ _ _ _ _ _ _ _ _ _ _ _ _ _ _|exact ih4 _ _ _ _ _ _ _ _ _ _ _ _ _ _ _ _ _ _|exact impl_pairs.mono _ _ _|exact impl_votes_ordered.mono _ _ _|exact slices_Contains_int_int.mono _ _ _|exact LeO.refl _|exact LeO.none _|refine LeO.ite ?_ ?_|refine LeO.bind ?_ (fun _=>?_)
  ·intro y0 y1 y2 y3 y4 y5 y6 y7 y8 y9 y10;unfold impl_votes_firstOfTwo.l1
   repeat' with_reducible first|exact ih0 _ _ _ _ _ _ _|exact ih1 _ _ _ _ _ _ _ _ _ _ _|exact ih2 _ _ _ _ _ _ _ _ _ _ _ _ _|exact ih3 _ _ _ _ _ _ _ _ _ _ _ _ _ _ _|exact ih4 _ _ _ _ _ _ _ _ _ _ _ _ _ _ _ _ _ _|exact impl_pairs.mono _ _ _|exact impl_votes_ordered.mono _ _ _|exact slices_Contains_int_int.mono _ _ _|exact LeO.refl _|exact LeO.none _|refine LeO.ite ?_ ?_|refine LeO.bind ?_ (fun _=>?_)
  ·intro y0 y1 y2 y3 y4 y5 y6 y7 y8 y9 y10 y11 y12;unfold impl_votes_firstOfTwo.j2
   repeat' with_reducible first|exact ih0 _ _ _ _ _ _ _|exact ih1 _ _ _ _ _ _ _ _ _ _ _|exact ih2 _ _ _ _ _ _ _ _ _ _ _ _ _|exact ih3 _ _ _ _ _ _ _ _ _ _ _ _ _ _ _|exact ih4 _ _ _ _ _ _ _ _ _ _ _ _ _ _ _ _ _ _|exact impl_pairs.mono _ _ _|exact impl_votes_ordered.mono _ _ _|exact slices_Contains_int_int.mono _ _ _|exact LeO.refl _|exact LeO.none _|refine LeO.ite ?_ ?_|refine LeO.bind ?_ (fun _=>?_)
  ·intro y0 y1 y2 y3 y4 y5 y6 y7 y8 y9 y10 y11 y12 y13 y14;unfold impl_votes_firstOfTwo.l2
   repeat' with_reducible first|exact ih0 _ _ _ _ _ _ _|exact ih1 _ _ _ _ _ _ _ _ _ _ _|exact ih2 _ _ _ _ _ _ _ _ _ _ _ _ _|exact ih3 _ _ _ _ _ _ _ _ _ _ _ _ _ _ _|exact ih4 _ _ _ _ _ _ _ _ _ _ _ _ _ _ _ _ _ _|exact impl_pairs.mono _ _ _|exact impl_votes_ordered.mono _ _ _|exact slices_Contains_int_int.mono _ _ _|exact LeO.refl _|exact LeO.none _|refine LeO.ite ?_ ?_|refine LeO.bind ?_ (fun _=>?_)
  ·intro y0 y1 y2 y3 y4 y5 y6 y7 y8 y9 y10 y11 y12 y13 y14 y15 y16 y17;unfold impl_votes_firstOfTwo.j4
   repeat' with_reducible first|exact ih0 _ _ _ _ _ _ _|exact ih1 _ _ _ _ _ _ _ _ _ _ _|exact ih2 _ _ _ _ _ _ _ _ _ _ _ _ _|exact ih3 _ _ _ _ _ _ _ _ _ _ _ _ _ _ _|exact ih4 _ _ _ _ _ _ _ _ _ _ _ _ _ _ _ _ _ _|exact impl_pairs.mono _ _ _|exact impl_votes_ordered.mono _ _ _|exact slices_Contains_int_int.mono _ _ _|exact LeO.refl _|exact LeO.none _|refine LeO.ite ?_ ?_|refine LeO.bind ?_ (fun _=>?_)
theorem impl_votes_firstOfTwo.mono:∀ a0 a1 a2 k,LeO (impl_votes_firstOfTwo.f k a0 a1 a2) (impl_votes_firstOfTwo.f (k + 1) a0 a1 a2):=by
 intro a0 a1 a2 k;obtain ⟨ih0,ih1,ih2,ih3,ih4⟩:=impl_votes_firstOfTwo.mono_l k;unfold impl_votes_firstOfTwo.f
 repeat' with_reducible first|exact ih0 _ _ _ _ _ _ _|exact ih1 _ _ _ _ _ _ _ _ _ _ _|exact ih2 _ _ _ _ _ _ _ _ _ _ _ _ _|exact ih3 _ _ _ _ _ _ _ _ _ _ _ _ _ _ _|exact ih4 _ _ _ _ _ _ _ _ _ _ _ _ _ _ _ _ _ _|exact impl_pairs.mono _ _ _|exact impl_votes_ordered.mono _ _ _|exact slices_Contains_int_int.mono _ _ _|exact LeO.refl _|exact LeO.none _|refine LeO.ite ?_ ?_|refine LeO.bind ?_ (fun _=>?_)
theorem impl_votes_firstOfTwo.monop_l {p_ q_:(Int → Int → Int → Int → Option (Bool))} (h_:∀ x0_ x1_ x2_ x3_,LeO (p_ x0_ x1_ x2_ x3_) (q_ x0_ x1_ x2_ x3_)):∀ k,(∀ y1 y2 y3 y4 y5 y6,LeO (impl_votes_firstOfTwo.l0 k p_ y1 y2 y3 y4 y5 y6) (impl_votes_firstOfTwo.l0 k q_ y1 y2 y3 y4 y5 y6)) ∧ (∀ y1 y2 y3 y4 y5 y6 y7 y8 y9 y10,LeO (impl_votes_firstOfTwo.l1 k p_ y1 y2 y3 y4 y5 y6 y7 y8 y9 y10) (impl_votes_firstOfTwo.l1 k q_ y1 y2 y3 y4 y5 y6 y7 y8 y9 y10)) ∧ (∀ y1 y2 y3 y4 y5 y6 y7 y8 y9 y10 y11 y12,LeO (impl_votes_firstOfTwo.j2 k p_ y1 y2 y3 y4 y5 y6 y7 y8 y9 y10 y11 y12) (impl_votes_firstOfTwo.j2 k q_ y1 y2 y3 y4 y5 y6 y7 y8 y9 y10 y11 y12)) ∧ (∀ y1 y2 y3 y4 y5 y6 y7 y8 y9 y10 y11 y12 y13 y14,LeO (impl_votes_firstOfTwo.l2 k p_ y1 y2 y3 y4 y5 y6 y7 y8 y9 y10 y11 y12 y13 y14) (impl_votes_firstOfTwo.l2 k q_ y1 y2 y3 y4 y5 y6 y7 y8 y9 y10 y11 y12 y13 y14)) ∧ (∀ y1 y2 y3 y4 y5 y6 y7 y8 y9 y10 y11 y12 y13 y14 y15 y16 y17,LeO (impl_votes_firstOfTwo.j4 k p_ y1 y2 y3 y4 y5 y6 y7 y8 y9 y10 y11 y12 y13 y14 y15 y16 y17) (impl_votes_firstOfTwo.j4 k q_ y1 y2 y3 y4 y5 y6 y7 y8 y9 y10 y11 y12 y13 y14 y15 y16 y17))
 | 0=>⟨fun _ _ _ _ _ _ r hz=>by simp [impl_votes_firstOfTwo.l0] at hz,fun _ _ _ _ _ _ _ _ _ _ r hz=>by simp [impl_votes_firstOfTwo.l1] at hz,fun _ _ _ _ _ _ _ _ _ _ _ _ r hz=>by simp [impl_votes_firstOfTwo.j2] at hz,fun _ _ _ _ _ _ _ _ _ _ _ _ _ _ r hz=>by simp [impl_votes_firstOfTwo.l2] at hz,fun _ _ _ _ _ _ _ _ _ _ _ _ _ _ _ _ _ r hz=>by simp [impl_votes_firstOfTwo.j4] at hz⟩
 | k + 1=>by
  obtain ⟨ih0,ih1,ih2,ih3,ih4⟩:=impl_votes_firstOfTwo.monop_l h_ k;refine ⟨?_,?_,?_,?_,?_⟩
  ·intro y0 y1 y2 y3 y4 y5;unfold impl_votes_firstOfTwo.l0
   repeat' with_reducible first|exact ih0 _ _ _ _ _ _|exact ih1 _ _ _ _ _ _ _ _ _ _|exact ih2 _ _ _ _ _ _ _ _ _ _ _ _|exact ih3 _ _ _ _ _ _ _ _ _ _ _ _ _ _|exact ih4 _ _ _ _ _ _ _ _ _ _ _ _ _ _ _ _ _|exact h_ _ _ _ _|exact LeO.refl _|refine LeO.ite ?_ ?_|refine LeO.bind ?_ (fun _=>?_)
  ·intro y0 y1 y2 y3 y4 y5 y6 y7 y8 y9;unfold impl_votes_firstOfTwo.l1
   repeat' with_reducible first|exact ih0 _ _ _ _ _ _|exact ih1 _ _ _ _ _ _ _ _ _ _|exact ih2 _ _ _ _ _ _ _ _ _ _ _ _|exact ih3 _ _ _ _ _ _ _ _ _ _ _ _ _ _|exact ih4 _ _ _ _ _ _ _ _ _ _ _ _ _ _ _ _ _|exact h_ _ _ _ _|exact LeO.refl _|refine LeO.ite ?_ ?_|refine LeO.bind ?_ (fun _=>?_)
  ·intro y0 y1 y2 y3 y4 y5 y6 y7 y8 y9 y10 y11;unfold impl_votes_firstOfTwo.j2
   repeat' with_reducible first|exact ih0 _ _ _ _ _ _|exact ih1 _ _ _ _ _ _ _ _ _ _|exact ih2 _ _ _ _ _ _ _ _ _ _ _ _|exact ih3 _ _ _ _ _ _ _ _ _ _ _ _ _ _|exact ih4 _ _ _ _ _ _ _ _ _ _ _ _ _ _ _ _ _|exact h_ _ _ _ _|exact LeO.refl _|refine LeO.ite ?_ ?_|refine LeO.bind ?_ (fun _=>?_)
  ·intro y0 y1 y2 y3 y4 y5 y6 y7 y8 y9 y10 y11 y12 y13;unfold impl_votes_firstOfTwo.l2
   repeat' with_reducible first|exact ih0 _ _ _ _ _ _|exact ih1 _ _ _ _ _ _ _ _ _ _|exact ih2 _ _ _ _ _ _ _ _ _ _ _ _|exact ih3 _ _ _ _ _ _ _ _ _ _ _ _ _ _|exact ih4 _ _ _ _ _ _ _ _ _ _ _ _ _ _ _ _ _|exact h_ _ _ _ _|exact LeO.refl _|refine LeO.ite ?_ ?_|refine LeO.bind ?_ (fun _=>?_)
  ·intro y0 y1 y2 y3 y4 y5 y6 y7 y8 y9 y10 y11 y12 y13 y14 y15 y16;unfold impl_votes_firstOfTwo.j4
   repeat' with_reducible first|exact ih0 _ _ _ _ _ _|exact ih1 _ _ _ _ _ _ _ _ _ _|exact ih2 _ _ _ _ _ _ _ _ _ _ _ _|exact ih3 _ _ _ _ _ _ _ _ _ _ _ _ _ _|exact ih4 _ _ _ _ _ _ _ _ _ _ _ _ _ _ _ _ _|exact h_ _ _ _ _|exact LeO.refl _|refine LeO.ite ?_ ?_|refine LeO.bind ?_ (fun _=>?_)
theorem impl_votes_firstOfTwo.mono_p {p_ q_:(Int → Int → Int → Int → Option (Bool))} (h_:∀ x0_ x1_ x2_ x3_,LeO (p_ x0_ x1_ x2_ x3_) (q_ x0_ x1_ x2_ x3_)):∀ a0 a1 k,LeO (impl_votes_firstOfTwo.f k a0 a1 p_) (impl_votes_firstOfTwo.f k a0 a1 q_):=by
 intro a0 a1 k;obtain ⟨ih0,ih1,ih2,ih3,ih4⟩:=impl_votes_firstOfTwo.monop_l h_ k;unfold impl_votes_firstOfTwo.f
 repeat' with_reducible first|exact ih0 _ _ _ _ _ _|exact ih1 _ _ _ _ _ _ _ _ _ _|exact ih2 _ _ _ _ _ _ _ _ _ _ _ _|exact ih3 _ _ _ _ _ _ _ _ _ _ _ _ _ _|exact ih4 _ _ _ _ _ _ _ _ _ _ _ _ _ _ _ _ _|exact h_ _ _ _ _|exact LeO.refl _|refine LeO.ite ?_ ?_|refine LeO.bind ?_ (fun _=>?_)
set_option maxHeartbeats 8000000 in
set_option maxRecDepth 100000 in
theorem impl_votes_firstOfTwo.calls (k:Nat) (a0_0:Int) (A0_1:Option Addr) (c0_1:Nat) (l0_1:List Bool) (a1:(Int → Int → Int → Int → Option (Bool))) (g1_:Nat) (lb1_:Array Value) (eg1_:∀ (args:Array Value) (w:World),(callFunc g1_ args).run Try.prog w = .ok (.enter g1_ args) w) (r1:List (List Int)) (r2:List (List Int)) (r3:Bool) (w:World) (hr0_1:Kd.C Kd.bool w A0_1 l0_1.length l0_1) (hc0_1:l0_1.length ≤ c0_1) (hp1:∀ (W:World) (b0_:Int) (b1_:Int) (b2_:Int) (b3_:Int) (r0_:Bool),a1 b0_ b1_ b2_ b3_ = some r0_ → Below w.heap.size w W → Calls Try.prog g1_ (#[.int .i64 b0_,.int .i64 b1_,.int .i64 b2_,.int .i64 b3_] ++ lb1_) W fun e w'=>e = .returned (.bool r0_) ∧ Below W.heap.size W w') (h:impl_votes_firstOfTwo.f k a0_0 l0_1 a1 = some (r1,r2,r3)) :
  Calls Try.prog 100 #[.agg #[.int .i64 a0_0,.slice A0_1 l0_1.length c0_1],.func (.func g1_) #[] lb1_] w fun e w'=>∃ v0_ v1_:Value,e = .returned (.tuple #[.agg #[v0_,v1_],.bool r3]) ∧ Kd.S (Kd.slice 3 (Kd.int .i64)) 40 w' w.heap.size (fun k_=>some k_ ≠ (v1_:Value).ownBlock) v0_ r1 ∧ Kd.S (Kd.slice 3 (Kd.int .i64)) 40 w' w.heap.size (fun k_=>some k_ ≠ (v0_:Value).ownBlock) v1_ r2 ∧ Below w.heap.size w w':=by
 have hu68:=Try.underlying68;have hu77:=Try.underlying77;have HR0_1:=Aside0.mk hr0_1;have HC0_1:=Aside0.mk hc0_1;clear hr0_1 hc0_1;have HP1:=Aside0.mk hp1;clear hp1;have HB:=Aside0.mk (Below.refl w.heap.size w);have H:((impl_votes_ordered.f k a0_0 l0_1).bind fun t625=>(impl_votes_firstOfTwo.l0 k a1 t625 t625 (t625.length:Int) 0 a0_0 l0_1)) = some (r1,r2,r3):=h;clear h;replace H:=Option.bind_eq_some_iff.mp H;obtain ⟨t625,A30,H⟩:=H;replace H:(impl_votes_firstOfTwo.l0 k a1 t625 t625 (t625.length:Int) 0 a0_0 l0_1) = some (r1,r2,r3):=H;have A3:=Aside0.mk A30;clear A30;have H':=Aside0.mk H;clear H;go_enter Try.func100,Try.ntmps100;go_wp2_with (first|((with_reducible refine gate_dst (N:=2) rfl ?_);refine box_event ?hg (N:=2) ?hd (cs:=#[.int .i64 a0_0,.slice A0_1 l0_1.length c0_1]) (t:=68) ?hr ?_;(case hd=>rfl);(case hg=>rfl);(case hr=>first|(go_simp;done)|(go_simp;rfl));intro gb623 hg w4 hbox hb;have n0_:=Aside0.mk (below_step bw hb);have n1_:=Aside0.mk (hbox);have n2_:=Aside0.mk ((by rw [hg];exact (below_size bw):w.heap.size ≤ gb623));have n3_:=Aside0.mk ((by rw [hg];exact (below_size bw):w.heap.size ≤ gb623));clear HB;have HB:=n0_;have BK623:=n1_;have GW623:=n2_;have GE623:=n3_;clear n0_ n1_ n2_ n3_;clear hb hbox hg)|((with_reducible refine gate_dst (N:=4) rfl ?_);refine box_event ?hg (N:=4) ?hd (cs:=#[.slice none 0 0,.slice none 0 0]) (t:=77) ?hr ?_;(case hd=>rfl);(case hg=>rfl);(case hr=>first|(go_simp;done)|(go_simp;rfl));intro gb624 hg w5 hbox hb;have n0_:=Aside0.mk (blk_below (g:=gb623) (o:=.cells #[.int .i64 a0_0,.slice A0_1 l0_1.length c0_1] 68 (0,0)) bk hb);have n1_:=Aside0.mk (below_step bw hb);have n2_:=Aside0.mk (hbox);have n3_:=Aside0.mk ((by rw [hg];exact (below_size bw):w.heap.size ≤ gb624));have n4_:=Aside0.mk ((by rw [hg];exact (below_size bw):w.heap.size ≤ gb624));have n5_:=Aside0.mk ((by rw [hg];exact Nat.ne_of_lt (blk_lt (g:=gb623) (o:=.cells #[.int .i64 a0_0,.slice A0_1 l0_1.length c0_1] 68 (0,0)) bk):gb623 ≠ gb624));have n6_:=Aside0.mk ((by rw [hg];exact Nat.ne_of_gt (blk_lt (g:=gb623) (o:=.cells #[.int .i64 a0_0,.slice A0_1 l0_1.length c0_1] 68 (0,0)) bk):gb624 ≠ gb623));clear BK623;clear HB;have BK623:=n0_;have HB:=n1_;have BK624:=n2_;have GW624:=n3_;have GE624:=n4_;have NB623_624:=n5_;have NB624_623:=n6_;clear n0_ n1_ n2_ n3_ n4_ n5_ n6_;clear hb hbox hg;have hnb6:=NB623_624.out;have hnc6:=NB624_623.out;have hcz7_0:w5.cell? ⟨gb623,0,none⟩ = some (.int .i64 a0_0):=(blk_cell BK623.out 0).trans rfl;have hcz7_1:w5.cell? ⟨gb623,1,none⟩ = some (.slice A0_1 l0_1.length c0_1):=(blk_cell BK623.out 1).trans rfl;have hfz7_0:=blk_frozen BK623.out 0;have hfz7_1:=blk_frozen BK623.out 1)|((with_reducible refine gate_callee (f:=140) rfl ?_);refine goesL_ (some 15) rfl rfl Try.func140 (by kernel_rfl) rfl #[.agg #[.int .i64 a0_0,.slice A0_1 l0_1.length c0_1]] rfl mq ?_;(with_reducible refine (impl_votes_ordered.calls k a0_0 _ _ l0_1 t625 _ ?side1 ?side2 A3.out).mono ?_);(case side1=>repeat (first|exact (Kd.C_below HR0_1.out HB.out)|(with_reducible refine Kd.C_alloc ?_ _)|(with_reducible refine Kd.C_drewN ?_ _)|(with_reducible refine Kd.C_drew ?_)));(case side2=>exact HC0_1.out);rintro e w8 ⟨v626,rfl,ho0,hb⟩;refine ⟨_,rfl,?_⟩;have n0_:=Aside0.mk (Kd.R_lower ho0 (below_size bw));have n1_:=Aside0.mk (blk_below (g:=gb623) (o:=.cells #[.int .i64 a0_0,.slice A0_1 l0_1.length c0_1] 68 (0,0)) bk hb);have n2_:=Aside0.mk (blk_below (g:=gb624) (o:=.cells #[.slice none 0 0,.slice none 0 0] 77 (0,0)) bk hb);have n3_:=Aside0.mk (below_step bw hb);clear BK623;clear BK624;clear HB;have HO627:=n0_;have BK623:=n1_;have BK624:=n2_;have HB:=n3_;clear n0_ n1_ n2_ n3_;(try clear hb);(try clear hb2);(try clear hk);(try clear hi);(try clear ho0);obtain ⟨Ao9,co9,eo9⟩:=Kd.R_slice HO627.out;subst eo9))
 go_loopg [18] k (fun kq v18 w'=>∃ (x18_1:Int),v18 = .int .i64 x18_1 ∧ Aside0 (impl_votes_firstOfTwo.l0 kq a1 t625 t625 (t625.length:Int) x18_1 a0_0 l0_1 = some (r1,r2,r3)) ∧ Aside0 (kq ≤ k) ∧ Aside0 (Kd.R (Kd.int .i64) 3 w' w.heap.size (fun _=>True) (.slice Ao9 t625.length co9) t625) ∧ Aside0 (Kd.R (Kd.int .i64) 3 w' w.heap.size (fun _=>True) (.slice Ao9 t625.length co9) t625) ∧ Aside0 (w'.heap[gb623]? = some (.cells #[.int .i64 a0_0,(.slice A0_1 l0_1.length c0_1)] 68 (0,0))) ∧ Aside0 (w'.heap[gb624]? = some (.cells #[(.slice none 0 0),(.slice none 0 0)] 77 (0,0))) ∧ Aside0 (Below w.heap.size w w'))
 case atStart=>exact ⟨(0),(by first|rfl|(simp;done)|(simp [*];done)),H',⟨Nat.le_refl _⟩,⟨by (with_reducible repeat (first|apply Kd.R_alloc|apply Kd.R_drewN|apply Kd.R_drew));exact HO627.out⟩,⟨by (with_reducible repeat (first|apply Kd.R_alloc|apply Kd.R_drewN|apply Kd.R_drew));exact HO627.out⟩,⟨by (with_reducible repeat (first|refine blk_drewN ?_ _|refine blk_drew ?_|refine blk_alloc ?_ _));exact BK623.out⟩,⟨by (with_reducible repeat (first|refine blk_drewN ?_ _|refine blk_drew ?_|refine blk_alloc ?_ _));exact BK624.out⟩,⟨by repeat (first|(with_reducible first|exact HB.out|apply below_alloc|apply pw_below_drewN|apply below_drew1|refine below_set ?_ GE623.out|refine below_set ?_ GE624.out)|exact HB.out)⟩⟩
 case round =>
  clear H'
  try clear c1
  try clear p1
  try clear p2
  try clear c6
  try clear hcz7_0
  try clear hcz7_1
  try clear hfz7_0
  try clear hfz7_1
  obtain ⟨x18_1,rfl,HA,HK1,HO_6,HO_16,BK623,BK624,HB⟩:=hrel
  cases gk with
  | zero=>exact absurd HA.out (by simp [impl_votes_firstOfTwo.l0])
  | succ k1 =>
   have H:=HA.out;clear HA;simp only [impl_votes_firstOfTwo.l0] at H;by_cases c10:x18_1 < (t625.length:Int)
   ·rw [if_pos c10] at H;have c10b0:decide (x18_1 < (t625.length:Int)) = true:=decide_eq_true c10;clear c10;by_cases c11:0 ≤ x18_1
    ·rw [if_pos c11] at H;have c11b0:decide (0 ≤ x18_1) = true:=decide_eq_true c11;clear c11;by_cases c12:x18_1 < (t625.length:Int)
     ·rw [if_pos c12] at H;have c12b0:decide (x18_1 < (t625.length:Int)) = true:=decide_eq_true c12;clear c12;have c13b0:=eq_true (of_decide_eq_true ab:0 ≤ x18_1);by_cases c14:x18_1 ≤ (t625.length:Int)
      ·rw [if_pos c14] at H;have c14b0:=eq_true c14;have c14b1:decide (x18_1 ≤ (t625.length:Int)) = true:=decide_eq_true c14;clear c14;obtain ⟨y629,hy629⟩:∃ y_:List Int,y_ = (t625.drop (x18_1:Int).toNat):=⟨_,rfl⟩;replace H:(impl_votes_firstOfTwo.l1 k1 a1 t625 (rd t625 x18_1) t625 (t625.length:Int) x18_1 y629 (y629.length:Int) 0 a0_0 l0_1) = some (r1,r2,r3):=by first|(rw [hy629];with_reducible exact H)|(have H2_:=(Option.bind_some _ _).symm.trans H;rw [hy629];with_reducible exact H2_)|(have H2_:=(Option.bind_some _ _).symm.trans H;with_reducible exact H2_)|with_reducible exact H|(rw [hy629];exact H)|exact H
       have Ny629:=Aside0.mk hy629;clear hy629;have H':=Aside0.mk H;clear H;have p628:0 ≤ (x18_1:Int):=of_decide_eq_true ab;have q628:x18_1 < (t625.length:Int):=of_decide_eq_true ab;obtain ⟨ad628,e628,hx628_0⟩:=Kd.at_int (Kd.R_reads' HO_16.out).2.2 x18_1 p628 q628;cases e628
       replace p628:=eq_true p628;replace q628:=eq_true q628;have q15:(x18_1:Int) ≤ ((t625.length:Int):Int):=of_decide_eq_true ab;obtain ⟨i015,hi015,_,hsz15,_⟩:=info_parts info3;have hroom15:t625.length ≤ co9:=(Kd.R_reads' HO_6.out).2.1;have hC15:Kd.C (Kd.int .i64) _ (some ad628) t625.length t625:=(Kd.R_reads' HO_6.out).2.2;have q015:(0:Int) ≤ (x18_1:Int):=of_decide_eq_true ab;have hcut15:=cut_from (P:=Try.prog) 40 3 .i64 Try.underlying40 hi015 1 hsz15 (some ad628) t625.length co9 x18_1 q015 q15;have hr15:=Kd.C_drop (m:=(x18_1:Int).toNat) (c:=co9) hC15 (by omega) hroom15;obtain ⟨A15,hA15⟩:∃ A1,A1 = (if co9 = (x18_1:Int).toNat then (some ad628) else ((some ad628):Option Addr).map (·.add ((x18_1:Int).toNat * 1))):=⟨_,rfl⟩;obtain ⟨c15,hc15⟩:∃ c1,c1 = co9 - (x18_1:Int).toNat:=⟨_,rfl⟩;have hy15:y629.length = t625.length - (x18_1:Int).toNat:=(by rw [Ny629.out,List.length_drop] <;> omega);rw [show (t625).drop (x18_1:Int).toNat = y629 from Ny629.out.symm] at hr15;replace hr15:Kd.C (Kd.int .i64) _ A15 y629.length y629:=(by rw [hA15];exact hr15);rw [← hy15,← hA15,← hc15] at hcut15;have HR632:=Aside0.mk hr15;have HC632:=Aside0.mk (show y629.length ≤ c15 from by rw [hy15,hc15];exact Nat.sub_le_sub_right hroom15 _);clear hr15 hC15 hroom15 hi015 hsz15 hc15;have KY15:=Aside0.mk hy15;have KA15:=Aside0.mk hA15;clear hy15 hA15;have KL15:=Aside0.mk (show (x18_1:Int).toNat ≤ t625.length from by omega);replace q15:=eq_true q15;go_wp2
       go_loopg [27] k1 (fun kq v27 w'=>∃ (x27_2:Int),v27 = .int .i64 x27_2 ∧ Aside0 (impl_votes_firstOfTwo.l1 kq a1 t625 (rd t625 x18_1) t625 (t625.length:Int) x18_1 y629 (y629.length:Int) x27_2 a0_0 l0_1 = some (r1,r2,r3)) ∧ Aside0 (kq ≤ k1) ∧ Aside0 (Kd.R (Kd.int .i64) 3 w' w.heap.size (fun _=>True) (.slice (some ad628) t625.length co9) t625) ∧ Aside0 (Kd.R (Kd.int .i64) 3 w' w.heap.size (fun _=>True) (.slice (some ad628) t625.length co9) t625) ∧ Aside0 (w'.heap[gb623]? = some (.cells #[.int .i64 a0_0,(.slice A0_1 l0_1.length c0_1)] 68 (0,0))) ∧ Aside0 (w'.heap[gb624]? = some (.cells #[(.slice none 0 0),(.slice none 0 0)] 77 (0,0))) ∧ Aside0 (Kd.C (Kd.int .i64) w' A15 y629.length y629) ∧ Aside0 (Below w.heap.size w w'))
       case atStart=>exact ⟨(0),(by first|rfl|(simp;done)|(simp [*];done)),H',⟨Nat.le_refl _⟩,⟨by (with_reducible repeat (first|apply Kd.R_alloc|apply Kd.R_drewN|apply Kd.R_drew));exact HO_6.out⟩,⟨by (with_reducible repeat (first|apply Kd.R_alloc|apply Kd.R_drewN|apply Kd.R_drew));exact HO_16.out⟩,⟨by (with_reducible repeat (first|refine blk_drewN ?_ _|refine blk_drew ?_|refine blk_alloc ?_ _));exact BK623.out⟩,⟨by (with_reducible repeat (first|refine blk_drewN ?_ _|refine blk_drew ?_|refine blk_alloc ?_ _));exact BK624.out⟩,⟨by repeat (first|(with_reducible exact HR632.out)|(with_reducible refine Kd.C_alloc ?_ _)|(with_reducible refine Kd.C_drewN ?_ _)|(with_reducible refine Kd.C_drew ?_)|exact HR632.out)⟩,⟨by repeat (first|(with_reducible first|exact HB.out|apply below_alloc|apply pw_below_drewN|apply below_drew1|refine below_set ?_ GE623.out|refine below_set ?_ GE624.out)|exact HB.out)⟩⟩
       case round =>
        clear H'
        try clear c1
        try clear p1
        try clear q1
        try clear p2
        try clear c6
        try clear p6
        try clear q6
        try clear hx6
        try clear c10
        try clear c10b0
        try clear c11
        try clear c11b0
        try clear c12
        try clear c12b0
        try clear c13
        try clear c13b0
        try clear c14
        try clear c14b0
        try clear c14b1
        try clear c15
        try clear q15
        try clear hcz7_0
        try clear hcz7_1
        try clear hfz7_0
        try clear hfz7_1
        try clear hx628_0
        try clear p1
        try clear p2
        try clear p628
        try clear q015
        try clear q15
        try clear q628
        obtain ⟨x27_2,rfl,HA,HK2,HO_6,HO_16,BK623,BK624,HR632,HB⟩:=hrel
        cases gk with
        | zero=>exact absurd HA.out (by simp [impl_votes_firstOfTwo.l1])
        | succ k2 =>
         have H:=HA.out;clear HA;simp only [impl_votes_firstOfTwo.l1] at H;by_cases c16:x27_2 < (y629.length:Int)
         ·rw [if_pos c16] at H;have c16b0:decide (x27_2 < (y629.length:Int)) = true:=decide_eq_true c16;clear c16;by_cases c17:0 ≤ x27_2
          ·rw [if_pos c17] at H;have c17b0:decide (0 ≤ x27_2) = true:=decide_eq_true c17;clear c17;by_cases c18:x27_2 < (y629.length:Int)
           ·rw [if_pos c18] at H;have c18b0:decide (x27_2 < (y629.length:Int)) = true:=decide_eq_true c18;clear c18;have HC19:=Aside0.mk H;clear H;have p633:0 ≤ (x27_2:Int):=of_decide_eq_true ab;have q633:x27_2 < (y629.length:Int):=of_decide_eq_true ab;obtain ⟨ad633,e633,hx633_0⟩:=Kd.at_int HR632.out x27_2 p633 q633;cases e633
            replace p633:=eq_true p633;replace q633:=eq_true q633;go_upto_region 8 with (fail)
            go_cut [44] (fun v44 wc=>∃ (kq:Nat) (x44_18:Bool),v44 = .bool x44_18 ∧ Aside0 (impl_votes_firstOfTwo.j2 kq a1 t625 (rd t625 x18_1) (rd y629 x27_2) t625 (t625.length:Int) x18_1 y629 (y629.length:Int) x27_2 x44_18 a0_0 l0_1 = some (r1,r2,r3)) ∧ Aside0 (kq ≤ k2) ∧ Aside0 (Kd.R (Kd.int .i64) 3 wc w.heap.size (fun _=>True) (.slice (some ad628) t625.length co9) t625) ∧ Aside0 (Kd.R (Kd.int .i64) 3 wc w.heap.size (fun _=>True) (.slice (some ad628) t625.length co9) t625) ∧ Aside0 (wc.heap[gb623]? = some (.cells #[.int .i64 a0_0,(.slice A0_1 l0_1.length c0_1)] 68 (0,0))) ∧ Aside0 (wc.heap[gb624]? = some (.cells #[(.slice none 0 0),(.slice none 0 0)] 77 (0,0))) ∧ Aside0 (Kd.C (Kd.int .i64) wc (some ad633) y629.length y629) ∧ Aside0 (Below w.heap.size w wc))
            case first =>
             have H:=HC19.out;clear HC19;by_cases c20:0 ≤ (rd t625 x18_1)
             ·rw [if_pos c20] at H;have c20b0:decide (0 ≤ (rd t625 x18_1)) = true:=decide_eq_true c20;clear c20;(first|rw [c20b0]|(simp only [i64_w,i32_w];rw [c20b0])|skip)
              by_cases c21:(rd t625 x18_1) < (l0_1.length:Int)
              ·rw [if_pos c21] at H;have c21b0:decide ((rd t625 x18_1) < (l0_1.length:Int)) = true:=decide_eq_true c21;clear c21;obtain ⟨bq22,hbq22⟩:∃ b_:Bool,b_ = (rdOf false l0_1 (rd t625 x18_1)):=⟨_,rfl⟩;replace H:(if bq22 = true then (if 0 ≤ (rd y629 x27_2) then (if (rd y629 x27_2) < (l0_1.length:Int) then (impl_votes_firstOfTwo.j2 k2 a1 t625 (rd t625 x18_1) (rd y629 x27_2) t625 (t625.length:Int) x18_1 y629 (y629.length:Int) x27_2 (!(rdOf false l0_1 (rd y629 x27_2))) a0_0 l0_1) else (none)) else (none)) else (impl_votes_firstOfTwo.j2 k2 a1 t625 (rd t625 x18_1) (rd y629 x27_2) t625 (t625.length:Int) x18_1 y629 (y629.length:Int) x27_2 true a0_0 l0_1)) = some (r1,r2,r3):=by rw [← hbq22] at H;exact H
               have Nbq22:=Aside0.mk hbq22;clear hbq22;by_cases c23:bq22 = true
               ·subst c23;have H1:(if 0 ≤ (rd y629 x27_2) then (if (rd y629 x27_2) < (l0_1.length:Int) then (impl_votes_firstOfTwo.j2 k2 a1 t625 (rd t625 x18_1) (rd y629 x27_2) t625 (t625.length:Int) x18_1 y629 (y629.length:Int) x27_2 (!(rdOf false l0_1 (rd y629 x27_2))) a0_0 l0_1) else (none)) else (none)) = some (r1,r2,r3):=by rw [if_pos rfl] at H;exact H
                clear H;have H:=H1;clear H1;by_cases c24:0 ≤ (rd y629 x27_2)
                ·rw [if_pos c24] at H;have c24b0:decide (0 ≤ (rd y629 x27_2)) = true:=decide_eq_true c24;clear c24;by_cases c25:(rd y629 x27_2) < (l0_1.length:Int)
                 ·rw [if_pos c25] at H;have c25b0:decide ((rd y629 x27_2) < (l0_1.length:Int)) = true:=decide_eq_true c25;clear c25;have H':=Aside0.mk H;clear H;have hnb26:=NB623_624.out;have hnc26:=NB624_623.out;have hcz27_0:wr.cell? ⟨gb623,0,none⟩ = some (.int .i64 a0_0):=(blk_cell BK623.out 0).trans rfl;have hcz27_1:wr.cell? ⟨gb623,1,none⟩ = some (.slice A0_1 l0_1.length c0_1):=(blk_cell BK623.out 1).trans rfl;have hfz27_0:=blk_frozen BK623.out 0;have hfz27_1:=blk_frozen BK623.out 1;have p634:0 ≤ ((rd t625 x18_1):Int):=of_decide_eq_true ab;have q634:(rd t625 x18_1) < (l0_1.length:Int):=of_decide_eq_true ab;obtain ⟨ad634,e634,hx634_0⟩:=Kd.at_bool HR0_1.out (rd t625 x18_1) p634 q634;(try rw [← Nbq22.out] at hx634_0)
                  cases e634
                  replace hx634_0:=(HB.out.cell (World.block_lt_of_cell? w _ hx634_0)).trans hx634_0;replace p634:=eq_true p634;replace q634:=eq_true q634;have p635:0 ≤ ((rd y629 x27_2):Int):=of_decide_eq_true ab;have q635:(rd y629 x27_2) < (l0_1.length:Int):=of_decide_eq_true ab;obtain ⟨ad635,e635,hx635_0⟩:=Kd.at_bool HR0_1.out (rd y629 x27_2) p635 q635;(try rw [← Nbq22.out] at hx635_0)
                  obtain rfl:ad634 = ad635:=(by injection e635);replace hx635_0:=(HB.out.cell (World.block_lt_of_cell? w _ hx635_0)).trans hx635_0;replace p635:=eq_true p635;replace q635:=eq_true q635;go_wp2
                  go_meet
                  case rel=>exact ⟨_,(!(rdOf false l0_1 (rd y629 x27_2))),(by first|rfl|(simp;done)|(simp [*];done)),H',⟨by have:=HK1.out;have:=HK2.out;first|omega|exact Nat.le_refl _⟩,⟨by (with_reducible repeat (first|apply Kd.R_alloc|apply Kd.R_drewN|apply Kd.R_drew));exact HO_6.out⟩,⟨by (with_reducible repeat (first|apply Kd.R_alloc|apply Kd.R_drewN|apply Kd.R_drew));exact HO_16.out⟩,⟨by (with_reducible repeat (first|refine blk_drewN ?_ _|refine blk_drew ?_|refine blk_alloc ?_ _));exact BK623.out⟩,⟨by (with_reducible repeat (first|refine blk_drewN ?_ _|refine blk_drew ?_|refine blk_alloc ?_ _));exact BK624.out⟩,⟨by repeat (first|(with_reducible exact HR632.out)|(with_reducible refine Kd.C_alloc ?_ _)|(with_reducible refine Kd.C_drewN ?_ _)|(with_reducible refine Kd.C_drew ?_)|exact HR632.out)⟩,⟨by repeat (first|(with_reducible first|exact HB.out|apply below_alloc|apply pw_below_drewN|apply below_drew1|refine below_set ?_ GE623.out|refine below_set ?_ GE624.out)|exact HB.out)⟩⟩
                 ·rw [if_neg c25] at H;exact absurd H (by simp)
                ·rw [if_neg c24] at H;exact absurd H (by simp)
               ·replace c23:=Bool.eq_false_iff.mpr c23;subst c23;have H1:(impl_votes_firstOfTwo.j2 k2 a1 t625 (rd t625 x18_1) (rd y629 x27_2) t625 (t625.length:Int) x18_1 y629 (y629.length:Int) x27_2 true a0_0 l0_1) = some (r1,r2,r3):=by rw [if_neg (show ¬ (false = true) by decide)] at H;exact H
                clear H;have H:=H1;clear H1;have H':=Aside0.mk H;clear H;have hnb28:=NB623_624.out;have hnc28:=NB624_623.out;have hcz29_0:wr.cell? ⟨gb623,0,none⟩ = some (.int .i64 a0_0):=(blk_cell BK623.out 0).trans rfl;have hcz29_1:wr.cell? ⟨gb623,1,none⟩ = some (.slice A0_1 l0_1.length c0_1):=(blk_cell BK623.out 1).trans rfl;have hfz29_0:=blk_frozen BK623.out 0;have hfz29_1:=blk_frozen BK623.out 1;have p634:0 ≤ ((rd t625 x18_1):Int):=of_decide_eq_true ab;have q634:(rd t625 x18_1) < (l0_1.length:Int):=of_decide_eq_true ab;obtain ⟨ad634,e634,hx634_0⟩:=Kd.at_bool HR0_1.out (rd t625 x18_1) p634 q634;(try rw [← Nbq22.out] at hx634_0)
                cases e634
                replace hx634_0:=(HB.out.cell (World.block_lt_of_cell? w _ hx634_0)).trans hx634_0;replace p634:=eq_true p634;replace q634:=eq_true q634;go_wp2
                go_meet
                case rel=>exact ⟨_,(true),(by first|rfl|(simp;done)|(simp [*];done)),H',⟨by have:=HK1.out;have:=HK2.out;first|omega|exact Nat.le_refl _⟩,⟨by (with_reducible repeat (first|apply Kd.R_alloc|apply Kd.R_drewN|apply Kd.R_drew));exact HO_6.out⟩,⟨by (with_reducible repeat (first|apply Kd.R_alloc|apply Kd.R_drewN|apply Kd.R_drew));exact HO_16.out⟩,⟨by (with_reducible repeat (first|refine blk_drewN ?_ _|refine blk_drew ?_|refine blk_alloc ?_ _));exact BK623.out⟩,⟨by (with_reducible repeat (first|refine blk_drewN ?_ _|refine blk_drew ?_|refine blk_alloc ?_ _));exact BK624.out⟩,⟨by repeat (first|(with_reducible exact HR632.out)|(with_reducible refine Kd.C_alloc ?_ _)|(with_reducible refine Kd.C_drewN ?_ _)|(with_reducible refine Kd.C_drew ?_)|exact HR632.out)⟩,⟨by repeat (first|(with_reducible first|exact HB.out|apply below_alloc|apply pw_below_drewN|apply below_drew1|refine below_set ?_ GE623.out|refine below_set ?_ GE624.out)|exact HB.out)⟩⟩
              ·rw [if_neg c21] at H;exact absurd H (by simp)
             ·rw [if_neg c20] at H;exact absurd H (by simp)
            case rest =>
             clear HC19
             try clear c1
             try clear p1
             try clear q1
             try clear c2
             try clear p2
             try clear q2
             try clear c6
             try clear p6
             try clear q6
             try clear hx6
             try clear c10
             try clear c10b0
             try clear c11
             try clear c11b0
             try clear c12
             try clear c12b0
             try clear c13
             try clear c13b0
             try clear c14
             try clear c14b0
             try clear c14b1
             try clear c15
             try clear q15
             try clear c16
             try clear c16b0
             try clear c17
             try clear c17b0
             try clear c18
             try clear c18b0
             try clear c20
             try clear c20b0
             try clear c21
             try clear c21b0
             try clear q22
             try clear c23
             try clear c24
             try clear c24b0
             try clear c25
             try clear c25b0
             try clear c26
             try clear c28
             try clear hcz27_0
             try clear hcz27_1
             try clear hcz29_0
             try clear hcz29_1
             try clear hcz7_0
             try clear hcz7_1
             try clear hfz27_0
             try clear hfz27_1
             try clear hfz29_0
             try clear hfz29_1
             try clear hfz7_0
             try clear hfz7_1
             try clear hx628_0
             try clear hx633_0
             try clear hx634_0
             try clear hx635_0
             try clear p1
             try clear p2
             try clear p6
             try clear p628
             try clear p633
             try clear p634
             try clear p635
             try clear q015
             try clear q1
             try clear q15
             try clear q6
             try clear q628
             try clear q633
             try clear q634
             try clear q635
             obtain ⟨kq,x44_18,rfl,HA,HJ18,HO_6,HO_16,BK623,BK624,HR632,HB⟩:=hcut
             cases kq with
             | zero=>exact absurd HA.out (by simp [impl_votes_firstOfTwo.j2])
             | succ kj18 =>
              have H:=HA.out;clear HA;simp only [impl_votes_firstOfTwo.j2] at H;by_cases c30:x44_18 = true
              ·subst c30;have H1:(impl_votes_firstOfTwo.l1 kj18 a1 t625 (rd t625 x18_1) t625 (t625.length:Int) x18_1 y629 (y629.length:Int) (wrap64 (x27_2 + 1)) a0_0 l0_1) = some (r1,r2,r3):=by rw [if_pos rfl] at H;exact H
               clear H;have H:=H1;clear H1;have H':=Aside0.mk H;clear H;go_wp2
               go_roundg kj18
               case measure=>have:=HK1.out;have:=HK2.out;have:=HJ18.out;omega
               case rel=>exact ⟨(wrap64 (x27_2 + 1)),(by first|rfl|(simp;done)|(simp [*];done)),H',⟨by have:=HK1.out;have:=HK2.out;have:=HJ18.out;omega⟩,⟨by (with_reducible repeat (first|apply Kd.R_alloc|apply Kd.R_drewN|apply Kd.R_drew));exact HO_6.out⟩,⟨by (with_reducible repeat (first|apply Kd.R_alloc|apply Kd.R_drewN|apply Kd.R_drew));exact HO_16.out⟩,⟨by (with_reducible repeat (first|refine blk_drewN ?_ _|refine blk_drew ?_|refine blk_alloc ?_ _));exact BK623.out⟩,⟨by (with_reducible repeat (first|refine blk_drewN ?_ _|refine blk_drew ?_|refine blk_alloc ?_ _));exact BK624.out⟩,⟨by repeat (first|(with_reducible exact HR632.out)|(with_reducible refine Kd.C_alloc ?_ _)|(with_reducible refine Kd.C_drewN ?_ _)|(with_reducible refine Kd.C_drew ?_)|exact HR632.out)⟩,⟨by repeat (first|(with_reducible first|exact HB.out|apply below_alloc|apply pw_below_drewN|apply below_drew1|refine below_set ?_ GE623.out|refine below_set ?_ GE624.out)|exact HB.out)⟩⟩
              ·replace c30:=Bool.eq_false_iff.mpr c30;subst c30;have H1:(impl_votes_firstOfTwo.l2 kj18 a1 t625 (rd t625 x18_1) (rd y629 x27_2) t625 (t625.length:Int) x18_1 y629 (y629.length:Int) x27_2 t625 (t625.length:Int) 0 a0_0 l0_1) = some (r1,r2,r3):=by rw [if_neg (show ¬ (false = true) by decide)] at H;exact H
               clear H;have H:=H1;clear H1;have H':=Aside0.mk H;clear H;go_wp2
               go_loopg [47] kj18 (fun kq v47 w'=>∃ (x47_4:Int),v47 = .int .i64 x47_4 ∧ Aside0 (impl_votes_firstOfTwo.l2 kq a1 t625 (rd t625 x18_1) (rd y629 x27_2) t625 (t625.length:Int) x18_1 y629 (y629.length:Int) x27_2 t625 (t625.length:Int) x47_4 a0_0 l0_1 = some (r1,r2,r3)) ∧ Aside0 (kq ≤ kj18) ∧ Aside0 (Kd.R (Kd.int .i64) 3 w' w.heap.size (fun _=>True) (.slice (some ad628) t625.length co9) t625) ∧ Aside0 (Kd.R (Kd.int .i64) 3 w' w.heap.size (fun _=>True) (.slice (some ad628) t625.length co9) t625) ∧ Aside0 (Kd.R (Kd.int .i64) 3 w' w.heap.size (fun _=>True) (.slice (some ad628) t625.length co9) t625) ∧ Aside0 (w'.heap[gb623]? = some (.cells #[.int .i64 a0_0,(.slice A0_1 l0_1.length c0_1)] 68 (0,0))) ∧ Aside0 (w'.heap[gb624]? = some (.cells #[(.slice none 0 0),(.slice none 0 0)] 77 (0,0))) ∧ Aside0 (Kd.C (Kd.int .i64) w' (some ad633) y629.length y629) ∧ Aside0 (Below w.heap.size w w'))
               case atStart=>exact ⟨(0),(by first|rfl|(simp;done)|(simp [*];done)),H',⟨Nat.le_refl _⟩,⟨by (with_reducible repeat (first|apply Kd.R_alloc|apply Kd.R_drewN|apply Kd.R_drew));exact HO_6.out⟩,⟨by (with_reducible repeat (first|apply Kd.R_alloc|apply Kd.R_drewN|apply Kd.R_drew));exact HO_16.out⟩,⟨by (with_reducible repeat (first|apply Kd.R_alloc|apply Kd.R_drewN|apply Kd.R_drew));exact HO_6.out⟩,⟨by (with_reducible repeat (first|refine blk_drewN ?_ _|refine blk_drew ?_|refine blk_alloc ?_ _));exact BK623.out⟩,⟨by (with_reducible repeat (first|refine blk_drewN ?_ _|refine blk_drew ?_|refine blk_alloc ?_ _));exact BK624.out⟩,⟨by repeat (first|(with_reducible exact HR632.out)|(with_reducible refine Kd.C_alloc ?_ _)|(with_reducible refine Kd.C_drewN ?_ _)|(with_reducible refine Kd.C_drew ?_)|exact HR632.out)⟩,⟨by repeat (first|(with_reducible first|exact HB.out|apply below_alloc|apply pw_below_drewN|apply below_drew1|refine below_set ?_ GE623.out|refine below_set ?_ GE624.out)|exact HB.out)⟩⟩
               case round =>
                clear H'
                try clear c1
                try clear p1
                try clear q1
                try clear c2
                try clear p2
                try clear q2
                try clear c3
                try clear c6
                try clear p6
                try clear q6
                try clear hx6
                try clear c10
                try clear c10b0
                try clear c11
                try clear c11b0
                try clear c12
                try clear c12b0
                try clear c13
                try clear c13b0
                try clear c14
                try clear c14b0
                try clear c14b1
                try clear c15
                try clear q15
                try clear c16
                try clear c16b0
                try clear c17
                try clear c17b0
                try clear c18
                try clear c18b0
                try clear c20
                try clear c20b0
                try clear c21
                try clear c21b0
                try clear q22
                try clear c23
                try clear c24
                try clear c24b0
                try clear c25
                try clear c25b0
                try clear c26
                try clear c28
                try clear c30
                try clear hcz27_0
                try clear hcz27_1
                try clear hcz29_0
                try clear hcz29_1
                try clear hcz7_0
                try clear hcz7_1
                try clear hfz27_0
                try clear hfz27_1
                try clear hfz29_0
                try clear hfz29_1
                try clear hfz7_0
                try clear hfz7_1
                try clear hx628_0
                try clear hx633_0
                try clear hx634_0
                try clear hx635_0
                try clear p1
                try clear p2
                try clear p6
                try clear p628
                try clear p633
                try clear p634
                try clear p635
                try clear q015
                try clear q1
                try clear q15
                try clear q2
                try clear q22
                try clear q6
                try clear q628
                try clear q633
                try clear q634
                try clear q635
                obtain ⟨x47_4,rfl,HA,HK4,HO_6,HO_16,HO_45,BK623,BK624,HR632,HB⟩:=hrel
                cases gk with
                | zero=>exact absurd HA.out (by simp [impl_votes_firstOfTwo.l2])
                | succ k4 =>
                 have H:=HA.out;clear HA;simp only [impl_votes_firstOfTwo.l2] at H;by_cases c31:x47_4 < (t625.length:Int)
                 ·rw [if_pos c31] at H;have c31b0:decide (x47_4 < (t625.length:Int)) = true:=decide_eq_true c31;clear c31;by_cases c32:0 ≤ x47_4
                  ·rw [if_pos c32] at H;have c32b0:decide (0 ≤ x47_4) = true:=decide_eq_true c32;clear c32;by_cases c33:x47_4 < (t625.length:Int)
                   ·rw [if_pos c33] at H;have c33b0:decide (x47_4 < (t625.length:Int)) = true:=decide_eq_true c33;clear c33;have HC34:=Aside0.mk H;clear H;have p636:0 ≤ (x47_4:Int):=of_decide_eq_true ab;have q636:x47_4 < (t625.length:Int):=of_decide_eq_true ab;obtain ⟨ad636,e636,hx636_0⟩:=Kd.at_int (Kd.R_reads' HO_45.out).2.2 x47_4 p636 q636;obtain rfl:ad628 = ad636:=(by injection e636);replace p636:=eq_true p636;replace q636:=eq_true q636;go_upto_region 12 with (fail)
                    go_cut [75] (fun v75 wc=>∃ (kq:Nat) (x75_33:Bool),v75 = .bool x75_33 ∧ Aside0 (impl_votes_firstOfTwo.j4 kq a1 t625 (rd t625 x18_1) (rd y629 x27_2) x47_4 (rd t625 x47_4) t625 (t625.length:Int) x18_1 y629 (y629.length:Int) x27_2 t625 (t625.length:Int) x47_4 x75_33 a0_0 l0_1 = some (r1,r2,r3)) ∧ Aside0 (kq ≤ k4) ∧ Aside0 (Kd.R (Kd.int .i64) 3 wc w.heap.size (fun _=>True) (.slice (some ad628) t625.length co9) t625) ∧ Aside0 (Kd.R (Kd.int .i64) 3 wc w.heap.size (fun _=>True) (.slice (some ad628) t625.length co9) t625) ∧ Aside0 (Kd.R (Kd.int .i64) 3 wc w.heap.size (fun _=>True) (.slice (some ad628) t625.length co9) t625) ∧ Aside0 (wc.heap[gb623]? = some (.cells #[.int .i64 a0_0,(.slice A0_1 l0_1.length c0_1)] 68 (0,0))) ∧ Aside0 (wc.heap[gb624]? = some (.cells #[(.slice none 0 0),(.slice none 0 0)] 77 (0,0))) ∧ Aside0 (Kd.C (Kd.int .i64) wc (some ad633) y629.length y629) ∧ Aside0 (Below w.heap.size w wc))
                    case first =>
                     have H:=HC34.out;clear HC34;by_cases c35:0 ≤ (rd t625 x47_4)
                     ·rw [if_pos c35] at H;have c35b0:decide (0 ≤ (rd t625 x47_4)) = true:=decide_eq_true c35;clear c35;(first|rw [c35b0]|(simp only [i64_w,i32_w];rw [c35b0])|skip)
                      by_cases c36:(rd t625 x47_4) < (l0_1.length:Int)
                      ·rw [if_pos c36] at H;have c36b0:decide ((rd t625 x47_4) < (l0_1.length:Int)) = true:=decide_eq_true c36;clear c36;obtain ⟨bq37,hbq37⟩:∃ b_:Bool,b_ = (rdOf false l0_1 (rd t625 x47_4)):=⟨_,rfl⟩;replace H:(if bq37 = true then (impl_votes_firstOfTwo.j4 k4 a1 t625 (rd t625 x18_1) (rd y629 x27_2) x47_4 (rd t625 x47_4) t625 (t625.length:Int) x18_1 y629 (y629.length:Int) x27_2 t625 (t625.length:Int) x47_4 true a0_0 l0_1) else (if (Go.bits .and .i64 (rd t625 x47_4) (Go.bits .and .i64 (rd t625 x18_1) (rd y629 x27_2))) = (Go.bits .and .i64 (rd t625 x18_1) (rd y629 x27_2)) then (impl_votes_firstOfTwo.j4 k4 a1 t625 (rd t625 x18_1) (rd y629 x27_2) x47_4 (rd t625 x47_4) t625 (t625.length:Int) x18_1 y629 (y629.length:Int) x27_2 t625 (t625.length:Int) x47_4 ((Go.bits .andNot .i64 (rd t625 x47_4) (Go.bits .or .i64 (rd t625 x18_1) (rd y629 x27_2))) != 0) a0_0 l0_1) else (impl_votes_firstOfTwo.j4 k4 a1 t625 (rd t625 x18_1) (rd y629 x27_2) x47_4 (rd t625 x47_4) t625 (t625.length:Int) x18_1 y629 (y629.length:Int) x27_2 t625 (t625.length:Int) x47_4 true a0_0 l0_1))) = some (r1,r2,r3):=by rw [← hbq37] at H;exact H
                       have Nbq37:=Aside0.mk hbq37;clear hbq37;by_cases c38:bq37 = true
                       ·subst c38;have H1:(impl_votes_firstOfTwo.j4 k4 a1 t625 (rd t625 x18_1) (rd y629 x27_2) x47_4 (rd t625 x47_4) t625 (t625.length:Int) x18_1 y629 (y629.length:Int) x27_2 t625 (t625.length:Int) x47_4 true a0_0 l0_1) = some (r1,r2,r3):=by rw [if_pos rfl] at H;exact H
                        clear H;have H:=H1;clear H1;have H':=Aside0.mk H;clear H;have hnb39:=NB623_624.out;have hnc39:=NB624_623.out;have hcz40_0:wr.cell? ⟨gb623,0,none⟩ = some (.int .i64 a0_0):=(blk_cell BK623.out 0).trans rfl;have hcz40_1:wr.cell? ⟨gb623,1,none⟩ = some (.slice A0_1 l0_1.length c0_1):=(blk_cell BK623.out 1).trans rfl;have hfz40_0:=blk_frozen BK623.out 0;have hfz40_1:=blk_frozen BK623.out 1;have p637:0 ≤ ((rd t625 x47_4):Int):=of_decide_eq_true ab;have q637:(rd t625 x47_4) < (l0_1.length:Int):=of_decide_eq_true ab;obtain ⟨ad637,e637,hx637_0⟩:=Kd.at_bool HR0_1.out (rd t625 x47_4) p637 q637;(try rw [← Nbq37.out] at hx637_0)
                        cases e637
                        replace hx637_0:=(HB.out.cell (World.block_lt_of_cell? w _ hx637_0)).trans hx637_0;replace p637:=eq_true p637;replace q637:=eq_true q637;go_wp2
                        go_meet
                        case rel=>exact ⟨_,(true),(by first|rfl|(simp;done)|(simp [*];done)),H',⟨by have:=HK1.out;have:=HK2.out;have:=HJ18.out;have:=HK4.out;first|omega|exact Nat.le_refl _⟩,⟨by (with_reducible repeat (first|apply Kd.R_alloc|apply Kd.R_drewN|apply Kd.R_drew));exact HO_6.out⟩,⟨by (with_reducible repeat (first|apply Kd.R_alloc|apply Kd.R_drewN|apply Kd.R_drew));exact HO_16.out⟩,⟨by (with_reducible repeat (first|apply Kd.R_alloc|apply Kd.R_drewN|apply Kd.R_drew));exact HO_45.out⟩,⟨by (with_reducible repeat (first|refine blk_drewN ?_ _|refine blk_drew ?_|refine blk_alloc ?_ _));exact BK623.out⟩,⟨by (with_reducible repeat (first|refine blk_drewN ?_ _|refine blk_drew ?_|refine blk_alloc ?_ _));exact BK624.out⟩,⟨by repeat (first|(with_reducible exact HR632.out)|(with_reducible refine Kd.C_alloc ?_ _)|(with_reducible refine Kd.C_drewN ?_ _)|(with_reducible refine Kd.C_drew ?_)|exact HR632.out)⟩,⟨by repeat (first|(with_reducible first|exact HB.out|apply below_alloc|apply pw_below_drewN|apply below_drew1|refine below_set ?_ GE623.out|refine below_set ?_ GE624.out)|exact HB.out)⟩⟩
                       ·replace c38:=Bool.eq_false_iff.mpr c38;subst c38;have H1:(if (Go.bits .and .i64 (rd t625 x47_4) (Go.bits .and .i64 (rd t625 x18_1) (rd y629 x27_2))) = (Go.bits .and .i64 (rd t625 x18_1) (rd y629 x27_2)) then (impl_votes_firstOfTwo.j4 k4 a1 t625 (rd t625 x18_1) (rd y629 x27_2) x47_4 (rd t625 x47_4) t625 (t625.length:Int) x18_1 y629 (y629.length:Int) x27_2 t625 (t625.length:Int) x47_4 ((Go.bits .andNot .i64 (rd t625 x47_4) (Go.bits .or .i64 (rd t625 x18_1) (rd y629 x27_2))) != 0) a0_0 l0_1) else (impl_votes_firstOfTwo.j4 k4 a1 t625 (rd t625 x18_1) (rd y629 x27_2) x47_4 (rd t625 x47_4) t625 (t625.length:Int) x18_1 y629 (y629.length:Int) x27_2 t625 (t625.length:Int) x47_4 true a0_0 l0_1)) = some (r1,r2,r3):=by rw [if_neg (show ¬ (false = true) by decide)] at H;exact H
                        clear H;have H:=H1;clear H1;by_cases c41:(Go.bits .and .i64 (rd t625 x47_4) (Go.bits .and .i64 (rd t625 x18_1) (rd y629 x27_2))) = (Go.bits .and .i64 (rd t625 x18_1) (rd y629 x27_2))
                        ·rw [if_pos c41] at H;have c41b0:((Go.bits .and .i64 (rd t625 x47_4) (Go.bits .and .i64 (rd t625 x18_1) (rd y629 x27_2))) == (Go.bits .and .i64 (rd t625 x18_1) (rd y629 x27_2))) = true:=beq_iff_eq.mpr c41;have c41b1:((Go.bits .and .i64 (rd t625 x47_4) (Go.bits .and .i64 (rd t625 x18_1) (rd y629 x27_2))) != (Go.bits .and .i64 (rd t625 x18_1) (rd y629 x27_2))) = false:=bne_eq_false_iff_eq.mpr c41;clear c41;have H':=Aside0.mk H;clear H;have hnb42:=NB623_624.out;have hnc42:=NB624_623.out;have hcz43_0:wr.cell? ⟨gb623,0,none⟩ = some (.int .i64 a0_0):=(blk_cell BK623.out 0).trans rfl;have hcz43_1:wr.cell? ⟨gb623,1,none⟩ = some (.slice A0_1 l0_1.length c0_1):=(blk_cell BK623.out 1).trans rfl;have hfz43_0:=blk_frozen BK623.out 0;have hfz43_1:=blk_frozen BK623.out 1;have p637:0 ≤ ((rd t625 x47_4):Int):=of_decide_eq_true ab;have q637:(rd t625 x47_4) < (l0_1.length:Int):=of_decide_eq_true ab;obtain ⟨ad637,e637,hx637_0⟩:=Kd.at_bool HR0_1.out (rd t625 x47_4) p637 q637;(try rw [← Nbq37.out] at hx637_0)
                         cases e637
                         replace hx637_0:=(HB.out.cell (World.block_lt_of_cell? w _ hx637_0)).trans hx637_0;replace p637:=eq_true p637;replace q637:=eq_true q637;go_wp2
                         go_meet
                         case rel=>exact ⟨_,(((Go.bits .andNot .i64 (rd t625 x47_4) (Go.bits .or .i64 (rd t625 x18_1) (rd y629 x27_2))) != 0)),(by first|rfl|(simp;done)|(simp [*];done)),H',⟨by have:=HK1.out;have:=HK2.out;have:=HJ18.out;have:=HK4.out;first|omega|exact Nat.le_refl _⟩,⟨by (with_reducible repeat (first|apply Kd.R_alloc|apply Kd.R_drewN|apply Kd.R_drew));exact HO_6.out⟩,⟨by (with_reducible repeat (first|apply Kd.R_alloc|apply Kd.R_drewN|apply Kd.R_drew));exact HO_16.out⟩,⟨by (with_reducible repeat (first|apply Kd.R_alloc|apply Kd.R_drewN|apply Kd.R_drew));exact HO_45.out⟩,⟨by (with_reducible repeat (first|refine blk_drewN ?_ _|refine blk_drew ?_|refine blk_alloc ?_ _));exact BK623.out⟩,⟨by (with_reducible repeat (first|refine blk_drewN ?_ _|refine blk_drew ?_|refine blk_alloc ?_ _));exact BK624.out⟩,⟨by repeat (first|(with_reducible exact HR632.out)|(with_reducible refine Kd.C_alloc ?_ _)|(with_reducible refine Kd.C_drewN ?_ _)|(with_reducible refine Kd.C_drew ?_)|exact HR632.out)⟩,⟨by repeat (first|(with_reducible first|exact HB.out|apply below_alloc|apply pw_below_drewN|apply below_drew1|refine below_set ?_ GE623.out|refine below_set ?_ GE624.out)|exact HB.out)⟩⟩
                        ·rw [if_neg c41] at H;have c41b0:((Go.bits .and .i64 (rd t625 x47_4) (Go.bits .and .i64 (rd t625 x18_1) (rd y629 x27_2))) == (Go.bits .and .i64 (rd t625 x18_1) (rd y629 x27_2))) = false:=beq_eq_false_iff_ne.mpr c41;have c41b1:((Go.bits .and .i64 (rd t625 x47_4) (Go.bits .and .i64 (rd t625 x18_1) (rd y629 x27_2))) != (Go.bits .and .i64 (rd t625 x18_1) (rd y629 x27_2))) = true:=bne_iff_ne.mpr c41;have H':=Aside0.mk H;clear H;have hnb44:=NB623_624.out;have hnc44:=NB624_623.out;have hcz45_0:wr.cell? ⟨gb623,0,none⟩ = some (.int .i64 a0_0):=(blk_cell BK623.out 0).trans rfl;have hcz45_1:wr.cell? ⟨gb623,1,none⟩ = some (.slice A0_1 l0_1.length c0_1):=(blk_cell BK623.out 1).trans rfl;have hfz45_0:=blk_frozen BK623.out 0;have hfz45_1:=blk_frozen BK623.out 1;have p637:0 ≤ ((rd t625 x47_4):Int):=of_decide_eq_true ab;have q637:(rd t625 x47_4) < (l0_1.length:Int):=of_decide_eq_true ab;obtain ⟨ad637,e637,hx637_0⟩:=Kd.at_bool HR0_1.out (rd t625 x47_4) p637 q637;(try rw [← Nbq37.out] at hx637_0)
                         cases e637
                         replace hx637_0:=(HB.out.cell (World.block_lt_of_cell? w _ hx637_0)).trans hx637_0;replace p637:=eq_true p637;replace q637:=eq_true q637;go_wp2
                         go_meet
                         case rel=>exact ⟨_,(true),(by first|rfl|(simp;done)|(simp [*];done)),H',⟨by have:=HK1.out;have:=HK2.out;have:=HJ18.out;have:=HK4.out;first|omega|exact Nat.le_refl _⟩,⟨by (with_reducible repeat (first|apply Kd.R_alloc|apply Kd.R_drewN|apply Kd.R_drew));exact HO_6.out⟩,⟨by (with_reducible repeat (first|apply Kd.R_alloc|apply Kd.R_drewN|apply Kd.R_drew));exact HO_16.out⟩,⟨by (with_reducible repeat (first|apply Kd.R_alloc|apply Kd.R_drewN|apply Kd.R_drew));exact HO_45.out⟩,⟨by (with_reducible repeat (first|refine blk_drewN ?_ _|refine blk_drew ?_|refine blk_alloc ?_ _));exact BK623.out⟩,⟨by (with_reducible repeat (first|refine blk_drewN ?_ _|refine blk_drew ?_|refine blk_alloc ?_ _));exact BK624.out⟩,⟨by repeat (first|(with_reducible exact HR632.out)|(with_reducible refine Kd.C_alloc ?_ _)|(with_reducible refine Kd.C_drewN ?_ _)|(with_reducible refine Kd.C_drew ?_)|exact HR632.out)⟩,⟨by repeat (first|(with_reducible first|exact HB.out|apply below_alloc|apply pw_below_drewN|apply below_drew1|refine below_set ?_ GE623.out|refine below_set ?_ GE624.out)|exact HB.out)⟩⟩
                      ·rw [if_neg c36] at H;exact absurd H (by simp)
                     ·rw [if_neg c35] at H;exact absurd H (by simp)
                    case rest =>
                     clear HC34
                     try clear c1
                     try clear p1
                     try clear q1
                     try clear c2
                     try clear p2
                     try clear q2
                     try clear c3
                     try clear q3
                     try clear c4
                     try clear c6
                     try clear p6
                     try clear q6
                     try clear hx6
                     try clear c10
                     try clear c10b0
                     try clear c11
                     try clear c11b0
                     try clear c12
                     try clear c12b0
                     try clear c13
                     try clear c13b0
                     try clear c14
                     try clear c14b0
                     try clear c14b1
                     try clear c15
                     try clear q15
                     try clear c16
                     try clear c16b0
                     try clear c17
                     try clear c17b0
                     try clear c18
                     try clear c18b0
                     try clear c20
                     try clear c20b0
                     try clear c21
                     try clear c21b0
                     try clear q22
                     try clear c23
                     try clear c24
                     try clear c24b0
                     try clear c25
                     try clear c25b0
                     try clear c26
                     try clear c28
                     try clear c30
                     try clear c31
                     try clear c31b0
                     try clear c32
                     try clear c32b0
                     try clear c33
                     try clear c33b0
                     try clear c35
                     try clear c35b0
                     try clear c36
                     try clear c36b0
                     try clear q37
                     try clear c38
                     try clear c39
                     try clear c41
                     try clear c41b0
                     try clear c41b1
                     try clear c42
                     try clear c44
                     try clear hcz27_0
                     try clear hcz27_1
                     try clear hcz29_0
                     try clear hcz29_1
                     try clear hcz40_0
                     try clear hcz40_1
                     try clear hcz43_0
                     try clear hcz43_1
                     try clear hcz45_0
                     try clear hcz45_1
                     try clear hcz7_0
                     try clear hcz7_1
                     try clear hfz27_0
                     try clear hfz27_1
                     try clear hfz29_0
                     try clear hfz29_1
                     try clear hfz40_0
                     try clear hfz40_1
                     try clear hfz43_0
                     try clear hfz43_1
                     try clear hfz45_0
                     try clear hfz45_1
                     try clear hfz7_0
                     try clear hfz7_1
                     try clear hx628_0
                     try clear hx633_0
                     try clear hx634_0
                     try clear hx635_0
                     try clear hx636_0
                     try clear hx637_0
                     try clear p1
                     try clear p2
                     try clear p6
                     try clear p628
                     try clear p633
                     try clear p634
                     try clear p635
                     try clear p636
                     try clear p637
                     try clear q015
                     try clear q1
                     try clear q15
                     try clear q2
                     try clear q22
                     try clear q6
                     try clear q628
                     try clear q633
                     try clear q634
                     try clear q635
                     try clear q636
                     try clear q637
                     obtain ⟨kq,x75_33,rfl,HA,HJ33,HO_6,HO_16,HO_45,BK623,BK624,HR632,HB⟩:=hcut
                     cases kq with
                     | zero=>exact absurd HA.out (by simp [impl_votes_firstOfTwo.j4])
                     | succ kj33 =>
                      have H:=HA.out;clear HA;simp only [impl_votes_firstOfTwo.j4] at H;by_cases c46:x75_33 = true
                      ·subst c46;have H1:(impl_votes_firstOfTwo.l2 kj33 a1 t625 (rd t625 x18_1) (rd y629 x27_2) t625 (t625.length:Int) x18_1 y629 (y629.length:Int) x27_2 t625 (t625.length:Int) (wrap64 (x47_4 + 1)) a0_0 l0_1) = some (r1,r2,r3):=by rw [if_pos rfl] at H;exact H
                       clear H;have H:=H1;clear H1;have H':=Aside0.mk H;clear H;go_wp2
                       go_roundg kj33
                       case measure=>have:=HK1.out;have:=HK2.out;have:=HJ18.out;have:=HK4.out;have:=HJ33.out;omega
                       case rel=>exact ⟨(wrap64 (x47_4 + 1)),(by first|rfl|(simp;done)|(simp [*];done)),H',⟨by have:=HK1.out;have:=HK2.out;have:=HJ18.out;have:=HK4.out;have:=HJ33.out;omega⟩,⟨by (with_reducible repeat (first|apply Kd.R_alloc|apply Kd.R_drewN|apply Kd.R_drew));exact HO_6.out⟩,⟨by (with_reducible repeat (first|apply Kd.R_alloc|apply Kd.R_drewN|apply Kd.R_drew));exact HO_16.out⟩,⟨by (with_reducible repeat (first|apply Kd.R_alloc|apply Kd.R_drewN|apply Kd.R_drew));exact HO_45.out⟩,⟨by (with_reducible repeat (first|refine blk_drewN ?_ _|refine blk_drew ?_|refine blk_alloc ?_ _));exact BK623.out⟩,⟨by (with_reducible repeat (first|refine blk_drewN ?_ _|refine blk_drew ?_|refine blk_alloc ?_ _));exact BK624.out⟩,⟨by repeat (first|(with_reducible exact HR632.out)|(with_reducible refine Kd.C_alloc ?_ _)|(with_reducible refine Kd.C_drewN ?_ _)|(with_reducible refine Kd.C_drew ?_)|exact HR632.out)⟩,⟨by repeat (first|(with_reducible first|exact HB.out|apply below_alloc|apply pw_below_drewN|apply below_drew1|refine below_set ?_ GE623.out|refine below_set ?_ GE624.out)|exact HB.out)⟩⟩
                      ·replace c46:=Bool.eq_false_iff.mpr c46;subst c46;have H1:(if 0 ≤ (Go.bits .or .i64 (Go.bits .and .i64 (rd t625 x18_1) (rd y629 x27_2)) (Go.bits .andNot .i64 (Go.bits .or .i64 (rd t625 x18_1) (rd y629 x27_2)) (rd t625 x47_4))) then (if (Go.bits .or .i64 (Go.bits .and .i64 (rd t625 x18_1) (rd y629 x27_2)) (Go.bits .andNot .i64 (Go.bits .or .i64 (rd t625 x18_1) (rd y629 x27_2)) (rd t625 x47_4))) < (l0_1.length:Int) then (if (rdOf false l0_1 (Go.bits .or .i64 (Go.bits .and .i64 (rd t625 x18_1) (rd y629 x27_2)) (Go.bits .andNot .i64 (Go.bits .or .i64 (rd t625 x18_1) (rd y629 x27_2)) (rd t625 x47_4))) = true) then (impl_votes_firstOfTwo.l2 kj33 a1 t625 (rd t625 x18_1) (rd y629 x27_2) t625 (t625.length:Int) x18_1 y629 (y629.length:Int) x27_2 t625 (t625.length:Int) (wrap64 (x47_4 + 1)) a0_0 l0_1) else (if 0 ≤ x47_4 then (if x47_4 ≤ (t625.length:Int) then ((slices_Contains_int_int.f kj33 (t625.drop (x47_4:Int).toNat) (Go.bits .or .i64 (Go.bits .and .i64 (rd t625 x18_1) (rd y629 x27_2)) (Go.bits .andNot .i64 (Go.bits .or .i64 (rd t625 x18_1) (rd y629 x27_2)) (rd t625 x47_4)))).bind fun t643=>(if t643 = true then ((a1 (rd t625 x18_1) (rd y629 x27_2) (rd t625 x47_4) (Go.bits .or .i64 (Go.bits .and .i64 (rd t625 x18_1) (rd y629 x27_2)) (Go.bits .andNot .i64 (Go.bits .or .i64 (rd t625 x18_1) (rd y629 x27_2)) (rd t625 x47_4)))).bind fun t644=>(if t644 = true then ((impl_pairs.f kj33 (([(rd t625 x18_1),(rd y629 x27_2)]:List Int)) (([(rd t625 x47_4),Go.bits .or .i64 (Go.bits .and .i64 (rd t625 x18_1) (rd y629 x27_2)) (Go.bits .andNot .i64 (Go.bits .or .i64 (rd t625 x18_1) (rd y629 x27_2)) (rd t625 x47_4))]:List Int))).bind fun bt651=>(some (bt651.1,bt651.2,true))) else (impl_votes_firstOfTwo.l2 kj33 a1 t625 (rd t625 x18_1) (rd y629 x27_2) t625 (t625.length:Int) x18_1 y629 (y629.length:Int) x27_2 t625 (t625.length:Int) (wrap64 (x47_4 + 1)) a0_0 l0_1))) else (impl_votes_firstOfTwo.l2 kj33 a1 t625 (rd t625 x18_1) (rd y629 x27_2) t625 (t625.length:Int) x18_1 y629 (y629.length:Int) x27_2 t625 (t625.length:Int) (wrap64 (x47_4 + 1)) a0_0 l0_1))) else (none)) else (none))) else (none)) else (none)) = some (r1,r2,r3):=by rw [if_neg (show ¬ (false = true) by decide)] at H;exact H
                       clear H;have H:=H1;clear H1;by_cases c47:0 ≤ (Go.bits .or .i64 (Go.bits .and .i64 (rd t625 x18_1) (rd y629 x27_2)) (Go.bits .andNot .i64 (Go.bits .or .i64 (rd t625 x18_1) (rd y629 x27_2)) (rd t625 x47_4)))
                       ·rw [if_pos c47] at H;have c47b0:decide (0 ≤ (Go.bits .or .i64 (Go.bits .and .i64 (rd t625 x18_1) (rd y629 x27_2)) (Go.bits .andNot .i64 (Go.bits .or .i64 (rd t625 x18_1) (rd y629 x27_2)) (rd t625 x47_4)))) = true:=decide_eq_true c47;clear c47;by_cases c48:(Go.bits .or .i64 (Go.bits .and .i64 (rd t625 x18_1) (rd y629 x27_2)) (Go.bits .andNot .i64 (Go.bits .or .i64 (rd t625 x18_1) (rd y629 x27_2)) (rd t625 x47_4))) < (l0_1.length:Int)
                        ·rw [if_pos c48] at H;have c48b0:decide ((Go.bits .or .i64 (Go.bits .and .i64 (rd t625 x18_1) (rd y629 x27_2)) (Go.bits .andNot .i64 (Go.bits .or .i64 (rd t625 x18_1) (rd y629 x27_2)) (rd t625 x47_4))) < (l0_1.length:Int)) = true:=decide_eq_true c48;clear c48;obtain ⟨bq49,hbq49⟩:∃ b_:Bool,b_ = (rdOf false l0_1 (Go.bits .or .i64 (Go.bits .and .i64 (rd t625 x18_1) (rd y629 x27_2)) (Go.bits .andNot .i64 (Go.bits .or .i64 (rd t625 x18_1) (rd y629 x27_2)) (rd t625 x47_4)))):=⟨_,rfl⟩;replace H:(if (bq49 = true) then (impl_votes_firstOfTwo.l2 kj33 a1 t625 (rd t625 x18_1) (rd y629 x27_2) t625 (t625.length:Int) x18_1 y629 (y629.length:Int) x27_2 t625 (t625.length:Int) (wrap64 (x47_4 + 1)) a0_0 l0_1) else (if 0 ≤ x47_4 then (if x47_4 ≤ (t625.length:Int) then ((slices_Contains_int_int.f kj33 (t625.drop (x47_4:Int).toNat) (Go.bits .or .i64 (Go.bits .and .i64 (rd t625 x18_1) (rd y629 x27_2)) (Go.bits .andNot .i64 (Go.bits .or .i64 (rd t625 x18_1) (rd y629 x27_2)) (rd t625 x47_4)))).bind fun t643=>(if t643 = true then ((a1 (rd t625 x18_1) (rd y629 x27_2) (rd t625 x47_4) (Go.bits .or .i64 (Go.bits .and .i64 (rd t625 x18_1) (rd y629 x27_2)) (Go.bits .andNot .i64 (Go.bits .or .i64 (rd t625 x18_1) (rd y629 x27_2)) (rd t625 x47_4)))).bind fun t644=>(if t644 = true then ((impl_pairs.f kj33 (([(rd t625 x18_1),(rd y629 x27_2)]:List Int)) (([(rd t625 x47_4),Go.bits .or .i64 (Go.bits .and .i64 (rd t625 x18_1) (rd y629 x27_2)) (Go.bits .andNot .i64 (Go.bits .or .i64 (rd t625 x18_1) (rd y629 x27_2)) (rd t625 x47_4))]:List Int))).bind fun bt651=>(some (bt651.1,bt651.2,true))) else (impl_votes_firstOfTwo.l2 kj33 a1 t625 (rd t625 x18_1) (rd y629 x27_2) t625 (t625.length:Int) x18_1 y629 (y629.length:Int) x27_2 t625 (t625.length:Int) (wrap64 (x47_4 + 1)) a0_0 l0_1))) else (impl_votes_firstOfTwo.l2 kj33 a1 t625 (rd t625 x18_1) (rd y629 x27_2) t625 (t625.length:Int) x18_1 y629 (y629.length:Int) x27_2 t625 (t625.length:Int) (wrap64 (x47_4 + 1)) a0_0 l0_1))) else (none)) else (none))) = some (r1,r2,r3):=by rw [← hbq49] at H;exact H
                         have Nbq49:=Aside0.mk hbq49;clear hbq49;by_cases c50:(bq49 = true)
                         ·subst c50;have H1:(impl_votes_firstOfTwo.l2 kj33 a1 t625 (rd t625 x18_1) (rd y629 x27_2) t625 (t625.length:Int) x18_1 y629 (y629.length:Int) x27_2 t625 (t625.length:Int) (wrap64 (x47_4 + 1)) a0_0 l0_1) = some (r1,r2,r3):=by rw [if_pos rfl] at H;exact H
                          clear H;have H:=H1;clear H1;have H':=Aside0.mk H;clear H;have hnb51:=NB623_624.out;have hnc51:=NB624_623.out;have hcz52_0:wc.cell? ⟨gb623,0,none⟩ = some (.int .i64 a0_0):=(blk_cell BK623.out 0).trans rfl;have hcz52_1:wc.cell? ⟨gb623,1,none⟩ = some (.slice A0_1 l0_1.length c0_1):=(blk_cell BK623.out 1).trans rfl;have hfz52_0:=blk_frozen BK623.out 0;have hfz52_1:=blk_frozen BK623.out 1;have p638:0 ≤ ((Go.bits .or .i64 (Go.bits .and .i64 (rd t625 x18_1) (rd y629 x27_2)) (Go.bits .andNot .i64 (Go.bits .or .i64 (rd t625 x18_1) (rd y629 x27_2)) (rd t625 x47_4))):Int):=of_decide_eq_true ab;have q638:(Go.bits .or .i64 (Go.bits .and .i64 (rd t625 x18_1) (rd y629 x27_2)) (Go.bits .andNot .i64 (Go.bits .or .i64 (rd t625 x18_1) (rd y629 x27_2)) (rd t625 x47_4))) < (l0_1.length:Int):=of_decide_eq_true ab;obtain ⟨ad638,e638,hx638_0⟩:=Kd.at_bool HR0_1.out (Go.bits .or .i64 (Go.bits .and .i64 (rd t625 x18_1) (rd y629 x27_2)) (Go.bits .andNot .i64 (Go.bits .or .i64 (rd t625 x18_1) (rd y629 x27_2)) (rd t625 x47_4))) p638 q638;(try rw [← Nbq49.out] at hx638_0)
                          cases e638
                          replace hx638_0:=(HB.out.cell (World.block_lt_of_cell? w _ hx638_0)).trans hx638_0;replace p638:=eq_true p638;replace q638:=eq_true q638;go_wp2
                          go_roundg kj33
                          case measure=>have:=HK1.out;have:=HK2.out;have:=HJ18.out;have:=HK4.out;have:=HJ33.out;omega
                          case rel=>exact ⟨(wrap64 (x47_4 + 1)),(by first|rfl|(simp;done)|(simp [*];done)),H',⟨by have:=HK1.out;have:=HK2.out;have:=HJ18.out;have:=HK4.out;have:=HJ33.out;omega⟩,⟨by (with_reducible repeat (first|apply Kd.R_alloc|apply Kd.R_drewN|apply Kd.R_drew));exact HO_6.out⟩,⟨by (with_reducible repeat (first|apply Kd.R_alloc|apply Kd.R_drewN|apply Kd.R_drew));exact HO_16.out⟩,⟨by (with_reducible repeat (first|apply Kd.R_alloc|apply Kd.R_drewN|apply Kd.R_drew));exact HO_45.out⟩,⟨by (with_reducible repeat (first|refine blk_drewN ?_ _|refine blk_drew ?_|refine blk_alloc ?_ _));exact BK623.out⟩,⟨by (with_reducible repeat (first|refine blk_drewN ?_ _|refine blk_drew ?_|refine blk_alloc ?_ _));exact BK624.out⟩,⟨by repeat (first|(with_reducible exact HR632.out)|(with_reducible refine Kd.C_alloc ?_ _)|(with_reducible refine Kd.C_drewN ?_ _)|(with_reducible refine Kd.C_drew ?_)|exact HR632.out)⟩,⟨by repeat (first|(with_reducible first|exact HB.out|apply below_alloc|apply pw_below_drewN|apply below_drew1|refine below_set ?_ GE623.out|refine below_set ?_ GE624.out)|exact HB.out)⟩⟩
                         ·replace c50:=Bool.eq_false_iff.mpr c50;subst c50;have H1:(if 0 ≤ x47_4 then (if x47_4 ≤ (t625.length:Int) then ((slices_Contains_int_int.f kj33 (t625.drop (x47_4:Int).toNat) (Go.bits .or .i64 (Go.bits .and .i64 (rd t625 x18_1) (rd y629 x27_2)) (Go.bits .andNot .i64 (Go.bits .or .i64 (rd t625 x18_1) (rd y629 x27_2)) (rd t625 x47_4)))).bind fun t643=>(if t643 = true then ((a1 (rd t625 x18_1) (rd y629 x27_2) (rd t625 x47_4) (Go.bits .or .i64 (Go.bits .and .i64 (rd t625 x18_1) (rd y629 x27_2)) (Go.bits .andNot .i64 (Go.bits .or .i64 (rd t625 x18_1) (rd y629 x27_2)) (rd t625 x47_4)))).bind fun t644=>(if t644 = true then ((impl_pairs.f kj33 (([(rd t625 x18_1),(rd y629 x27_2)]:List Int)) (([(rd t625 x47_4),Go.bits .or .i64 (Go.bits .and .i64 (rd t625 x18_1) (rd y629 x27_2)) (Go.bits .andNot .i64 (Go.bits .or .i64 (rd t625 x18_1) (rd y629 x27_2)) (rd t625 x47_4))]:List Int))).bind fun bt651=>(some (bt651.1,bt651.2,true))) else (impl_votes_firstOfTwo.l2 kj33 a1 t625 (rd t625 x18_1) (rd y629 x27_2) t625 (t625.length:Int) x18_1 y629 (y629.length:Int) x27_2 t625 (t625.length:Int) (wrap64 (x47_4 + 1)) a0_0 l0_1))) else (impl_votes_firstOfTwo.l2 kj33 a1 t625 (rd t625 x18_1) (rd y629 x27_2) t625 (t625.length:Int) x18_1 y629 (y629.length:Int) x27_2 t625 (t625.length:Int) (wrap64 (x47_4 + 1)) a0_0 l0_1))) else (none)) else (none)) = some (r1,r2,r3):=by rw [if_neg (show ¬ (false = true) by decide)] at H;exact H
                          clear H;have H:=H1;clear H1;by_cases c53:0 ≤ x47_4
                          ·rw [if_pos c53] at H;have c53b0:=eq_true c53;have c53b1:decide (0 ≤ x47_4) = true:=decide_eq_true c53;clear c53;by_cases c54:x47_4 ≤ (t625.length:Int)
                           ·rw [if_pos c54] at H;have c54b0:=eq_true c54;have c54b1:decide (x47_4 ≤ (t625.length:Int)) = true:=decide_eq_true c54;clear c54;obtain ⟨y639,hy639⟩:∃ y_:List Int,y_ = (t625.drop (x47_4:Int).toNat):=⟨_,rfl⟩;replace H:((slices_Contains_int_int.f kj33 y639 (Go.bits .or .i64 (Go.bits .and .i64 (rd t625 x18_1) (rd y629 x27_2)) (Go.bits .andNot .i64 (Go.bits .or .i64 (rd t625 x18_1) (rd y629 x27_2)) (rd t625 x47_4)))).bind fun t643=>(if t643 = true then ((a1 (rd t625 x18_1) (rd y629 x27_2) (rd t625 x47_4) (Go.bits .or .i64 (Go.bits .and .i64 (rd t625 x18_1) (rd y629 x27_2)) (Go.bits .andNot .i64 (Go.bits .or .i64 (rd t625 x18_1) (rd y629 x27_2)) (rd t625 x47_4)))).bind fun t644=>(if t644 = true then ((impl_pairs.f kj33 (([(rd t625 x18_1),(rd y629 x27_2)]:List Int)) (([(rd t625 x47_4),Go.bits .or .i64 (Go.bits .and .i64 (rd t625 x18_1) (rd y629 x27_2)) (Go.bits .andNot .i64 (Go.bits .or .i64 (rd t625 x18_1) (rd y629 x27_2)) (rd t625 x47_4))]:List Int))).bind fun bt651=>(some (bt651.1,bt651.2,true))) else (impl_votes_firstOfTwo.l2 kj33 a1 t625 (rd t625 x18_1) (rd y629 x27_2) t625 (t625.length:Int) x18_1 y629 (y629.length:Int) x27_2 t625 (t625.length:Int) (wrap64 (x47_4 + 1)) a0_0 l0_1))) else (impl_votes_firstOfTwo.l2 kj33 a1 t625 (rd t625 x18_1) (rd y629 x27_2) t625 (t625.length:Int) x18_1 y629 (y629.length:Int) x27_2 t625 (t625.length:Int) (wrap64 (x47_4 + 1)) a0_0 l0_1))) = some (r1,r2,r3):=by first|(rw [hy639];with_reducible exact H)|(have H2_:=(Option.bind_some _ _).symm.trans H;rw [hy639];with_reducible exact H2_)|(have H2_:=(Option.bind_some _ _).symm.trans H;with_reducible exact H2_)|with_reducible exact H|(rw [hy639];exact H)|exact H
                            have Ny639:=Aside0.mk hy639;clear hy639;replace H:=Option.bind_eq_some_iff.mp H;obtain ⟨t643,A550,H⟩:=H;replace H:(if t643 = true then ((a1 (rd t625 x18_1) (rd y629 x27_2) (rd t625 x47_4) (Go.bits .or .i64 (Go.bits .and .i64 (rd t625 x18_1) (rd y629 x27_2)) (Go.bits .andNot .i64 (Go.bits .or .i64 (rd t625 x18_1) (rd y629 x27_2)) (rd t625 x47_4)))).bind fun t644=>(if t644 = true then ((impl_pairs.f kj33 (([(rd t625 x18_1),(rd y629 x27_2)]:List Int)) (([(rd t625 x47_4),Go.bits .or .i64 (Go.bits .and .i64 (rd t625 x18_1) (rd y629 x27_2)) (Go.bits .andNot .i64 (Go.bits .or .i64 (rd t625 x18_1) (rd y629 x27_2)) (rd t625 x47_4))]:List Int))).bind fun bt651=>(some (bt651.1,bt651.2,true))) else (impl_votes_firstOfTwo.l2 kj33 a1 t625 (rd t625 x18_1) (rd y629 x27_2) t625 (t625.length:Int) x18_1 y629 (y629.length:Int) x27_2 t625 (t625.length:Int) (wrap64 (x47_4 + 1)) a0_0 l0_1))) else (impl_votes_firstOfTwo.l2 kj33 a1 t625 (rd t625 x18_1) (rd y629 x27_2) t625 (t625.length:Int) x18_1 y629 (y629.length:Int) x27_2 t625 (t625.length:Int) (wrap64 (x47_4 + 1)) a0_0 l0_1)) = some (r1,r2,r3):=H;have A55:=Aside0.mk A550;clear A550;by_cases c56:t643 = true
                            ·subst c56;have H1:((a1 (rd t625 x18_1) (rd y629 x27_2) (rd t625 x47_4) (Go.bits .or .i64 (Go.bits .and .i64 (rd t625 x18_1) (rd y629 x27_2)) (Go.bits .andNot .i64 (Go.bits .or .i64 (rd t625 x18_1) (rd y629 x27_2)) (rd t625 x47_4)))).bind fun t644=>(if t644 = true then ((impl_pairs.f kj33 (([(rd t625 x18_1),(rd y629 x27_2)]:List Int)) (([(rd t625 x47_4),Go.bits .or .i64 (Go.bits .and .i64 (rd t625 x18_1) (rd y629 x27_2)) (Go.bits .andNot .i64 (Go.bits .or .i64 (rd t625 x18_1) (rd y629 x27_2)) (rd t625 x47_4))]:List Int))).bind fun bt651=>(some (bt651.1,bt651.2,true))) else (impl_votes_firstOfTwo.l2 kj33 a1 t625 (rd t625 x18_1) (rd y629 x27_2) t625 (t625.length:Int) x18_1 y629 (y629.length:Int) x27_2 t625 (t625.length:Int) (wrap64 (x47_4 + 1)) a0_0 l0_1))) = some (r1,r2,r3):=by rw [if_pos rfl] at H;exact H
                             clear H;have H:=H1;clear H1;replace H:=Option.bind_eq_some_iff.mp H;obtain ⟨t644,A570,H⟩:=H;replace H:(if t644 = true then ((impl_pairs.f kj33 (([(rd t625 x18_1),(rd y629 x27_2)]:List Int)) (([(rd t625 x47_4),Go.bits .or .i64 (Go.bits .and .i64 (rd t625 x18_1) (rd y629 x27_2)) (Go.bits .andNot .i64 (Go.bits .or .i64 (rd t625 x18_1) (rd y629 x27_2)) (rd t625 x47_4))]:List Int))).bind fun bt651=>(some (bt651.1,bt651.2,true))) else (impl_votes_firstOfTwo.l2 kj33 a1 t625 (rd t625 x18_1) (rd y629 x27_2) t625 (t625.length:Int) x18_1 y629 (y629.length:Int) x27_2 t625 (t625.length:Int) (wrap64 (x47_4 + 1)) a0_0 l0_1)) = some (r1,r2,r3):=H;have A57:=Aside0.mk A570;clear A570;by_cases c58:t644 = true
                             ·subst c58;have H1:((impl_pairs.f kj33 (([(rd t625 x18_1),(rd y629 x27_2)]:List Int)) (([(rd t625 x47_4),Go.bits .or .i64 (Go.bits .and .i64 (rd t625 x18_1) (rd y629 x27_2)) (Go.bits .andNot .i64 (Go.bits .or .i64 (rd t625 x18_1) (rd y629 x27_2)) (rd t625 x47_4))]:List Int))).bind fun bt651=>(some (bt651.1,bt651.2,true))) = some (r1,r2,r3):=by rw [if_pos rfl] at H;exact H
                              clear H;have H:=H1;clear H1;obtain ⟨y645,hy645⟩:∃ y_:List Int,y_ = (([(rd t625 x18_1),(rd y629 x27_2)]:List Int)):=⟨_,rfl⟩;replace H:((impl_pairs.f kj33 y645 (([(rd t625 x47_4),Go.bits .or .i64 (Go.bits .and .i64 (rd t625 x18_1) (rd y629 x27_2)) (Go.bits .andNot .i64 (Go.bits .or .i64 (rd t625 x18_1) (rd y629 x27_2)) (rd t625 x47_4))]:List Int))).bind fun bt651=>(some (bt651.1,bt651.2,true))) = some (r1,r2,r3):=by first|(rw [hy645];with_reducible exact H)|(have H2_:=(Option.bind_some _ _).symm.trans H;rw [hy645];with_reducible exact H2_)|(have H2_:=(Option.bind_some _ _).symm.trans H;with_reducible exact H2_)|with_reducible exact H|(rw [hy645];exact H)|exact H
                              have Ny645:=Aside0.mk hy645;clear hy645;obtain ⟨y648,hy648⟩:∃ y_:List Int,y_ = (([(rd t625 x47_4),Go.bits .or .i64 (Go.bits .and .i64 (rd t625 x18_1) (rd y629 x27_2)) (Go.bits .andNot .i64 (Go.bits .or .i64 (rd t625 x18_1) (rd y629 x27_2)) (rd t625 x47_4))]:List Int)):=⟨_,rfl⟩;replace H:((impl_pairs.f kj33 y645 y648).bind fun bt651=>(some (bt651.1,bt651.2,true))) = some (r1,r2,r3):=by first|(rw [hy648];with_reducible exact H)|(have H2_:=(Option.bind_some _ _).symm.trans H;rw [hy648];with_reducible exact H2_)|(have H2_:=(Option.bind_some _ _).symm.trans H;with_reducible exact H2_)|with_reducible exact H|(rw [hy648];exact H)|exact H
                              have Ny648:=Aside0.mk hy648;clear hy648;replace H:=Option.bind_eq_some_iff.mp H;obtain ⟨⟨t651,t654⟩,A590,H⟩:=H;replace H:(some (t651,t654,true)) = some (r1,r2,r3):=H;have A59:=Aside0.mk A590;clear A590;simp only [Option.some.injEq,Prod.mk.injEq] at H;obtain ⟨rfl,rfl,rfl⟩:=H;have hnb60:=NB623_624.out;have hnc60:=NB624_623.out;have hcz61_0:wc.cell? ⟨gb623,0,none⟩ = some (.int .i64 a0_0):=(blk_cell BK623.out 0).trans rfl;have hcz61_1:wc.cell? ⟨gb623,1,none⟩ = some (.slice A0_1 l0_1.length c0_1):=(blk_cell BK623.out 1).trans rfl;have hfz61_0:=blk_frozen BK623.out 0;have hfz61_1:=blk_frozen BK623.out 1;have p638:0 ≤ ((Go.bits .or .i64 (Go.bits .and .i64 (rd t625 x18_1) (rd y629 x27_2)) (Go.bits .andNot .i64 (Go.bits .or .i64 (rd t625 x18_1) (rd y629 x27_2)) (rd t625 x47_4))):Int):=of_decide_eq_true ab;have q638:(Go.bits .or .i64 (Go.bits .and .i64 (rd t625 x18_1) (rd y629 x27_2)) (Go.bits .andNot .i64 (Go.bits .or .i64 (rd t625 x18_1) (rd y629 x27_2)) (rd t625 x47_4))) < (l0_1.length:Int):=of_decide_eq_true ab;obtain ⟨ad638,e638,hx638_0⟩:=Kd.at_bool HR0_1.out (Go.bits .or .i64 (Go.bits .and .i64 (rd t625 x18_1) (rd y629 x27_2)) (Go.bits .andNot .i64 (Go.bits .or .i64 (rd t625 x18_1) (rd y629 x27_2)) (rd t625 x47_4))) p638 q638;(try rw [← Nbq49.out] at hx638_0)
                              cases e638
                              replace hx638_0:=(HB.out.cell (World.block_lt_of_cell? w _ hx638_0)).trans hx638_0;replace p638:=eq_true p638;replace q638:=eq_true q638;have q62:(x47_4:Int) ≤ ((t625.length:Int):Int):=of_decide_eq_true ab;obtain ⟨i062,hi062,_,hsz62,_⟩:=info_parts info3;have hroom62:t625.length ≤ co9:=(Kd.R_reads' HO_6.out).2.1;have hC62:Kd.C (Kd.int .i64) _ (some ad628) t625.length t625:=(Kd.R_reads' HO_6.out).2.2;have q062:(0:Int) ≤ (x47_4:Int):=of_decide_eq_true ab;have hcut62:=cut_from (P:=Try.prog) 40 3 .i64 Try.underlying40 hi062 1 hsz62 (some ad628) t625.length co9 x47_4 q062 q62;have hr62:=Kd.C_drop (m:=(x47_4:Int).toNat) (c:=co9) hC62 (by omega) hroom62;obtain ⟨A62,hA62⟩:∃ A1,A1 = (if co9 = (x47_4:Int).toNat then (some ad628) else ((some ad628):Option Addr).map (·.add ((x47_4:Int).toNat * 1))):=⟨_,rfl⟩;obtain ⟨c62,hc62⟩:∃ c1,c1 = co9 - (x47_4:Int).toNat:=⟨_,rfl⟩;have hy62:y639.length = t625.length - (x47_4:Int).toNat:=(by rw [Ny639.out,List.length_drop] <;> omega);rw [show (t625).drop (x47_4:Int).toNat = y639 from Ny639.out.symm] at hr62;replace hr62:Kd.C (Kd.int .i64) _ A62 y639.length y639:=(by rw [hA62];exact hr62);rw [← hy62,← hA62,← hc62] at hcut62;have HR642:=Aside0.mk hr62;have HC642:=Aside0.mk (show y639.length ≤ c62 from by rw [hy62,hc62];exact Nat.sub_le_sub_right hroom62 _);clear hr62 hC62 hroom62 hi062 hsz62 hc62;have KY62:=Aside0.mk hy62;have KA62:=Aside0.mk hA62;clear hy62 hA62;have KL62:=Aside0.mk (show (x47_4:Int).toNat ≤ t625.length from by omega);replace q62:=eq_true q62;go_wp2_with (first|(go_at_call 141;(with_reducible refine (slices_Contains_int_int.calls kj33 _ _ y639 (Go.bits .or .i64 (Go.bits .and .i64 (rd t625 x18_1) (rd y629 x27_2)) (Go.bits .andNot .i64 (Go.bits .or .i64 (rd t625 x18_1) (rd y629 x27_2)) (rd t625 x47_4))) true _ ?side1 ?side2 A55.out).mono ?_);(case side1=>repeat (first|exact (by repeat (first|(with_reducible exact HR642.out)|(with_reducible refine Kd.C_alloc ?_ _)|(with_reducible refine Kd.C_drewN ?_ _)|(with_reducible refine Kd.C_drew ?_)|exact HR642.out))|(with_reducible refine Kd.C_alloc ?_ _)|(with_reducible refine Kd.C_drewN ?_ _)|(with_reducible refine Kd.C_drew ?_)));(case side2=>exact HC642.out);rintro e w' ⟨rfl,⟨nd,rfl⟩⟩;(try (rw [drewN_self wc];generalize hq_:World.drewN wc _ = wc;have n0_:Aside0 (Kd.R (Kd.int .i64) 3 wc w.heap.size (fun _=>True) (.slice (some ad628) t625.length co9) t625):=⟨by rw [← hq_];exact (by (with_reducible repeat (first|apply Kd.R_alloc|apply Kd.R_drewN|apply Kd.R_drew));exact HO_16.out)⟩;have n1_:Aside0 (Kd.R (Kd.int .i64) 3 wc w.heap.size (fun _=>True) (.slice (some ad628) t625.length co9) t625):=⟨by rw [← hq_];exact (by (with_reducible repeat (first|apply Kd.R_alloc|apply Kd.R_drewN|apply Kd.R_drew));exact HO_45.out)⟩;have n2_:Aside0 (Kd.R (Kd.int .i64) 3 wc w.heap.size (fun _=>True) (.slice (some ad628) t625.length co9) t625):=⟨by rw [← hq_];exact (by (with_reducible repeat (first|apply Kd.R_alloc|apply Kd.R_drewN|apply Kd.R_drew));exact HO_6.out)⟩;have n3_:Aside0 (wc.heap[gb623]? = some (.cells #[.int .i64 a0_0,.slice (some ad638) l0_1.length c0_1] 68 (0,0))):=⟨by rw [← hq_];exact bk⟩;have n4_:Aside0 (wc.heap[gb624]? = some (.cells #[.slice none 0 0,.slice none 0 0] 77 (0,0))):=⟨by rw [← hq_];exact bk⟩;have n5_:Aside0 (Below w.heap.size w wc):=⟨by rw [← hq_];exact bw⟩;have n6_:Aside0 (Kd.C (Kd.int .i64) wc A62 y639.length y639):=⟨by rw [← hq_];exact (by repeat (first|(with_reducible exact HR642.out)|(with_reducible refine Kd.C_alloc ?_ _)|(with_reducible refine Kd.C_drewN ?_ _)|(with_reducible refine Kd.C_drew ?_)|exact HR642.out))⟩;have m_:Aside0 (Kd.C (Kd.int .i64) wc (some ad633) y629.length y629):=⟨by rw [← hq_];exact Kd.C_drewN HR632.out _⟩;clear HO_16 HO_45 HO_6 BK623 BK624 HB HR642 HR632 hq_;have HO_16:=n0_;have HO_45:=n1_;have HO_6:=n2_;have BK623:=n3_;have BK624:=n4_;have HB:=n5_;have HR642:=n6_;have HR632:=m_;clear m_;clear n0_ n1_ n2_ n3_ n4_ n5_ n6_)))|((with_reducible refine (HP1.out _ (rd t625 x18_1) (rd y629 x27_2) (rd t625 x47_4) (Go.bits .or .i64 (Go.bits .and .i64 (rd t625 x18_1) (rd y629 x27_2)) (Go.bits .andNot .i64 (Go.bits .or .i64 (rd t625 x18_1) (rd y629 x27_2)) (rd t625 x47_4))) true A57.out ?side1).mono ?_);(case side1=>repeat (first|(with_reducible first|exact HB.out|apply below_alloc|apply pw_below_drewN|apply below_drew1|refine below_set ?_ GE623.out|refine below_set ?_ GE624.out)|exact HB.out));rintro e w63 ⟨rfl,hb⟩;have n0_:=Aside0.mk (Kd.R_below (by (with_reducible repeat (first|apply Kd.R_alloc|apply Kd.R_drewN|apply Kd.R_drew));exact HO_6.out) hb);have n1_:=Aside0.mk (Kd.R_below (by (with_reducible repeat (first|apply Kd.R_alloc|apply Kd.R_drewN|apply Kd.R_drew));exact HO_16.out) hb);have n2_:=Aside0.mk (Kd.R_below (by (with_reducible repeat (first|apply Kd.R_alloc|apply Kd.R_drewN|apply Kd.R_drew));exact HO_45.out) hb);have n3_:=Aside0.mk (blk_below (g:=gb623) (o:=.cells #[.int .i64 a0_0,.slice (some ad638) l0_1.length c0_1] 68 (0,0)) bk hb);have n4_:=Aside0.mk (blk_below (g:=gb624) (o:=.cells #[.slice none 0 0,.slice none 0 0] 77 (0,0)) bk hb);have n5_:=Aside0.mk (Kd.C_below (by with_reducible first|exact HR632.out|exact Kd.C_drewN HR632.out _|exact Kd.C_alloc HR632.out _|exact Kd.C_drew HR632.out|exact Kd.C_alloc (Kd.C_drewN HR632.out _) _|exact Kd.C_drewN (Kd.C_alloc HR632.out _) _) hb);have n6_:=Aside0.mk (Kd.C_below (by with_reducible first|exact HR642.out|exact Kd.C_drewN HR642.out _|exact Kd.C_alloc HR642.out _|exact Kd.C_drew HR642.out|exact Kd.C_alloc (Kd.C_drewN HR642.out _) _|exact Kd.C_drewN (Kd.C_alloc HR642.out _) _) hb);have n7_:=Aside0.mk (below_step bw hb);clear HO_6;clear HO_16;clear HO_45;clear BK623;clear BK624;clear HR632;clear HR642;clear HB;have HO_6:=n0_;have HO_16:=n1_;have HO_45:=n2_;have BK623:=n3_;have BK624:=n4_;have HR632:=n5_;have HR642:=n6_;have HB:=n7_;clear n0_ n1_ n2_ n3_ n4_ n5_ n6_ n7_;(try clear hb);(try clear hb2);(try clear hk);(try clear hi))|((with_reducible refine gate_dst (N:=108) rfl ?_);refine Kd.R_lit (Kd.int .i64) _ 3 ?hg (N:=108) ?hd (xs:=([(rd t625 x18_1),(rd y629 x27_2)]:List Int)) (inner:=[.int .i64 (rd t625 x18_1),.int .i64 (rd y629 x27_2)]) (ok:=fun _=>True) (okp:=fun _=>True) ?hr ?hp (fun _ hk=>hk) trivial (Below.refl _ _) (Nat.le_refl _) (by simp) ?_;(case hd=>rfl);(case hg=>rfl);(case hr=>first|(go_simp;done)|(go_simp;rfl));(case hp=>exact (Reps.one (show Kd.M (Kd.int .i64) _ _ _ (rd t625 x18_1) [.int .i64 (rd t625 x18_1)] from rfl) (Reps.one (show Kd.M (Kd.int .i64) _ _ _ (rd y629 x27_2) [.int .i64 (rd y629 x27_2)] from rfl) (Reps.none _ _))));intro v646 w64 ho65 hb hg_ hnew_;clear hg_ hnew_;(first|rw [← Ny645.out] at ho65|(simp only [Int.reduceToNat] at ho65;rw [← Ny645.out] at ho65));have n0_:=Aside0.mk (Kd.R_elder' (by (with_reducible repeat (first|apply Kd.R_alloc|apply Kd.R_drewN|apply Kd.R_drew));exact HO_6.out) (Kd.R_base ho65) hb);have n1_:=Aside0.mk (Kd.R_elder' (by (with_reducible repeat (first|apply Kd.R_alloc|apply Kd.R_drewN|apply Kd.R_drew));exact HO_16.out) (Kd.R_base ho65) hb);have n2_:=Aside0.mk (Kd.R_elder' (by (with_reducible repeat (first|apply Kd.R_alloc|apply Kd.R_drewN|apply Kd.R_drew));exact HO_45.out) (Kd.R_base ho65) hb);have n3_:=Aside0.mk (Kd.R_lower (Kd.R_new' (Kd.R_new' (Kd.R_new' ho65 (Kd.R_lt (by (with_reducible repeat (first|apply Kd.R_alloc|apply Kd.R_drewN|apply Kd.R_drew));exact HO_6.out))) (Kd.R_lt (by (with_reducible repeat (first|apply Kd.R_alloc|apply Kd.R_drewN|apply Kd.R_drew));exact HO_16.out))) (Kd.R_lt (by (with_reducible repeat (first|apply Kd.R_alloc|apply Kd.R_drewN|apply Kd.R_drew));exact HO_45.out))) (below_size bw));have n4_:=Aside0.mk (blk_below (g:=gb623) (o:=.cells #[.int .i64 a0_0,.slice (some ad638) l0_1.length c0_1] 68 (0,0)) bk hb);have n5_:=Aside0.mk (blk_below (g:=gb624) (o:=.cells #[.slice none 0 0,.slice none 0 0] 77 (0,0)) bk hb);have n6_:=Aside0.mk (Kd.C_below (by with_reducible first|exact HR632.out|exact Kd.C_drewN HR632.out _|exact Kd.C_alloc HR632.out _|exact Kd.C_drew HR632.out|exact Kd.C_alloc (Kd.C_drewN HR632.out _) _|exact Kd.C_drewN (Kd.C_alloc HR632.out _) _) hb);have n7_:=Aside0.mk (Kd.C_below (by with_reducible first|exact HR642.out|exact Kd.C_drewN HR642.out _|exact Kd.C_alloc HR642.out _|exact Kd.C_drew HR642.out|exact Kd.C_alloc (Kd.C_drewN HR642.out _) _|exact Kd.C_drewN (Kd.C_alloc HR642.out _) _) hb);have n8_:=Aside0.mk (below_step bw hb);clear HO_6;clear HO_16;clear HO_45;clear BK623;clear BK624;clear HR632;clear HR642;clear HB;have HO_6:=n0_;have HO_16:=n1_;have HO_45:=n2_;have HO647:=n3_;have BK623:=n4_;have BK624:=n5_;have HR632:=n6_;have HR642:=n7_;have HB:=n8_;clear n0_ n1_ n2_ n3_ n4_ n5_ n6_ n7_ n8_;clear hb ho65)|((with_reducible refine gate_dst (N:=111) rfl ?_);refine Kd.R_lit (Kd.int .i64) _ 3 ?hg (N:=111) ?hd (xs:=([(rd t625 x47_4),Go.bits .or .i64 (Go.bits .and .i64 (rd t625 x18_1) (rd y629 x27_2)) (Go.bits .andNot .i64 (Go.bits .or .i64 (rd t625 x18_1) (rd y629 x27_2)) (rd t625 x47_4))]:List Int)) (inner:=[.int .i64 (rd t625 x47_4),.int .i64 (Go.bits .or .i64 (Go.bits .and .i64 (rd t625 x18_1) (rd y629 x27_2)) (Go.bits .andNot .i64 (Go.bits .or .i64 (rd t625 x18_1) (rd y629 x27_2)) (rd t625 x47_4)))]) (ok:=fun _=>True) (okp:=fun _=>True) ?hr ?hp (fun _ hk=>hk) trivial (Below.refl _ _) (Nat.le_refl _) (by simp) ?_;(case hd=>rfl);(case hg=>rfl);(case hr=>first|(go_simp;done)|(go_simp;rfl));(case hp=>exact (Reps.one (show Kd.M (Kd.int .i64) _ _ _ (rd t625 x47_4) [.int .i64 (rd t625 x47_4)] from rfl) (Reps.one (show Kd.M (Kd.int .i64) _ _ _ (Go.bits .or .i64 (Go.bits .and .i64 (rd t625 x18_1) (rd y629 x27_2)) (Go.bits .andNot .i64 (Go.bits .or .i64 (rd t625 x18_1) (rd y629 x27_2)) (rd t625 x47_4))) [.int .i64 (Go.bits .or .i64 (Go.bits .and .i64 (rd t625 x18_1) (rd y629 x27_2)) (Go.bits .andNot .i64 (Go.bits .or .i64 (rd t625 x18_1) (rd y629 x27_2)) (rd t625 x47_4)))] from rfl) (Reps.none _ _))));intro v649 w66 ho67 hb hg_ hnew_;clear hg_ hnew_;(first|rw [← Ny648.out] at ho67|(simp only [Int.reduceToNat] at ho67;rw [← Ny648.out] at ho67));have n0_:=Aside0.mk (Kd.R_elder' (by (with_reducible repeat (first|apply Kd.R_alloc|apply Kd.R_drewN|apply Kd.R_drew));exact HO_6.out) (Kd.R_base ho67) hb);have n1_:=Aside0.mk (Kd.R_elder' (by (with_reducible repeat (first|apply Kd.R_alloc|apply Kd.R_drewN|apply Kd.R_drew));exact HO_16.out) (Kd.R_base ho67) hb);have n2_:=Aside0.mk (Kd.R_elder' (by (with_reducible repeat (first|apply Kd.R_alloc|apply Kd.R_drewN|apply Kd.R_drew));exact HO_45.out) (Kd.R_base ho67) hb);have n3_:=Aside0.mk (Kd.R_elder' (by (with_reducible repeat (first|apply Kd.R_alloc|apply Kd.R_drewN|apply Kd.R_drew));exact HO647.out) (Kd.R_base ho67) hb);have n4_:=Aside0.mk (Kd.R_lower (Kd.R_new' (Kd.R_new' (Kd.R_new' (Kd.R_new' ho67 (Kd.R_lt (by (with_reducible repeat (first|apply Kd.R_alloc|apply Kd.R_drewN|apply Kd.R_drew));exact HO_6.out))) (Kd.R_lt (by (with_reducible repeat (first|apply Kd.R_alloc|apply Kd.R_drewN|apply Kd.R_drew));exact HO_16.out))) (Kd.R_lt (by (with_reducible repeat (first|apply Kd.R_alloc|apply Kd.R_drewN|apply Kd.R_drew));exact HO_45.out))) (Kd.R_lt (by (with_reducible repeat (first|apply Kd.R_alloc|apply Kd.R_drewN|apply Kd.R_drew));exact HO647.out))) (below_size bw));have n5_:=Aside0.mk (blk_below (g:=gb623) (o:=.cells #[.int .i64 a0_0,.slice (some ad638) l0_1.length c0_1] 68 (0,0)) bk hb);have n6_:=Aside0.mk (blk_below (g:=gb624) (o:=.cells #[.slice none 0 0,.slice none 0 0] 77 (0,0)) bk hb);have n7_:=Aside0.mk (Kd.C_below (by with_reducible first|exact HR632.out|exact Kd.C_drewN HR632.out _|exact Kd.C_alloc HR632.out _|exact Kd.C_drew HR632.out|exact Kd.C_alloc (Kd.C_drewN HR632.out _) _|exact Kd.C_drewN (Kd.C_alloc HR632.out _) _) hb);have n8_:=Aside0.mk (Kd.C_below (by with_reducible first|exact HR642.out|exact Kd.C_drewN HR642.out _|exact Kd.C_alloc HR642.out _|exact Kd.C_drew HR642.out|exact Kd.C_alloc (Kd.C_drewN HR642.out _) _|exact Kd.C_drewN (Kd.C_alloc HR642.out _) _) hb);have n9_:=Aside0.mk (below_step bw hb);clear HO_6;clear HO_16;clear HO_45;clear HO647;clear BK623;clear BK624;clear HR632;clear HR642;clear HB;have HO_6:=n0_;have HO_16:=n1_;have HO_45:=n2_;have HO647:=n3_;have HO650:=n4_;have BK623:=n5_;have BK624:=n6_;have HR632:=n7_;have HR642:=n8_;have HB:=n9_;clear n0_ n1_ n2_ n3_ n4_ n5_ n6_ n7_ n8_ n9_;clear hb ho67;obtain ⟨Ao68,co68,eo68⟩:=Kd.R_slice HO647.out;subst eo68;obtain ⟨Ao69,co69,eo69⟩:=Kd.R_slice HO650.out;subst eo69)|((with_reducible refine gate_callee (f:=142) rfl ?_);refine goesL_ (some 112) rfl rfl Try.func142 (by kernel_rfl) rfl #[.slice Ao68 y645.length co68,.slice Ao69 y648.length co69] rfl mq ?_;(with_reducible refine (impl_pairs.calls kj33 _ _ y645 _ _ y648 t651 t654 _ ?side1 ?side2 ?side3 ?side4 A59.out).mono ?_);(case side1=>repeat (first|exact (Kd.R_reads' HO647.out).2.2|(with_reducible refine Kd.C_alloc ?_ _)|(with_reducible refine Kd.C_drewN ?_ _)|(with_reducible refine Kd.C_drew ?_)));(case side2=>exact (Kd.R_reads' HO647.out).2.1);(case side3=>repeat (first|exact (Kd.R_reads' HO650.out).2.2|(with_reducible refine Kd.C_alloc ?_ _)|(with_reducible refine Kd.C_drewN ?_ _)|(with_reducible refine Kd.C_drew ?_)));(case side4=>exact (Kd.R_reads' HO650.out).2.1);rintro e w70 ⟨v652,v655,rfl,ho0,ho1,hb⟩;refine ⟨_,rfl,?_⟩;have n0_:=Aside0.mk (Kd.R_below (by (with_reducible repeat (first|apply Kd.R_alloc|apply Kd.R_drewN|apply Kd.R_drew));exact HO_6.out) hb);have n1_:=Aside0.mk (Kd.R_below (by (with_reducible repeat (first|apply Kd.R_alloc|apply Kd.R_drewN|apply Kd.R_drew));exact HO_16.out) hb);have n2_:=Aside0.mk (Kd.R_below (by (with_reducible repeat (first|apply Kd.R_alloc|apply Kd.R_drewN|apply Kd.R_drew));exact HO_45.out) hb);have n3_:=Aside0.mk (Kd.R_below (by (with_reducible repeat (first|apply Kd.R_alloc|apply Kd.R_drewN|apply Kd.R_drew));exact HO647.out) hb);have n4_:=Aside0.mk (Kd.R_below (by (with_reducible repeat (first|apply Kd.R_alloc|apply Kd.R_drewN|apply Kd.R_drew));exact HO650.out) hb);have n5_:=Aside0.mk (Kd.S_lower (Kd.S_new' (Kd.S_new' (Kd.S_new' (Kd.S_new' (Kd.S_new' ho0 (Kd.R_lt (by (with_reducible repeat (first|apply Kd.R_alloc|apply Kd.R_drewN|apply Kd.R_drew));exact HO_6.out))) (Kd.R_lt (by (with_reducible repeat (first|apply Kd.R_alloc|apply Kd.R_drewN|apply Kd.R_drew));exact HO_16.out))) (Kd.R_lt (by (with_reducible repeat (first|apply Kd.R_alloc|apply Kd.R_drewN|apply Kd.R_drew));exact HO_45.out))) (Kd.R_lt (by (with_reducible repeat (first|apply Kd.R_alloc|apply Kd.R_drewN|apply Kd.R_drew));exact HO647.out))) (Kd.R_lt (by (with_reducible repeat (first|apply Kd.R_alloc|apply Kd.R_drewN|apply Kd.R_drew));exact HO650.out))) (below_size bw));have n6_:=Aside0.mk (Kd.S_lower (Kd.S_new' (Kd.S_new' (Kd.S_new' (Kd.S_new' (Kd.S_new' ho1 (Kd.R_lt (by (with_reducible repeat (first|apply Kd.R_alloc|apply Kd.R_drewN|apply Kd.R_drew));exact HO_6.out))) (Kd.R_lt (by (with_reducible repeat (first|apply Kd.R_alloc|apply Kd.R_drewN|apply Kd.R_drew));exact HO_16.out))) (Kd.R_lt (by (with_reducible repeat (first|apply Kd.R_alloc|apply Kd.R_drewN|apply Kd.R_drew));exact HO_45.out))) (Kd.R_lt (by (with_reducible repeat (first|apply Kd.R_alloc|apply Kd.R_drewN|apply Kd.R_drew));exact HO647.out))) (Kd.R_lt (by (with_reducible repeat (first|apply Kd.R_alloc|apply Kd.R_drewN|apply Kd.R_drew));exact HO650.out))) (below_size bw));have n7_:=Aside0.mk (blk_below (g:=gb623) (o:=.cells #[.int .i64 a0_0,.slice (some ad638) l0_1.length c0_1] 68 (0,0)) bk hb);have n8_:=Aside0.mk (blk_below (g:=gb624) (o:=.cells #[.slice none 0 0,.slice none 0 0] 77 (0,0)) bk hb);have n9_:=Aside0.mk (Kd.C_below (by with_reducible first|exact HR632.out|exact Kd.C_drewN HR632.out _|exact Kd.C_alloc HR632.out _|exact Kd.C_drew HR632.out|exact Kd.C_alloc (Kd.C_drewN HR632.out _) _|exact Kd.C_drewN (Kd.C_alloc HR632.out _) _) hb);have n10_:=Aside0.mk (Kd.C_below (by with_reducible first|exact HR642.out|exact Kd.C_drewN HR642.out _|exact Kd.C_alloc HR642.out _|exact Kd.C_drew HR642.out|exact Kd.C_alloc (Kd.C_drewN HR642.out _) _|exact Kd.C_drewN (Kd.C_alloc HR642.out _) _) hb);have n11_:=Aside0.mk (below_step bw hb);clear HO_6;clear HO_16;clear HO_45;clear HO647;clear HO650;clear BK623;clear BK624;clear HR632;clear HR642;clear HB;have HO_6:=n0_;have HO_16:=n1_;have HO_45:=n2_;have HO647:=n3_;have HO650:=n4_;have HO653:=n5_;have HO656:=n6_;have BK623:=n7_;have BK624:=n8_;have HR632:=n9_;have HR642:=n10_;have HB:=n11_;clear n0_ n1_ n2_ n3_ n4_ n5_ n6_ n7_ n8_ n9_ n10_ n11_;(try clear hb);(try clear hb2);(try clear hk);(try clear hi);(try clear ho0);(try clear ho1);obtain ⟨Ao71,co71,eo71⟩:=Kd.S_slice HO653.out;subst eo71;have hcz72_0:w70.cell? ⟨gb624,0,none⟩ = some (.slice none 0 0):=(blk_cell BK624.out 0).trans rfl;have hcz72_1:w70.cell? ⟨gb624,1,none⟩ = some (.slice none 0 0):=(blk_cell BK624.out 1).trans rfl;have hfz72_0:=blk_frozen BK624.out 0;have hfz72_1:=blk_frozen BK624.out 1;obtain ⟨Ao73,co73,eo73⟩:=Kd.S_slice HO656.out;subst eo73))
                              refine bodyPost_ret (results_ct rfl _ _ gb624 77 #[.slice Ao71 t651.length co71,.slice Ao73 t654.length co73] (0,0) _ rfl (by (with_reducible repeat (first|refine blk_drewN ?_ _|refine blk_drew ?_|refine blk_alloc ?_ _));refine blk_put (cs:=#[.slice Ao71 t651.length co71,.slice none 0 0]) ?_ 1 _ rfl;(with_reducible repeat (first|refine blk_drewN ?_ _|refine blk_drew ?_|refine blk_alloc ?_ _));refine blk_put (cs:=#[.slice none 0 0,.slice none 0 0]) ?_ 0 _ rfl;(with_reducible repeat (first|refine blk_drewN ?_ _|refine blk_drew ?_|refine blk_alloc ?_ _));exact BK624.out) Try.underlying77 rfl (by kernel_rfl)) rfl ?_;exact ⟨_,_,by first|rfl|(simp [errW_none,errW_some] <;> rfl)|(simp [*,errW_none,errW_some] <;> rfl),by (with_reducible repeat (first|apply Kd.S_alloc|apply Kd.S_drewN|apply Kd.S_drew));exact Kd.S_mono (Kd.S_far (p:=⟨gb624,1,none⟩) (Kd.S_far (p:=⟨gb624,0,none⟩) (Kd.S_types HO653.out BK624.out (by decide)) (fun _ hk=>hk.2) (.slice Ao71 t651.length co71)) (fun _ hk=>hk.2) (.slice Ao73 t654.length co73)) (fun _ hk=>hk.1.1.1.1.1.1),by (with_reducible repeat (first|apply Kd.S_alloc|apply Kd.S_drewN|apply Kd.S_drew));exact Kd.S_mono (Kd.S_far (p:=⟨gb624,1,none⟩) (Kd.S_far (p:=⟨gb624,0,none⟩) (Kd.S_types HO656.out BK624.out (by decide)) (fun _ hk=>hk.2) (.slice Ao71 t651.length co71)) (fun _ hk=>hk.2) (.slice Ao73 t654.length co73)) (fun _ hk=>hk.1.1.1.1.1.1),by repeat (first|(with_reducible first|exact HB.out|apply below_alloc|apply pw_below_drewN|apply below_drew1|refine below_set ?_ GE623.out|refine below_set ?_ GE624.out)|exact HB.out)⟩
                             ·replace c58:=Bool.eq_false_iff.mpr c58;subst c58;have H1:(impl_votes_firstOfTwo.l2 kj33 a1 t625 (rd t625 x18_1) (rd y629 x27_2) t625 (t625.length:Int) x18_1 y629 (y629.length:Int) x27_2 t625 (t625.length:Int) (wrap64 (x47_4 + 1)) a0_0 l0_1) = some (r1,r2,r3):=by rw [if_neg (show ¬ (false = true) by decide)] at H;exact H
                              clear H;have H:=H1;clear H1;have H':=Aside0.mk H;clear H;have hnb74:=NB623_624.out;have hnc74:=NB624_623.out;have hcz75_0:wc.cell? ⟨gb623,0,none⟩ = some (.int .i64 a0_0):=(blk_cell BK623.out 0).trans rfl;have hcz75_1:wc.cell? ⟨gb623,1,none⟩ = some (.slice A0_1 l0_1.length c0_1):=(blk_cell BK623.out 1).trans rfl;have hfz75_0:=blk_frozen BK623.out 0;have hfz75_1:=blk_frozen BK623.out 1;have p638:0 ≤ ((Go.bits .or .i64 (Go.bits .and .i64 (rd t625 x18_1) (rd y629 x27_2)) (Go.bits .andNot .i64 (Go.bits .or .i64 (rd t625 x18_1) (rd y629 x27_2)) (rd t625 x47_4))):Int):=of_decide_eq_true ab;have q638:(Go.bits .or .i64 (Go.bits .and .i64 (rd t625 x18_1) (rd y629 x27_2)) (Go.bits .andNot .i64 (Go.bits .or .i64 (rd t625 x18_1) (rd y629 x27_2)) (rd t625 x47_4))) < (l0_1.length:Int):=of_decide_eq_true ab;obtain ⟨ad638,e638,hx638_0⟩:=Kd.at_bool HR0_1.out (Go.bits .or .i64 (Go.bits .and .i64 (rd t625 x18_1) (rd y629 x27_2)) (Go.bits .andNot .i64 (Go.bits .or .i64 (rd t625 x18_1) (rd y629 x27_2)) (rd t625 x47_4))) p638 q638;(try rw [← Nbq49.out] at hx638_0)
                              cases e638
                              replace hx638_0:=(HB.out.cell (World.block_lt_of_cell? w _ hx638_0)).trans hx638_0;replace p638:=eq_true p638;replace q638:=eq_true q638;have q76:(x47_4:Int) ≤ ((t625.length:Int):Int):=of_decide_eq_true ab;obtain ⟨i076,hi076,_,hsz76,_⟩:=info_parts info3;have hroom76:t625.length ≤ co9:=(Kd.R_reads' HO_6.out).2.1;have hC76:Kd.C (Kd.int .i64) _ (some ad628) t625.length t625:=(Kd.R_reads' HO_6.out).2.2;have q076:(0:Int) ≤ (x47_4:Int):=of_decide_eq_true ab;have hcut76:=cut_from (P:=Try.prog) 40 3 .i64 Try.underlying40 hi076 1 hsz76 (some ad628) t625.length co9 x47_4 q076 q76;have hr76:=Kd.C_drop (m:=(x47_4:Int).toNat) (c:=co9) hC76 (by omega) hroom76;obtain ⟨A76,hA76⟩:∃ A1,A1 = (if co9 = (x47_4:Int).toNat then (some ad628) else ((some ad628):Option Addr).map (·.add ((x47_4:Int).toNat * 1))):=⟨_,rfl⟩;obtain ⟨c76,hc76⟩:∃ c1,c1 = co9 - (x47_4:Int).toNat:=⟨_,rfl⟩;have hy76:y639.length = t625.length - (x47_4:Int).toNat:=(by rw [Ny639.out,List.length_drop] <;> omega);rw [show (t625).drop (x47_4:Int).toNat = y639 from Ny639.out.symm] at hr76;replace hr76:Kd.C (Kd.int .i64) _ A76 y639.length y639:=(by rw [hA76];exact hr76);rw [← hy76,← hA76,← hc76] at hcut76;have HR642:=Aside0.mk hr76;have HC642:=Aside0.mk (show y639.length ≤ c76 from by rw [hy76,hc76];exact Nat.sub_le_sub_right hroom76 _);clear hr76 hC76 hroom76 hi076 hsz76 hc76;have KY76:=Aside0.mk hy76;have KA76:=Aside0.mk hA76;clear hy76 hA76;have KL76:=Aside0.mk (show (x47_4:Int).toNat ≤ t625.length from by omega);replace q76:=eq_true q76;go_wp2_with (first|(go_at_call 141;(with_reducible refine (slices_Contains_int_int.calls kj33 _ _ y639 (Go.bits .or .i64 (Go.bits .and .i64 (rd t625 x18_1) (rd y629 x27_2)) (Go.bits .andNot .i64 (Go.bits .or .i64 (rd t625 x18_1) (rd y629 x27_2)) (rd t625 x47_4))) true _ ?side1 ?side2 A55.out).mono ?_);(case side1=>repeat (first|exact (by repeat (first|(with_reducible exact HR642.out)|(with_reducible refine Kd.C_alloc ?_ _)|(with_reducible refine Kd.C_drewN ?_ _)|(with_reducible refine Kd.C_drew ?_)|exact HR642.out))|(with_reducible refine Kd.C_alloc ?_ _)|(with_reducible refine Kd.C_drewN ?_ _)|(with_reducible refine Kd.C_drew ?_)));(case side2=>exact HC642.out);rintro e w' ⟨rfl,⟨nd,rfl⟩⟩)|((with_reducible refine (HP1.out _ (rd t625 x18_1) (rd y629 x27_2) (rd t625 x47_4) (Go.bits .or .i64 (Go.bits .and .i64 (rd t625 x18_1) (rd y629 x27_2)) (Go.bits .andNot .i64 (Go.bits .or .i64 (rd t625 x18_1) (rd y629 x27_2)) (rd t625 x47_4))) false A57.out ?side1).mono ?_);(case side1=>repeat (first|(with_reducible first|exact HB.out|apply below_alloc|apply pw_below_drewN|apply below_drew1|refine below_set ?_ GE623.out|refine below_set ?_ GE624.out)|exact HB.out));rintro e w77 ⟨rfl,hb⟩;have n0_:=Aside0.mk (Kd.R_below (by (with_reducible repeat (first|apply Kd.R_alloc|apply Kd.R_drewN|apply Kd.R_drew));exact HO_6.out) hb);have n1_:=Aside0.mk (Kd.R_below (by (with_reducible repeat (first|apply Kd.R_alloc|apply Kd.R_drewN|apply Kd.R_drew));exact HO_16.out) hb);have n2_:=Aside0.mk (Kd.R_below (by (with_reducible repeat (first|apply Kd.R_alloc|apply Kd.R_drewN|apply Kd.R_drew));exact HO_45.out) hb);have n3_:=Aside0.mk (blk_below (g:=gb623) (o:=.cells #[.int .i64 a0_0,.slice (some ad638) l0_1.length c0_1] 68 (0,0)) bk hb);have n4_:=Aside0.mk (blk_below (g:=gb624) (o:=.cells #[.slice none 0 0,.slice none 0 0] 77 (0,0)) bk hb);have n5_:=Aside0.mk (Kd.C_below (by with_reducible first|exact HR632.out|exact Kd.C_drewN HR632.out _|exact Kd.C_alloc HR632.out _|exact Kd.C_drew HR632.out|exact Kd.C_alloc (Kd.C_drewN HR632.out _) _|exact Kd.C_drewN (Kd.C_alloc HR632.out _) _) hb);have n6_:=Aside0.mk (Kd.C_below (by with_reducible first|exact HR642.out|exact Kd.C_drewN HR642.out _|exact Kd.C_alloc HR642.out _|exact Kd.C_drew HR642.out|exact Kd.C_alloc (Kd.C_drewN HR642.out _) _|exact Kd.C_drewN (Kd.C_alloc HR642.out _) _) hb);have n7_:=Aside0.mk (below_step bw hb);clear HO_6;clear HO_16;clear HO_45;clear BK623;clear BK624;clear HR632;clear HR642;clear HB;have HO_6:=n0_;have HO_16:=n1_;have HO_45:=n2_;have BK623:=n3_;have BK624:=n4_;have HR632:=n5_;have HR642:=n6_;have HB:=n7_;clear n0_ n1_ n2_ n3_ n4_ n5_ n6_ n7_;(try clear hb);(try clear hb2);(try clear hk);(try clear hi)))
                              go_roundg kj33
                              case measure=>have:=HK1.out;have:=HK2.out;have:=HJ18.out;have:=HK4.out;have:=HJ33.out;omega
                              case rel=>exact ⟨(wrap64 (x47_4 + 1)),(by first|rfl|(simp;done)|(simp [*];done)),H',⟨by have:=HK1.out;have:=HK2.out;have:=HJ18.out;have:=HK4.out;have:=HJ33.out;omega⟩,⟨by (with_reducible repeat (first|apply Kd.R_alloc|apply Kd.R_drewN|apply Kd.R_drew));exact HO_6.out⟩,⟨by (with_reducible repeat (first|apply Kd.R_alloc|apply Kd.R_drewN|apply Kd.R_drew));exact HO_16.out⟩,⟨by (with_reducible repeat (first|apply Kd.R_alloc|apply Kd.R_drewN|apply Kd.R_drew));exact HO_45.out⟩,⟨by (with_reducible repeat (first|refine blk_drewN ?_ _|refine blk_drew ?_|refine blk_alloc ?_ _));exact BK623.out⟩,⟨by (with_reducible repeat (first|refine blk_drewN ?_ _|refine blk_drew ?_|refine blk_alloc ?_ _));exact BK624.out⟩,⟨by repeat (first|(with_reducible exact HR632.out)|(with_reducible refine Kd.C_alloc ?_ _)|(with_reducible refine Kd.C_drewN ?_ _)|(with_reducible refine Kd.C_drew ?_)|exact HR632.out)⟩,⟨by repeat (first|(with_reducible first|exact HB.out|apply below_alloc|apply pw_below_drewN|apply below_drew1|refine below_set ?_ GE623.out|refine below_set ?_ GE624.out)|exact HB.out)⟩⟩
                            ·replace c56:=Bool.eq_false_iff.mpr c56;subst c56;have H1:(impl_votes_firstOfTwo.l2 kj33 a1 t625 (rd t625 x18_1) (rd y629 x27_2) t625 (t625.length:Int) x18_1 y629 (y629.length:Int) x27_2 t625 (t625.length:Int) (wrap64 (x47_4 + 1)) a0_0 l0_1) = some (r1,r2,r3):=by rw [if_neg (show ¬ (false = true) by decide)] at H;exact H
                             clear H;have H:=H1;clear H1;have H':=Aside0.mk H;clear H;have hnb78:=NB623_624.out;have hnc78:=NB624_623.out;have hcz79_0:wc.cell? ⟨gb623,0,none⟩ = some (.int .i64 a0_0):=(blk_cell BK623.out 0).trans rfl;have hcz79_1:wc.cell? ⟨gb623,1,none⟩ = some (.slice A0_1 l0_1.length c0_1):=(blk_cell BK623.out 1).trans rfl;have hfz79_0:=blk_frozen BK623.out 0;have hfz79_1:=blk_frozen BK623.out 1;have p638:0 ≤ ((Go.bits .or .i64 (Go.bits .and .i64 (rd t625 x18_1) (rd y629 x27_2)) (Go.bits .andNot .i64 (Go.bits .or .i64 (rd t625 x18_1) (rd y629 x27_2)) (rd t625 x47_4))):Int):=of_decide_eq_true ab;have q638:(Go.bits .or .i64 (Go.bits .and .i64 (rd t625 x18_1) (rd y629 x27_2)) (Go.bits .andNot .i64 (Go.bits .or .i64 (rd t625 x18_1) (rd y629 x27_2)) (rd t625 x47_4))) < (l0_1.length:Int):=of_decide_eq_true ab;obtain ⟨ad638,e638,hx638_0⟩:=Kd.at_bool HR0_1.out (Go.bits .or .i64 (Go.bits .and .i64 (rd t625 x18_1) (rd y629 x27_2)) (Go.bits .andNot .i64 (Go.bits .or .i64 (rd t625 x18_1) (rd y629 x27_2)) (rd t625 x47_4))) p638 q638;(try rw [← Nbq49.out] at hx638_0)
                             cases e638
                             replace hx638_0:=(HB.out.cell (World.block_lt_of_cell? w _ hx638_0)).trans hx638_0;replace p638:=eq_true p638;replace q638:=eq_true q638;have q80:(x47_4:Int) ≤ ((t625.length:Int):Int):=of_decide_eq_true ab;obtain ⟨i080,hi080,_,hsz80,_⟩:=info_parts info3;have hroom80:t625.length ≤ co9:=(Kd.R_reads' HO_6.out).2.1;have hC80:Kd.C (Kd.int .i64) _ (some ad628) t625.length t625:=(Kd.R_reads' HO_6.out).2.2;have q080:(0:Int) ≤ (x47_4:Int):=of_decide_eq_true ab;have hcut80:=cut_from (P:=Try.prog) 40 3 .i64 Try.underlying40 hi080 1 hsz80 (some ad628) t625.length co9 x47_4 q080 q80;have hr80:=Kd.C_drop (m:=(x47_4:Int).toNat) (c:=co9) hC80 (by omega) hroom80;obtain ⟨A80,hA80⟩:∃ A1,A1 = (if co9 = (x47_4:Int).toNat then (some ad628) else ((some ad628):Option Addr).map (·.add ((x47_4:Int).toNat * 1))):=⟨_,rfl⟩;obtain ⟨c80,hc80⟩:∃ c1,c1 = co9 - (x47_4:Int).toNat:=⟨_,rfl⟩;have hy80:y639.length = t625.length - (x47_4:Int).toNat:=(by rw [Ny639.out,List.length_drop] <;> omega);rw [show (t625).drop (x47_4:Int).toNat = y639 from Ny639.out.symm] at hr80;replace hr80:Kd.C (Kd.int .i64) _ A80 y639.length y639:=(by rw [hA80];exact hr80);rw [← hy80,← hA80,← hc80] at hcut80;have HR642:=Aside0.mk hr80;have HC642:=Aside0.mk (show y639.length ≤ c80 from by rw [hy80,hc80];exact Nat.sub_le_sub_right hroom80 _);clear hr80 hC80 hroom80 hi080 hsz80 hc80;have KY80:=Aside0.mk hy80;have KA80:=Aside0.mk hA80;clear hy80 hA80;have KL80:=Aside0.mk (show (x47_4:Int).toNat ≤ t625.length from by omega);replace q80:=eq_true q80;go_wp2_with (first|(go_at_call 141;(with_reducible refine (slices_Contains_int_int.calls kj33 _ _ y639 (Go.bits .or .i64 (Go.bits .and .i64 (rd t625 x18_1) (rd y629 x27_2)) (Go.bits .andNot .i64 (Go.bits .or .i64 (rd t625 x18_1) (rd y629 x27_2)) (rd t625 x47_4))) false _ ?side1 ?side2 A55.out).mono ?_);(case side1=>repeat (first|exact (by repeat (first|(with_reducible exact HR642.out)|(with_reducible refine Kd.C_alloc ?_ _)|(with_reducible refine Kd.C_drewN ?_ _)|(with_reducible refine Kd.C_drew ?_)|exact HR642.out))|(with_reducible refine Kd.C_alloc ?_ _)|(with_reducible refine Kd.C_drewN ?_ _)|(with_reducible refine Kd.C_drew ?_)));(case side2=>exact HC642.out);rintro e w' ⟨rfl,⟨nd,rfl⟩⟩))
                             go_roundg kj33
                             case measure=>have:=HK1.out;have:=HK2.out;have:=HJ18.out;have:=HK4.out;have:=HJ33.out;omega
                             case rel=>exact ⟨(wrap64 (x47_4 + 1)),(by first|rfl|(simp;done)|(simp [*];done)),H',⟨by have:=HK1.out;have:=HK2.out;have:=HJ18.out;have:=HK4.out;have:=HJ33.out;omega⟩,⟨by (with_reducible repeat (first|apply Kd.R_alloc|apply Kd.R_drewN|apply Kd.R_drew));exact HO_6.out⟩,⟨by (with_reducible repeat (first|apply Kd.R_alloc|apply Kd.R_drewN|apply Kd.R_drew));exact HO_16.out⟩,⟨by (with_reducible repeat (first|apply Kd.R_alloc|apply Kd.R_drewN|apply Kd.R_drew));exact HO_45.out⟩,⟨by (with_reducible repeat (first|refine blk_drewN ?_ _|refine blk_drew ?_|refine blk_alloc ?_ _));exact BK623.out⟩,⟨by (with_reducible repeat (first|refine blk_drewN ?_ _|refine blk_drew ?_|refine blk_alloc ?_ _));exact BK624.out⟩,⟨by repeat (first|(with_reducible exact HR632.out)|(with_reducible refine Kd.C_alloc ?_ _)|(with_reducible refine Kd.C_drewN ?_ _)|(with_reducible refine Kd.C_drew ?_)|exact HR632.out)⟩,⟨by repeat (first|(with_reducible first|exact HB.out|apply below_alloc|apply pw_below_drewN|apply below_drew1|refine below_set ?_ GE623.out|refine below_set ?_ GE624.out)|exact HB.out)⟩⟩
                           ·rw [if_neg c54] at H;exact absurd H (by simp)
                          ·rw [if_neg c53] at H;exact absurd H (by simp)
                        ·rw [if_neg c48] at H;exact absurd H (by simp)
                       ·rw [if_neg c47] at H;exact absurd H (by simp)
                   ·rw [if_neg c33] at H;exact absurd H (by simp)
                  ·rw [if_neg c32] at H;exact absurd H (by simp)
                 ·rw [if_neg c31] at H;have c31b0:decide (x47_4 < (t625.length:Int)) = false:=decide_eq_false c31;clear c31;have H':=Aside0.mk H;clear H;go_wp2
                  go_roundg k4
                  case measure=>have:=HK1.out;have:=HK2.out;have:=HJ18.out;have:=HK4.out;omega
                  case rel=>exact ⟨(wrap64 (x27_2 + 1)),(by first|rfl|(simp;done)|(simp [*];done)),H',⟨by have:=HK1.out;have:=HK2.out;have:=HJ18.out;have:=HK4.out;omega⟩,⟨by (with_reducible repeat (first|apply Kd.R_alloc|apply Kd.R_drewN|apply Kd.R_drew));exact HO_6.out⟩,⟨by (with_reducible repeat (first|apply Kd.R_alloc|apply Kd.R_drewN|apply Kd.R_drew));exact HO_16.out⟩,⟨by (with_reducible repeat (first|refine blk_drewN ?_ _|refine blk_drew ?_|refine blk_alloc ?_ _));exact BK623.out⟩,⟨by (with_reducible repeat (first|refine blk_drewN ?_ _|refine blk_drew ?_|refine blk_alloc ?_ _));exact BK624.out⟩,⟨by repeat (first|(with_reducible exact HR632.out)|(with_reducible refine Kd.C_alloc ?_ _)|(with_reducible refine Kd.C_drewN ?_ _)|(with_reducible refine Kd.C_drew ?_)|exact HR632.out)⟩,⟨by repeat (first|(with_reducible first|exact HB.out|apply below_alloc|apply pw_below_drewN|apply below_drew1|refine below_set ?_ GE623.out|refine below_set ?_ GE624.out)|exact HB.out)⟩⟩
           ·rw [if_neg c18] at H;exact absurd H (by simp)
          ·rw [if_neg c17] at H;exact absurd H (by simp)
         ·rw [if_neg c16] at H;have c16b0:decide (x27_2 < (y629.length:Int)) = false:=decide_eq_false c16;clear c16;have H':=Aside0.mk H;clear H;go_wp2
          go_roundg k2
          case measure=>have:=HK1.out;have:=HK2.out;omega
          case rel=>exact ⟨(wrap64 (x18_1 + 1)),(by first|rfl|(simp;done)|(simp [*];done)),H',⟨by have:=HK1.out;have:=HK2.out;omega⟩,⟨by (with_reducible repeat (first|apply Kd.R_alloc|apply Kd.R_drewN|apply Kd.R_drew));exact HO_6.out⟩,⟨by (with_reducible repeat (first|apply Kd.R_alloc|apply Kd.R_drewN|apply Kd.R_drew));exact HO_16.out⟩,⟨by (with_reducible repeat (first|refine blk_drewN ?_ _|refine blk_drew ?_|refine blk_alloc ?_ _));exact BK623.out⟩,⟨by (with_reducible repeat (first|refine blk_drewN ?_ _|refine blk_drew ?_|refine blk_alloc ?_ _));exact BK624.out⟩,⟨by repeat (first|(with_reducible first|exact HB.out|apply below_alloc|apply pw_below_drewN|apply below_drew1|refine below_set ?_ GE623.out|refine below_set ?_ GE624.out)|exact HB.out)⟩⟩
      ·rw [if_neg c14] at H;exact absurd H (by simp)
     ·rw [if_neg c12] at H;exact absurd H (by simp)
    ·rw [if_neg c11] at H;exact absurd H (by simp)
   ·rw [if_neg c10] at H;have c10b0:decide (x18_1 < (t625.length:Int)) = false:=decide_eq_false c10;clear c10;simp only [Option.some.injEq,Prod.mk.injEq] at H;obtain ⟨rfl,rfl,rfl⟩:=H;have hnb81:=NB624_623.out;have hnc81:=NB623_624.out;have hcz82_0:wr.cell? ⟨gb624,0,none⟩ = some (.slice none 0 0):=(blk_cell BK624.out 0).trans rfl;have hcz82_1:wr.cell? ⟨gb624,1,none⟩ = some (.slice none 0 0):=(blk_cell BK624.out 1).trans rfl;have hfz82_0:=blk_frozen BK624.out 0;have hfz82_1:=blk_frozen BK624.out 1;go_wp2
    refine bodyPost_ret (results_ct rfl _ _ gb624 77 #[.slice none 0 0,.slice none 0 0] (0,0) _ rfl (by (with_reducible repeat (first|refine blk_drewN ?_ _|refine blk_drew ?_|refine blk_alloc ?_ _));refine blk_put (cs:=#[.slice none 0 0,.slice none 0 0]) ?_ 1 _ rfl;(with_reducible repeat (first|refine blk_drewN ?_ _|refine blk_drew ?_|refine blk_alloc ?_ _));refine blk_put (cs:=#[.slice none 0 0,.slice none 0 0]) ?_ 0 _ rfl;(with_reducible repeat (first|refine blk_drewN ?_ _|refine blk_drew ?_|refine blk_alloc ?_ _));exact BK624.out) Try.underlying77 rfl (by kernel_rfl)) rfl ?_;exact ⟨_,_,by first|rfl|(simp [errW_none,errW_some] <;> rfl)|(simp [*,errW_none,errW_some] <;> rfl),by first|exact Kd.S_nil _ _ _ _ _|exact Kd.N_nil _ _ _ _ _|exact Kd.V_nil _ _ _ _ _|exact Kd.Q_nil _ _ _ _ _|exact Kd.R_nil _ _ _ _ _,by first|exact Kd.S_nil _ _ _ _ _|exact Kd.N_nil _ _ _ _ _|exact Kd.V_nil _ _ _ _ _|exact Kd.Q_nil _ _ _ _ _|exact Kd.R_nil _ _ _ _ _,by repeat (first|(with_reducible first|exact HB.out|apply below_alloc|apply pw_below_drewN|apply below_drew1|refine below_set ?_ GE623.out|refine below_set ?_ GE624.out)|exact HB.out)⟩


/-! ### impl_votes_firstTrade: function 58 -/
def impl_votes_firstTrade.f (k:Nat) (a0_0:Int) (l0_1:List Bool):Option ((List (List Int)) × (List (List Int)) × Bool):=(impl_votes_firstOfTwo.f k a0_0 l0_1 (fun y0_ y1_ y2_ y3_=>impl_votes_firstTrade_1.f y0_ y1_ y2_ y3_)).bind fun bt659=>(some (bt659.1,bt659.2.1,bt659.2.2))
theorem impl_votes_firstTrade.mono:∀ a0 a1 k,LeO (impl_votes_firstTrade.f k a0 a1) (impl_votes_firstTrade.f (k + 1) a0 a1):=by
 intro a0 a1 k;unfold impl_votes_firstTrade.f
 repeat' with_reducible first|exact impl_votes_firstOfTwo.mono _ _ _ _|exact LeO.refl _|exact LeO.none _|refine LeO.trans (impl_votes_firstOfTwo.mono _ _ _ _) (impl_votes_firstOfTwo.mono_p (fun _ _ _ _=>?_) _ _ _)|refine LeO.ite ?_ ?_|refine LeO.bind ?_ (fun _=>?_)
set_option maxHeartbeats 8000000 in
set_option maxRecDepth 100000 in
theorem impl_votes_firstTrade.calls (k:Nat) (a0_0:Int) (A0_1:Option Addr) (c0_1:Nat) (l0_1:List Bool) (r1:List (List Int)) (r2:List (List Int)) (r3:Bool) (w:World) (hr0_1:Kd.C Kd.bool w A0_1 l0_1.length l0_1) (hc0_1:l0_1.length ≤ c0_1) (h:impl_votes_firstTrade.f k a0_0 l0_1 = some (r1,r2,r3)) :
  Calls Try.prog 58 #[.agg #[.int .i64 a0_0,.slice A0_1 l0_1.length c0_1]] w fun e w'=>∃ v0_ v1_:Value,e = .returned (.tuple #[.agg #[v0_,v1_],.bool r3]) ∧ Kd.S (Kd.slice 3 (Kd.int .i64)) 40 w' w.heap.size (fun k_=>some k_ ≠ (v1_:Value).ownBlock) v0_ r1 ∧ Kd.S (Kd.slice 3 (Kd.int .i64)) 40 w' w.heap.size (fun k_=>some k_ ≠ (v0_:Value).ownBlock) v1_ r2 ∧ Below w.heap.size w w':=by
 have hu68:=Try.underlying68;have hu77:=Try.underlying77;have HR0_1:=Aside0.mk hr0_1;have HC0_1:=Aside0.mk hc0_1;clear hr0_1 hc0_1;have HB:=Aside0.mk (Below.refl w.heap.size w);have H:((impl_votes_firstOfTwo.f k a0_0 l0_1 (fun y0_ y1_ y2_ y3_=>impl_votes_firstTrade_1.f y0_ y1_ y2_ y3_)).bind fun bt659=>(some (bt659.1,bt659.2.1,bt659.2.2))) = some (r1,r2,r3):=h;clear h;replace H:=Option.bind_eq_some_iff.mp H;obtain ⟨⟨t659,t662,t665⟩,A20,H⟩:=H;replace H:(some (t659,t662,t665)) = some (r1,r2,r3):=H;have A2:=Aside0.mk A20;clear A20;simp only [Option.some.injEq,Prod.mk.injEq] at H;obtain ⟨rfl,rfl,rfl⟩:=H;go_enter Try.func58,Try.ntmps58;go_wp2_with (first|((with_reducible refine gate_dst (N:=1) rfl ?_);refine box_event ?hg (N:=1) ?hd (cs:=#[.int .i64 a0_0,.slice A0_1 l0_1.length c0_1]) (t:=68) ?hr ?_;(case hd=>rfl);(case hg=>rfl);(case hr=>first|(go_simp;done)|(go_simp;rfl));intro gb657 hg w3 hbox hb;have n0_:=Aside0.mk (below_step bw hb);have n1_:=Aside0.mk (hbox);have n2_:=Aside0.mk ((by rw [hg];exact (below_size bw):w.heap.size ≤ gb657));have n3_:=Aside0.mk ((by rw [hg];exact (below_size bw):w.heap.size ≤ gb657));clear HB;have HB:=n0_;have BK657:=n1_;have GW657:=n2_;have GE657:=n3_;clear n0_ n1_ n2_ n3_;clear hb hbox hg)|((with_reducible refine gate_dst (N:=2) rfl ?_);refine box_event ?hg (N:=2) ?hd (cs:=#[.slice none 0 0,.slice none 0 0]) (t:=77) ?hr ?_;(case hd=>rfl);(case hg=>rfl);(case hr=>first|(go_simp;done)|(go_simp;rfl));intro gb658 hg w4 hbox hb;have n0_:=Aside0.mk (blk_below (g:=gb657) (o:=.cells #[.int .i64 a0_0,.slice A0_1 l0_1.length c0_1] 68 (0,0)) bk hb);have n1_:=Aside0.mk (below_step bw hb);have n2_:=Aside0.mk (hbox);have n3_:=Aside0.mk ((by rw [hg];exact (below_size bw):w.heap.size ≤ gb658));have n4_:=Aside0.mk ((by rw [hg];exact (below_size bw):w.heap.size ≤ gb658));have n5_:=Aside0.mk ((by rw [hg];exact Nat.ne_of_lt (blk_lt (g:=gb657) (o:=.cells #[.int .i64 a0_0,.slice A0_1 l0_1.length c0_1] 68 (0,0)) bk):gb657 ≠ gb658));have n6_:=Aside0.mk ((by rw [hg];exact Nat.ne_of_gt (blk_lt (g:=gb657) (o:=.cells #[.int .i64 a0_0,.slice A0_1 l0_1.length c0_1] 68 (0,0)) bk):gb658 ≠ gb657));clear BK657;clear HB;have BK657:=n0_;have HB:=n1_;have BK658:=n2_;have GW658:=n3_;have GE658:=n4_;have NB657_658:=n5_;have NB658_657:=n6_;clear n0_ n1_ n2_ n3_ n4_ n5_ n6_;clear hb hbox hg;have hnb5:=NB657_658.out;have hnc5:=NB658_657.out;have hcz6_0:w4.cell? ⟨gb657,0,none⟩ = some (.int .i64 a0_0):=(blk_cell BK657.out 0).trans rfl;have hcz6_1:w4.cell? ⟨gb657,1,none⟩ = some (.slice A0_1 l0_1.length c0_1):=(blk_cell BK657.out 1).trans rfl;have hfz6_0:=blk_frozen BK657.out 0;have hfz6_1:=blk_frozen BK657.out 1)|((with_reducible refine gate_callee (f:=100) rfl ?_);refine goesL_ (some 5) rfl rfl Try.func100 (by kernel_rfl) rfl #[.agg #[.int .i64 a0_0,.slice A0_1 l0_1.length c0_1],.func (.func 101) #[] #[]] rfl mq ?_;(with_reducible refine (impl_votes_firstOfTwo.calls k a0_0 _ _ l0_1 (fun y0_ y1_ y2_ y3_=>impl_votes_firstTrade_1.f y0_ y1_ y2_ y3_) 101 #[] impl_votes_firstTrade_1.enters t659 t662 t665 _ ?side1 ?side2 ?side3 A2.out).mono ?_);(case side1=>repeat (first|exact (Kd.C_below HR0_1.out HB.out)|(with_reducible refine Kd.C_alloc ?_ _)|(with_reducible refine Kd.C_drewN ?_ _)|(with_reducible refine Kd.C_drew ?_)));(case side2=>exact HC0_1.out);(case side3=>exact (fun W_ a0_ a1_ a2_ a3_ r0_ hx_ hb_ =>(impl_votes_firstTrade_1.calls a0_ a1_ a2_ a3_  r0_ W_   hx_).mono (fun _ _ h_=>⟨h_.1,h_.2.below⟩)));rintro e w7 ⟨v660,v663,rfl,ho0,ho1,hb⟩;refine ⟨_,rfl,?_⟩;have n0_:=Aside0.mk (Kd.S_lower ho0 (below_size bw));have n1_:=Aside0.mk (Kd.S_lower ho1 (below_size bw));have n2_:=Aside0.mk (blk_below (g:=gb657) (o:=.cells #[.int .i64 a0_0,.slice A0_1 l0_1.length c0_1] 68 (0,0)) bk hb);have n3_:=Aside0.mk (blk_below (g:=gb658) (o:=.cells #[.slice none 0 0,.slice none 0 0] 77 (0,0)) bk hb);have n4_:=Aside0.mk (below_step bw hb);clear BK657;clear BK658;clear HB;have HO661:=n0_;have HO664:=n1_;have BK657:=n2_;have BK658:=n3_;have HB:=n4_;clear n0_ n1_ n2_ n3_ n4_;(try clear hb);(try clear hb2);(try clear hk);(try clear hi);(try clear ho0);(try clear ho1);obtain ⟨Ao8,co8,eo8⟩:=Kd.S_slice HO661.out;subst eo8;have hcz9_0:w7.cell? ⟨gb658,0,none⟩ = some (.slice none 0 0):=(blk_cell BK658.out 0).trans rfl;have hcz9_1:w7.cell? ⟨gb658,1,none⟩ = some (.slice none 0 0):=(blk_cell BK658.out 1).trans rfl;have hfz9_0:=blk_frozen BK658.out 0;have hfz9_1:=blk_frozen BK658.out 1;obtain ⟨Ao10,co10,eo10⟩:=Kd.S_slice HO664.out;subst eo10))
 refine bodyPost_ret (results_ct rfl _ _ gb658 77 #[.slice Ao8 t659.length co8,.slice Ao10 t662.length co10] (0,0) _ rfl (by (with_reducible repeat (first|refine blk_drewN ?_ _|refine blk_drew ?_|refine blk_alloc ?_ _));refine blk_put (cs:=#[.slice Ao8 t659.length co8,.slice none 0 0]) ?_ 1 _ rfl;(with_reducible repeat (first|refine blk_drewN ?_ _|refine blk_drew ?_|refine blk_alloc ?_ _));refine blk_put (cs:=#[.slice none 0 0,.slice none 0 0]) ?_ 0 _ rfl;(with_reducible repeat (first|refine blk_drewN ?_ _|refine blk_drew ?_|refine blk_alloc ?_ _));exact BK658.out) Try.underlying77 rfl (by kernel_rfl)) rfl ?_;exact ⟨_,_,by first|rfl|(simp [errW_none,errW_some] <;> rfl)|(simp [*,errW_none,errW_some] <;> rfl),by (with_reducible repeat (first|apply Kd.S_alloc|apply Kd.S_drewN|apply Kd.S_drew));exact Kd.S_mono (Kd.S_far (p:=⟨gb658,1,none⟩) (Kd.S_far (p:=⟨gb658,0,none⟩) (Kd.S_types HO661.out BK658.out (by decide)) (fun _ hk=>hk.2) (.slice Ao8 t659.length co8)) (fun _ hk=>hk.2) (.slice Ao10 t662.length co10)) (fun _ hk=>hk.1),by (with_reducible repeat (first|apply Kd.S_alloc|apply Kd.S_drewN|apply Kd.S_drew));exact Kd.S_mono (Kd.S_far (p:=⟨gb658,1,none⟩) (Kd.S_far (p:=⟨gb658,0,none⟩) (Kd.S_types HO664.out BK658.out (by decide)) (fun _ hk=>hk.2) (.slice Ao8 t659.length co8)) (fun _ hk=>hk.2) (.slice Ao10 t662.length co10)) (fun _ hk=>hk.1),by repeat (first|(with_reducible first|exact HB.out|apply below_alloc|apply pw_below_drewN|apply below_drew1|refine below_set ?_ GE657.out|refine below_set ?_ GE658.out)|exact HB.out)⟩


/-! ### impl_HasWeights: function 23 -/
def impl_HasWeights.f (k:Nat) (a0_0:Int) (l0_1:List (List Int)):Option (Bool × Bool):=(impl_isFoundGame.f k a0_0 l0_1).bind fun t692=>(if t692 = true then ((impl_Game_votes.f k a0_0 l0_1).bind fun bt693=>((impl_votes_firstTrade.f k bt693.1 bt693.2).bind fun bt697=>(some (!bt697.2.2,true)))) else (some (false,false)))
theorem impl_HasWeights.mono:∀ a0 a1 k,LeO (impl_HasWeights.f k a0 a1) (impl_HasWeights.f (k + 1) a0 a1):=by
 intro a0 a1 k;unfold impl_HasWeights.f
 repeat' with_reducible first|exact impl_Game_votes.mono _ _ _|exact impl_isFoundGame.mono _ _ _|exact impl_votes_firstTrade.mono _ _ _|exact LeO.refl _|exact LeO.none _|refine LeO.ite ?_ ?_|refine LeO.bind ?_ (fun _=>?_)
set_option maxHeartbeats 8000000 in
set_option maxRecDepth 100000 in
theorem impl_HasWeights.calls (k:Nat) (a0_0:Int) (A0_1:Option Addr) (c0_1:Nat) (l0_1:List (List Int)) (r1:Bool) (r2:Bool) (w:World) (hr0_1:Kd.C (Kd.slice 3 (Kd.int .i64)) w A0_1 l0_1.length l0_1) (hc0_1:l0_1.length ≤ c0_1) (h:impl_HasWeights.f k a0_0 l0_1 = some (r1,r2)) :
  Calls Try.prog 23 #[.agg #[.int .i64 a0_0,.slice A0_1 l0_1.length c0_1]] w fun e w'=>e = .returned (.tuple #[.bool r1,.bool r2]) ∧ Below w.heap.size w w':=by
 have hu28:=Try.underlying28;have hu77:=Try.underlying77;have HR0_1:=Aside0.mk hr0_1;have HC0_1:=Aside0.mk hc0_1;clear hr0_1 hc0_1;have HB:=Aside0.mk (Below.refl w.heap.size w);have H:((impl_isFoundGame.f k a0_0 l0_1).bind fun t692=>(if t692 = true then ((impl_Game_votes.f k a0_0 l0_1).bind fun bt693=>((impl_votes_firstTrade.f k bt693.1 bt693.2).bind fun bt697=>(some (!bt697.2.2,true)))) else (some (false,false)))) = some (r1,r2):=h;clear h;replace H:=Option.bind_eq_some_iff.mp H;obtain ⟨t692,A20,H⟩:=H;replace H:(if t692 = true then ((impl_Game_votes.f k a0_0 l0_1).bind fun bt693=>((impl_votes_firstTrade.f k bt693.1 bt693.2).bind fun bt697=>(some (!bt697.2.2,true)))) else (some (false,false))) = some (r1,r2):=H;have A2:=Aside0.mk A20;clear A20;by_cases c3:t692 = true
 ·subst c3;have H1:((impl_Game_votes.f k a0_0 l0_1).bind fun bt693=>((impl_votes_firstTrade.f k bt693.1 bt693.2).bind fun bt697=>(some (!bt697.2.2,true)))) = some (r1,r2):=by rw [if_pos rfl] at H;exact H
  clear H;have H:=H1;clear H1;replace H:=Option.bind_eq_some_iff.mp H;obtain ⟨⟨t693,t694⟩,A40,H⟩:=H;replace H:((impl_votes_firstTrade.f k t693 t694).bind fun bt697=>(some (!bt697.2.2,true))) = some (r1,r2):=H;have A4:=Aside0.mk A40;clear A40;replace H:=Option.bind_eq_some_iff.mp H;obtain ⟨⟨t697,t700,t703⟩,A50,H⟩:=H;replace H:(some (!t703,true)) = some (r1,r2):=H;have A5:=Aside0.mk A50;clear A50;simp only [Option.some.injEq,Prod.mk.injEq] at H;obtain ⟨rfl,rfl⟩:=H;go_enter Try.func23,Try.ntmps23;go_wp2_with (first|((with_reducible refine gate_dst (N:=1) rfl ?_);refine box_event ?hg (N:=1) ?hd (cs:=#[.int .i64 a0_0,.slice A0_1 l0_1.length c0_1]) (t:=28) ?hr ?_;(case hd=>rfl);(case hg=>rfl);(case hr=>first|(go_simp;done)|(go_simp;rfl));intro gb691 hg w6 hbox hb;have n0_:=Aside0.mk (below_step bw hb);have n1_:=Aside0.mk (hbox);have n2_:=Aside0.mk ((by rw [hg];exact (below_size bw):w.heap.size ≤ gb691));have n3_:=Aside0.mk ((by rw [hg];exact (below_size bw):w.heap.size ≤ gb691));clear HB;have HB:=n0_;have BK691:=n1_;have GW691:=n2_;have GE691:=n3_;clear n0_ n1_ n2_ n3_;clear hb hbox hg;have hcz7_0:w6.cell? ⟨gb691,0,none⟩ = some (.int .i64 a0_0):=(blk_cell BK691.out 0).trans rfl;have hcz7_1:w6.cell? ⟨gb691,1,none⟩ = some (.slice A0_1 l0_1.length c0_1):=(blk_cell BK691.out 1).trans rfl;have hfz7_0:=blk_frozen BK691.out 0;have hfz7_1:=blk_frozen BK691.out 1)|((with_reducible refine gate_callee (f:=61) rfl ?_);refine goesL_ (some 7) rfl rfl Try.func61 (by kernel_rfl) rfl #[.agg #[.int .i64 a0_0,.slice A0_1 l0_1.length c0_1]] rfl mq ?_;(with_reducible refine (impl_isFoundGame.calls k a0_0 _ _ l0_1 true _ ?side1 ?side2 A2.out).mono ?_);(case side1=>repeat (first|exact (Kd.C_below HR0_1.out HB.out)|(with_reducible refine Kd.C_alloc ?_ _)|(with_reducible refine Kd.C_drewN ?_ _)|(with_reducible refine Kd.C_drew ?_)));(case side2=>exact HC0_1.out);rintro e w8 ⟨rfl,hb⟩;refine ⟨_,rfl,?_⟩;have n0_:=Aside0.mk (blk_below (g:=gb691) (o:=.cells #[.int .i64 a0_0,.slice A0_1 l0_1.length c0_1] 28 (0,0)) bk hb);have n1_:=Aside0.mk (below_step bw hb);clear BK691;clear HB;have BK691:=n0_;have HB:=n1_;clear n0_ n1_;(try clear hb);(try clear hb2);(try clear hk);(try clear hi);have hcz9_0:w8.cell? ⟨gb691,0,none⟩ = some (.int .i64 a0_0):=(blk_cell BK691.out 0).trans rfl;have hcz9_1:w8.cell? ⟨gb691,1,none⟩ = some (.slice A0_1 l0_1.length c0_1):=(blk_cell BK691.out 1).trans rfl;have hfz9_0:=blk_frozen BK691.out 0;have hfz9_1:=blk_frozen BK691.out 1)|((with_reducible refine gate_callee (f:=49) rfl ?_);refine goesL_ (some 11) rfl rfl Try.func49 (by kernel_rfl) rfl #[.agg #[.int .i64 a0_0,.slice A0_1 l0_1.length c0_1]] rfl mq ?_;(with_reducible refine (impl_Game_votes.calls k a0_0 _ _ l0_1 t693 t694 _ ?side1 ?side2 A4.out).mono ?_);(case side1=>repeat (first|exact (Kd.C_below HR0_1.out HB.out)|(with_reducible refine Kd.C_alloc ?_ _)|(with_reducible refine Kd.C_drewN ?_ _)|(with_reducible refine Kd.C_drew ?_)));(case side2=>exact HC0_1.out);rintro e w10 ⟨v695,rfl,ho0,hb⟩;refine ⟨_,rfl,?_⟩;have n0_:=Aside0.mk (Kd.R_lower ho0 (below_size bw));have n1_:=Aside0.mk (blk_below (g:=gb691) (o:=.cells #[.int .i64 a0_0,.slice A0_1 l0_1.length c0_1] 28 (0,0)) bk hb);have n2_:=Aside0.mk (below_step bw hb);clear BK691;clear HB;have HO696:=n0_;have BK691:=n1_;have HB:=n2_;clear n0_ n1_ n2_;(try clear hb);(try clear hb2);(try clear hk);(try clear hi);(try clear ho0);obtain ⟨Ao11,co11,eo11⟩:=Kd.R_slice HO696.out;subst eo11)|((with_reducible refine gate_callee (f:=58) rfl ?_);refine goesL_ (some 12) rfl rfl Try.func58 (by kernel_rfl) rfl #[.agg #[.int .i64 t693,.slice Ao11 t694.length co11]] rfl mq ?_;(with_reducible refine (impl_votes_firstTrade.calls k t693 _ _ t694 t697 t700 t703 _ ?side1 ?side2 A5.out).mono ?_);(case side1=>repeat (first|exact (Kd.R_reads' HO696.out).2.2|(with_reducible refine Kd.C_alloc ?_ _)|(with_reducible refine Kd.C_drewN ?_ _)|(with_reducible refine Kd.C_drew ?_)));(case side2=>exact (Kd.R_reads' HO696.out).2.1);rintro e w12 ⟨v698,v701,rfl,ho0,ho1,hb⟩;refine ⟨_,rfl,?_⟩;have n0_:=Aside0.mk (Kd.R_below (by (with_reducible repeat (first|apply Kd.R_alloc|apply Kd.R_drewN|apply Kd.R_drew));exact HO696.out) hb);have n1_:=Aside0.mk (Kd.S_lower ho0 (below_size bw));have n2_:=Aside0.mk (Kd.S_lower ho1 (below_size bw));have n3_:=Aside0.mk (blk_below (g:=gb691) (o:=.cells #[.int .i64 a0_0,.slice A0_1 l0_1.length c0_1] 28 (0,0)) bk hb);have n4_:=Aside0.mk (below_step bw hb);clear HO696;clear BK691;clear HB;have HO696:=n0_;have HO699:=n1_;have HO702:=n2_;have BK691:=n3_;have HB:=n4_;clear n0_ n1_ n2_ n3_ n4_;(try clear hb);(try clear hb2);(try clear hk);(try clear hi);(try clear ho0);(try clear ho1))|((with_reducible refine gate_dst (N:=4) rfl ?_);refine box_event ?hg (N:=4) ?hd (cs:=#[.slice none 0 0,.slice none 0 0]) (t:=77) ?hr ?_;(case hd=>rfl);(case hg=>rfl);(case hr=>first|(go_simp;done)|(go_simp;rfl));intro gb704 hg w13 hbox hb;have n0_:=Aside0.mk (Kd.R_below (by (with_reducible repeat (first|apply Kd.R_alloc|apply Kd.R_drewN|apply Kd.R_drew));exact HO696.out) hb);have n1_:=Aside0.mk (Kd.S_below (by (with_reducible repeat (first|apply Kd.S_alloc|apply Kd.S_drewN|apply Kd.S_drew));exact HO699.out) hb);have n2_:=Aside0.mk (Kd.S_below (by (with_reducible repeat (first|apply Kd.S_alloc|apply Kd.S_drewN|apply Kd.S_drew));exact HO702.out) hb);have n3_:=Aside0.mk (blk_below (g:=gb691) (o:=.cells #[.int .i64 a0_0,.slice A0_1 l0_1.length c0_1] 28 (0,0)) bk hb);have n4_:=Aside0.mk (below_step bw hb);have n5_:=Aside0.mk (hbox);have n6_:=Aside0.mk ((by rw [hg];exact (below_size bw):w.heap.size ≤ gb704));have n7_:=Aside0.mk ((by rw [hg];exact (below_size bw):w.heap.size ≤ gb704));have n8_:=Aside0.mk ((by rw [hg];exact Nat.ne_of_lt (blk_lt (g:=gb691) (o:=.cells #[.int .i64 a0_0,.slice A0_1 l0_1.length c0_1] 28 (0,0)) bk):gb691 ≠ gb704));have n9_:=Aside0.mk ((by rw [hg];exact Nat.ne_of_gt (blk_lt (g:=gb691) (o:=.cells #[.int .i64 a0_0,.slice A0_1 l0_1.length c0_1] 28 (0,0)) bk):gb704 ≠ gb691));clear HO696;clear HO699;clear HO702;clear BK691;clear HB;have HO696:=n0_;have HO699:=n1_;have HO702:=n2_;have BK691:=n3_;have HB:=n4_;have BK704:=n5_;have GW704:=n6_;have GE704:=n7_;have NB691_704:=n8_;have NB704_691:=n9_;clear n0_ n1_ n2_ n3_ n4_ n5_ n6_ n7_ n8_ n9_;clear hb hbox hg;obtain ⟨Ao14,co14,eo14⟩:=Kd.S_slice HO699.out;subst eo14;have hnb15:=NB704_691.out;have hnc15:=NB691_704.out;have hcz16_0:w13.cell? ⟨gb704,0,none⟩ = some (.slice none 0 0):=(blk_cell BK704.out 0).trans rfl;have hcz16_1:w13.cell? ⟨gb704,1,none⟩ = some (.slice none 0 0):=(blk_cell BK704.out 1).trans rfl;have hfz16_0:=blk_frozen BK704.out 0;have hfz16_1:=blk_frozen BK704.out 1;obtain ⟨Ao17,co17,eo17⟩:=Kd.S_slice HO702.out;subst eo17))
  go_ret2
  exact ⟨by first|rfl|(simp [errW_none,errW_some] <;> rfl)|(simp [*,errW_none,errW_some] <;> rfl),by repeat (first|(with_reducible first|exact HB.out|apply below_alloc|apply pw_below_drewN|apply below_drew1|refine below_set ?_ GE691.out|refine below_set ?_ GE704.out)|exact HB.out)⟩
 ·replace c3:=Bool.eq_false_iff.mpr c3;subst c3;have H1:(some (false,false)) = some (r1,r2):=by rw [if_neg (show ¬ (false = true) by decide)] at H;exact H
  clear H;have H:=H1;clear H1;simp only [Option.some.injEq,Prod.mk.injEq] at H;obtain ⟨rfl,rfl⟩:=H;go_enter Try.func23,Try.ntmps23;go_wp2_with (first|((with_reducible refine gate_dst (N:=1) rfl ?_);refine box_event ?hg (N:=1) ?hd (cs:=#[.int .i64 a0_0,.slice A0_1 l0_1.length c0_1]) (t:=28) ?hr ?_;(case hd=>rfl);(case hg=>rfl);(case hr=>first|(go_simp;done)|(go_simp;rfl));intro gb691 hg w18 hbox hb;have n0_:=Aside0.mk (below_step bw hb);have n1_:=Aside0.mk (hbox);have n2_:=Aside0.mk ((by rw [hg];exact (below_size bw):w.heap.size ≤ gb691));have n3_:=Aside0.mk ((by rw [hg];exact (below_size bw):w.heap.size ≤ gb691));clear HB;have HB:=n0_;have BK691:=n1_;have GW691:=n2_;have GE691:=n3_;clear n0_ n1_ n2_ n3_;clear hb hbox hg;have hcz19_0:w18.cell? ⟨gb691,0,none⟩ = some (.int .i64 a0_0):=(blk_cell BK691.out 0).trans rfl;have hcz19_1:w18.cell? ⟨gb691,1,none⟩ = some (.slice A0_1 l0_1.length c0_1):=(blk_cell BK691.out 1).trans rfl;have hfz19_0:=blk_frozen BK691.out 0;have hfz19_1:=blk_frozen BK691.out 1)|((with_reducible refine gate_callee (f:=61) rfl ?_);refine goesL_ (some 7) rfl rfl Try.func61 (by kernel_rfl) rfl #[.agg #[.int .i64 a0_0,.slice A0_1 l0_1.length c0_1]] rfl mq ?_;(with_reducible refine (impl_isFoundGame.calls k a0_0 _ _ l0_1 false _ ?side1 ?side2 A2.out).mono ?_);(case side1=>repeat (first|exact (Kd.C_below HR0_1.out HB.out)|(with_reducible refine Kd.C_alloc ?_ _)|(with_reducible refine Kd.C_drewN ?_ _)|(with_reducible refine Kd.C_drew ?_)));(case side2=>exact HC0_1.out);rintro e w20 ⟨rfl,hb⟩;refine ⟨_,rfl,?_⟩;have n0_:=Aside0.mk (blk_below (g:=gb691) (o:=.cells #[.int .i64 a0_0,.slice A0_1 l0_1.length c0_1] 28 (0,0)) bk hb);have n1_:=Aside0.mk (below_step bw hb);clear BK691;clear HB;have BK691:=n0_;have HB:=n1_;clear n0_ n1_;(try clear hb);(try clear hb2);(try clear hk);(try clear hi)))
  go_ret2
  exact ⟨by first|rfl|(simp [errW_none,errW_some] <;> rfl)|(simp [*,errW_none,errW_some] <;> rfl),by repeat (first|(with_reducible first|exact HB.out|apply below_alloc|apply pw_below_drewN|apply below_drew1|refine below_set ?_ GE691.out)|exact HB.out)⟩


/-! ### laws_FnExactHasWeights: function 5 -/
def laws_FnExactHasWeights.f (k:Nat) (a0_0:Int) (l0_1:List (List Int)):Option (Bool):=(laws_szGame.f k a0_0 l0_1 1048576).bind fun t706=>(if t706 < 0 then (some true) else ((laws_toGame.f k a0_0 l0_1).bind fun bt707=>((spec_HasWeights.f k bt707.1 bt707.2).bind fun bt711=>((laws_toGame.f k a0_0 l0_1).bind fun bt713=>((impl_HasWeights.f k bt713.1 bt713.2).bind fun bt718=>(if (bt718.1 != bt711.1) = true then (some false) else (if (bt718.2 != bt711.2) = true then (some false) else ((laws_toGame.f k a0_0 l0_1).bind fun bt720=>((laws_eqGame.f k bt713.1 bt713.2 bt720.1 bt720.2).bind fun t724=>(if t724 = true then (some true) else (some false)))))))))))
theorem laws_FnExactHasWeights.mono:∀ a0 a1 k,LeO (laws_FnExactHasWeights.f k a0 a1) (laws_FnExactHasWeights.f (k + 1) a0 a1):=by
 intro a0 a1 k;unfold laws_FnExactHasWeights.f
 repeat' with_reducible first|exact impl_HasWeights.mono _ _ _|exact laws_eqGame.mono _ _ _ _ _|exact laws_szGame.mono _ _ _ _|exact laws_toGame.mono _ _ _|exact spec_HasWeights.mono _ _ _|exact LeO.refl _|exact LeO.none _|refine LeO.ite ?_ ?_|refine LeO.bind ?_ (fun _=>?_)
set_option maxHeartbeats 8000000 in
set_option maxRecDepth 100000 in
theorem laws_FnExactHasWeights.calls (k:Nat) (a0_0:Int) (A0_1:Option Addr) (c0_1:Nat) (l0_1:List (List Int)) (r:Bool) (w:World) (hr0_1:Kd.C (Kd.slice 3 (Kd.int .i64)) w A0_1 l0_1.length l0_1) (hc0_1:l0_1.length ≤ c0_1) (hr_:Aside0 (r = true)) (h:laws_FnExactHasWeights.f k a0_0 l0_1 = some r) :
  Calls Try.prog 5 #[.agg #[.int .i64 a0_0,.slice A0_1 l0_1.length c0_1]] w fun e w'=>e = .returned (.bool r) ∧ Below w.heap.size w w':=by
 have hu24:=Try.underlying24;have hu28:=Try.underlying28;have HR0_1:=Aside0.mk hr0_1;have HC0_1:=Aside0.mk hc0_1;clear hr0_1 hc0_1;have HB:=Aside0.mk (Below.refl w.heap.size w);have H:((laws_szGame.f k a0_0 l0_1 1048576).bind fun t706=>(if t706 < 0 then (some true) else ((laws_toGame.f k a0_0 l0_1).bind fun bt707=>((spec_HasWeights.f k bt707.1 bt707.2).bind fun bt711=>((laws_toGame.f k a0_0 l0_1).bind fun bt713=>((impl_HasWeights.f k bt713.1 bt713.2).bind fun bt718=>(if (bt718.1 != bt711.1) = true then (some false) else (if (bt718.2 != bt711.2) = true then (some false) else ((laws_toGame.f k a0_0 l0_1).bind fun bt720=>((laws_eqGame.f k bt713.1 bt713.2 bt720.1 bt720.2).bind fun t724=>(if t724 = true then (some true) else (some false)))))))))))) = some r:=h;clear h;replace H:=Option.bind_eq_some_iff.mp H;obtain ⟨t706,A20,H⟩:=H;replace H:(if t706 < 0 then (some true) else ((laws_toGame.f k a0_0 l0_1).bind fun bt707=>((spec_HasWeights.f k bt707.1 bt707.2).bind fun bt711=>((laws_toGame.f k a0_0 l0_1).bind fun bt713=>((impl_HasWeights.f k bt713.1 bt713.2).bind fun bt718=>(if (bt718.1 != bt711.1) = true then (some false) else (if (bt718.2 != bt711.2) = true then (some false) else ((laws_toGame.f k a0_0 l0_1).bind fun bt720=>((laws_eqGame.f k bt713.1 bt713.2 bt720.1 bt720.2).bind fun t724=>(if t724 = true then (some true) else (some false))))))))))) = some r:=H;have A2:=Aside0.mk A20;clear A20;by_cases c3:t706 < 0
 ·rw [if_pos c3] at H;have c3b0:decide (t706 < 0) = true:=decide_eq_true c3;clear c3;obtain rfl:=Option.some.inj H;go_enter Try.func5,Try.ntmps5;go_wp2_with (first|((with_reducible refine gate_dst (N:=1) rfl ?_);refine box_event ?hg (N:=1) ?hd (cs:=#[.int .i64 a0_0,.slice A0_1 l0_1.length c0_1]) (t:=24) ?hr ?_;(case hd=>rfl);(case hg=>rfl);(case hr=>first|(go_simp;done)|(go_simp;rfl));intro gb705 hg w4 hbox hb;have n0_:=Aside0.mk (below_step bw hb);have n1_:=Aside0.mk (hbox);have n2_:=Aside0.mk ((by rw [hg];exact (below_size bw):w.heap.size ≤ gb705));have n3_:=Aside0.mk ((by rw [hg];exact (below_size bw):w.heap.size ≤ gb705));clear HB;have HB:=n0_;have BK705:=n1_;have GW705:=n2_;have GE705:=n3_;clear n0_ n1_ n2_ n3_;clear hb hbox hg;have hcz5_0:w4.cell? ⟨gb705,0,none⟩ = some (.int .i64 a0_0):=(blk_cell BK705.out 0).trans rfl;have hcz5_1:w4.cell? ⟨gb705,1,none⟩ = some (.slice A0_1 l0_1.length c0_1):=(blk_cell BK705.out 1).trans rfl;have hfz5_0:=blk_frozen BK705.out 0;have hfz5_1:=blk_frozen BK705.out 1)|((with_reducible refine gate_callee (f:=11) rfl ?_);refine goesL_ (some 11) rfl rfl Try.func11 (by kernel_rfl) rfl #[.agg #[.int .i64 a0_0,.slice A0_1 l0_1.length c0_1],.int .i64 1048576] rfl mq ?_;(with_reducible refine (laws_szGame.calls k a0_0 _ _ l0_1 1048576 t706 _ ?side1 ?side2 A2.out).mono ?_);(case side1=>repeat (first|exact (Kd.C_below HR0_1.out HB.out)|(with_reducible refine Kd.C_alloc ?_ _)|(with_reducible refine Kd.C_drewN ?_ _)|(with_reducible refine Kd.C_drew ?_)));(case side2=>exact HC0_1.out);rintro e w6 ⟨rfl,hb⟩;refine ⟨_,rfl,?_⟩;have n0_:=Aside0.mk (blk_below (g:=gb705) (o:=.cells #[.int .i64 a0_0,.slice A0_1 l0_1.length c0_1] 24 (0,0)) bk hb);have n1_:=Aside0.mk (below_step bw hb);clear BK705;clear HB;have BK705:=n0_;have HB:=n1_;clear n0_ n1_;(try clear hb);(try clear hb2);(try clear hk);(try clear hi)))
  go_ret
  exact ⟨by first|rfl|(simp [errW_none,errW_some] <;> rfl)|(simp [*,errW_none,errW_some] <;> rfl),by repeat (first|(with_reducible first|exact HB.out|apply below_alloc|apply pw_below_drewN|apply below_drew1|refine below_set ?_ GE705.out)|exact HB.out)⟩
 ·rw [if_neg c3] at H;have c3b0:decide (t706 < 0) = false:=decide_eq_false c3;clear c3;replace H:=Option.bind_eq_some_iff.mp H;obtain ⟨⟨t707,t708⟩,A70,H⟩:=H;replace H:((spec_HasWeights.f k t707 t708).bind fun bt711=>((laws_toGame.f k a0_0 l0_1).bind fun bt713=>((impl_HasWeights.f k bt713.1 bt713.2).bind fun bt718=>(if (bt718.1 != bt711.1) = true then (some false) else (if (bt718.2 != bt711.2) = true then (some false) else ((laws_toGame.f k a0_0 l0_1).bind fun bt720=>((laws_eqGame.f k bt713.1 bt713.2 bt720.1 bt720.2).bind fun t724=>(if t724 = true then (some true) else (some false))))))))) = some r:=H;have A7:=Aside0.mk A70;clear A70;replace H:=Option.bind_eq_some_iff.mp H;obtain ⟨⟨t711,t712⟩,A80,H⟩:=H;replace H:((laws_toGame.f k a0_0 l0_1).bind fun bt713=>((impl_HasWeights.f k bt713.1 bt713.2).bind fun bt718=>(if (bt718.1 != t711) = true then (some false) else (if (bt718.2 != t712) = true then (some false) else ((laws_toGame.f k a0_0 l0_1).bind fun bt720=>((laws_eqGame.f k bt713.1 bt713.2 bt720.1 bt720.2).bind fun t724=>(if t724 = true then (some true) else (some false)))))))) = some r:=H;have A8:=Aside0.mk A80;clear A80;replace H:=Option.bind_eq_some_iff.mp H;obtain ⟨⟨t713,t714⟩,A90,H⟩:=H;replace H:((impl_HasWeights.f k t713 t714).bind fun bt718=>(if (bt718.1 != t711) = true then (some false) else (if (bt718.2 != t712) = true then (some false) else ((laws_toGame.f k a0_0 l0_1).bind fun bt720=>((laws_eqGame.f k t713 t714 bt720.1 bt720.2).bind fun t724=>(if t724 = true then (some true) else (some false))))))) = some r:=H;have A9:=Aside0.mk A90;clear A90;replace H:=Option.bind_eq_some_iff.mp H;obtain ⟨⟨t718,t719⟩,A100,H⟩:=H;replace H:(if (t718 != t711) = true then (some false) else (if (t719 != t712) = true then (some false) else ((laws_toGame.f k a0_0 l0_1).bind fun bt720=>((laws_eqGame.f k t713 t714 bt720.1 bt720.2).bind fun t724=>(if t724 = true then (some true) else (some false)))))) = some r:=H;have A10:=Aside0.mk A100;clear A100;by_cases c11:(t718 != t711) = true
  ·rw [if_pos c11] at H;have c11b0:(t718 != t711) = true:=c11;(try (have c11b1:decide (t718 = t711) = false:=by simpa using c11))
   (try (have c11b2:(t718 == t711) = false:=by simpa using c11))
   (try (have c11b3:¬ (t718 = t711):=by simpa using c11))
   clear c11;exact absurd (H.trans (congrArg some hr_.out)) (by simp)
  ·rw [if_neg c11] at H;have c11b0:(t718 != t711) = false:=by simpa using c11
   (try (have c11b1:decide (t718 = t711) = true:=by simpa using c11))
   (try (have c11b2:(t718 == t711) = true:=by simpa using c11))
   clear c11;by_cases c12:(t719 != t712) = true
   ·rw [if_pos c12] at H;have c12b0:(t719 != t712) = true:=c12;(try (have c12b1:decide (t719 = t712) = false:=by simpa using c12))
    (try (have c12b2:(t719 == t712) = false:=by simpa using c12))
    (try (have c12b3:¬ (t719 = t712):=by simpa using c12))
    clear c12;exact absurd (H.trans (congrArg some hr_.out)) (by simp)
   ·rw [if_neg c12] at H;have c12b0:(t719 != t712) = false:=by simpa using c12
    (try (have c12b1:decide (t719 = t712) = true:=by simpa using c12))
    (try (have c12b2:(t719 == t712) = true:=by simpa using c12))
    clear c12;replace H:=Option.bind_eq_some_iff.mp H;obtain ⟨⟨t720,t721⟩,A130,H⟩:=H;replace H:((laws_eqGame.f k t713 t714 t720 t721).bind fun t724=>(if t724 = true then (some true) else (some false))) = some r:=H;have A13:=Aside0.mk A130;clear A130;replace H:=Option.bind_eq_some_iff.mp H;obtain ⟨t724,A140,H⟩:=H;replace H:(if t724 = true then (some true) else (some false)) = some r:=H;have A14:=Aside0.mk A140;clear A140;by_cases c15:t724 = true
    ·subst c15;have H1:(some true) = some r:=by rw [if_pos rfl] at H;exact H
     clear H;have H:=H1;clear H1;obtain rfl:=Option.some.inj H;go_enter Try.func5,Try.ntmps5
     try go_wp2_with (first|((with_reducible refine gate_dst (N:=1) rfl ?_);refine box_event ?hg (N:=1) ?hd (cs:=#[.int .i64 a0_0,.slice A0_1 l0_1.length c0_1]) (t:=24) ?hr ?_;(case hd=>rfl);(case hg=>rfl);(case hr=>first|(go_simp;done)|(go_simp;rfl));intro gb705 hg w16 hbox hb;have n0_:=Aside0.mk (below_step bw hb);have n1_:=Aside0.mk (hbox);have n2_:=Aside0.mk ((by rw [hg];exact (below_size bw):w.heap.size ≤ gb705));have n3_:=Aside0.mk ((by rw [hg];exact (below_size bw):w.heap.size ≤ gb705));clear HB;have HB:=n0_;have BK705:=n1_;have GW705:=n2_;have GE705:=n3_;clear n0_ n1_ n2_ n3_;clear hb hbox hg;have hcz17_0:w16.cell? ⟨gb705,0,none⟩ = some (.int .i64 a0_0):=(blk_cell BK705.out 0).trans rfl;have hcz17_1:w16.cell? ⟨gb705,1,none⟩ = some (.slice A0_1 l0_1.length c0_1):=(blk_cell BK705.out 1).trans rfl;have hfz17_0:=blk_frozen BK705.out 0;have hfz17_1:=blk_frozen BK705.out 1)|((with_reducible refine gate_callee (f:=11) rfl ?_);refine goesL_ (some 11) rfl rfl Try.func11 (by kernel_rfl) rfl #[.agg #[.int .i64 a0_0,.slice A0_1 l0_1.length c0_1],.int .i64 1048576] rfl mq ?_;(with_reducible refine (laws_szGame.calls k a0_0 _ _ l0_1 1048576 t706 _ ?side1 ?side2 A2.out).mono ?_);(case side1=>repeat (first|exact (Kd.C_below HR0_1.out HB.out)|(with_reducible refine Kd.C_alloc ?_ _)|(with_reducible refine Kd.C_drewN ?_ _)|(with_reducible refine Kd.C_drew ?_)));(case side2=>exact HC0_1.out);rintro e w18 ⟨rfl,hb⟩;refine ⟨_,rfl,?_⟩;have n0_:=Aside0.mk (blk_below (g:=gb705) (o:=.cells #[.int .i64 a0_0,.slice A0_1 l0_1.length c0_1] 24 (0,0)) bk hb);have n1_:=Aside0.mk (below_step bw hb);clear BK705;clear HB;have BK705:=n0_;have HB:=n1_;clear n0_ n1_;(try clear hb);(try clear hb2);(try clear hk);(try clear hi);have hcz19_0:w18.cell? ⟨gb705,0,none⟩ = some (.int .i64 a0_0):=(blk_cell BK705.out 0).trans rfl;have hcz19_1:w18.cell? ⟨gb705,1,none⟩ = some (.slice A0_1 l0_1.length c0_1):=(blk_cell BK705.out 1).trans rfl;have hfz19_0:=blk_frozen BK705.out 0;have hfz19_1:=blk_frozen BK705.out 1)|((with_reducible refine gate_callee (f:=13) rfl ?_);refine goesL_ (some 16) rfl rfl Try.func13 (by kernel_rfl) rfl #[.agg #[.int .i64 a0_0,.slice A0_1 l0_1.length c0_1]] rfl mq ?_;(with_reducible refine (laws_toGame.calls k a0_0 _ _ l0_1 t707 t708 _ ?side1 ?side2 A7.out).mono ?_);(case side1=>repeat (first|exact (Kd.C_below HR0_1.out HB.out)|(with_reducible refine Kd.C_alloc ?_ _)|(with_reducible refine Kd.C_drewN ?_ _)|(with_reducible refine Kd.C_drew ?_)));(case side2=>exact HC0_1.out);rintro e w20 ⟨v709,rfl,ho0,hb⟩;refine ⟨_,rfl,?_⟩;obtain ⟨NL21,eNL21,ho0⟩:=S_split ho0;have n0_:=Aside0.mk (Kd.S_lower ho0 (below_size bw));have n1_:=Aside0.mk (blk_below (g:=gb705) (o:=.cells #[.int .i64 a0_0,.slice A0_1 l0_1.length c0_1] 24 (0,0)) bk hb);have n2_:=Aside0.mk (below_step bw hb);clear BK705;clear HB;have HO710:=n0_;have BK705:=n1_;have HB:=n2_;clear n0_ n1_ n2_;(try clear hb);(try clear hb2);(try clear hk);(try clear hi);(try clear ho0);(try clear eNL21);obtain ⟨Ao22,co22,eo22⟩:=Kd.S_slice HO710.out;subst eo22)|((with_reducible refine gate_callee (f:=22) rfl ?_);refine goesL_ (some 17) rfl rfl Try.func22 (by kernel_rfl) rfl #[.agg #[.int .i64 t707,.slice Ao22 t708.length co22]] rfl mq ?_;(with_reducible refine (spec_HasWeights.calls k t707 _ _ t708 t711 t712 _ ?side1 ?side2 A8.out).mono ?_);(case side1=>repeat (first|exact (Kd.S_reads' HO710.out).2.2|(with_reducible refine Kd.C_alloc ?_ _)|(with_reducible refine Kd.C_drewN ?_ _)|(with_reducible refine Kd.C_drew ?_)));(case side2=>exact (Kd.S_reads' HO710.out).2.1);rintro e w23 ⟨rfl,hb⟩;refine ⟨_,rfl,?_⟩;have n0_:=Aside0.mk (Kd.S_below (by (with_reducible repeat (first|apply Kd.S_alloc|apply Kd.S_drewN|apply Kd.S_drew));exact HO710.out) hb);have n1_:=Aside0.mk (blk_below (g:=gb705) (o:=.cells #[.int .i64 a0_0,.slice A0_1 l0_1.length c0_1] 24 (0,0)) bk hb);have n2_:=Aside0.mk (below_step bw hb);clear HO710;clear BK705;clear HB;have HO710:=n0_;have BK705:=n1_;have HB:=n2_;clear n0_ n1_ n2_;(try clear hb);(try clear hb2);(try clear hk);(try clear hi);have hcz24_0:w23.cell? ⟨gb705,0,none⟩ = some (.int .i64 a0_0):=(blk_cell BK705.out 0).trans rfl;have hcz24_1:w23.cell? ⟨gb705,1,none⟩ = some (.slice A0_1 l0_1.length c0_1):=(blk_cell BK705.out 1).trans rfl;have hfz24_0:=blk_frozen BK705.out 0;have hfz24_1:=blk_frozen BK705.out 1)|((with_reducible refine gate_callee (f:=13) rfl ?_);refine goesL_ (some 21) rfl rfl Try.func13 (by kernel_rfl) rfl #[.agg #[.int .i64 a0_0,.slice A0_1 l0_1.length c0_1]] rfl mq ?_;(with_reducible refine (laws_toGame.calls k a0_0 _ _ l0_1 t713 t714 _ ?side1 ?side2 A9.out).mono ?_);(case side1=>repeat (first|exact (Kd.C_below HR0_1.out HB.out)|(with_reducible refine Kd.C_alloc ?_ _)|(with_reducible refine Kd.C_drewN ?_ _)|(with_reducible refine Kd.C_drew ?_)));(case side2=>exact HC0_1.out);rintro e w25 ⟨v715,rfl,ho0,hb⟩;refine ⟨_,rfl,?_⟩;obtain ⟨NL26,eNL26,ho0⟩:=S_split ho0;have n0_:=Aside0.mk (Kd.S_told (S_elderN (by (with_reducible repeat (first|apply Kd.S_alloc|apply Kd.S_drewN|apply Kd.S_drew));exact HO710.out) hb eNL26) (fun k_ e_=>Nat.le_trans (Nat.le_of_eq eNL26) (Kd.S_base ho0 k_ e_)));have n1_:=Aside0.mk (Kd.S_lower (Kd.S_new' ho0 (Kd.S_lt (by (with_reducible repeat (first|apply Kd.S_alloc|apply Kd.S_drewN|apply Kd.S_drew));exact HO710.out))) (below_size bw));have n2_:=Aside0.mk (blk_below (g:=gb705) (o:=.cells #[.int .i64 a0_0,.slice A0_1 l0_1.length c0_1] 24 (0,0)) bk hb);have n3_:=Aside0.mk (below_step bw hb);clear HO710;clear BK705;clear HB;have HO710:=n0_;have HO716:=n1_;have BK705:=n2_;have HB:=n3_;clear n0_ n1_ n2_ n3_;(try clear hb);(try clear hb2);(try clear hk);(try clear hi);(try clear ho0);(try clear eNL26))|((with_reducible refine gate_dst (N:=6) rfl ?_);refine box_event ?hg (N:=6) ?hd (cs:=#[.int .i64 0,.slice none 0 0]) (t:=28) ?hr ?_;(case hd=>rfl);(case hg=>rfl);(case hr=>first|(go_simp;done)|(go_simp;rfl));intro gb717 hg w27 hbox hb;have n0_:=Aside0.mk (Kd.S_below (by (with_reducible repeat (first|apply Kd.S_alloc|apply Kd.S_drewN|apply Kd.S_drew));exact HO710.out) hb);have n1_:=Aside0.mk (Kd.S_below (by (with_reducible repeat (first|apply Kd.S_alloc|apply Kd.S_drewN|apply Kd.S_drew));exact HO716.out) hb);have n2_:=Aside0.mk (blk_below (g:=gb705) (o:=.cells #[.int .i64 a0_0,.slice A0_1 l0_1.length c0_1] 24 (0,0)) bk hb);have n3_:=Aside0.mk (below_step bw hb);have n4_:=Aside0.mk (hbox);have n5_:=Aside0.mk ((by rw [hg];exact (below_size bw):w.heap.size ≤ gb717));have n6_:=Aside0.mk ((by rw [hg];exact (below_size bw):w.heap.size ≤ gb717));have n7_:=Aside0.mk ((by rw [hg];exact Nat.ne_of_lt (blk_lt (g:=gb705) (o:=.cells #[.int .i64 a0_0,.slice A0_1 l0_1.length c0_1] 24 (0,0)) bk):gb705 ≠ gb717));have n8_:=Aside0.mk ((by rw [hg];exact Nat.ne_of_gt (blk_lt (g:=gb705) (o:=.cells #[.int .i64 a0_0,.slice A0_1 l0_1.length c0_1] 24 (0,0)) bk):gb717 ≠ gb705));clear HO710;clear HO716;clear BK705;clear HB;have HO710:=n0_;have HO716:=n1_;have BK705:=n2_;have HB:=n3_;have BK717:=n4_;have GW717:=n5_;have GE717:=n6_;have NB705_717:=n7_;have NB717_705:=n8_;clear n0_ n1_ n2_ n3_ n4_ n5_ n6_ n7_ n8_;clear hb hbox hg;have hnb28:=NB717_705.out;have hnc28:=NB705_717.out;have hcz29_0:w27.cell? ⟨gb717,0,none⟩ = some (.int .i64 0):=(blk_cell BK717.out 0).trans rfl;have hcz29_1:w27.cell? ⟨gb717,1,none⟩ = some (.slice none 0 0):=(blk_cell BK717.out 1).trans rfl;have hfz29_0:=blk_frozen BK717.out 0;have hfz29_1:=blk_frozen BK717.out 1;obtain ⟨Ao30,co30,eo30⟩:=Kd.S_slice HO716.out;subst eo30)|((with_reducible refine gate_callee (f:=23) rfl ?_);refine goesL_ (some 24) rfl rfl Try.func23 (by kernel_rfl) rfl #[.agg #[.int .i64 t713,.slice Ao30 t714.length co30]] rfl mq ?_;(with_reducible refine (impl_HasWeights.calls k t713 _ _ t714 t718 t719 _ ?side1 ?side2 A10.out).mono ?_);(case side1=>refine (Kd.S_reads' (e:=40) (base:=w.heap.size) (ok:=fun k_=>(NL26 ≤ k_ ∧ some k_ ≠ (.slice Ao22 t708.length co22:Value).ownBlock)) (n:=t714.length) (c:=co30) ?_).2.2;exact (by (with_reducible repeat (first|apply Kd.S_alloc|apply Kd.S_drewN|apply Kd.S_drew));exact (Kd.S_mono (Kd.S_far (p:=⟨gb717,1,none⟩) (Kd.S_far (p:=⟨gb717,0,none⟩) (Kd.S_types HO716.out BK717.out (by decide)) (fun _ hk=>hk.2) (.int .i64 t713)) (fun _ hk=>hk.2) (.slice Ao30 t714.length co30)) (fun _ h_=>h_.1))));(case side2=>exact (Kd.S_reads' HO716.out).2.1);rintro e w31 ⟨rfl,hb⟩;refine ⟨_,rfl,?_⟩;have n0_:=Aside0.mk (Kd.S_below (by (with_reducible repeat (first|apply Kd.S_alloc|apply Kd.S_drewN|apply Kd.S_drew));exact (Kd.S_mono (Kd.S_far (p:=⟨gb717,1,none⟩) (Kd.S_far (p:=⟨gb717,0,none⟩) (Kd.S_types HO710.out BK717.out (by decide)) (fun _ hk=>hk.2) (.int .i64 t713)) (fun _ hk=>hk.2) (.slice Ao30 t714.length co30)) (fun _ h_=>h_.1))) hb);have n1_:=Aside0.mk (Kd.S_below (by (with_reducible repeat (first|apply Kd.S_alloc|apply Kd.S_drewN|apply Kd.S_drew));exact (Kd.S_mono (Kd.S_far (p:=⟨gb717,1,none⟩) (Kd.S_far (p:=⟨gb717,0,none⟩) (Kd.S_types HO716.out BK717.out (by decide)) (fun _ hk=>hk.2) (.int .i64 t713)) (fun _ hk=>hk.2) (.slice Ao30 t714.length co30)) (fun _ h_=>h_.1))) hb);have n2_:=Aside0.mk (blk_below (g:=gb705) (o:=.cells #[.int .i64 a0_0,.slice A0_1 l0_1.length c0_1] 24 (0,0)) (by (with_reducible repeat (first|refine blk_drewN ?_ _|refine blk_drew ?_|refine blk_alloc ?_ _));refine blk_far ?_ NB705_717.out _;(with_reducible repeat (first|refine blk_drewN ?_ _|refine blk_drew ?_|refine blk_alloc ?_ _));refine blk_far ?_ NB705_717.out _;(with_reducible repeat (first|refine blk_drewN ?_ _|refine blk_drew ?_|refine blk_alloc ?_ _));exact BK705.out) hb);have n3_:=Aside0.mk (blk_below (g:=gb717) (o:=.cells #[.int .i64 t713,.slice Ao30 t714.length co30] 28 (0,0)) (by (with_reducible repeat (first|refine blk_drewN ?_ _|refine blk_drew ?_|refine blk_alloc ?_ _));refine blk_put (cs:=#[.int .i64 t713,.slice none 0 0]) ?_ 1 _ rfl;(with_reducible repeat (first|refine blk_drewN ?_ _|refine blk_drew ?_|refine blk_alloc ?_ _));refine blk_put (cs:=#[.int .i64 0,.slice none 0 0]) ?_ 0 _ rfl;(with_reducible repeat (first|refine blk_drewN ?_ _|refine blk_drew ?_|refine blk_alloc ?_ _));exact BK717.out) hb);have n4_:=Aside0.mk (below_step bw hb);clear HO710;clear HO716;clear BK705;clear BK717;clear HB;have HO710:=n0_;have HO716:=n1_;have BK705:=n2_;have BK717:=n3_;have HB:=n4_;clear n0_ n1_ n2_ n3_ n4_;(try clear hb);(try clear hb2);(try clear hk);(try clear hi)))
     have n0_:=Aside0.mk (Kd.S_drew HO710.out);have n1_:=Aside0.mk (Kd.S_drew HO716.out);have n2_:=Aside0.mk (blk_drew BK705.out);have n3_:=Aside0.mk (blk_drew BK717.out);have n4_:=Aside0.mk (below_drew1 HB.out);clear HO710;clear HO716;clear BK705;clear BK717;clear HB;have HO710:=n0_;have HO716:=n1_;have BK705:=n2_;have BK717:=n3_;have HB:=n4_;clear n0_ n1_ n2_ n3_ n4_;refine start_ (n:=5) (S:=fun w'=>w'.cell? ⟨gb717,0,none⟩ = some (.int .i64 t713) ∧ w'.cell? ⟨gb717,1,none⟩ = some (.slice Ao30 t714.length co30) ∧ w'.cell? ⟨gb705,0,none⟩ = some (.int .i64 a0_0) ∧ w'.cell? ⟨gb705,1,none⟩ = some (.slice A0_1 l0_1.length c0_1)) (ds:=[]) #[false,false,false,false,false] (by kernel_rfl) rfl rfl ⟨(blk_cell BK717.out 0).trans rfl,(blk_cell BK717.out 1).trans rfl,(blk_cell BK705.out 0).trans rfl,(blk_cell BK705.out 1).trans rfl⟩ (fun hHeld=>?_);generalize w31.drew = w32 at HO710 HO716 BK705 BK717 HB hHeld ⊢
     refine take_ (i:=0) (N:=some 35) (v:=?_) (a':=?_) #[true,false,false,false,false] rfl rfl (by kernel_rfl) (fun _ _ _ h=>h) (Or.inl ⟨by rfl,?_⟩) hHeld ?_ ?_;rotate_left
     ·rintro w' ⟨s0,s1,s2,s3⟩
      go_simp
      with_reducible rfl
     rotate_left
     ·simp only [Act.put,sA,sZ,sS,i64_w,i32_w];rfl
     refine take_ (i:=1) (N:=some 36) (v:=?_) (a':=?_) #[true,true,false,false,false] rfl rfl (by kernel_rfl) (fun _ _ _ h=>h) (Or.inl ⟨by rfl,?_⟩) hHeld ?_ ?_;rotate_left
     ·rintro w' ⟨s0,s1,s2,s3⟩
      go_simp
      with_reducible rfl
     rotate_left
     ·simp only [Act.put,sA,sZ,sS,i64_w,i32_w];rfl
     refine one_ (i:=2) (N:=some 37) #[true,true,true,false,false] rfl rfl (by kernel_rfl) (by decide) (fun K hK=>?_);refine goes_ Try.func13 (by kernel_rfl) rfl #[.agg #[.int .i64 a0_0,.slice A0_1 l0_1.length c0_1]] (by rfl) rfl rfl mq ?_
     with_reducible refine (laws_toGame.calls k a0_0 _ _ l0_1 t720 t721 _ ?side1 ?side2 A13.out).mono ?_
     (case side1=>repeat (first|exact (Kd.C_below HR0_1.out HB.out)|(with_reducible refine Kd.C_alloc ?_ _)|(with_reducible refine Kd.C_drewN ?_ _)|(with_reducible refine Kd.C_drew ?_)))
     (case side2=>exact HC0_1.out)
     rintro e w33 ⟨v722,rfl,ho0,hb⟩
     refine ⟨_,rfl,?_⟩;obtain ⟨NL34,eNL34,ho0⟩:=S_split ho0;have n0_:=Aside0.mk (Kd.S_told (S_elderN (by (with_reducible repeat (first|apply Kd.S_alloc|apply Kd.S_drewN|apply Kd.S_drew));exact HO710.out) hb eNL34) (fun k_ e_=>Nat.le_trans (Nat.le_of_eq eNL34) (Kd.S_base ho0 k_ e_)));have n1_:=Aside0.mk (Kd.S_told (S_elderN (by (with_reducible repeat (first|apply Kd.S_alloc|apply Kd.S_drewN|apply Kd.S_drew));exact HO716.out) hb eNL34) (fun k_ e_=>Nat.le_trans (Nat.le_of_eq eNL34) (Kd.S_base ho0 k_ e_)));have n2_:=Aside0.mk (Kd.S_lower (Kd.S_new' (Kd.S_new' ho0 (Kd.S_lt (by (with_reducible repeat (first|apply Kd.S_alloc|apply Kd.S_drewN|apply Kd.S_drew));exact HO710.out))) (Kd.S_lt (by (with_reducible repeat (first|apply Kd.S_alloc|apply Kd.S_drewN|apply Kd.S_drew));exact HO716.out))) (below_size bw));have n3_:=Aside0.mk (blk_below (g:=gb705) (o:=.cells #[.int .i64 a0_0,.slice A0_1 l0_1.length c0_1] 24 (0,0)) bk hb);have n4_:=Aside0.mk (blk_below (g:=gb717) (o:=.cells #[.int .i64 t713,.slice Ao30 t714.length co30] 28 (0,0)) bk hb);have n5_:=Aside0.mk (below_step bw hb);clear HO710;clear HO716;clear BK705;clear BK717;clear HB;have HO710:=n0_;have HO716:=n1_;have HO723:=n2_;have BK705:=n3_;have BK717:=n4_;have HB:=n5_;clear n0_ n1_ n2_ n3_ n4_ n5_;(try clear hb)
     (try clear hb2)
     (try clear hk)
     (try clear hi)
     (try clear ho0)
     (try clear eNL34)
     obtain ⟨Ao35,co35,eo35⟩:=Kd.S_slice HO723.out;(first|subst eo35|(injection eo35 with f1_ f2_ f3_;have f4_:=f1_.symm;have f5_:=f3_.symm;clear f1_ f2_ f3_;subst f4_;subst f5_))
     refine hK.out _ _ ⟨(blk_cell BK717.out 0).trans rfl,(blk_cell BK717.out 1).trans rfl,(blk_cell BK705.out 0).trans rfl,(blk_cell BK705.out 1).trans rfl⟩ (fun hHeld=>?_);clear hK K;refine norm_ (a':=?_) ?_ ?_;rotate_left
     ·show Act.put _ (some 37) _ = _;simp only [Act.put,sA,sZ,sS,i64_w,i32_w];rfl
     refine one_ (i:=3) (N:=some 38) #[true,true,true,true,false] rfl rfl (by kernel_rfl) (by decide) (fun K hK=>?_);refine goes_ Try.func16 (by kernel_rfl) rfl #[.agg #[.int .i64 t713,.slice Ao30 t714.length co30],.agg #[.int .i64 t720,.slice Ao35 t721.length co35]] (by rfl) rfl rfl mq ?_
     with_reducible refine (laws_eqGame.calls k t713 _ _ t714 t720 _ _ t721 true _ ?side1 ?side2 ?side3 ?side4 A14.out).mono ?_
     (case side1=>repeat (first|exact (Kd.S_reads' HO716.out).2.2|(with_reducible refine Kd.C_alloc ?_ _)|(with_reducible refine Kd.C_drewN ?_ _)|(with_reducible refine Kd.C_drew ?_)))
     (case side2=>exact (Kd.S_reads' HO716.out).2.1)
     (case side3=>repeat (first|exact (Kd.S_reads' HO723.out).2.2|(with_reducible refine Kd.C_alloc ?_ _)|(with_reducible refine Kd.C_drewN ?_ _)|(with_reducible refine Kd.C_drew ?_)))
     (case side4=>exact (Kd.S_reads' HO723.out).2.1)
     rintro e w36 ⟨rfl,hb⟩
     refine ⟨_,rfl,?_⟩;have n0_:=Aside0.mk (Kd.S_below (by (with_reducible repeat (first|apply Kd.S_alloc|apply Kd.S_drewN|apply Kd.S_drew));exact HO710.out) hb);have n1_:=Aside0.mk (Kd.S_below (by (with_reducible repeat (first|apply Kd.S_alloc|apply Kd.S_drewN|apply Kd.S_drew));exact HO716.out) hb);have n2_:=Aside0.mk (Kd.S_below (by (with_reducible repeat (first|apply Kd.S_alloc|apply Kd.S_drewN|apply Kd.S_drew));exact HO723.out) hb);have n3_:=Aside0.mk (blk_below (g:=gb705) (o:=.cells #[.int .i64 a0_0,.slice A0_1 l0_1.length c0_1] 24 (0,0)) bk hb);have n4_:=Aside0.mk (blk_below (g:=gb717) (o:=.cells #[.int .i64 t713,.slice Ao30 t714.length co30] 28 (0,0)) bk hb);have n5_:=Aside0.mk (below_step bw hb);clear HO710;clear HO716;clear HO723;clear BK705;clear BK717;clear HB;have HO710:=n0_;have HO716:=n1_;have HO723:=n2_;have BK705:=n3_;have BK717:=n4_;have HB:=n5_;clear n0_ n1_ n2_ n3_ n4_ n5_;(try clear hb)
     (try clear hb2)
     (try clear hk)
     (try clear hi)
     refine hK.out _ _ ⟨(blk_cell BK717.out 0).trans rfl,(blk_cell BK717.out 1).trans rfl,(blk_cell BK705.out 0).trans rfl,(blk_cell BK705.out 1).trans rfl⟩ (fun hHeld=>?_);clear hK K;refine norm_ (a':=?_) ?_ ?_;rotate_left
     ·show Act.put _ (some 38) _ = _;simp only [Act.put,sA,sZ,sS,i64_w,i32_w];rfl
     refine pure_ (i:=4) (N:=some 39) (v:=?_) (a':=?_) #[true,true,true,true,true] rfl rfl (by kernel_rfl) (fun _ _ _ h=>h) (Or.inl ⟨by rfl,?_⟩) ?_ ?_;rotate_left
     ·intro w';go_simp
      with_reducible rfl
     rotate_left
     ·simp only [Act.put,sA,sZ,sS,i64_w,i32_w];rfl
     refine done_ (by kernel_rfl) ?_
     try go_wp2
     go_ret
     exact ⟨by first|rfl|(simp [errW_none,errW_some] <;> rfl)|(simp [*,errW_none,errW_some] <;> rfl),by repeat (first|(with_reducible first|exact HB.out|apply below_alloc|apply pw_below_drewN|apply below_drew1|refine below_set ?_ GE705.out|refine below_set ?_ GE717.out)|exact HB.out)⟩
    ·replace c15:=Bool.eq_false_iff.mpr c15;subst c15;have H1:(some false) = some r:=by rw [if_neg (show ¬ (false = true) by decide)] at H;exact H
     clear H;have H:=H1;clear H1;exact absurd (H.trans (congrArg some hr_.out)) (by simp)


/-! ### impl_votes_least: function 113 -/
-- IMPORT P_impl_votes_sets
-- IMPORT P_impl_votes_isLeast
def impl_votes_least.f (k : Nat) (a0_0 : Int) (l0_1 : List Bool) : Option (List (List Int)) := impl_votes_sets.f k a0_0 l0_1 (fun y0_ => impl_votes_isLeast.f k a0_0 l0_1 y0_)
theorem impl_votes_least.mono : ∀ a0 a1 k, LeO (impl_votes_least.f k a0 a1) (impl_votes_least.f (k + 1) a0 a1) := fun a0 a1 k => LeO.trans (impl_votes_sets.mono _ _ _ _) (impl_votes_sets.mono_p (fun x => impl_votes_isLeast.mono a0 a1 x k) _ _ _)
theorem impl_votes_least.en : ∀ (args : Array Value) (w : World), (callFunc 148 args).run Try.prog w = .ok (.enter 148 args) w := enters_of Try.func148 (by kernel_rfl) rfl
set_option maxHeartbeats 8000000 in
set_option maxRecDepth 100000 in
theorem impl_votes_least.calls (k : Nat) (a0_0 : Int) (A0_1 : Option Addr) (c0_1 : Nat) (l0_1 : List Bool) (r : List (List Int)) (w : World) (hr0_1 : Kd.C Kd.bool w A0_1 l0_1.length l0_1) (hc0_1 : l0_1.length ≤ c0_1) (h : impl_votes_least.f k a0_0 l0_1 = some r) :
    Calls Try.prog 113 #[.agg #[.int .i64 a0_0, .slice A0_1 l0_1.length c0_1]] w fun e w' => ∃ v0_ : Value, e = .returned (v0_) ∧ Kd.S (Kd.slice 3 (Kd.int .i64)) 40 w' w.heap.size (fun _ => True) v0_ r ∧ Below w.heap.size w w' := by
  have hu68 := Try.underlying68
  have HR0_1 := Aside0.mk hr0_1
  have HC0_1 := Aside0.mk hc0_1
  clear hr0_1 hc0_1
  have HB := Aside0.mk (Below.refl w.heap.size w)
  have H' := Aside0.mk (show impl_votes_sets.f k a0_0 l0_1 (fun y0_ => impl_votes_isLeast.f k a0_0 l0_1 y0_) = some r from h)
  clear h
  go_enter Try.func113, Try.ntmps113
  go_wp2_with (first | ((with_reducible refine gate_dst (N := 1) rfl ?_); refine box_event ?hg (N := 1) ?hd (cs := #[.int .i64 a0_0, .slice A0_1 l0_1.length c0_1]) (t := 68) ?hr ?_; (case hd => rfl); (case hg => rfl); (case hr => first | (go_simp; done) | (go_simp; rfl)); intro gb591 hg w3 hbox hb; have n0_ := Aside0.mk (below_step (by repeat (first | (with_reducible first | exact HB.out | apply below_alloc | apply pw_below_drewN | apply below_drew1) | exact HB.out)) hb); have n1_ := Aside0.mk (hbox); clear HB; have HB := n0_; have BK591 := n1_; clear n0_ n1_; clear hb hbox hg; have hcz6_0 : w3.cell? ⟨gb591, 0, none⟩ = some (.int .i64 a0_0) := (blk_cell BK591.out 0).trans rfl; have hcz6_1 : w3.cell? ⟨gb591, 1, none⟩ = some (.slice A0_1 l0_1.length c0_1) := (blk_cell BK591.out 1).trans rfl; have hfz6_0 := blk_frozen BK591.out 0; have hfz6_1 := blk_frozen BK591.out 1) | ((with_reducible refine gate_callee (f := 147) rfl ?_); refine goesL_ (some 6) rfl rfl Try.func147 (by kernel_rfl) rfl #[.agg #[.int .i64 a0_0, .slice A0_1 l0_1.length c0_1], .func (.func 148) #[.agg #[.int .i64 a0_0, .slice A0_1 l0_1.length c0_1]] #[]] rfl (by (try simp only [List.map_toArray, List.map_cons, List.map_nil]); first | done | rfl | (simp only [List.length_drop, List.length_take]; rfl)) ?_; (with_reducible refine (impl_votes_sets.callsB #[.agg #[.int .i64 a0_0, .slice A0_1 l0_1.length c0_1]] k a0_0 _ _ l0_1 (fun y0_ => impl_votes_isLeast.f k a0_0 l0_1 y0_) 148 #[] impl_votes_least.en r _ ?side1 ?side2 ?side3 H'.out).mono ?_); (case side1 => repeat (first | exact (Kd.C_below HR0_1.out HB.out) | (with_reducible refine Kd.C_alloc ?_ _) | (with_reducible refine Kd.C_drewN ?_ _) | (with_reducible refine Kd.C_drew ?_))); (case side2 => exact HC0_1.out); (case side3 => exact (fun W_ b0_ r0_ hx_ hb_ => (impl_votes_isLeast.calls k a0_0 A0_1 c0_1 l0_1 b0_ r0_ W_ (Kd.C_below HR0_1.out (below_step (by repeat (first | (with_reducible first | exact HB.out | apply below_alloc | apply pw_below_drewN | apply below_drew1) | exact HB.out)) hb_)) HC0_1.out hx_))); rintro e w6 ⟨v6, rfl, hy6, hb⟩; refine ⟨_, rfl, ?_⟩; have n0_ := Aside0.mk (Kd.S_lower hy6 (below_size (by repeat (first | (with_reducible first | exact HB.out | apply below_alloc | apply pw_below_drewN | apply below_drew1) | exact HB.out)))); have n1_ := Aside0.mk (below_step (by repeat (first | (with_reducible first | exact HB.out | apply below_alloc | apply pw_below_drewN | apply below_drew1) | exact HB.out)) hb); clear HB; have HO6 := n0_; have HB := n1_; clear n0_ n1_; clear hb hy6))
  go_ret
  exact ⟨_, by first | rfl | (simp [errW_none, errW_some] <;> rfl) | (simp [*, errW_none, errW_some] <;> rfl), by (with_reducible repeat (first | apply Kd.S_alloc | apply Kd.S_drewN | apply Kd.S_drew)); exact Kd.S_mono HO6.out (fun _ hk => trivial), by repeat (first | (with_reducible first | exact HB.out | apply below_alloc | apply pw_below_drewN | apply below_drew1) | exact HB.out)⟩


/-! ### impl_votes_game: function 74 -/
def impl_votes_game.f (k:Nat) (a0_0:Int) (l0_1:List Bool):Option (Int × (List (List Int))):=(impl_votes_least.f k a0_0 l0_1).bind fun t533=>(some (a0_0,t533))
theorem impl_votes_game.mono:∀ a0 a1 k,LeO (impl_votes_game.f k a0 a1) (impl_votes_game.f (k + 1) a0 a1):=by
 intro a0 a1 k;unfold impl_votes_game.f
 repeat' with_reducible first|exact impl_votes_least.mono _ _ _|exact LeO.refl _|exact LeO.none _|refine LeO.ite ?_ ?_|refine LeO.bind ?_ (fun _=>?_)
set_option maxHeartbeats 8000000 in
set_option maxRecDepth 100000 in
theorem impl_votes_game.calls (k:Nat) (a0_0:Int) (A0_1:Option Addr) (c0_1:Nat) (l0_1:List Bool) (r1:Int) (r2:List (List Int)) (w:World) (hr0_1:Kd.C Kd.bool w A0_1 l0_1.length l0_1) (hc0_1:l0_1.length ≤ c0_1) (h:impl_votes_game.f k a0_0 l0_1 = some (r1,r2)) :
  Calls Try.prog 74 #[.agg #[.int .i64 a0_0,.slice A0_1 l0_1.length c0_1]] w fun e w'=>∃ v1_:Value,e = .returned (.agg #[.int .i64 r1,v1_]) ∧ Kd.S (Kd.slice 3 (Kd.int .i64)) 40 w' w.heap.size (fun _=>True) v1_ r2 ∧ Below w.heap.size w w':=by
 have hu68:=Try.underlying68;have hu28:=Try.underlying28;have HR0_1:=Aside0.mk hr0_1;have HC0_1:=Aside0.mk hc0_1;clear hr0_1 hc0_1;have HB:=Aside0.mk (Below.refl w.heap.size w);have H:((impl_votes_least.f k a0_0 l0_1).bind fun t533=>(some (a0_0,t533))) = some (r1,r2):=h;clear h;replace H:=Option.bind_eq_some_iff.mp H;obtain ⟨t533,A20,H⟩:=H;replace H:(some (a0_0,t533)) = some (r1,r2):=H;have A2:=Aside0.mk A20;clear A20;simp only [Option.some.injEq,Prod.mk.injEq] at H;obtain ⟨rfl,rfl⟩:=H;go_enter Try.func74,Try.ntmps74
 try go_wp2_with (first|((with_reducible refine gate_dst (N:=1) rfl ?_);refine box_event ?hg (N:=1) ?hd (cs:=#[.int .i64 a0_0,.slice A0_1 l0_1.length c0_1]) (t:=68) ?hr ?_;(case hd=>rfl);(case hg=>rfl);(case hr=>first|(go_simp;done)|(go_simp;rfl));intro gb531 hg w3 hbox hb;have n0_:=Aside0.mk (below_step bw hb);have n1_:=Aside0.mk (hbox);have n2_:=Aside0.mk ((by rw [hg];exact (below_size bw):w.heap.size ≤ gb531));have n3_:=Aside0.mk ((by rw [hg];exact (below_size bw):w.heap.size ≤ gb531));clear HB;have HB:=n0_;have BK531:=n1_;have GW531:=n2_;have GE531:=n3_;clear n0_ n1_ n2_ n3_;clear hb hbox hg)|((with_reducible refine gate_dst (N:=2) rfl ?_);refine box_event ?hg (N:=2) ?hd (cs:=#[.int .i64 0,.slice none 0 0]) (t:=28) ?hr ?_;(case hd=>rfl);(case hg=>rfl);(case hr=>first|(go_simp;done)|(go_simp;rfl));intro gb532 hg w4 hbox hb;have n0_:=Aside0.mk (blk_below (g:=gb531) (o:=.cells #[.int .i64 a0_0,.slice A0_1 l0_1.length c0_1] 68 (0,0)) bk hb);have n1_:=Aside0.mk (below_step bw hb);have n2_:=Aside0.mk (hbox);have n3_:=Aside0.mk ((by rw [hg];exact (below_size bw):w.heap.size ≤ gb532));have n4_:=Aside0.mk ((by rw [hg];exact (below_size bw):w.heap.size ≤ gb532));have n5_:=Aside0.mk ((by rw [hg];exact Nat.ne_of_lt (blk_lt (g:=gb531) (o:=.cells #[.int .i64 a0_0,.slice A0_1 l0_1.length c0_1] 68 (0,0)) bk):gb531 ≠ gb532));have n6_:=Aside0.mk ((by rw [hg];exact Nat.ne_of_gt (blk_lt (g:=gb531) (o:=.cells #[.int .i64 a0_0,.slice A0_1 l0_1.length c0_1] 68 (0,0)) bk):gb532 ≠ gb531));clear BK531;clear HB;have BK531:=n0_;have HB:=n1_;have BK532:=n2_;have GW532:=n3_;have GE532:=n4_;have NB531_532:=n5_;have NB532_531:=n6_;clear n0_ n1_ n2_ n3_ n4_ n5_ n6_;clear hb hbox hg))
 have n0_:=Aside0.mk (blk_drew BK531.out);have n1_:=Aside0.mk (blk_drew BK532.out);have n2_:=Aside0.mk (below_drew1 HB.out);clear BK531;clear BK532;clear HB;have BK531:=n0_;have BK532:=n1_;have HB:=n2_;clear n0_ n1_ n2_;refine start_ (n:=6) (S:=fun w'=>w'.cell? ⟨gb531,0,none⟩ = some (.int .i64 a0_0) ∧ w'.cell? ⟨gb531,1,none⟩ = some (.slice A0_1 l0_1.length c0_1)) (ds:=[]) #[false,false,false,false,false,false] (by kernel_rfl) rfl rfl ⟨(blk_cell BK531.out 0).trans rfl,(blk_cell BK531.out 1).trans rfl⟩ (fun hHeld=>?_);generalize w4.drew = w5 at BK531 BK532 HB hHeld ⊢
 refine pure_ (i:=0) (N:=some 3) (v:=?_) (a':=?_) #[true,false,false,false,false,false] rfl rfl (by kernel_rfl) (fun _ _ _ h=>h) (Or.inl ⟨by rfl,?_⟩) ?_ ?_;rotate_left
 ·intro w';go_simp
  with_reducible rfl
 rotate_left
 ·simp only [Act.put,sA,sZ,sS,i64_w,i32_w];rfl
 refine take_ (i:=1) (N:=some 4) (v:=?_) (a':=?_) #[true,true,false,false,false,false] rfl rfl (by kernel_rfl) (fun _ _ _ h=>h) (Or.inl ⟨by rfl,?_⟩) hHeld ?_ ?_;rotate_left
 ·rintro w' ⟨s0,s1⟩
  go_simp
  with_reducible rfl
 rotate_left
 ·simp only [Act.put,sA,sZ,sS,i64_w,i32_w];rfl
 refine take_ (i:=2) (N:=some 5) (v:=?_) (a':=?_) #[true,true,true,false,false,false] rfl rfl (by kernel_rfl) (fun _ _ _ h=>h) (Or.inl ⟨by rfl,?_⟩) hHeld ?_ ?_;rotate_left
 ·rintro w' ⟨s0,s1⟩
  go_simp
  with_reducible rfl
 rotate_left
 ·simp only [Act.put,sA,sZ,sS,i64_w,i32_w];rfl
 refine one_ (i:=3) (N:=some 6) #[true,true,true,true,false,false] rfl rfl (by kernel_rfl) (by decide) (fun K hK=>?_);refine goes_ Try.func113 (by kernel_rfl) rfl #[.agg #[.int .i64 a0_0,.slice A0_1 l0_1.length c0_1]] (by rfl) rfl rfl mq ?_
 with_reducible refine (impl_votes_least.calls k a0_0 _ _ l0_1 t533 _ ?side1 ?side2 A2.out).mono ?_
 (case side1=>repeat (first|exact (Kd.C_below HR0_1.out HB.out)|(with_reducible refine Kd.C_alloc ?_ _)|(with_reducible refine Kd.C_drewN ?_ _)|(with_reducible refine Kd.C_drew ?_)))
 (case side2=>exact HC0_1.out)
 rintro e w6 ⟨v534,rfl,ho0,hb⟩
 refine ⟨_,rfl,?_⟩;have n0_:=Aside0.mk (Kd.S_lower ho0 (below_size bw));have n1_:=Aside0.mk (blk_below (g:=gb531) (o:=.cells #[.int .i64 a0_0,.slice A0_1 l0_1.length c0_1] 68 (0,0)) bk hb);have n2_:=Aside0.mk (blk_below (g:=gb532) (o:=.cells #[.int .i64 0,.slice none 0 0] 28 (0,0)) bk hb);have n3_:=Aside0.mk (below_step bw hb);clear BK531;clear BK532;clear HB;have HO535:=n0_;have BK531:=n1_;have BK532:=n2_;have HB:=n3_;clear n0_ n1_ n2_ n3_;(try clear hb)
 (try clear hb2)
 (try clear hk)
 (try clear hi)
 (try clear ho0)
 obtain ⟨Ao7,co7,eo7⟩:=Kd.S_slice HO535.out;(first|subst eo7|(injection eo7 with f1_ f2_ f3_;have f4_:=f1_.symm;have f5_:=f3_.symm;clear f1_ f2_ f3_;subst f4_;subst f5_))
 refine hK.out _ _ ⟨(blk_cell BK531.out 0).trans rfl,(blk_cell BK531.out 1).trans rfl⟩ (fun hHeld=>?_);clear hK K;refine norm_ (a':=?_) ?_ ?_;rotate_left
 ·show Act.put _ (some 6) _ = _;simp only [Act.put,sA,sZ,sS,i64_w,i32_w];rfl
 refine pure_ (i:=4) (N:=some 7) (v:=?_) (a':=?_) #[true,true,true,true,true,false] rfl rfl (by kernel_rfl) (fun _ _ _ h=>h) (Or.inl ⟨by rfl,?_⟩) ?_ ?_;rotate_left
 ·intro w';go_simp
  with_reducible rfl
 rotate_left
 ·simp only [Act.put,sA,sZ,sS,i64_w,i32_w];rfl
 refine one_ (i:=5) (N:=none) #[true,true,true,true,true,true] rfl rfl (by kernel_rfl) (by decide) (fun K hK=>?_);have hs8:w6.cell? ⟨gb532,0,none⟩ = some (.int .i64 0):=(blk_cell BK532.out 0).trans rfl;have hfs8:=blk_frozen BK532.out 0;have hns8_0:=NB531_532.out;have hms8_0:=NB532_531.out;have hs9:w6.cell? ⟨gb532,1,none⟩ = some (.slice none 0 0):=(blk_cell BK532.out 1).trans rfl;have hfs9:=blk_frozen BK532.out 1;have hns9_0:=NB531_532.out;have hms9_0:=NB532_531.out;refine skip_ (w1:=?_) (by rfl) rfl ?_ ?_;rotate_left
 ·go_simp
  rfl
 refine hK.out _ _ ⟨((cell_far (p:=⟨gb532,_,none⟩) NB531_532.out _).trans (((cell_far (p:=⟨gb532,_,none⟩) NB531_532.out _).trans (hHeld.1)))),((cell_far (p:=⟨gb532,_,none⟩) NB531_532.out _).trans (((cell_far (p:=⟨gb532,_,none⟩) NB531_532.out _).trans (hHeld.2))))⟩ (fun hHeld=>?_);clear hK K;refine done_ (by kernel_rfl) ?_
 try go_wp2
 refine bodyPost_ret (results_cell_row rfl _ _ gb532 28 #[.int .i64 a0_0,.slice Ao7 t533.length co7] (0,0) _ rfl (by (with_reducible repeat (first|refine blk_drewN ?_ _|refine blk_drew ?_|refine blk_alloc ?_ _));refine blk_put (cs:=#[.int .i64 a0_0,.slice none 0 0]) ?_ 1 _ rfl;(with_reducible repeat (first|refine blk_drewN ?_ _|refine blk_drew ?_|refine blk_alloc ?_ _));refine blk_put (cs:=#[.int .i64 0,.slice none 0 0]) ?_ 0 _ rfl;(with_reducible repeat (first|refine blk_drewN ?_ _|refine blk_drew ?_|refine blk_alloc ?_ _));exact BK532.out) Try.underlying28 rfl (by kernel_rfl)) rfl ?_;exact ⟨_,by first|rfl|(simp [errW_none,errW_some] <;> rfl)|(simp [*,errW_none,errW_some] <;> rfl),by (with_reducible repeat (first|apply Kd.S_alloc|apply Kd.S_drewN|apply Kd.S_drew));exact Kd.S_mono (Kd.S_far (p:=⟨gb532,1,none⟩) (Kd.S_far (p:=⟨gb532,0,none⟩) (Kd.S_types HO535.out BK532.out (by decide)) (fun _ hk=>hk.2) (.int .i64 a0_0)) (fun _ hk=>hk.2) (.slice Ao7 t533.length co7)) (fun _ hk=>trivial),by repeat (first|(with_reducible first|exact HB.out|apply below_alloc|apply pw_below_drewN|apply below_drew1|refine below_set ?_ GE531.out|refine below_set ?_ GE532.out)|exact HB.out)⟩

end Go.Proofs.Ytokelcedamegbaa.P
