/- Part 5 of the texts below the law FnExactCountWeighted. Printed by this session's driver over the kit's printer, but for the hand contracts and the plain laws. -/
import Derived.Shelf.SlSortCmp.NoneTotal
import Derived.Test.YtokelcedamegbaaCCountWeighted1
import Derived.Test.YtokelcedamegbaaCCountWeighted4
set_option linter.unusedVariables false
set_option linter.unusedSimpArgs false
namespace Go.Proofs.Ytokelcedamegbaa.P
open Go.RowKit Go.Proofs.YtokelcedamegbaaW.PrintWords Go.Proofs.YtokelcedamegbaaW.PrintLast Go.Proofs.YtokelcedamegbaaW.PrintMore
attribute [local go_sem] max2_int min2_int max_two min_two max_three min_three max_four min_four   -- for this text's walks alone
set_option linter.unusedVariables false
set_option linter.unusedSimpArgs false

/-! ### slices_SortFunc_LLint_Lint: function 165 -/
-- OWN 0 0
-- IMPORT Lexc
-- KIT Derived.Shelf.SlSortCmp.NoneTotal
open Go.Shelf in
def slices_SortFunc_LLint_Lint.ren : Ren := ⟨fun x => match x with
| 6 => 165 | 14 => 181 | 15 => 160 | 20 => 188 | 21 => 189 | 22 => 190 | 23 => 191 | 24 => 192 | 25 => 193 | 26 => 194 | 27 => 195 | 28 => 179 | 29 => 180 | 46 => 197 | 47 => 184 | 48 => 185 | 49 => 198 | 50 => 199 | 57 => 200 | _ => 0, fun x => match x with
| 0 => 0 | 3 => 3 | 4 => 4 | 5 => 5 | 9 => 9 | 22 => 22 | 24 => 40 | 25 => 124 | 39 => 114 | 45 => 150 | 46 => 151 | 50 => 35 | 53 => 133 | 55 => 135 | 66 => 157 | 70 => 161 | 76 => 168 | 77 => 169 | _ => 0, fun x => x⟩
theorem slices_SortFunc_LLint_Lint.lay : SlLaysF.n6 Try.prog slices_SortFunc_LLint_Lint.ren := ⟨
  by kernel_rfl,
  ⟨"slices.SortFunc[[][]int,[]int]", by decide, by kernel_rfl⟩,
  ⟨"slices.pdqsortCmpFunc[[]int]", by decide, by kernel_rfl⟩,
  by kernel_rfl,
  ⟨"slices.insertionSortCmpFunc[[]int]", by decide, by kernel_rfl⟩,
  ⟨"slices.heapSortCmpFunc[[]int]", by decide, by kernel_rfl⟩,
  ⟨"slices.breakPatternsCmpFunc[[]int]", by decide, by kernel_rfl⟩,
  ⟨"slices.choosePivotCmpFunc[[]int]", by decide, by kernel_rfl⟩,
  ⟨"slices.reverseRangeCmpFunc[[]int]", by decide, by kernel_rfl⟩,
  ⟨"slices.partialInsertionSortCmpFunc[[]int]", by decide, by kernel_rfl⟩,
  ⟨"slices.partitionEqualCmpFunc[[]int]", by decide, by kernel_rfl⟩,
  ⟨"slices.partitionCmpFunc[[]int]", by decide, by kernel_rfl⟩,
  by kernel_rfl,
  by kernel_rfl,
  ⟨"slices.siftDownCmpFunc[[]int]", by decide, by kernel_rfl⟩,
  by kernel_rfl,
  by kernel_rfl,
  ⟨"slices.medianAdjacentCmpFunc[[]int]", by decide, by kernel_rfl⟩,
  ⟨"slices.medianCmpFunc[[]int]", by decide, by kernel_rfl⟩,
  ⟨"slices.order2CmpFunc[[]int]", by decide, by kernel_rfl⟩,
  by kernel_rfl,
  fun w => by kernel_rfl,
  fun w => by kernel_rfl,
  fun w => by kernel_rfl,
  by kernel_rfl,
  fun w => by kernel_rfl,
  fun w => by kernel_rfl,
  fun w => by kernel_rfl,
  by kernel_rfl,
  fun w => by kernel_rfl,
  fun w => by kernel_rfl,
  fun w => by kernel_rfl,
  by kernel_rfl,
  fun w => by kernel_rfl,
  fun w => by kernel_rfl,
  fun w => by kernel_rfl,
  by kernel_rfl,
  fun w => by kernel_rfl,
  fun w => by kernel_rfl,
  fun w => by kernel_rfl,
  by kernel_rfl,
  fun w => by kernel_rfl,
  fun w => by kernel_rfl,
  fun w => by kernel_rfl,
  fun w => by kernel_rfl,
  fun w => by kernel_rfl,
  by kernel_rfl,
  fun w => by kernel_rfl,
  fun w => by kernel_rfl,
  fun w => by kernel_rfl,
  by kernel_rfl,
  fun w => by kernel_rfl,
  fun w => by kernel_rfl,
  fun w => by kernel_rfl,
  by kernel_rfl,
  fun w => by kernel_rfl,
  fun w => by kernel_rfl,
  fun w => by kernel_rfl,
  by kernel_rfl,
  fun w => by kernel_rfl,
  fun w => by kernel_rfl,
  fun w => by kernel_rfl,
  by kernel_rfl,
  fun w => by kernel_rfl,
  fun w => by kernel_rfl,
  fun w => by kernel_rfl,
  by kernel_rfl,
  fun w => by kernel_rfl,
  fun w => by kernel_rfl,
  fun w => by kernel_rfl,
  by kernel_rfl,
  fun w => by kernel_rfl,
  fun w => by kernel_rfl,
  fun w => by kernel_rfl,
  by kernel_rfl,
  fun w => by kernel_rfl,
  fun w => by kernel_rfl,
  fun w => by kernel_rfl,
  by kernel_rfl,
  fun w => by kernel_rfl,
  fun w => by kernel_rfl,
  fun w => by kernel_rfl,
  by kernel_rfl,
  fun w => by kernel_rfl,
  fun w => by kernel_rfl,
  fun w => by kernel_rfl,
  by kernel_rfl,
  fun w => by kernel_rfl,
  fun w => by kernel_rfl,
  fun w => by kernel_rfl⟩
def slices_SortFunc_LLint_Lint.f (k : Nat) (l0 : List (List Int)) (a1 : (List Int → List Int → Option (Int))) : Option (List (List Int)) := if l0.length ≤ 1000000 ∧ ∀ x ∈ l0, ∀ y ∈ l0, a1 x y = some (lexc x y) then some (sorted l0) else none
theorem slices_SortFunc_LLint_Lint.mono : ∀ a0 a1 k, LeO (slices_SortFunc_LLint_Lint.f k a0 a1) (slices_SortFunc_LLint_Lint.f (k + 1) a0 a1) := fun _ _ _ => LeO.refl _
theorem slices_SortFunc_LLint_Lint.mono_p {p_ q_ : (List Int → List Int → Option (Int))} (h_ : ∀ x0_ x1_, LeO (p_ x0_ x1_) (q_ x0_ x1_)) : ∀ a0 k, LeO (slices_SortFunc_LLint_Lint.f k a0 p_) (slices_SortFunc_LLint_Lint.f k a0 q_) := by
  intro a0 k r hr
  unfold slices_SortFunc_LLint_Lint.f at hr ⊢
  split at hr
  · rename_i hc
    rw [if_pos ⟨hc.1, fun x hx y hy => h_ x y _ (hc.2 x hx y hy)⟩]
    exact hr
  · exact absurd hr (by simp)
open Go.Sort in
theorem slices_SortFunc_LLint_Lint.heap {α : Type} [Inhabited α] (enc : α → Value) (w : World) (g m : Nat) (d : Array α) (os : Array Obj) (cur : Array Value) (e : Nat) (hg : w.heap[g]? = some (.cells cur e (0, 0))) :
    (sortWorld enc w g 0 m d os).heap[g]? = some (.cells (putCells enc 0 d cur) e (0, 0)) ∧ (∀ k, k < w.heap.size → k ≠ g → (sortWorld enc w g 0 m d os).heap[k]? = w.heap[k]?) ∧ w.heap.size ≤ (sortWorld enc w g 0 m d os).heap.size := by
  have hlt : g < w.heap.size := blk_lt hg
  have e1 : ∀ k, k < w.heap.size → (sortWorld enc w g 0 m d os).heap[k]? = (w.heap.modify g (onCells (putCells enc 0 d)))[k]? := fun k hk => by
    show ((w.heap.modify g (onCells (putCells enc 0 d))) ++ os)[k]? = _
    rw [Array.getElem?_append_left (by rw [Array.size_modify]; exact hk)]
  refine ⟨?_, fun k hk hne => ?_, ?_⟩
  · rw [e1 g hlt, Array.getElem?_modify, if_pos rfl, hg]
    rfl
  · rw [e1 k hk, Array.getElem?_modify, if_neg (fun z => hne z.symm)]
  · show w.heap.size ≤ ((w.heap.modify g (onCells (putCells enc 0 d))) ++ os).size
    rw [Array.size_append, Array.size_modify]
    omega
open Go.Sort in
theorem slices_SortFunc_LLint_Lint.cells {α : Type} [Inhabited α] (enc : α → Value) (d : Array α) (cur : Array Value) (h : d.size ≤ cur.size) : (putCells enc 0 d cur).toList.take d.size = d.toList.map enc := by
  apply List.ext_getElem?
  intro j
  by_cases hj : j < d.size
  · rw [List.getElem?_take_of_lt hj, Array.getElem?_toList, List.getElem?_map, Array.getElem?_toList]
    unfold putCells
    rw [Array.getElem?_mapIdx, Array.getElem?_eq_getElem (by omega), Array.getElem?_eq_getElem hj, Option.map_some, Option.map_some, if_pos ⟨Nat.zero_le _, by omega⟩, Nat.sub_zero, getElem!_pos d j hj]
  · rw [List.getElem?_eq_none (by rw [List.length_take]; omega), List.getElem?_eq_none (by rw [List.length_map, Array.length_toList]; omega)]
set_option maxHeartbeats 2000000 in
theorem slices_SortFunc_LLint_Lint.calls (k : Nat) (P0_ : Nat → Prop) (u9000_ : Value) (l0 : List (List Int)) (a1 : (List Int → List Int → Option (Int))) (g1_ : Nat) (lb1_ : Array Value) (eg1_ : ∀ (args : Array Value) (w : World), (callFunc g1_ args).run Try.prog w = .ok (.enter g1_ args) w) (r : List (List Int)) (w0 w : World) (hB : Below w0.heap.size w0 w) (ho0 : Kd.S (Kd.slice 3 (Kd.int .i64)) 40 w w0.heap.size P0_ u9000_ l0) (hp1 : ∀ (W : World) (A0_ : Option Addr) (c0_ : Nat) (l0_ : List Int) (A1_ : Option Addr) (c1_ : Nat) (l1_ : List Int) (r0_ : Int), a1 l0_ l1_ = some r0_ → Kept w W (fun k_ => P0_ k_) → Kd.C (Kd.int .i64) W A0_ l0_.length l0_ → l0_.length ≤ c0_ → Kd.C (Kd.int .i64) W A1_ l1_.length l1_ → l1_.length ≤ c1_ → Calls Try.prog g1_ (#[.slice A0_ l0_.length c0_, .slice A1_ l1_.length c1_] ++ lb1_) W fun e w' => e = .returned (.int .i64 r0_) ∧ Drawn0 W w') (h : slices_SortFunc_LLint_Lint.f k l0 a1 = some r) :
    Calls Try.prog 165 #[u9000_, .func (.func g1_) #[] lb1_] w fun e w' => e = .returned (.tuple #[]) ∧ Kd.S (Kd.slice 3 (Kd.int .i64)) 40 w' w0.heap.size (fun k_ => P0_ k_) u9000_ r ∧ Below w0.heap.size w0 w' ∧ Kept w w' (fun k_ => P0_ k_) := by
  unfold slices_SortFunc_LLint_Lint.f at h
  split at h
  case isFalse => exact absurd h (by simp)
  rename_i hc
  obtain ⟨hlen, hcmp⟩ := hc
  obtain rfl := Option.some.inj h
  clear h
  obtain ⟨f, h0, inner, ho, hr⟩ := ho0
  rw [List.length_zipIdx] at ho
  rcases Nat.eq_zero_or_pos l0.length with hn | hn
  · obtain rfl := List.eq_nil_of_length_eq_zero hn
    obtain ⟨A, c, rfl⟩ : ∃ A c, u9000_ = .slice A 0 c := by
      rcases ho.2 with ⟨hv, _⟩ | ⟨g, cap, cur, hv, _⟩
      · exact ⟨_, _, hv⟩
      · exact ⟨_, _, hv⟩
    refine (AnyF.slices_SortFunc_none { slices_SortFunc_LLint_Lint.lay with } A c (.func (.func g1_) #[] lb1_) w).mono ?_
    rintro e w' ⟨rfl, rfl⟩
    have e : sorted ([] : List (List Int)) = [] := by simp [sorted]
    rw [e]
    exact ⟨rfl, ⟨f, h0, inner, ho, hr⟩, hB, Kept.refl _ _⟩
  · obtain ⟨hil, hv⟩ := ho
    have hil : inner.length = l0.length := by have h1 : inner.length = l0.length * 1 := hil; omega
    obtain ⟨g, cap, cur, rfl, hbase, hg, hcap, hmax, hcs, htk⟩ : ∃ g cap cur, u9000_ = .slice (some ⟨g, 0, none⟩) l0.length cap ∧ w0.heap.size ≤ g ∧ w.heap[g]? = some (.cells cur 40 (0, 0)) ∧ l0.length ≤ cap ∧ cap ≤ maxLen ∧ cur.size = cap * 1 ∧ cur.toList.take (l0.length * 1) = inner := by
      rcases hv with ⟨_, hz⟩ | hv
      · omega
      · exact hv
    have hPg : P0_ g := h0 g rfl
    have hglt : g < w.heap.size := blk_lt hg
    rw [Nat.mul_one] at htk hcs
    have hcell : ∀ i (hi : i < l0.length), inner[i]'(by omega) = cur[i]'(by omega) := fun i hi => by
      have : inner[i]? = cur.toList[i]? := by rw [← htk, List.getElem?_take_of_lt hi]
      rw [List.getElem?_eq_getElem (by omega), List.getElem?_eq_getElem (by rw [Array.length_toList]; omega)] at this
      exact Option.some.inj this
    have hM : ∀ (i : Nat) (hi : i < l0.length), ∃ v', inner[i]'(by omega) = v' ∧ Kd.R (Kd.int .i64) 3 w w0.heap.size (fun k => ((P0_ k ∧ some k ≠ some g) ∧ f k = i)) v' l0[i] := fun i hi => by
      have h1 := hr.2 i (l0[i], i) (Kd.zip_at (List.getElem?_eq_getElem hi))
      have h2 : (inner.drop (i * 1)).take 1 = [inner[i]'(by omega)] := by rw [Nat.mul_one, List.drop_eq_getElem_cons (by omega), List.take_succ_cons, List.take_zero]
      obtain ⟨v', hv', hR⟩ := (show ∃ v', (inner.drop (i * 1)).take 1 = [v'] ∧ Kd.R (Kd.int .i64) 3 w w0.heap.size (fun k => ((P0_ k ∧ some k ≠ some g) ∧ f k = i)) v' l0[i] from h1)
      rw [h2] at hv'
      injection hv' with hv' _
      exact ⟨v', hv', hR⟩
    haveI : Inhabited (Fin l0.length) := ⟨⟨0, hn⟩⟩
    let enc : Fin l0.length → Value := fun i => inner[i.1]'(by omega)
    have henc : ∀ i, enc i = inner[i.1]'(by omega) := fun _ => rfl
    have hlt : ∀ (i j : Fin l0.length), ltOf (fun (i j : Fin l0.length) => lexc l0[i.1] l0[j.1]) i j = decide (lexc l0[i.1] l0[j.1] < 0) := fun _ _ => rfl
    have hO : Go.Sort.SWO (ltOf (fun (i j : Fin l0.length) => lexc l0[i.1] l0[j.1])) := by
      refine ⟨fun x => ?_, fun x y z h1 h2 => ?_, fun x y z h1 h2 => ?_⟩
      · rw [hlt, lexc_refl]; rfl
      · rw [hlt] at h1 h2 ⊢
        have h1 := of_decide_eq_true h1
        have h2 := of_decide_eq_true h2
        have h3 := lexc_trans (a := l0[x.1]) (b := l0[y.1]) (c := l0[z.1]) (by omega) (by omega)
        refine decide_eq_true ?_
        rcases Int.lt_or_eq_of_le h3 with h4 | h4
        · exact h4
        · have e := lexc_zero h4
          have s := lexc_swap l0[x.1] l0[y.1]
          rw [e] at s h1
          omega
      · rw [hlt] at h1 h2 ⊢
        have h1 := of_decide_eq_false h1
        have h2 := of_decide_eq_false h2
        have s1 := lexc_swap l0[x.1] l0[y.1]
        have s2 := lexc_swap l0[y.1] l0[z.1]
        have s3 := lexc_swap l0[x.1] l0[z.1]
        have h3 := lexc_trans (a := l0[z.1]) (b := l0[y.1]) (c := l0[x.1]) (by omega) (by omega)
        exact decide_eq_false (by omega)
    have hd : (List.finRange l0.length).toArray.size = l0.length := by rw [List.size_toArray, List.length_finRange]
    have hdg : ∀ j, j < l0.length → ((List.finRange l0.length).toArray[j]!).1 = j := fun j hj => by
      rw [getElem!_pos _ j (by rw [hd]; exact hj)]
      simp
    have hone : OneCell enc := fun i => by
      obtain ⟨v', e, hR⟩ := hM i.1 i.2
      rw [henc, e]
      exact (Kd.R_val hR).2
    have lays := Any.slices_SortFunc slices_SortFunc_LLint_Lint.lay enc hone (fun i j => lexc l0[i.1] l0[j.1]) hO g1_ lb1_ g 0 cap (List.finRange l0.length).toArray w eg1_
      (by
        intro m os dk hs x y
        obtain ⟨hh1, hh2, hh3⟩ := slices_SortFunc_LLint_Lint.heap enc w g m dk os cur 40 hg
        have rd : ∀ i : Fin l0.length, ∃ A c, enc i = .slice A l0[i.1].length c ∧ l0[i.1].length ≤ c ∧ Kd.C (Kd.int .i64) (sortWorld enc w g 0 m dk os) A l0[i.1].length l0[i.1] := fun i => by
          obtain ⟨v', e, hR⟩ := hM i.1 i.2
          have hR2 := Kd.R_step (w1 := sortWorld enc w g 0 m dk os) hR (fun k hk hkl => hh2 k hkl (fun z => hk.1.2 (congrArg some z)))
          obtain ⟨A, c, hv, hl, hC⟩ := Kd.R_reads hR2
          exact ⟨A, c, by rw [henc, e, hv], hl, hC⟩
        obtain ⟨A0, c0, ex, hl0, hC0⟩ := rd x
        obtain ⟨A1, c1, ey, hl1, hC1⟩ := rd y
        rw [ex, ey]
        refine (hp1 (sortWorld enc w g 0 m dk os) A0 c0 l0[x.1] A1 c1 l0[y.1] _ (hcmp _ (List.getElem_mem _) _ (List.getElem_mem _)) ⟨hh3, fun k hk hne => hh2 k hk (fun z => hne (z ▸ hPg))⟩ hC0 hl0 hC1 hl1).mono ?_
        rintro e w' ⟨rfl, ⟨⟨q, hq⟩⟩⟩
        exact ⟨rfl, q, #[], by rw [hq, Go.Sort.grow_empty]⟩)
      (by
        intro j hj
        rw [hd] at hj
        refine ⟨?_, ?_⟩
        · rw [Nat.zero_add]
          have e1 : enc ((List.finRange l0.length).toArray[j]!) = cur[j]'(by omega) := by
            rw [henc, ← hcell j hj]
            congr 1
            exact hdg j hj
          rw [e1]
          have := blk_cell hg j
          rw [this, Array.getElem?_eq_getElem (by omega)]
        · exact blk_frozen hg _)
      hglt (by rw [hd]; omega)
    rw [hd] at lays
    refine lays.mono ?_
    rintro e w' ⟨rfl, d', m, os, hp, hs, rfl⟩
    obtain ⟨hps, _, hpp⟩ := hp
    rw [hd] at hps
    obtain ⟨hh1, hh2, hh3⟩ := slices_SortFunc_LLint_Lint.heap enc w g m d' os cur 40 hg
    have hpp2 : d'.toList.Perm (List.finRange l0.length) := by
      have e1 : d'.extract 0 l0.length = d' := by have h2 : d'.extract 0 d'.size = d' := Array.extract_size; rwa [hps] at h2
      have e2 : (List.finRange l0.length).toArray.extract 0 l0.length = (List.finRange l0.length).toArray := by
        have : (List.finRange l0.length).toArray.extract 0 (List.finRange l0.length).toArray.size = (List.finRange l0.length).toArray := Array.extract_size
        rwa [hd] at this
      rw [e1, e2] at hpp
      exact hpp
    have hres : d'.toList.map (fun i => l0[i.1]) = sorted l0 := by
      refine sorted_of ?_ ?_
      · refine (hpp2.map _).trans (List.Perm.of_eq ?_)
        apply List.ext_getElem
        · rw [List.length_map, List.length_finRange]
        · intro j h1 h2
          simp
      · rw [List.pairwise_map]
        refine List.pairwise_iff_getElem.2 (fun i j hi hj hij => ?_)
        rw [Array.length_toList] at hi hj
        have := hs i j (Nat.zero_le _) hij (by omega)
        rw [getElem!_pos d' j (by omega), getElem!_pos d' i (by omega), hlt] at this
        have := of_decide_eq_false this
        have s := lexc_swap l0[(d'[i]).1] l0[(d'[j]).1]
        exact decide_eq_true (by simp only [Array.getElem_toList]; omega)
    have hnd : (d'.toList.map (fun i => i.1)).Nodup := by
      refine ((hpp2.map (fun i : Fin l0.length => i.1)).nodup_iff).2 ?_
      have := List.nodup_finRange l0.length
      exact List.Pairwise.map _ (fun a b hab z => hab (Fin.ext z)) this
    have hdl : d'.toList.length = l0.length := by rw [Array.length_toList]; exact hps
    refine ⟨rfl, ⟨fun b => (d'.toList.map (fun i => i.1)).idxOf (f b), h0, d'.toList.map enc, ?_, ?_⟩, ?_, ?_⟩
    · rw [List.length_zipIdx, ← hres, List.length_map, hdl]
      refine ⟨by rw [List.length_map, hdl]; show l0.length = l0.length * 1; omega, .inr ⟨g, cap, _, rfl, hbase, hh1, hcap, hmax, ?_, ?_⟩⟩
      · show (Go.Sort.putCells enc 0 d' cur).size = cap * 1
        unfold Go.Sort.putCells
        rw [Array.size_mapIdx]; omega
      · show (Go.Sort.putCells enc 0 d' cur).toList.take (l0.length * 1) = _
        have := slices_SortFunc_LLint_Lint.cells enc d' cur (by omega)
        rw [hps] at this
        rw [Nat.mul_one]
        exact this
    · refine ⟨by rw [List.length_zipIdx, ← hres, List.length_map, List.length_map]; show _ = _ * 1; omega, ?_⟩
      intro j p hj
      rw [← hres, List.getElem?_zipIdx, Nat.zero_add] at hj
      obtain ⟨x, hx, rfl⟩ := Option.map_eq_some_iff.1 hj
      rw [List.getElem?_map] at hx
      obtain ⟨i, hi, rfl⟩ := Option.map_eq_some_iff.1 hx
      have hjl : j < d'.toList.length := (List.getElem?_eq_some_iff.1 hi).1
      have hi2 : d'.toList[j] = i := (List.getElem?_eq_some_iff.1 hi).2
      have hdr : ((d'.toList.map enc).drop (j * 1)).take 1 = [enc i] := by
        rw [Nat.mul_one, List.drop_eq_getElem_cons (by rw [List.length_map]; exact hjl), List.take_succ_cons, List.take_zero, List.getElem_map, hi2]
      show ∃ v', ((d'.toList.map enc).drop (j * 1)).take 1 = [v'] ∧ _
      obtain ⟨v', e, hR⟩ := hM i.1 i.2
      have hR2 := Kd.R_step (w1 := sortWorld enc w g 0 m d' os) hR (fun k hk hkl => hh2 k hkl (fun z => hk.1.2 (congrArg some z)))
      refine ⟨enc i, hdr, ?_⟩
      rw [henc, e]
      refine Kd.R_mono hR2 (fun k hk => ⟨hk.1, ?_⟩)
      show (d'.toList.map (fun i => i.1)).idxOf (f k) = j
      have h3 := List.Nodup.idxOf_getElem hnd j (by rw [List.length_map]; exact hjl)
      rw [List.getElem_map, hi2] at h3
      rw [hk.2]
      exact h3
    · refine ⟨?_, ?_, ?_, Nat.le_trans hB.size hh3, fun k hk => (hh2 k (Nat.lt_of_lt_of_le hk hB.size) (fun z => by omega)).trans (hB.block k hk)⟩
      · exact hB.os
      · exact hB.tape
      · exact hB.output
    · exact ⟨hh3, fun k hk hne => hh2 k hk (fun z => hne (z ▸ hPg))⟩


/-! ### impl_votes_sets: function 147 -/
def impl_votes_sets.l0:Nat → (Int → Option (Bool)) → List (List Int) → Int → Int → Option ((List (List Int)))
 | 0,_,_,_,_=>none
 | k + 1,x1,x5,x10,x11=>if x11 < x10 then ((x1 x11).bind fun t520=>(if t520 = true then ((impl_setOf.f k x11).bind fun t521=>(if x5.length < 5864062014805 then (impl_votes_sets.l0 k x1 (x5 ++ [t521]) x10 (wrap64 (x11 + 1))) else (none))) else (impl_votes_sets.l0 k x1 x5 x10 (wrap64 (x11 + 1))))) else ((slices_SortFunc_LLint_Lint.f k x5 (fun y0_ y1_=>slices_Compare_int_int.f k y0_ y1_)).bind fun t519=>(some t519))
def impl_votes_sets.f (k:Nat) (a0_0:Int) (l0_1:List Bool) (a1:(Int → Option (Bool))):Option ((List (List Int))):=impl_votes_sets.l0 k a1 (([]:List (List Int))) (l0_1.length:Int) 0
theorem impl_votes_sets.mono_l:∀ k,(∀ y0 y1 y2 y3,LeO (impl_votes_sets.l0 k y0 y1 y2 y3) (impl_votes_sets.l0 (k + 1) y0 y1 y2 y3))
 | 0=>fun _ _ _ _ r h=>by simp [impl_votes_sets.l0] at h
 | k + 1=>by
  have ih0:=impl_votes_sets.mono_l k
  ·intro y0 y1 y2 y3;unfold impl_votes_sets.l0
   repeat' with_reducible first|exact ih0 _ _ _ _|exact impl_setOf.mono _ _|exact slices_Compare_int_int.mono _ _ _|refine LeO.trans (slices_SortFunc_LLint_Lint.mono _ _ _) (slices_SortFunc_LLint_Lint.mono_p (fun _ _=>?_) _ _)|exact LeO.refl _|exact LeO.none _|refine LeO.ite ?_ ?_|refine LeO.bind ?_ (fun _=>?_)
theorem impl_votes_sets.mono:∀ a0 a1 a2 k,LeO (impl_votes_sets.f k a0 a1 a2) (impl_votes_sets.f (k + 1) a0 a1 a2):=by
 intro a0 a1 a2 k;have ih0:=impl_votes_sets.mono_l k;unfold impl_votes_sets.f
 repeat' with_reducible first|exact ih0 _ _ _ _|exact impl_setOf.mono _ _|exact slices_Compare_int_int.mono _ _ _|refine LeO.trans (slices_SortFunc_LLint_Lint.mono _ _ _) (slices_SortFunc_LLint_Lint.mono_p (fun _ _=>?_) _ _)|exact LeO.refl _|exact LeO.none _|refine LeO.ite ?_ ?_|refine LeO.bind ?_ (fun _=>?_)
theorem impl_votes_sets.monop_l {p_ q_:(Int → Option (Bool))} (h_:∀ x0_,LeO (p_ x0_) (q_ x0_)):∀ k,(∀ y1 y2 y3,LeO (impl_votes_sets.l0 k p_ y1 y2 y3) (impl_votes_sets.l0 k q_ y1 y2 y3))
 | 0=>fun _ _ _ r hz=>by simp [impl_votes_sets.l0] at hz
 | k + 1=>by
  have ih0:=impl_votes_sets.monop_l h_ k
  ·intro y0 y1 y2;unfold impl_votes_sets.l0
   repeat' with_reducible first|exact ih0 _ _ _|exact h_ _|exact LeO.refl _|refine LeO.ite ?_ ?_|refine LeO.bind ?_ (fun _=>?_)
theorem impl_votes_sets.mono_p {p_ q_:(Int → Option (Bool))} (h_:∀ x0_,LeO (p_ x0_) (q_ x0_)):∀ a0 a1 k,LeO (impl_votes_sets.f k a0 a1 p_) (impl_votes_sets.f k a0 a1 q_):=by
 intro a0 a1 k;have ih0:=impl_votes_sets.monop_l h_ k;unfold impl_votes_sets.f
 repeat' with_reducible first|exact ih0 _ _ _|exact h_ _|exact LeO.refl _|refine LeO.ite ?_ ?_|refine LeO.bind ?_ (fun _=>?_)
set_option maxHeartbeats 8000000 in
set_option maxRecDepth 100000 in
theorem impl_votes_sets.callsB (bd1_:Array Value) (k:Nat) (a0_0:Int) (A0_1:Option Addr) (c0_1:Nat) (l0_1:List Bool) (a1:(Int → Option (Bool))) (g1_:Nat) (lb1_:Array Value) (eg1_:∀ (args:Array Value) (w:World),(callFunc g1_ args).run Try.prog w = .ok (.enter g1_ args) w) (r:List (List Int)) (w:World) (hr0_1:Kd.C Kd.bool w A0_1 l0_1.length l0_1) (hc0_1:l0_1.length ≤ c0_1) (hp1:∀ (W:World) (b0_:Int) (r0_:Bool),a1 b0_ = some r0_ → Below w.heap.size w W → Calls Try.prog g1_ ((bd1_ ++ #[.int .i64 b0_]) ++ lb1_) W fun e w'=>e = .returned (.bool r0_) ∧ Below W.heap.size W w') (h:impl_votes_sets.f k a0_0 l0_1 a1 = some r) :
  Calls Try.prog 147 #[.agg #[.int .i64 a0_0,.slice A0_1 l0_1.length c0_1],.func (.func g1_) bd1_ lb1_] w fun e w'=>∃ v0_:Value,e = .returned (v0_) ∧ Kd.S (Kd.slice 3 (Kd.int .i64)) 40 w' w.heap.size (fun _=>True) v0_ r ∧ Below w.heap.size w w':=by
 have hu68:=Try.underlying68;have HR0_1:=aM hr0_1;have HC0_1:=aM hc0_1;clear hr0_1 hc0_1;have HP1:=aM hp1;clear hp1;have HB:=aM (Below.refl w.heap.size w);have H:(impl_votes_sets.l0 k a1 (([]:List (List Int))) (l0_1.length:Int) 0) = some r:=h;clear h;obtain ⟨y516,hy516⟩:∃ y_:List (List Int),y_ = (([]:List (List Int))):=⟨_,rfl⟩;replace H:(impl_votes_sets.l0 k a1 y516 (l0_1.length:Int) 0) = some r:=by first|(rw [hy516];with_reducible exact H)|(have H2_:=(Option.bind_some _ _).symm.trans H;rw [hy516];with_reducible exact H2_)|(have H2_:=(Option.bind_some _ _).symm.trans H;with_reducible exact H2_)|with_reducible exact H|(rw [hy516];exact H)|exact H
 have Ny516:=aM hy516;clear hy516;have H':=aM H;clear H;go_enter Try.func147,Try.ntmps147;go_wp2_with (first|((with_reducible refine gate_dst (N:=2) rfl ?_);refine box_event ?hg (N:=2) ?hd (cs:=#[.int .i64 a0_0,.slice A0_1 l0_1.length c0_1]) (t:=68) ?hr ?_;(case hd=>rfl);(case hg=>rfl);(case hr=>first|(go_simp;done)|(go_simp;rfl));intro gb515 hg w3 hbox hb;have n0_:=aM (below_step bw hb);have n1_:=aM (hbox);have n2_:=aM ((by rw [hg];exact (below_size bw):w.heap.size ≤ gb515));have n3_:=aM ((by rw [hg];exact (below_size bw):w.heap.size ≤ gb515));clear HB;have HB:=n0_;have BK515:=n1_;have GW515:=n2_;have GE515:=n3_;clear n0_ n1_ n2_ n3_;clear hb hbox hg)|((with_reducible refine gate_dst (N:=7) rfl ?_);refine Kd.S_lit (Kd.slice 3 (Kd.int .i64)) _ 40 ?hg (N:=7) ?hd (xs:=([]:List (List Int))) (inner:=[]) (ok:=fun _=>True) (okp:=fun _=>True) ?hr ?hp (fun _ hk=>hk) trivial (Below.refl _ _) (Nat.le_refl _) (by simp) ?_;(case hd=>rfl);(case hg=>rfl);(case hr=>first|(go_simp;done)|(go_simp;rfl));(case hp=>exact (Reps.none _ _));intro v517 w4 ho5 hb hg_ hnew_;clear hg_ hnew_;(first|rw [← Ny516.out] at ho5|(simp only [Int.reduceToNat] at ho5;rw [← Ny516.out] at ho5));have n0_:=aM (Kd.S_lower ho5 (below_size bw));have n1_:=aM (blk_below (g:=gb515) (o:=.cells #[.int .i64 a0_0,.slice A0_1 l0_1.length c0_1] 68 (0,0)) bk hb);have n2_:=aM (below_step bw hb);clear BK515;clear HB;have HO518:=n0_;have BK515:=n1_;have HB:=n2_;clear n0_ n1_ n2_;clear hb ho5;have hcz6_0:w4.cell? ⟨gb515,0,none⟩ = some (.int .i64 a0_0):=(blk_cell BK515.out 0).trans rfl;have hcz6_1:w4.cell? ⟨gb515,1,none⟩ = some (.slice A0_1 l0_1.length c0_1):=(blk_cell BK515.out 1).trans rfl;have hfz6_0:=blk_frozen BK515.out 0;have hfz6_1:=blk_frozen BK515.out 1))
 go_loopg [5,11] k (fun kq v5 v11 w'=>∃ (x5_1:List (List Int)) (x11_1:Int),v11 = .int .i64 x11_1 ∧ Aside0 (impl_votes_sets.l0 kq a1 x5_1 (l0_1.length:Int) x11_1 = some r) ∧ Aside0 (kq ≤ k) ∧ Aside0 (Kd.S (Kd.slice 3 (Kd.int .i64)) 40 w' w.heap.size (fun _=>True) v5 x5_1) ∧ Aside0 (w'.heap[gb515]? = some (.cells #[.int .i64 a0_0,(.slice A0_1 l0_1.length c0_1)] 68 (0,0))) ∧ Aside0 (Below w.heap.size w w'))
 case atStart=>exact ⟨(y516),(0),qrs,H',⟨Nat.le_refl _⟩,⟨qsa HO518.out⟩,⟨by (with_reducible repeat (first|refine blk_drewN ?_ _|refine blk_drew ?_|refine blk_alloc ?_ _));exact BK515.out⟩,⟨by exact bw⟩⟩
 case round =>
  clear H';(try clear c1);(try clear p1);(try clear p2);(try clear hcz6_0);(try clear hcz6_1);(try clear hfz6_0);(try clear hfz6_1)
  obtain ⟨x5_1,x11_1,rfl,HA,HK1,HO_5,BK515,HB⟩:=hrel
  cases gk with
  | zero=>exact absurd HA.out (by simp [impl_votes_sets.l0])
  | succ k1 =>
   have H:=HA.out;clear HA;simp only [impl_votes_sets.l0] at H;by_cases c7:x11_1 < (l0_1.length:Int)
   ·rw [if_pos c7] at H;have c7b0:decide (x11_1 < (l0_1.length:Int)) = true:=decide_eq_true c7;clear c7;replace H:=Option.bind_eq_some_iff.mp H;obtain ⟨t520,A80,H⟩:=H;replace H:(if t520 = true then ((impl_setOf.f k1 x11_1).bind fun t521=>(if x5_1.length < 5864062014805 then (impl_votes_sets.l0 k1 a1 (x5_1 ++ [t521]) (l0_1.length:Int) (wrap64 (x11_1 + 1))) else (none))) else (impl_votes_sets.l0 k1 a1 x5_1 (l0_1.length:Int) (wrap64 (x11_1 + 1)))) = some r:=H;have A8:=aM A80;clear A80;by_cases c9:t520 = true
    ·subst c9;have H1:((impl_setOf.f k1 x11_1).bind fun t521=>(if x5_1.length < 5864062014805 then (impl_votes_sets.l0 k1 a1 (x5_1 ++ [t521]) (l0_1.length:Int) (wrap64 (x11_1 + 1))) else (none))) = some r:=by rw [if_pos rfl] at H;exact H
     clear H;have H:=H1;clear H1;replace H:=Option.bind_eq_some_iff.mp H;obtain ⟨t521,A100,H⟩:=H;replace H:(if x5_1.length < 5864062014805 then (impl_votes_sets.l0 k1 a1 (x5_1 ++ [t521]) (l0_1.length:Int) (wrap64 (x11_1 + 1))) else (none)) = some r:=H;have A10:=aM A100;clear A100;by_cases c11:x5_1.length < 5864062014805
     ·rw [if_pos c11] at H;have LMc11:=aM c11;clear c11;obtain ⟨y524,hy524⟩:∃ y_:List (List Int),y_ = (x5_1 ++ [t521]):=⟨_,rfl⟩;replace H:(impl_votes_sets.l0 k1 a1 y524 (l0_1.length:Int) (wrap64 (x11_1 + 1))) = some r:=by first|(rw [hy524];with_reducible exact H)|(have H2_:=(Option.bind_some _ _).symm.trans H;rw [hy524];with_reducible exact H2_)|(have H2_:=(Option.bind_some _ _).symm.trans H;with_reducible exact H2_)|with_reducible exact H|(rw [hy524];exact H)|exact H
      have Ny524:=aM hy524;clear hy524;have H':=aM H;clear H;go_wp2_with (first|((with_reducible refine gate_fn (t:=14) rfl ?_);refine goesFB_ (some 16) rfl rfl eg1_ #[.int .i64 x11_1] rfl rfl mq ?_;(with_reducible refine (HP1.out _ x11_1 true A8.out ?side1).mono ?_);(case side1=>exact bw);rintro e w12 ⟨rfl,hb⟩;refine ⟨_,rfl,?_⟩;have n0_:=aM (Kd.S_below (qsa HO_5.out) hb);have n1_:=aM (blk_below (g:=gb515) (o:=.cells #[.int .i64 a0_0,.slice A0_1 l0_1.length c0_1] 68 (0,0)) bk hb);have n2_:=aM (below_step bw hb);clear HO_5;clear BK515;clear HB;have HO_5:=n0_;have BK515:=n1_;have HB:=n2_;clear n0_ n1_ n2_;(try clear hb);(try clear hb2);(try clear hk);(try clear hi))|((with_reducible refine gate_callee (f:=164) rfl ?_);refine goesL_ (some 19) rfl rfl Try.func164 kR rfl #[.int .i64 x11_1] rfl mq ?_;(with_reducible refine (impl_setOf.calls k1 x11_1 t521 _ A10.out).mono ?_);rintro e w13 ⟨v522,rfl,ho0,hb⟩;refine ⟨_,rfl,?_⟩;have n0_:=aM (Kd.S_elder' (qsa HO_5.out) (Kd.R_base ho0) hb);have n1_:=aM (Kd.R_lower ho0 (below_size bw));have n2_:=aM (blk_below (g:=gb515) (o:=.cells #[.int .i64 a0_0,.slice A0_1 l0_1.length c0_1] 68 (0,0)) bk hb);have n3_:=aM (below_step bw hb);clear HO_5;clear BK515;clear HB;have HO_5:=n0_;have HO523:=n1_;have BK515:=n2_;have HB:=n3_;clear n0_ n1_ n2_ n3_;(try clear hb);(try clear hb2);(try clear hk);(try clear hi);(try clear ho0);obtain ⟨Ao15,co15,eo15⟩:=Kd.R_slice HO523.out;subst eo15)|((with_reducible refine gate_builtin (b:=.append) (xs:=#[.tmp 17,.tmp 20]) rfl ?_);at_builtin;refine Kd.S_append (Kd.slice 3 (Kd.int .i64)) (w0:=w) w.heap.size rfl (.tmp 17) (.tmp 20) 22 40 (.slice none 0 0) 24 rfl Try.underlying22 info40 rfl (by decide) (by omega) u5 x5_1 t521 [.slice Ao15 t521.length co15] (fun _=>True) (fun k_=>some k_ = (.slice Ao15 t521.length co15:Value).ownBlock) rfl rfl ?aP (fun k_ hk_=>((Kd.R_mono (ok':=fun k_=>((fun _=>True)) k_ ∧ some k_ ≠ (u5:Value).ownBlock) (Kd.R_apart' (HO523.out) (Kd.S_typed HO_5.out) (by decide)) (fun k_ hk=>⟨trivial,hk.2⟩))).1 k_ hk_.symm) ?aF ?aO ?aB ?aS ?aL ?_;(case aP=>exact Kd.M_row (Kd.R_mono (Kd.R_tight rfl (Kd.R_mono (ok':=fun k_=>((fun _=>True)) k_ ∧ some k_ ≠ (u5:Value).ownBlock) (Kd.R_apart' (HO523.out) (Kd.S_typed HO_5.out) (by decide)) (fun k_ hk=>⟨trivial,hk.2⟩))) (fun _ h_=>h_)));(case aB=>exact bw);(case aF=>exact (fun _ _=>trivial));(case aO=>exact (by (with_reducible repeat (first|apply Kd.S_alloc|apply Kd.S_drewN|apply Kd.S_drew));exact Kd.S_mono HO_5.out (fun k_ hk=>⟨trivial,fun e_=>hk.2 e_⟩)));(case aS=>exact (below_size bw));(case aL=>have:=LMc11.out;omega);intro v525 w14 ho hb hg hat;rw [← Ny524.out] at ho;have n0_:=aM (blk_grown (g:=gb515) (o:=.cells #[.int .i64 a0_0,.slice A0_1 l0_1.length c0_1] 68 (0,0)) bk hg (Kd.S_ne HO_5.out BK515.out (by decide)));have n1_:=aM (hb);have n2_:=aM (ho);clear BK515;clear HB;clear HO_5;clear HO523;have BK515:=n0_;have HB:=n1_;have HO526:=n2_;clear n0_ n1_ n2_;clear ho hb hg hat))
      go_roundg k1
      case measure=>have:=HK1.out;omega
      case rel=>exact ⟨(y524),(wrap64 (x11_1 + 1)),qrs,H',⟨by have:=HK1.out;omega⟩,⟨qsa HO526.out⟩,⟨by (with_reducible repeat (first|refine blk_drewN ?_ _|refine blk_drew ?_|refine blk_alloc ?_ _));exact BK515.out⟩,⟨by exact bw⟩⟩
     ·rw [if_neg c11] at H;exact absurd H (by simp)
    ·replace c9:=Bool.eq_false_iff.mpr c9;subst c9;have H1:(impl_votes_sets.l0 k1 a1 x5_1 (l0_1.length:Int) (wrap64 (x11_1 + 1))) = some r:=by rw [if_neg (show ¬ (false = true) by decide)] at H;exact H
     clear H;have H:=H1;clear H1;have H':=aM H;clear H;go_wp2_with (first|((with_reducible refine gate_fn (t:=14) rfl ?_);refine goesFB_ (some 16) rfl rfl eg1_ #[.int .i64 x11_1] rfl rfl mq ?_;(with_reducible refine (HP1.out _ x11_1 false A8.out ?side1).mono ?_);(case side1=>exact bw);rintro e w16 ⟨rfl,hb⟩;refine ⟨_,rfl,?_⟩;have n0_:=aM (Kd.S_below (qsa HO_5.out) hb);have n1_:=aM (blk_below (g:=gb515) (o:=.cells #[.int .i64 a0_0,.slice A0_1 l0_1.length c0_1] 68 (0,0)) bk hb);have n2_:=aM (below_step bw hb);clear HO_5;clear BK515;clear HB;have HO_5:=n0_;have BK515:=n1_;have HB:=n2_;clear n0_ n1_ n2_;(try clear hb);(try clear hb2);(try clear hk);(try clear hi)))
     go_roundg k1
     case measure=>have:=HK1.out;omega
     case rel=>exact ⟨(x5_1),(wrap64 (x11_1 + 1)),qrs,H',⟨by have:=HK1.out;omega⟩,⟨qsa HO_5.out⟩,⟨by (with_reducible repeat (first|refine blk_drewN ?_ _|refine blk_drew ?_|refine blk_alloc ?_ _));exact BK515.out⟩,⟨by exact bw⟩⟩
   ·rw [if_neg c7] at H;have c7b0:decide (x11_1 < (l0_1.length:Int)) = false:=decide_eq_false c7;clear c7;replace H:=Option.bind_eq_some_iff.mp H;obtain ⟨t519,A170,H⟩:=H;replace H:(some t519) = some r:=H;have A17:=aM A170;clear A170;obtain rfl:=Option.some.inj H;obtain ⟨Ao18,co18,eo18⟩:=Kd.S_slice HO_5.out;subst eo18;go_wp2_with (first|((with_reducible refine gate_callee (f:=165) rfl ?_);refine goesL_ (some 24) rfl rfl Try.func165 kR rfl #[.slice Ao18 x5_1.length co18,.func (.func 128) #[] #[]] rfl mq ?_;(with_reducible refine (slices_SortFunc_LLint_Lint.calls k1 (fun k_=>(True ∧ k_ ≠ gb515)) (.slice Ao18 x5_1.length co18) x5_1 (fun y0_ y1_=>slices_Compare_int_int.f k1 y0_ y1_) 128 #[] slices_Compare_int_int.enters t519 w _ ?side1 ?side2 ?side3 A17.out).mono ?_);(case side1=>exact bw);(case side2=>exact (Kd.S_types HO_5.out BK515.out (by decide)));(case side3=>exact (fun W_ A0_ c0_ l0_ A1_ c1_ l1_ r0_ hx_ hb_ hr0_ hc0_ hr1_ hc1_=>(slices_Compare_int_int.calls k1 A0_ c0_ l0_ A1_ c1_ l1_  r0_ W_ hr0_ hc0_ hr1_ hc1_  hx_).mono (fun _ _ h_=>⟨h_.1,h_.2⟩)));rintro e w19 ⟨rfl,hy0,hb,hkp⟩;refine ⟨_,rfl,?_⟩;have n0_:=aM (Kd.S_mono (ok':=fun k_=>k_ ≠ gb515) hy0 (fun k_ hk_=>hk_.2));have n1_:=aM (blk_kept bk hkp (fun hs_=>(fun hp_=>(hp_.2) rfl) hs_));have n2_:=aM (hb);clear HO_5;clear BK515;clear HB;have HO_5:=n0_;have BK515:=n1_;have HB:=n2_;clear n0_ n1_ n2_;(try clear hb);(try clear hkp);(try clear hy0)))
    go_ret
    exact ⟨_,by first|rfl|(simp [errW_none,errW_some] <;> rfl)|(simp [*,errW_none,errW_some] <;> rfl),by (with_reducible repeat (first|apply Kd.S_alloc|apply Kd.S_drewN|apply Kd.S_drew));exact Kd.S_mono HO_5.out (fun _ hk=>trivial),by exact bw⟩
theorem impl_votes_sets.calls (k:Nat) (a0_0:Int) (A0_1:Option Addr) (c0_1:Nat) (l0_1:List Bool) (a1:(Int → Option (Bool))) (g1_:Nat) (lb1_:Array Value) (eg1_:∀ (args:Array Value) (w:World),(callFunc g1_ args).run Try.prog w = .ok (.enter g1_ args) w) (r:List (List Int)) (w:World) (hr0_1:Kd.C Kd.bool w A0_1 l0_1.length l0_1) (hc0_1:l0_1.length ≤ c0_1) (hp1:∀ (W:World) (b0_:Int) (r0_:Bool),a1 b0_ = some r0_ → Below w.heap.size w W → Calls Try.prog g1_ (#[.int .i64 b0_] ++ lb1_) W fun e w'=>e = .returned (.bool r0_) ∧ Below W.heap.size W w') (h:impl_votes_sets.f k a0_0 l0_1 a1 = some r) :
  Calls Try.prog 147 #[.agg #[.int .i64 a0_0,.slice A0_1 l0_1.length c0_1],.func (.func g1_) #[] lb1_] w fun e w'=>∃ v0_:Value,e = .returned (v0_) ∧ Kd.S (Kd.slice 3 (Kd.int .i64)) 40 w' w.heap.size (fun _=>True) v0_ r ∧ Below w.heap.size w w' :=
 impl_votes_sets.callsB #[] k a0_0 A0_1 c0_1 l0_1 a1 g1_ lb1_ eg1_ r w hr0_1 hc0_1 (fun W b0_ r0_ h1 h2=>by simpa using hp1 W b0_ r0_ h1 h2) h


/-! ### impl_votes_least: function 113 -/
-- IMPORT P_impl_votes_sets
-- IMPORT P_impl_votes_isLeast
def impl_votes_least.f (k : Nat) (a0_0 : Int) (l0_1 : List Bool) : Option (List (List Int)) := impl_votes_sets.f k a0_0 l0_1 (fun y0_ => impl_votes_isLeast.f k a0_0 l0_1 y0_)
theorem impl_votes_least.mono : ∀ a0 a1 k, LeO (impl_votes_least.f k a0 a1) (impl_votes_least.f (k + 1) a0 a1) := fun a0 a1 k => LeO.trans (impl_votes_sets.mono _ _ _ _) (impl_votes_sets.mono_p (fun x => impl_votes_isLeast.mono a0 a1 x k) _ _ _)
theorem impl_votes_least.en : ∀ (args : Array Value) (w : World), (callFunc 148 args).run Try.prog w = .ok (.enter 148 args) w := enters_of Try.func148 (by kernel_rfl) rfl
set_option maxHeartbeats 8000000 in
set_option maxRecDepth 100000 in
theorem impl_votes_least.calls (k : Nat) (a0_0 : Int) (A0_1 : Option Addr) (c0_1 : Nat) (l0_1 : List Bool) (r : List (List Int)) (w : World) (hr0_1 : Kd.C Kd.bool w A0_1 l0_1.length l0_1) (hc0_1 : l0_1.length ≤ c0_1) (h : impl_votes_least.f k a0_0 l0_1 = some r) :
    Calls Try.prog 113 #[.agg #[.int .i64 a0_0, .slice A0_1 l0_1.length c0_1]] w fun e w' => ∃ v0_ : Value, e = .returned (v0_) ∧ Kd.S (Kd.slice 3 (Kd.int .i64)) 40 w' w.heap.size (fun _ => True) v0_ r ∧ Below w.heap.size w w' := by
  have hu68 := Try.underlying68
  have HR0_1 := Aside0.mk hr0_1
  have HC0_1 := Aside0.mk hc0_1
  clear hr0_1 hc0_1
  have HB := Aside0.mk (Below.refl w.heap.size w)
  have H' := Aside0.mk (show impl_votes_sets.f k a0_0 l0_1 (fun y0_ => impl_votes_isLeast.f k a0_0 l0_1 y0_) = some r from h)
  clear h
  go_enter Try.func113, Try.ntmps113
  go_wp2_with (first | ((with_reducible refine gate_dst (N := 1) rfl ?_); refine box_event ?hg (N := 1) ?hd (cs := #[.int .i64 a0_0, .slice A0_1 l0_1.length c0_1]) (t := 68) ?hr ?_; (case hd => rfl); (case hg => rfl); (case hr => first | (go_simp; done) | (go_simp; rfl)); intro gb591 hg w3 hbox hb; have n0_ := Aside0.mk (below_step (by repeat (first | (with_reducible first | exact HB.out | apply below_alloc | apply pw_below_drewN | apply below_drew1) | exact HB.out)) hb); have n1_ := Aside0.mk (hbox); clear HB; have HB := n0_; have BK591 := n1_; clear n0_ n1_; clear hb hbox hg; have hcz6_0 : w3.cell? ⟨gb591, 0, none⟩ = some (.int .i64 a0_0) := (blk_cell BK591.out 0).trans rfl; have hcz6_1 : w3.cell? ⟨gb591, 1, none⟩ = some (.slice A0_1 l0_1.length c0_1) := (blk_cell BK591.out 1).trans rfl; have hfz6_0 := blk_frozen BK591.out 0; have hfz6_1 := blk_frozen BK591.out 1) | ((with_reducible refine gate_callee (f := 147) rfl ?_); refine goesL_ (some 6) rfl rfl Try.func147 (by kernel_rfl) rfl #[.agg #[.int .i64 a0_0, .slice A0_1 l0_1.length c0_1], .func (.func 148) #[.agg #[.int .i64 a0_0, .slice A0_1 l0_1.length c0_1]] #[]] rfl (by (try simp only [List.map_toArray, List.map_cons, List.map_nil]); first | done | rfl | (simp only [List.length_drop, List.length_take]; rfl)) ?_; (with_reducible refine (impl_votes_sets.callsB #[.agg #[.int .i64 a0_0, .slice A0_1 l0_1.length c0_1]] k a0_0 _ _ l0_1 (fun y0_ => impl_votes_isLeast.f k a0_0 l0_1 y0_) 148 #[] impl_votes_least.en r _ ?side1 ?side2 ?side3 H'.out).mono ?_); (case side1 => repeat (first | exact (Kd.C_below HR0_1.out HB.out) | (with_reducible refine Kd.C_alloc ?_ _) | (with_reducible refine Kd.C_drewN ?_ _) | (with_reducible refine Kd.C_drew ?_))); (case side2 => exact HC0_1.out); (case side3 => exact (fun W_ b0_ r0_ hx_ hb_ => (impl_votes_isLeast.calls k a0_0 A0_1 c0_1 l0_1 b0_ r0_ W_ (Kd.C_below HR0_1.out (below_step (by repeat (first | (with_reducible first | exact HB.out | apply below_alloc | apply pw_below_drewN | apply below_drew1) | exact HB.out)) hb_)) HC0_1.out hx_))); rintro e w6 ⟨v6, rfl, hy6, hb⟩; refine ⟨_, rfl, ?_⟩; have n0_ := Aside0.mk (Kd.S_lower hy6 (below_size (by repeat (first | (with_reducible first | exact HB.out | apply below_alloc | apply pw_below_drewN | apply below_drew1) | exact HB.out)))); have n1_ := Aside0.mk (below_step (by repeat (first | (with_reducible first | exact HB.out | apply below_alloc | apply pw_below_drewN | apply below_drew1) | exact HB.out)) hb); clear HB; have HO6 := n0_; have HB := n1_; clear n0_ n1_; clear hb hy6))
  go_ret
  exact ⟨_, by first | rfl | (simp [errW_none, errW_some] <;> rfl) | (simp [*, errW_none, errW_some] <;> rfl), by (with_reducible repeat (first | apply Kd.S_alloc | apply Kd.S_drewN | apply Kd.S_drew)); exact Kd.S_mono HO6.out (fun _ hk => trivial), by repeat (first | (with_reducible first | exact HB.out | apply below_alloc | apply pw_below_drewN | apply below_drew1) | exact HB.out)⟩


/-! ### impl_votes_game: function 74 -/
def impl_votes_game.f (k:Nat) (a0_0:Int) (l0_1:List Bool):Option (Int × (List (List Int))):=(impl_votes_least.f k a0_0 l0_1).bind fun t533=>(some (a0_0,t533))
theorem impl_votes_game.mono:∀ a0 a1 k,LeO (impl_votes_game.f k a0 a1) (impl_votes_game.f (k + 1) a0 a1):=by
 intro a0 a1 k;unfold impl_votes_game.f
 repeat' with_reducible first|exact impl_votes_least.mono _ _ _|exact LeO.refl _|exact LeO.none _|refine LeO.ite ?_ ?_|refine LeO.bind ?_ (fun _=>?_)
set_option maxHeartbeats 8000000 in
set_option maxRecDepth 100000 in
theorem impl_votes_game.calls (k:Nat) (a0_0:Int) (A0_1:Option Addr) (c0_1:Nat) (l0_1:List Bool) (r1:Int) (r2:List (List Int)) (w:World) (hr0_1:Kd.C Kd.bool w A0_1 l0_1.length l0_1) (hc0_1:l0_1.length ≤ c0_1) (h:impl_votes_game.f k a0_0 l0_1 = some (r1,r2)) :
  Calls Try.prog 74 #[.agg #[.int .i64 a0_0,.slice A0_1 l0_1.length c0_1]] w fun e w'=>∃ v1_:Value,e = .returned (.agg #[.int .i64 r1,v1_]) ∧ Kd.S (Kd.slice 3 (Kd.int .i64)) 40 w' w.heap.size (fun _=>True) v1_ r2 ∧ Below w.heap.size w w':=by
 have hu68:=Try.underlying68;have hu28:=Try.underlying28;have HR0_1:=aM hr0_1;have HC0_1:=aM hc0_1;clear hr0_1 hc0_1;have HB:=aM (Below.refl w.heap.size w);have H:((impl_votes_least.f k a0_0 l0_1).bind fun t533=>(some (a0_0,t533))) = some (r1,r2):=h;clear h;replace H:=Option.bind_eq_some_iff.mp H;obtain ⟨t533,A20,H⟩:=H;replace H:(some (a0_0,t533)) = some (r1,r2):=H;have A2:=aM A20;clear A20;simp only [Option.some.injEq,Prod.mk.injEq] at H;obtain ⟨rfl,rfl⟩:=H;go_enter Try.func74,Try.ntmps74
 try go_wp2_with (first|((with_reducible refine gate_dst (N:=1) rfl ?_);refine box_event ?hg (N:=1) ?hd (cs:=#[.int .i64 a0_0,.slice A0_1 l0_1.length c0_1]) (t:=68) ?hr ?_;(case hd=>rfl);(case hg=>rfl);(case hr=>first|(go_simp;done)|(go_simp;rfl));intro gb531 hg w3 hbox hb;have n0_:=aM (below_step bw hb);have n1_:=aM (hbox);have n2_:=aM ((by rw [hg];exact (below_size bw):w.heap.size ≤ gb531));have n3_:=aM ((by rw [hg];exact (below_size bw):w.heap.size ≤ gb531));clear HB;have HB:=n0_;have BK531:=n1_;have GW531:=n2_;have GE531:=n3_;clear n0_ n1_ n2_ n3_;clear hb hbox hg)|((with_reducible refine gate_dst (N:=2) rfl ?_);refine box_event ?hg (N:=2) ?hd (cs:=#[.int .i64 0,.slice none 0 0]) (t:=28) ?hr ?_;(case hd=>rfl);(case hg=>rfl);(case hr=>first|(go_simp;done)|(go_simp;rfl));intro gb532 hg w4 hbox hb;have n0_:=aM (blk_below (g:=gb531) (o:=.cells #[.int .i64 a0_0,.slice A0_1 l0_1.length c0_1] 68 (0,0)) bk hb);have n1_:=aM (below_step bw hb);have n2_:=aM (hbox);have n3_:=aM ((by rw [hg];exact (below_size bw):w.heap.size ≤ gb532));have n4_:=aM ((by rw [hg];exact (below_size bw):w.heap.size ≤ gb532));have n5_:=aM ((by rw [hg];exact Nat.ne_of_lt (blk_lt (g:=gb531) (o:=.cells #[.int .i64 a0_0,.slice A0_1 l0_1.length c0_1] 68 (0,0)) bk):gb531 ≠ gb532));have n6_:=aM ((by rw [hg];exact Nat.ne_of_gt (blk_lt (g:=gb531) (o:=.cells #[.int .i64 a0_0,.slice A0_1 l0_1.length c0_1] 68 (0,0)) bk):gb532 ≠ gb531));clear BK531;clear HB;have BK531:=n0_;have HB:=n1_;have BK532:=n2_;have GW532:=n3_;have GE532:=n4_;have NB531_532:=n5_;have NB532_531:=n6_;clear n0_ n1_ n2_ n3_ n4_ n5_ n6_;clear hb hbox hg))
 have n0_:=aM (blk_drew BK531.out);have n1_:=aM (blk_drew BK532.out);have n2_:=aM (below_drew1 HB.out);clear BK531;clear BK532;clear HB;have BK531:=n0_;have BK532:=n1_;have HB:=n2_;clear n0_ n1_ n2_;refine start_ (n:=6) (S:=fun w'=>w'.cell? ⟨gb531,0,none⟩ = some (.int .i64 a0_0) ∧ w'.cell? ⟨gb531,1,none⟩ = some (.slice A0_1 l0_1.length c0_1)) (ds:=[]) (mA 6 0) kR rfl rfl ⟨(blk_cell BK531.out 0).trans rfl,(blk_cell BK531.out 1).trans rfl⟩ (fun hHeld=>?_);generalize w4.drew = w5 at BK531 BK532 HB hHeld ⊢
 refine pure_ (i:=0) (N:=some 3) (v:=?_) (a':=?_) (mA 6 1) rfl rfl kR (fun _ _ _ h=>h) (Or.inl ⟨by rfl,?_⟩) ?_ ?_;rotate_left
 ·intro w';go_simp
  with_reducible rfl
 rotate_left
 ·simp only [Act.put,sA,sZ,sS,i64_w,i32_w];rfl
 refine take_ (i:=1) (N:=some 4) (v:=?_) (a':=?_) (mA 6 3) rfl rfl kR (fun _ _ _ h=>h) (Or.inl ⟨by rfl,?_⟩) hHeld ?_ ?_;rotate_left
 ·rintro w' ⟨s0,s1⟩
  go_simp
  with_reducible rfl
 rotate_left
 ·simp only [Act.put,sA,sZ,sS,i64_w,i32_w];rfl
 refine take_ (i:=2) (N:=some 5) (v:=?_) (a':=?_) (mA 6 7) rfl rfl kR (fun _ _ _ h=>h) (Or.inl ⟨by rfl,?_⟩) hHeld ?_ ?_;rotate_left
 ·rintro w' ⟨s0,s1⟩
  go_simp
  with_reducible rfl
 rotate_left
 ·simp only [Act.put,sA,sZ,sS,i64_w,i32_w];rfl
 refine one_ (i:=3) (N:=some 6) (mA 6 15) rfl rfl kR (by decide) (fun K hK=>?_);refine goes_ Try.func113 kR rfl #[.agg #[.int .i64 a0_0,.slice A0_1 l0_1.length c0_1]] (by rfl) rfl rfl mq ?_
 with_reducible refine (impl_votes_least.calls k a0_0 _ _ l0_1 t533 _ ?side1 ?side2 A2.out).mono ?_
 (case side1=>exact qcs HR0_1.out HB.out)
 (case side2=>exact HC0_1.out)
 rintro e w6 ⟨v534,rfl,ho0,hb⟩
 refine ⟨_,rfl,?_⟩;have n0_:=aM (Kd.S_lower ho0 (below_size bw));have n1_:=aM (blk_below (g:=gb531) (o:=.cells #[.int .i64 a0_0,.slice A0_1 l0_1.length c0_1] 68 (0,0)) bk hb);have n2_:=aM (blk_below (g:=gb532) (o:=.cells #[.int .i64 0,.slice none 0 0] 28 (0,0)) bk hb);have n3_:=aM (below_step bw hb);clear BK531;clear BK532;clear HB;have HO535:=n0_;have BK531:=n1_;have BK532:=n2_;have HB:=n3_;clear n0_ n1_ n2_ n3_;(try clear hb)
 (try clear hb2)
 (try clear hk)
 (try clear hi)
 (try clear ho0)
 obtain ⟨Ao7,co7,eo7⟩:=Kd.S_slice HO535.out;(first|subst eo7|(injection eo7 with f1_ f2_ f3_;have f4_:=f1_.symm;have f5_:=f3_.symm;clear f1_ f2_ f3_;subst f4_;subst f5_))
 refine hK.out _ _ ⟨(blk_cell BK531.out 0).trans rfl,(blk_cell BK531.out 1).trans rfl⟩ (fun hHeld=>?_);clear hK K;refine norm_ (a':=?_) ?_ ?_;rotate_left
 ·show Act.put _ (some 6) _ = _;simp only [Act.put,sA,sZ,sS,i64_w,i32_w];rfl
 refine pure_ (i:=4) (N:=some 7) (v:=?_) (a':=?_) (mA 6 31) rfl rfl kR (fun _ _ _ h=>h) (Or.inl ⟨by rfl,?_⟩) ?_ ?_;rotate_left
 ·intro w';go_simp
  with_reducible rfl
 rotate_left
 ·simp only [Act.put,sA,sZ,sS,i64_w,i32_w];rfl
 refine one_ (i:=5) (N:=none) (mA 6 63) rfl rfl kR (by decide) (fun K hK=>?_);have hs8:w6.cell? ⟨gb532,0,none⟩ = some (.int .i64 0):=(blk_cell BK532.out 0).trans rfl;have hfs8:=blk_frozen BK532.out 0;have hns8_0:=NB531_532.out;have hms8_0:=NB532_531.out;have hs9:w6.cell? ⟨gb532,1,none⟩ = some (.slice none 0 0):=(blk_cell BK532.out 1).trans rfl;have hfs9:=blk_frozen BK532.out 1;have hns9_0:=NB531_532.out;have hms9_0:=NB532_531.out;refine skip_ (w1:=?_) (by rfl) rfl ?_ ?_;rotate_left
 ·go_simp
  rfl
 refine hK.out _ _ ⟨((cell_far (p:=⟨gb532,_,none⟩) NB531_532.out _).trans (((cell_far (p:=⟨gb532,_,none⟩) NB531_532.out _).trans (hHeld.1)))),((cell_far (p:=⟨gb532,_,none⟩) NB531_532.out _).trans (((cell_far (p:=⟨gb532,_,none⟩) NB531_532.out _).trans (hHeld.2))))⟩ (fun hHeld=>?_);clear hK K;refine done_ kR ?_
 try go_wp2
 refine bodyPost_ret (results_cell_row rfl _ _ gb532 28 #[.int .i64 a0_0,.slice Ao7 t533.length co7] (0,0) _ rfl (by (with_reducible repeat (first|refine blk_drewN ?_ _|refine blk_drew ?_|refine blk_alloc ?_ _));refine blk_put (cs:=#[.int .i64 a0_0,.slice none 0 0]) ?_ 1 _ rfl;(with_reducible repeat (first|refine blk_drewN ?_ _|refine blk_drew ?_|refine blk_alloc ?_ _));refine blk_put (cs:=#[.int .i64 0,.slice none 0 0]) ?_ 0 _ rfl;(with_reducible repeat (first|refine blk_drewN ?_ _|refine blk_drew ?_|refine blk_alloc ?_ _));exact BK532.out) Try.underlying28 rfl kR) rfl ?_;exact ⟨_,by first|rfl|(simp [errW_none,errW_some] <;> rfl)|(simp [*,errW_none,errW_some] <;> rfl),by (with_reducible repeat (first|apply Kd.S_alloc|apply Kd.S_drewN|apply Kd.S_drew));exact Kd.S_mono (Kd.S_far (p:=⟨gb532,1,none⟩) (Kd.S_far (p:=⟨gb532,0,none⟩) (Kd.S_types HO535.out BK532.out (by decide)) (fun _ hk=>hk.2) (.int .i64 a0_0)) (fun _ hk=>hk.2) (.slice Ao7 t533.length co7)) (fun _ hk=>trivial),by exact bw⟩


/-! ### slices_SortFunc_impl_Game_impl_Game: function 138 -/
-- OWN 0 0
-- IMPORT LexS
-- IMPORT BelowG
-- KIT Derived.Shelf.SlSortCmp.NoneTotal
open Go.Shelf in
def slices_SortFunc_impl_Game_impl_Game.ren : Ren := ⟨fun x => match x with
| 6 => 138 | 14 => 159 | 15 => 160 | 20 => 171 | 21 => 172 | 22 => 173 | 23 => 174 | 24 => 175 | 25 => 176 | 26 => 177 | 27 => 178 | 28 => 179 | 29 => 180 | 46 => 183 | 47 => 184 | 48 => 185 | 49 => 186 | 50 => 187 | 57 => 196 | _ => 0, fun x => match x with
| 0 => 0 | 3 => 3 | 4 => 4 | 5 => 5 | 9 => 9 | 22 => 106 | 24 => 28 | 25 => 129 | 39 => 114 | 45 => 150 | 46 => 151 | 50 => 35 | 53 => 133 | 55 => 135 | 66 => 157 | 70 => 161 | 76 => 168 | 77 => 169 | _ => 0, fun x => x⟩
theorem slices_SortFunc_impl_Game_impl_Game.lay : SlLaysF0.n6 Try.prog slices_SortFunc_impl_Game_impl_Game.ren := ⟨
  by kernel_rfl,
  ⟨"slices.SortFunc[[]loop.example/g01275/impl.Game,loop.example/g01275/impl.Game]", by decide, by kernel_rfl⟩,
  ⟨"slices.pdqsortCmpFunc[loop.example/g01275/impl.Game]", by decide, by kernel_rfl⟩,
  by kernel_rfl,
  ⟨"slices.insertionSortCmpFunc[loop.example/g01275/impl.Game]", by decide, by kernel_rfl⟩,
  ⟨"slices.heapSortCmpFunc[loop.example/g01275/impl.Game]", by decide, by kernel_rfl⟩,
  ⟨"slices.breakPatternsCmpFunc[loop.example/g01275/impl.Game]", by decide, by kernel_rfl⟩,
  ⟨"slices.choosePivotCmpFunc[loop.example/g01275/impl.Game]", by decide, by kernel_rfl⟩,
  ⟨"slices.reverseRangeCmpFunc[loop.example/g01275/impl.Game]", by decide, by kernel_rfl⟩,
  ⟨"slices.partialInsertionSortCmpFunc[loop.example/g01275/impl.Game]", by decide, by kernel_rfl⟩,
  ⟨"slices.partitionEqualCmpFunc[loop.example/g01275/impl.Game]", by decide, by kernel_rfl⟩,
  ⟨"slices.partitionCmpFunc[loop.example/g01275/impl.Game]", by decide, by kernel_rfl⟩,
  by kernel_rfl,
  by kernel_rfl,
  ⟨"slices.siftDownCmpFunc[loop.example/g01275/impl.Game]", by decide, by kernel_rfl⟩,
  by kernel_rfl,
  by kernel_rfl,
  ⟨"slices.medianAdjacentCmpFunc[loop.example/g01275/impl.Game]", by decide, by kernel_rfl⟩,
  ⟨"slices.medianCmpFunc[loop.example/g01275/impl.Game]", by decide, by kernel_rfl⟩,
  ⟨"slices.order2CmpFunc[loop.example/g01275/impl.Game]", by decide, by kernel_rfl⟩,
  by kernel_rfl,
  fun w => by kernel_rfl,
  fun w => by kernel_rfl,
  fun w => by kernel_rfl,
  by kernel_rfl,
  fun w => by kernel_rfl,
  fun w => by kernel_rfl,
  fun w => by kernel_rfl,
  by kernel_rfl,
  fun w => by kernel_rfl,
  fun w => by kernel_rfl,
  fun w => by kernel_rfl,
  by kernel_rfl,
  fun w => by kernel_rfl,
  fun w => by kernel_rfl,
  fun w => by kernel_rfl,
  by kernel_rfl,
  fun w => by kernel_rfl,
  fun w => by kernel_rfl,
  fun w => by kernel_rfl,
  by kernel_rfl,
  fun w => by kernel_rfl,
  fun w => by kernel_rfl,
  fun w => by kernel_rfl,
  by kernel_rfl,
  fun w => by kernel_rfl,
  fun w => by kernel_rfl,
  fun w => by kernel_rfl,
  by kernel_rfl,
  fun w => by kernel_rfl,
  fun w => by kernel_rfl,
  fun w => by kernel_rfl,
  by kernel_rfl,
  fun w => by kernel_rfl,
  fun w => by kernel_rfl,
  fun w => by kernel_rfl,
  by kernel_rfl,
  fun w => by kernel_rfl,
  fun w => by kernel_rfl,
  fun w => by kernel_rfl,
  by kernel_rfl,
  fun w => by kernel_rfl,
  fun w => by kernel_rfl,
  fun w => by kernel_rfl,
  by kernel_rfl,
  fun w => by kernel_rfl,
  fun w => by kernel_rfl,
  fun w => by kernel_rfl,
  by kernel_rfl,
  fun w => by kernel_rfl,
  fun w => by kernel_rfl,
  fun w => by kernel_rfl,
  by kernel_rfl,
  fun w => by kernel_rfl,
  fun w => by kernel_rfl,
  fun w => by kernel_rfl,
  by kernel_rfl,
  fun w => by kernel_rfl,
  fun w => by kernel_rfl,
  fun w => by kernel_rfl,
  by kernel_rfl,
  fun w => by kernel_rfl,
  fun w => by kernel_rfl,
  fun w => by kernel_rfl,
  by kernel_rfl,
  fun w => by kernel_rfl,
  fun w => by kernel_rfl,
  fun w => by kernel_rfl⟩
def gameL (a b : S_impl_Game) : Bool := decide (lexS a.f1 b.f1 ≤ 0)
theorem gameL_trans (a b c : S_impl_Game) (h : gameL a b = true) (k : gameL b c = true) : gameL a c = true := decide_eq_true (lexS_trans (of_decide_eq_true h) (of_decide_eq_true k))
theorem gameL_total (a b : S_impl_Game) : (gameL a b || gameL b a) = true := by
  have := lexS_swap a.f1 b.f1
  rw [Bool.or_eq_true]
  by_cases h : lexS a.f1 b.f1 ≤ 0
  · exact .inl (decide_eq_true h)
  · exact .inr (decide_eq_true (by omega))
def gamesIn (l : List S_impl_Game) : List S_impl_Game := l.mergeSort gameL
theorem gamesIn_perm (l : List S_impl_Game) : (gamesIn l).Perm l := List.mergeSort_perm l gameL
theorem gamesIn_of {l r : List S_impl_Game} (hn : ∀ x ∈ l, ∀ y ∈ l, x.f0 = y.f0) (hp : r.Perm l) (hs : r.Pairwise (fun a b => gameL a b = true)) : r = gamesIn l := by
  refine List.Perm.eq_of_pairwise (fun a b ha hb h k => ?_) hs (List.pairwise_mergeSort gameL_trans gameL_total l) (hp.trans (gamesIn_perm l).symm)
  have e0 := hn a (hp.mem_iff.1 ha) b ((gamesIn_perm l).mem_iff.1 hb)
  have s := lexS_swap a.f1 b.f1
  have h := of_decide_eq_true h
  have k := of_decide_eq_true k
  have e1 := lexS_zero (a := a.f1) (b := b.f1) (by omega)
  obtain ⟨a0, a1⟩ := a
  obtain ⟨b0, b1⟩ := b
  simp only at e0 e1
  rw [e0, e1]
def slices_SortFunc_impl_Game_impl_Game.f (k : Nat) (l0 : List S_impl_Game) (a1 : (Int → List (List Int) → Int → List (List Int) → Option (Int))) : Option (List S_impl_Game) := if l0.length ≤ 1000000 ∧ (∀ x ∈ l0, ∀ y ∈ l0, x.f0 = y.f0) ∧ ∀ x ∈ l0, ∀ y ∈ l0, a1 x.f0 x.f1 y.f0 y.f1 = some (lexS x.f1 y.f1) then some (gamesIn l0) else none
theorem slices_SortFunc_impl_Game_impl_Game.mono : ∀ a0 a1 k, LeO (slices_SortFunc_impl_Game_impl_Game.f k a0 a1) (slices_SortFunc_impl_Game_impl_Game.f (k + 1) a0 a1) := fun _ _ _ => LeO.refl _
theorem slices_SortFunc_impl_Game_impl_Game.mono_p {p_ q_ : (Int → List (List Int) → Int → List (List Int) → Option (Int))} (h_ : ∀ x0_ x1_ x2_ x3_, LeO (p_ x0_ x1_ x2_ x3_) (q_ x0_ x1_ x2_ x3_)) : ∀ a0 k, LeO (slices_SortFunc_impl_Game_impl_Game.f k a0 p_) (slices_SortFunc_impl_Game_impl_Game.f k a0 q_) := by
  intro a0 k r hr
  unfold slices_SortFunc_impl_Game_impl_Game.f at hr ⊢
  split at hr
  · rename_i hc
    rw [if_pos ⟨hc.1, hc.2.1, fun x hx y hy => h_ _ _ _ _ _ (hc.2.2 x hx y hy)⟩]
    exact hr
  · exact absurd hr (by simp)
open Go.Sort in
theorem slices_SortFunc_impl_Game_impl_Game.heap {α : Type} [Inhabited α] (enc : α → List Value) (w : World) (g m : Nat) (d : Array α) (os : Array Obj) (cur : Array Value) (e : Nat) (hg : w.heap[g]? = some (.cells cur e (0, 0))) :
    (sortWorldK enc 2 w g 0 m d os).heap[g]? = some (.cells (putCells id 0 (flatK enc 2 d) cur) e (0, 0)) ∧ (∀ k, k < w.heap.size → k ≠ g → (sortWorldK enc 2 w g 0 m d os).heap[k]? = w.heap[k]?) ∧ w.heap.size ≤ (sortWorldK enc 2 w g 0 m d os).heap.size := by
  have hlt : g < w.heap.size := blk_lt hg
  have e1 : ∀ k, k < w.heap.size → (sortWorldK enc 2 w g 0 m d os).heap[k]? = (w.heap.modify g (onCells (putCells id 0 (flatK enc 2 d))))[k]? := fun k hk => by
    show ((w.heap.modify g (onCells (putCells id 0 (flatK enc 2 d)))) ++ os)[k]? = _
    rw [Array.getElem?_append_left (by rw [Array.size_modify]; exact hk)]
  refine ⟨?_, fun k hk hne => ?_, ?_⟩
  · rw [e1 g hlt, Array.getElem?_modify, if_pos rfl, hg]
    rfl
  · rw [e1 k hk, Array.getElem?_modify, if_neg (fun z => hne z.symm)]
  · show w.heap.size ≤ ((w.heap.modify g (onCells (putCells id 0 (flatK enc 2 d)))) ++ os).size
    rw [Array.size_append, Array.size_modify]
    omega
open Go.Sort in
theorem slices_SortFunc_impl_Game_impl_Game.cells (d cur : Array Value) (h : d.size ≤ cur.size) : (putCells id 0 d cur).toList.take d.size = d.toList := by
  apply List.ext_getElem?
  intro j
  by_cases hj : j < d.size
  · rw [List.getElem?_take_of_lt hj, Array.getElem?_toList, Array.getElem?_toList]
    unfold putCells
    rw [Array.getElem?_mapIdx, Array.getElem?_eq_getElem (by omega), Array.getElem?_eq_getElem hj, Option.map_some, if_pos ⟨Nat.zero_le _, by omega⟩, Nat.sub_zero, getElem!_pos d j hj]
    rfl
  · rw [List.getElem?_eq_none (by rw [List.length_take]; omega), List.getElem?_eq_none (by rw [Array.length_toList]; omega)]
open Go.Sort in
theorem slices_SortFunc_impl_Game_impl_Game.chunk {α : Type} [Inhabited α] (enc : α → List Value) (hk : ∀ x, (enc x).length = 2) (d : Array α) (j : Nat) (hj : j < d.size) : ((flatK enc 2 d).toList.drop (j * 2)).take 2 = enc d[j] := by
  have hs : (flatK enc 2 d).size = d.size * 2 := size_flatK enc 2 d
  apply List.ext_getElem
  · rw [List.length_take, List.length_drop, Array.length_toList, hs, hk]; omega
  · intro t h1 h2
    rw [hk] at h2
    rw [List.getElem_take, List.getElem_drop, Array.getElem_toList]
    have h3 := get_flatK enc 2 d (j * 2 + t) (by omega)
    rw [getElem!_pos _ _ (by rw [hs]; omega), show (j * 2 + t) / 2 = j by omega, show (j * 2 + t) % 2 = t by omega, getElem!_pos d j hj, getElem!_pos _ t (by rw [hk]; exact h2)] at h3
    exact h3
set_option maxHeartbeats 2000000 in
theorem slices_SortFunc_impl_Game_impl_Game.calls (k : Nat) (PP : Nat → Prop) (u9000_ : Value) (l0 : List S_impl_Game) (a1 : (Int → List (List Int) → Int → List (List Int) → Option (Int))) (g1_ : Nat) (lb1_ : Array Value) (eg1_ : ∀ (args : Array Value) (w : World), (callFunc g1_ args).run Try.prog w = .ok (.enter g1_ args) w) (r : List S_impl_Game) (w0 w : World) (hB : Below w0.heap.size w0 w) (ho0 : Kd.R k_impl_Game 28 w w0.heap.size PP u9000_ l0)
    (hp1 : ∀ (W : World) (b0_ : Int) (A1_ : Option Addr) (c1_ : Nat) (l1_ : List (List Int)) (b2_ : Int) (A3_ : Option Addr) (c3_ : Nat) (l3_ : List (List Int)) (r0_ : Int), a1 b0_ l1_ b2_ l3_ = some r0_ → Kept w W (fun k_ => some k_ = u9000_.ownBlock) → Kd.C (Kd.slice 3 (Kd.int .i64)) W A1_ l1_.length l1_ → l1_.length ≤ c1_ → Kd.C (Kd.slice 3 (Kd.int .i64)) W A3_ l3_.length l3_ → l3_.length ≤ c3_ → Calls Try.prog g1_ (#[.agg #[.int .i64 b0_, .slice A1_ l1_.length c1_], .agg #[.int .i64 b2_, .slice A3_ l3_.length c3_]] ++ lb1_) W fun e w' => e = .returned (.int .i64 r0_) ∧ BelowG W.heap.size W w') (h : slices_SortFunc_impl_Game_impl_Game.f k l0 a1 = some r) :
    Calls Try.prog 138 #[u9000_, .func (.func g1_) #[] lb1_] w fun e w' => e = .returned (.tuple #[]) ∧ Kd.R k_impl_Game 28 w' w0.heap.size PP u9000_ r ∧ Below w0.heap.size w0 w' ∧ Kept w w' (fun k_ => some k_ = u9000_.ownBlock) := by
  unfold slices_SortFunc_impl_Game_impl_Game.f at h
  split at h
  case isFalse => exact absurd h (by simp)
  rename_i hc
  obtain ⟨hlen, hnn, hcmp⟩ := hc
  obtain rfl := Option.some.inj h
  clear h
  obtain ⟨h0, inner, ho, hr⟩ := ho0
  rcases Nat.eq_zero_or_pos l0.length with hn | hn
  · obtain rfl := List.eq_nil_of_length_eq_zero hn
    obtain ⟨A, c, rfl⟩ : ∃ A c, u9000_ = .slice A 0 c := by
      rcases ho.2 with ⟨hv, _⟩ | ⟨g, cap, cur, hv, _⟩
      · exact ⟨_, _, hv⟩
      · exact ⟨_, _, hv⟩
    refine (AnyF.slices_SortFunc_none slices_SortFunc_impl_Game_impl_Game.lay A c (.func (.func g1_) #[] lb1_) w).mono ?_
    rintro e w' ⟨rfl, rfl⟩
    have e : gamesIn ([] : List S_impl_Game) = [] := by simp [gamesIn]
    rw [e]
    exact ⟨rfl, ⟨h0, inner, ho, hr⟩, hB, Kept.refl _ _⟩
  · obtain ⟨hil, hv⟩ := ho
    have hil : inner.length = l0.length * 2 := hil
    obtain ⟨g, cap, cur, rfl, hbase, hg, hcap, hmax, hcs, htk⟩ : ∃ g cap cur, u9000_ = .slice (some ⟨g, 0, none⟩) l0.length cap ∧ w0.heap.size ≤ g ∧ w.heap[g]? = some (.cells cur 28 (0, 0)) ∧ l0.length ≤ cap ∧ cap ≤ maxLen ∧ cur.size = cap * 2 ∧ cur.toList.take (l0.length * 2) = inner := by
      rcases hv with ⟨_, hz⟩ | hv
      · omega
      · exact hv
    have hPg : some g = (Value.slice (some ⟨g, 0, none⟩) l0.length cap).ownBlock := rfl
    have hglt : g < w.heap.size := blk_lt hg
    have hM : ∀ (i : Nat) (hi : i < l0.length), k_impl_Game.M w w0.heap.size (fun k => PP k ∧ some k ≠ some g) l0[i] ((inner.drop (i * 2)).take 2) := fun i hi => hr.2 i l0[i] (List.getElem?_eq_getElem hi)
    haveI : Inhabited (Fin l0.length) := ⟨⟨0, hn⟩⟩
    let enc : Fin l0.length → List Value := fun i => (inner.drop (i.1 * 2)).take 2
    have henc : ∀ i, enc i = (inner.drop (i.1 * 2)).take 2 := fun _ => rfl
    have hk : ∀ i, (enc i).length = 2 := fun i => by rw [henc]; exact k_impl_Game.K_len (k_impl_Game.K_of_M (hM i.1 i.2))
    have hone : ∀ i, ∀ v ∈ enc i, v.oneCell' = true := fun i => by rw [henc]; exact k_impl_Game.K_one (k_impl_Game.K_of_M (hM i.1 i.2))
    have hlt : ∀ (i j : Fin l0.length), ltOf (fun (i j : Fin l0.length) => lexS l0[i.1].f1 l0[j.1].f1) i j = decide (lexS l0[i.1].f1 l0[j.1].f1 < 0) := fun _ _ => rfl
    have hO : Go.Sort.SWO (ltOf (fun (i j : Fin l0.length) => lexS l0[i.1].f1 l0[j.1].f1)) := by
      refine ⟨fun x => ?_, fun x y z h1 h2 => ?_, fun x y z h1 h2 => ?_⟩
      · rw [hlt, lexS_refl]; rfl
      · rw [hlt] at h1 h2 ⊢
        have h1 := of_decide_eq_true h1
        have h2 := of_decide_eq_true h2
        have h3 := lexS_trans (a := l0[x.1].f1) (b := l0[y.1].f1) (c := l0[z.1].f1) (by omega) (by omega)
        refine decide_eq_true ?_
        rcases Int.lt_or_eq_of_le h3 with h4 | h4
        · exact h4
        · have e := lexS_zero h4
          have s := lexS_swap l0[x.1].f1 l0[y.1].f1
          rw [e] at s h1
          omega
      · rw [hlt] at h1 h2 ⊢
        have h1 := of_decide_eq_false h1
        have h2 := of_decide_eq_false h2
        have s1 := lexS_swap l0[x.1].f1 l0[y.1].f1
        have s2 := lexS_swap l0[y.1].f1 l0[z.1].f1
        have s3 := lexS_swap l0[x.1].f1 l0[z.1].f1
        have h3 := lexS_trans (a := l0[z.1].f1) (b := l0[y.1].f1) (c := l0[x.1].f1) (by omega) (by omega)
        exact decide_eq_false (by omega)
    have hd : (List.finRange l0.length).toArray.size = l0.length := by rw [List.size_toArray, List.length_finRange]
    have hdg : ∀ j, j < l0.length → ((List.finRange l0.length).toArray[j]!).1 = j := fun j hj => by
      rw [getElem!_pos _ j (by rw [hd]; exact hj)]
      simp
    have lays := AnyQ.slices_SortFunc slices_SortFunc_impl_Game_impl_Game.lay 2 (fun w => by kernel_rfl) (fun w => by kernel_rfl) enc hk hone (fun i j => lexS l0[i.1].f1 l0[j.1].f1) hO g1_ lb1_ g 0 cap (List.finRange l0.length).toArray w eg1_
      (by
        intro m os dk hs x y
        obtain ⟨hh1, hh2, hh3⟩ := slices_SortFunc_impl_Game_impl_Game.heap enc w g m dk os cur 28 hg
        have rd : ∀ i : Fin l0.length, ∃ A c, enc i = [.int .i64 l0[i.1].f0, .slice A l0[i.1].f1.length c] ∧ l0[i.1].f1.length ≤ c ∧ Kd.C (Kd.slice 3 (Kd.int .i64)) (sortWorldK enc 2 w g 0 m dk os) A l0[i.1].f1.length l0[i.1].f1 := fun i => by
          have h1 := Kd.M_step (w1 := sortWorldK enc 2 w g 0 m dk os) (hM i.1 i.2) (fun k hk hkl => hh2 k hkl (fun z => hk.2 (congrArg some z)))
          obtain ⟨A, c, e, hl, hC⟩ := k_impl_Game_open (k_impl_Game.K_of_M h1)
          exact ⟨A, c, e, hl, hC⟩
        obtain ⟨A0, c0, ex, hl0, hC0⟩ := rd x
        obtain ⟨A1, c1, ey, hl1, hC1⟩ := rd y
        rw [ex, ey]
        refine (hp1 (sortWorldK enc 2 w g 0 m dk os) _ A0 c0 _ _ A1 c1 _ _ (hcmp _ (List.getElem_mem _) _ (List.getElem_mem _)) ⟨hh3, fun k hk hne => hh2 k hk (fun z => hne (z ▸ hPg))⟩ hC0 hl0 hC1 hl1).mono ?_
        rintro e w' ⟨rfl, hg⟩
        exact ⟨rfl, hg.grown⟩)
      (by
        intro j hj
        have hj : j < l0.length * 2 := by have : (Go.Sort.flatK enc 2 (List.finRange l0.length).toArray).size = l0.length * 2 := by rw [Go.Sort.size_flatK, hd]
                                          omega
        refine ⟨?_, blk_frozen hg _⟩
        rw [Nat.zero_add, blk_cell hg j, Go.Sort.get_flatK enc 2 _ j (by rw [hd]; exact hj), id]
        have hq : j / 2 < l0.length := by omega
        have e1 : enc ((List.finRange l0.length).toArray[j / 2]!) = (inner.drop (j / 2 * 2)).take 2 := by rw [henc, hdg _ hq]
        rw [e1, ← Array.getElem?_toList]
        have e2 : cur.toList[j]? = inner[j]? := by rw [← htk, List.getElem?_take_of_lt hj]
        rw [e2, List.getElem?_eq_getElem (by omega), getElem!_pos _ _ (by rw [List.length_take, List.length_drop]; omega), List.getElem_take, List.getElem_drop]
        congr 2
        omega)
      hglt (by rw [hd]; omega)
    rw [hd] at lays
    refine lays.mono ?_
    rintro e w' ⟨rfl, d', m, os, hp, hs, rfl⟩
    obtain ⟨hps, _, hpp⟩ := hp
    rw [hd] at hps
    obtain ⟨hh1, hh2, hh3⟩ := slices_SortFunc_impl_Game_impl_Game.heap enc w g m d' os cur 28 hg
    have hpp2 : d'.toList.Perm (List.finRange l0.length) := by
      have e1 : d'.extract 0 l0.length = d' := by have h2 : d'.extract 0 d'.size = d' := Array.extract_size; rwa [hps] at h2
      have e2 : (List.finRange l0.length).toArray.extract 0 l0.length = (List.finRange l0.length).toArray := by
        have : (List.finRange l0.length).toArray.extract 0 (List.finRange l0.length).toArray.size = (List.finRange l0.length).toArray := Array.extract_size
        rwa [hd] at this
      rw [e1, e2] at hpp
      exact hpp
    have hres : d'.toList.map (fun i => l0[i.1]) = gamesIn l0 := by
      refine gamesIn_of hnn ?_ ?_
      · refine (hpp2.map _).trans (List.Perm.of_eq ?_)
        apply List.ext_getElem
        · rw [List.length_map, List.length_finRange]
        · intro j h1 h2
          simp
      · rw [List.pairwise_map]
        refine List.pairwise_iff_getElem.2 (fun i j hi hj hij => ?_)
        rw [Array.length_toList] at hi hj
        have := hs i j (Nat.zero_le _) hij (by omega)
        rw [getElem!_pos d' j (by omega), getElem!_pos d' i (by omega), hlt] at this
        have := of_decide_eq_false this
        have s := lexS_swap l0[(d'[i]).1].f1 l0[(d'[j]).1].f1
        exact decide_eq_true (by simp only [Array.getElem_toList]; omega)
    have hdl : d'.toList.length = l0.length := by rw [Array.length_toList]; exact hps
    have hfs : (Go.Sort.flatK enc 2 d').size = l0.length * 2 := by rw [Go.Sort.size_flatK, hps]
    refine ⟨rfl, ⟨h0, (Go.Sort.flatK enc 2 d').toList, ?_, ?_⟩, ?_, ?_⟩
    · rw [← hres, List.length_map, hdl]
      refine ⟨by rw [Array.length_toList, hfs]; rfl, .inr ⟨g, cap, _, rfl, hbase, hh1, hcap, hmax, ?_, ?_⟩⟩
      · show (Go.Sort.putCells id 0 (Go.Sort.flatK enc 2 d') cur).size = cap * 2
        unfold Go.Sort.putCells
        rw [Array.size_mapIdx]; omega
      · show (Go.Sort.putCells id 0 (Go.Sort.flatK enc 2 d') cur).toList.take (l0.length * 2) = _
        have := slices_SortFunc_impl_Game_impl_Game.cells (Go.Sort.flatK enc 2 d') cur (by omega)
        rw [hfs] at this
        exact this
    · refine ⟨by rw [Array.length_toList, hfs, ← hres, List.length_map, hdl]; rfl, ?_⟩
      intro j p hj
      rw [← hres, List.getElem?_map] at hj
      obtain ⟨i, hi, rfl⟩ := Option.map_eq_some_iff.1 hj
      have hjl : j < d'.toList.length := (List.getElem?_eq_some_iff.1 hi).1
      have hi2 : d'.toList[j] = i := (List.getElem?_eq_some_iff.1 hi).2
      have hch := slices_SortFunc_impl_Game_impl_Game.chunk enc hk d' j (by rw [Array.length_toList] at hjl; exact hjl)
      rw [← Array.getElem_toList, hi2] at hch
      show k_impl_Game.M _ _ _ _ (((Go.Sort.flatK enc 2 d').toList.drop (j * 2)).take 2)
      rw [hch, henc]
      exact Kd.M_step (hM i.1 i.2) (fun k hk hkl => hh2 k hkl (fun z => hk.2 (congrArg some z)))
    · refine ⟨?_, ?_, ?_, Nat.le_trans hB.size hh3, fun k hk => (hh2 k (Nat.lt_of_lt_of_le hk hB.size) (fun z => by omega)).trans (hB.block k hk)⟩
      · exact hB.os
      · exact hB.tape
      · exact hB.output
    · exact ⟨hh3, fun k hk hne => hh2 k hk (fun z => hne (z ▸ hPg))⟩


/-! ### slices_CompareFunc_LLint_LLint_int_int: function 161 -/
def slices_CompareFunc_LLint_LLint_int_int.l0:Nat → List (List Int) → List (List Int) → (List Int → List Int → Option (Int)) → List (List Int) → Int → Int → Option (Int)
 | 0,_,_,_,_,_,_=>none
 | k + 1,x0,x1,x2,x11,x12,x13=>if x13 < x12 then (if 0 ≤ x13 then (if x13 < (x11.length:Int) then (if x13 ≥ (x1.length:Int) then (some 1) else (if x13 < (x1.length:Int) then ((x2 (rd_LI x11 x13) (rd_LI x1 x13)).bind fun t581=>(if t581 = 0 then (slices_CompareFunc_LLint_LLint_int_int.l0 k x0 x1 x2 x11 x12 (wrap64 (x13 + 1))) else (some t581))) else (none))) else (none)) else (none)) else (if (x0.length:Int) < (x1.length:Int) then (some (-1)) else (some 0))
def slices_CompareFunc_LLint_LLint_int_int.f (k:Nat) (l0:List (List Int)) (l1:List (List Int)) (a2:(List Int → List Int → Option (Int))):Option (Int):=slices_CompareFunc_LLint_LLint_int_int.l0 k l0 l1 a2 l0 (l0.length:Int) 0
theorem slices_CompareFunc_LLint_LLint_int_int.mono_l:∀ k,(∀ y0 y1 y2 y3 y4 y5,LeO (slices_CompareFunc_LLint_LLint_int_int.l0 k y0 y1 y2 y3 y4 y5) (slices_CompareFunc_LLint_LLint_int_int.l0 (k + 1) y0 y1 y2 y3 y4 y5))
 | 0=>fun _ _ _ _ _ _ r h=>by simp [slices_CompareFunc_LLint_LLint_int_int.l0] at h
 | k + 1=>by
  have ih0:=slices_CompareFunc_LLint_LLint_int_int.mono_l k
  ·intro y0 y1 y2 y3 y4 y5;unfold slices_CompareFunc_LLint_LLint_int_int.l0
   repeat' with_reducible first|exact ih0 _ _ _ _ _ _|exact LeO.refl _|exact LeO.none _|refine LeO.ite ?_ ?_|refine LeO.bind ?_ (fun _=>?_)
theorem slices_CompareFunc_LLint_LLint_int_int.mono:∀ a0 a1 a2 k,LeO (slices_CompareFunc_LLint_LLint_int_int.f k a0 a1 a2) (slices_CompareFunc_LLint_LLint_int_int.f (k + 1) a0 a1 a2):=by
 intro a0 a1 a2 k;have ih0:=slices_CompareFunc_LLint_LLint_int_int.mono_l k;unfold slices_CompareFunc_LLint_LLint_int_int.f
 repeat' with_reducible first|exact ih0 _ _ _ _ _ _|exact LeO.refl _|exact LeO.none _|refine LeO.ite ?_ ?_|refine LeO.bind ?_ (fun _=>?_)
theorem slices_CompareFunc_LLint_LLint_int_int.monop_l {p_ q_:(List Int → List Int → Option (Int))} (h_:∀ x0_ x1_,LeO (p_ x0_ x1_) (q_ x0_ x1_)):∀ k,(∀ y0 y1 y3 y4 y5,LeO (slices_CompareFunc_LLint_LLint_int_int.l0 k y0 y1 p_ y3 y4 y5) (slices_CompareFunc_LLint_LLint_int_int.l0 k y0 y1 q_ y3 y4 y5))
 | 0=>fun _ _ _ _ _ r hz=>by simp [slices_CompareFunc_LLint_LLint_int_int.l0] at hz
 | k + 1=>by
  have ih0:=slices_CompareFunc_LLint_LLint_int_int.monop_l h_ k
  ·intro y0 y1 y2 y3 y4;unfold slices_CompareFunc_LLint_LLint_int_int.l0
   repeat' with_reducible first|exact ih0 _ _ _ _ _|exact h_ _ _|exact LeO.refl _|refine LeO.ite ?_ ?_|refine LeO.bind ?_ (fun _=>?_)
theorem slices_CompareFunc_LLint_LLint_int_int.mono_p {p_ q_:(List Int → List Int → Option (Int))} (h_:∀ x0_ x1_,LeO (p_ x0_ x1_) (q_ x0_ x1_)):∀ a0 a1 k,LeO (slices_CompareFunc_LLint_LLint_int_int.f k a0 a1 p_) (slices_CompareFunc_LLint_LLint_int_int.f k a0 a1 q_):=by
 intro a0 a1 k;have ih0:=slices_CompareFunc_LLint_LLint_int_int.monop_l h_ k;unfold slices_CompareFunc_LLint_LLint_int_int.f
 repeat' with_reducible first|exact ih0 _ _ _ _ _|exact h_ _ _|exact LeO.refl _|refine LeO.ite ?_ ?_|refine LeO.bind ?_ (fun _=>?_)
set_option maxHeartbeats 8000000 in
set_option maxRecDepth 100000 in
theorem slices_CompareFunc_LLint_LLint_int_int.calls (k:Nat) (A0:Option Addr) (c0:Nat) (l0:List (List Int)) (A1:Option Addr) (c1:Nat) (l1:List (List Int)) (a2:(List Int → List Int → Option (Int))) (g2_:Nat) (lb2_:Array Value) (eg2_:∀ (args:Array Value) (w:World),(callFunc g2_ args).run Try.prog w = .ok (.enter g2_ args) w) (r:Int) (w:World) (hr0:Kd.C (Kd.slice 3 (Kd.int .i64)) w A0 l0.length l0) (hc0:l0.length ≤ c0) (hr1:Kd.C (Kd.slice 3 (Kd.int .i64)) w A1 l1.length l1) (hc1:l1.length ≤ c1) (hp2:∀ (W:World) (A0_:Option Addr) (c0_:Nat) (l0_:List Int) (A1_:Option Addr) (c1_:Nat) (l1_:List Int) (r0_:Int),a2 l0_ l1_ = some r0_ → Below w.heap.size w W → Kd.C (Kd.int .i64) W A0_ l0_.length l0_ → l0_.length ≤ c0_ → Kd.C (Kd.int .i64) W A1_ l1_.length l1_ → l1_.length ≤ c1_ → Calls Try.prog g2_ (#[.slice A0_ l0_.length c0_,.slice A1_ l1_.length c1_] ++ lb2_) W fun e w'=>e = .returned (.int .i64 r0_) ∧ Below W.heap.size W w') (h:slices_CompareFunc_LLint_LLint_int_int.f k l0 l1 a2 = some r) :
  Calls Try.prog 161 #[.slice A0 l0.length c0,.slice A1 l1.length c1,.func (.func g2_) #[] lb2_] w fun e w'=>e = .returned (.int .i64 r) ∧ Below w.heap.size w w':=by
 have HR0:=aM hr0;have HC0:=aM hc0;clear hr0 hc0;have HR1:=aM hr1;have HC1:=aM hc1;clear hr1 hc1;have HP2:=aM hp2;clear hp2;have HB:=aM (Below.refl w.heap.size w);have H:(slices_CompareFunc_LLint_LLint_int_int.l0 k l0 l1 a2 l0 (l0.length:Int) 0) = some r:=h;clear h;have H':=aM H;clear H;go_enter Try.func161,Try.ntmps161;go_wp2
 go_loopg [13] k (fun kq v13 w'=>∃ (x13_1:Int),v13 = .int .i64 x13_1 ∧ Aside0 (slices_CompareFunc_LLint_LLint_int_int.l0 kq l0 l1 a2 l0 (l0.length:Int) x13_1 = some r) ∧ Aside0 (kq ≤ k) ∧ Aside0 (Below w.heap.size w w'))
 case atStart=>exact ⟨(0),qrs,H',⟨Nat.le_refl _⟩,⟨by exact bw⟩⟩
 case round =>
  clear H';(try clear c1);(try clear p2)
  obtain ⟨x13_1,rfl,HA,HK1,HB⟩:=hrel
  cases gk with
  | zero=>exact absurd HA.out (by simp [slices_CompareFunc_LLint_LLint_int_int.l0])
  | succ k1 =>
   have H:=HA.out;clear HA;simp only [slices_CompareFunc_LLint_LLint_int_int.l0] at H;by_cases c4:x13_1 < (l0.length:Int)
   ·rw [if_pos c4] at H;have c4b0:decide (x13_1 < (l0.length:Int)) = true:=decide_eq_true c4;clear c4;by_cases c5:0 ≤ x13_1
    ·rw [if_pos c5] at H;have c5b0:decide (0 ≤ x13_1) = true:=decide_eq_true c5;clear c5;by_cases c6:x13_1 < (l0.length:Int)
     ·rw [if_pos c6] at H;have c6b0:decide (x13_1 < (l0.length:Int)) = true:=decide_eq_true c6;clear c6;by_cases c7:x13_1 ≥ (l1.length:Int)
      ·rw [if_pos c7] at H;have c7b0:decide ((l1.length:Int) ≤ x13_1) = true:=decide_eq_true c7;clear c7;obtain rfl:=Option.some.inj H;have p579:0 ≤ (x13_1:Int):=of_decide_eq_true ab;have q579:x13_1 < (l0.length:Int):=of_decide_eq_true ab;obtain ⟨ad579,A579_0,c579_0,e579,hx579_0,hl579_0,hi579_0⟩:=at_LI HR0.out x13_1 p579 q579;cases e579
       replace hx579_0:=(HB.out.cell (World.block_lt_of_cell? w _ hx579_0)).trans hx579_0;have HR579_0:=aM hi579_0;have HC579_0:=aM hl579_0;clear hi579_0 hl579_0;replace p579:=eq_true p579;replace q579:=eq_true q579;go_wp2
       go_ret
       exact ⟨by first|rfl|(simp [errW_none,errW_some] <;> rfl)|(simp [*,errW_none,errW_some] <;> rfl),by exact bw⟩
      ·rw [if_neg c7] at H;have c7b0:decide ((l1.length:Int) ≤ x13_1) = false:=decide_eq_false c7;clear c7;by_cases c8:x13_1 < (l1.length:Int)
       ·rw [if_pos c8] at H;have c8b0:decide (x13_1 < (l1.length:Int)) = true:=decide_eq_true c8;clear c8;replace H:=Option.bind_eq_some_iff.mp H;obtain ⟨t581,A90,H⟩:=H;replace H:(if t581 = 0 then (slices_CompareFunc_LLint_LLint_int_int.l0 k1 l0 l1 a2 l0 (l0.length:Int) (wrap64 (x13_1 + 1))) else (some t581)) = some r:=H;have A9:=aM A90;clear A90;by_cases c10:t581 = 0
        ·rw [if_pos c10] at H;have c10b0:(t581 == 0) = true:=beq_iff_eq.mpr c10;have c10b1:(t581 != 0) = false:=bne_eq_false_iff_eq.mpr c10;clear c10;have H':=aM H;clear H;have p579:0 ≤ (x13_1:Int):=of_decide_eq_true ab;have q579:x13_1 < (l0.length:Int):=of_decide_eq_true ab;obtain ⟨ad579,A579_0,c579_0,e579,hx579_0,hl579_0,hi579_0⟩:=at_LI HR0.out x13_1 p579 q579;cases e579
         replace hx579_0:=(HB.out.cell (World.block_lt_of_cell? w _ hx579_0)).trans hx579_0;have HR579_0:=aM hi579_0;have HC579_0:=aM hl579_0;clear hi579_0 hl579_0;replace p579:=eq_true p579;replace q579:=eq_true q579;have p580:0 ≤ (x13_1:Int):=of_decide_eq_true ab;have q580:x13_1 < (l1.length:Int):=of_decide_eq_true ab;obtain ⟨ad580,A580_0,c580_0,e580,hx580_0,hl580_0,hi580_0⟩:=at_LI HR1.out x13_1 p580 q580;cases e580
         replace hx580_0:=(HB.out.cell (World.block_lt_of_cell? w _ hx580_0)).trans hx580_0;have HR580_0:=aM hi580_0;have HC580_0:=aM hl580_0;clear hi580_0 hl580_0;replace p580:=eq_true p580;replace q580:=eq_true q580;go_wp2_with (first|((with_reducible refine gate_fn (t:=26) rfl ?_);refine goesFL_ (some 29) rfl rfl eg2_ #[.slice A579_0 (rd_LI l0 x13_1).length c579_0,.slice A580_0 (rd_LI l1 x13_1).length c580_0] rfl rfl mq ?_;(with_reducible refine (HP2.out _ _ _ (rd_LI l0 x13_1) _ _ (rd_LI l1 x13_1) t581 A9.out ?side1 ?side2 ?side3 ?side4 ?side5).mono ?_);(case side1=>exact bw);(case side2=>exact qcs HR579_0.out HB.out);(case side3=>exact HC579_0.out);(case side4=>exact qcs HR580_0.out HB.out);(case side5=>exact HC580_0.out);rintro e w11 ⟨rfl,hb⟩;refine ⟨_,rfl,?_⟩;have n0_:=aM (below_step bw hb);clear HB;have HB:=n0_;clear n0_;(try clear hb);(try clear hb2);(try clear hk);(try clear hi)))
         go_roundg k1
         case measure=>have:=HK1.out;omega
         case rel=>exact ⟨(wrap64 (x13_1 + 1)),qrs,H',⟨by have:=HK1.out;omega⟩,⟨by exact bw⟩⟩
        ·rw [if_neg c10] at H;have c10b0:(t581 == 0) = false:=beq_eq_false_iff_ne.mpr c10;have c10b1:(t581 != 0) = true:=bne_iff_ne.mpr c10;obtain rfl:=Option.some.inj H;have p579:0 ≤ (x13_1:Int):=of_decide_eq_true ab;have q579:x13_1 < (l0.length:Int):=of_decide_eq_true ab;obtain ⟨ad579,A579_0,c579_0,e579,hx579_0,hl579_0,hi579_0⟩:=at_LI HR0.out x13_1 p579 q579;cases e579
         replace hx579_0:=(HB.out.cell (World.block_lt_of_cell? w _ hx579_0)).trans hx579_0;have HR579_0:=aM hi579_0;have HC579_0:=aM hl579_0;clear hi579_0 hl579_0;replace p579:=eq_true p579;replace q579:=eq_true q579;have p580:0 ≤ (x13_1:Int):=of_decide_eq_true ab;have q580:x13_1 < (l1.length:Int):=of_decide_eq_true ab;obtain ⟨ad580,A580_0,c580_0,e580,hx580_0,hl580_0,hi580_0⟩:=at_LI HR1.out x13_1 p580 q580;cases e580
         replace hx580_0:=(HB.out.cell (World.block_lt_of_cell? w _ hx580_0)).trans hx580_0;have HR580_0:=aM hi580_0;have HC580_0:=aM hl580_0;clear hi580_0 hl580_0;replace p580:=eq_true p580;replace q580:=eq_true q580;go_wp2_with (first|((with_reducible refine gate_fn (t:=26) rfl ?_);refine goesFL_ (some 29) rfl rfl eg2_ #[.slice A579_0 (rd_LI l0 x13_1).length c579_0,.slice A580_0 (rd_LI l1 x13_1).length c580_0] rfl rfl mq ?_;(with_reducible refine (HP2.out _ _ _ (rd_LI l0 x13_1) _ _ (rd_LI l1 x13_1) t581 A9.out ?side1 ?side2 ?side3 ?side4 ?side5).mono ?_);(case side1=>exact bw);(case side2=>exact qcs HR579_0.out HB.out);(case side3=>exact HC579_0.out);(case side4=>exact qcs HR580_0.out HB.out);(case side5=>exact HC580_0.out);rintro e w12 ⟨rfl,hb⟩;refine ⟨_,rfl,?_⟩;have n0_:=aM (below_step bw hb);clear HB;have HB:=n0_;clear n0_;(try clear hb);(try clear hb2);(try clear hk);(try clear hi)))
         go_ret
         exact ⟨by first|rfl|(simp [errW_none,errW_some] <;> rfl)|(simp [*,errW_none,errW_some] <;> rfl),by exact bw⟩
       ·rw [if_neg c8] at H;exact absurd H (by simp)
     ·rw [if_neg c6] at H;exact absurd H (by simp)
    ·rw [if_neg c5] at H;exact absurd H (by simp)
   ·rw [if_neg c4] at H;have c4b0:decide (x13_1 < (l0.length:Int)) = false:=decide_eq_false c4;clear c4;by_cases c13:(l0.length:Int) < (l1.length:Int)
    ·rw [if_pos c13] at H;have c13b0:decide ((l0.length:Int) < (l1.length:Int)) = true:=decide_eq_true c13;have c13b1:decide (l0.length < l1.length) = true:=decide_eq_true (Int.ofNat_lt.mp c13);clear c13;obtain rfl:=Option.some.inj H;go_wp2
     go_ret
     exact ⟨by first|rfl|(simp [errW_none,errW_some] <;> rfl)|(simp [*,errW_none,errW_some] <;> rfl),by exact bw⟩
    ·rw [if_neg c13] at H;have c13b0:decide ((l0.length:Int) < (l1.length:Int)) = false:=decide_eq_false c13;have c13b1:decide (l0.length < l1.length) = false:=decide_eq_false (fun h=>c13 (Int.ofNat_lt.mpr h));clear c13;obtain rfl:=Option.some.inj H;go_wp2
     go_ret
     exact ⟨by first|rfl|(simp [errW_none,errW_some] <;> rfl)|(simp [*,errW_none,errW_some] <;> rfl),by exact bw⟩
set_option maxHeartbeats 8000000 in
set_option maxRecDepth 100000 in
theorem slices_CompareFunc_LLint_LLint_int_int.callsG (k:Nat) (A0:Option Addr) (c0:Nat) (l0:List (List Int)) (A1:Option Addr) (c1:Nat) (l1:List (List Int)) (a2:(List Int → List Int → Option (Int))) (g2_:Nat) (lb2_:Array Value) (eg2_:∀ (args:Array Value) (w:World),(callFunc g2_ args).run Try.prog w = .ok (.enter g2_ args) w) (r:Int) (w:World) (hr0:Kd.C (Kd.slice 3 (Kd.int .i64)) w A0 l0.length l0) (hc0:l0.length ≤ c0) (hr1:Kd.C (Kd.slice 3 (Kd.int .i64)) w A1 l1.length l1) (hc1:l1.length ≤ c1) (hp2:∀ (W:World) (A0_:Option Addr) (c0_:Nat) (l0_:List Int) (A1_:Option Addr) (c1_:Nat) (l1_:List Int) (r0_:Int),a2 l0_ l1_ = some r0_ → Below w.heap.size w W → Kd.C (Kd.int .i64) W A0_ l0_.length l0_ → l0_.length ≤ c0_ → Kd.C (Kd.int .i64) W A1_ l1_.length l1_ → l1_.length ≤ c1_ → Calls Try.prog g2_ (#[.slice A0_ l0_.length c0_,.slice A1_ l1_.length c1_] ++ lb2_) W fun e w'=>e = .returned (.int .i64 r0_) ∧ BelowG W.heap.size W w') (h:slices_CompareFunc_LLint_LLint_int_int.f k l0 l1 a2 = some r) :
  Calls Try.prog 161 #[.slice A0 l0.length c0,.slice A1 l1.length c1,.func (.func g2_) #[] lb2_] w fun e w'=>e = .returned (.int .i64 r) ∧ BelowG w.heap.size w w':=by
 have HR0:=aM hr0;have HC0:=aM hc0;clear hr0 hc0;have HR1:=aM hr1;have HC1:=aM hc1;clear hr1 hc1;have HP2:=aM hp2;clear hp2;have HB:=aM (BelowG.refl w.heap.size w);have H:(slices_CompareFunc_LLint_LLint_int_int.l0 k l0 l1 a2 l0 (l0.length:Int) 0) = some r:=h;clear h;have H':=aM H;clear H;go_enter Try.func161,Try.ntmps161;go_wp2
 go_loopg [13] k (fun kq v13 w'=>∃ (x13_1:Int),v13 = .int .i64 x13_1 ∧ Aside0 (slices_CompareFunc_LLint_LLint_int_int.l0 kq l0 l1 a2 l0 (l0.length:Int) x13_1 = some r) ∧ Aside0 (kq ≤ k) ∧ Aside0 (BelowG w.heap.size w w'))
 case atStart=>exact ⟨(0),qrs,H',⟨Nat.le_refl _⟩,⟨by repeat (first|(with_reducible first|exact HB.out|apply belowG_alloc|apply belowG_drewN|apply belowG_drew1)|exact HB.out)⟩⟩
 case round =>
  clear H';(try clear c1);(try clear p2)
  obtain ⟨x13_1,rfl,HA,HK1,HB⟩:=hrel
  cases gk with
  | zero=>exact absurd HA.out (by simp [slices_CompareFunc_LLint_LLint_int_int.l0])
  | succ k1 =>
   have H:=HA.out;clear HA;simp only [slices_CompareFunc_LLint_LLint_int_int.l0] at H;by_cases c4:x13_1 < (l0.length:Int)
   ·rw [if_pos c4] at H;have c4b0:decide (x13_1 < (l0.length:Int)) = true:=decide_eq_true c4;clear c4;by_cases c5:0 ≤ x13_1
    ·rw [if_pos c5] at H;have c5b0:decide (0 ≤ x13_1) = true:=decide_eq_true c5;clear c5;by_cases c6:x13_1 < (l0.length:Int)
     ·rw [if_pos c6] at H;have c6b0:decide (x13_1 < (l0.length:Int)) = true:=decide_eq_true c6;clear c6;by_cases c7:x13_1 ≥ (l1.length:Int)
      ·rw [if_pos c7] at H;have c7b0:decide ((l1.length:Int) ≤ x13_1) = true:=decide_eq_true c7;clear c7;obtain rfl:=Option.some.inj H;have p579:0 ≤ (x13_1:Int):=of_decide_eq_true ab;have q579:x13_1 < (l0.length:Int):=of_decide_eq_true ab;obtain ⟨ad579,A579_0,c579_0,e579,hx579_0,hl579_0,hi579_0⟩:=at_LI HR0.out x13_1 p579 q579;cases e579
       replace hx579_0:=(HB.out.lo.cell (World.block_lt_of_cell? w _ hx579_0)).trans hx579_0;have HR579_0:=aM hi579_0;have HC579_0:=aM hl579_0;clear hi579_0 hl579_0;replace p579:=eq_true p579;replace q579:=eq_true q579;go_wp2
       go_ret
       exact ⟨by first|rfl|(simp [errW_none,errW_some] <;> rfl)|(simp [*,errW_none,errW_some] <;> rfl),by repeat (first|(with_reducible first|exact HB.out|apply belowG_alloc|apply belowG_drewN|apply belowG_drew1)|exact HB.out)⟩
      ·rw [if_neg c7] at H;have c7b0:decide ((l1.length:Int) ≤ x13_1) = false:=decide_eq_false c7;clear c7;by_cases c8:x13_1 < (l1.length:Int)
       ·rw [if_pos c8] at H;have c8b0:decide (x13_1 < (l1.length:Int)) = true:=decide_eq_true c8;clear c8;replace H:=Option.bind_eq_some_iff.mp H;obtain ⟨t581,A90,H⟩:=H;replace H:(if t581 = 0 then (slices_CompareFunc_LLint_LLint_int_int.l0 k1 l0 l1 a2 l0 (l0.length:Int) (wrap64 (x13_1 + 1))) else (some t581)) = some r:=H;have A9:=aM A90;clear A90;by_cases c10:t581 = 0
        ·rw [if_pos c10] at H;have c10b0:(t581 == 0) = true:=beq_iff_eq.mpr c10;have c10b1:(t581 != 0) = false:=bne_eq_false_iff_eq.mpr c10;clear c10;have H':=aM H;clear H;have p579:0 ≤ (x13_1:Int):=of_decide_eq_true ab;have q579:x13_1 < (l0.length:Int):=of_decide_eq_true ab;obtain ⟨ad579,A579_0,c579_0,e579,hx579_0,hl579_0,hi579_0⟩:=at_LI HR0.out x13_1 p579 q579;cases e579
         replace hx579_0:=(HB.out.lo.cell (World.block_lt_of_cell? w _ hx579_0)).trans hx579_0;have HR579_0:=aM hi579_0;have HC579_0:=aM hl579_0;clear hi579_0 hl579_0;replace p579:=eq_true p579;replace q579:=eq_true q579;have p580:0 ≤ (x13_1:Int):=of_decide_eq_true ab;have q580:x13_1 < (l1.length:Int):=of_decide_eq_true ab;obtain ⟨ad580,A580_0,c580_0,e580,hx580_0,hl580_0,hi580_0⟩:=at_LI HR1.out x13_1 p580 q580;cases e580
         replace hx580_0:=(HB.out.lo.cell (World.block_lt_of_cell? w _ hx580_0)).trans hx580_0;have HR580_0:=aM hi580_0;have HC580_0:=aM hl580_0;clear hi580_0 hl580_0;replace p580:=eq_true p580;replace q580:=eq_true q580;go_wp2_with (first|((with_reducible refine gate_fn (t:=26) rfl ?_);refine goesFL_ (some 29) rfl rfl eg2_ #[.slice A579_0 (rd_LI l0 x13_1).length c579_0,.slice A580_0 (rd_LI l1 x13_1).length c580_0] rfl rfl mq ?_;(with_reducible refine (HP2.out _ _ _ (rd_LI l0 x13_1) _ _ (rd_LI l1 x13_1) t581 A9.out ?side1 ?side2 ?side3 ?side4 ?side5).mono ?_);(case side1=>exact HB.out.lo);(case side2=>repeat (first|exact (Kd.C_below HR579_0.out HB.out.lo)|(with_reducible refine Kd.C_alloc ?_ _)|(with_reducible refine Kd.C_drewN ?_ _)|(with_reducible refine Kd.C_drew ?_)));(case side3=>exact HC579_0.out);(case side4=>repeat (first|exact (Kd.C_below HR580_0.out HB.out.lo)|(with_reducible refine Kd.C_alloc ?_ _)|(with_reducible refine Kd.C_drewN ?_ _)|(with_reducible refine Kd.C_drew ?_)));(case side5=>exact HC580_0.out);rintro e w11 ⟨rfl,hb⟩;refine ⟨_,rfl,?_⟩;have n0_:=aM (belowG_step (by repeat (first|(with_reducible first|exact HB.out|apply belowG_alloc|apply belowG_drewN|apply belowG_drew1)|exact HB.out)) hb);clear HB;have HB:=n0_;clear n0_;(try clear hb);(try clear hb2);(try clear hk);(try clear hi)))
         go_roundg k1
         case measure=>have:=HK1.out;omega
         case rel=>exact ⟨(wrap64 (x13_1 + 1)),qrs,H',⟨by have:=HK1.out;omega⟩,⟨by repeat (first|(with_reducible first|exact HB.out|apply belowG_alloc|apply belowG_drewN|apply belowG_drew1)|exact HB.out)⟩⟩
        ·rw [if_neg c10] at H;have c10b0:(t581 == 0) = false:=beq_eq_false_iff_ne.mpr c10;have c10b1:(t581 != 0) = true:=bne_iff_ne.mpr c10;obtain rfl:=Option.some.inj H;have p579:0 ≤ (x13_1:Int):=of_decide_eq_true ab;have q579:x13_1 < (l0.length:Int):=of_decide_eq_true ab;obtain ⟨ad579,A579_0,c579_0,e579,hx579_0,hl579_0,hi579_0⟩:=at_LI HR0.out x13_1 p579 q579;cases e579
         replace hx579_0:=(HB.out.lo.cell (World.block_lt_of_cell? w _ hx579_0)).trans hx579_0;have HR579_0:=aM hi579_0;have HC579_0:=aM hl579_0;clear hi579_0 hl579_0;replace p579:=eq_true p579;replace q579:=eq_true q579;have p580:0 ≤ (x13_1:Int):=of_decide_eq_true ab;have q580:x13_1 < (l1.length:Int):=of_decide_eq_true ab;obtain ⟨ad580,A580_0,c580_0,e580,hx580_0,hl580_0,hi580_0⟩:=at_LI HR1.out x13_1 p580 q580;cases e580
         replace hx580_0:=(HB.out.lo.cell (World.block_lt_of_cell? w _ hx580_0)).trans hx580_0;have HR580_0:=aM hi580_0;have HC580_0:=aM hl580_0;clear hi580_0 hl580_0;replace p580:=eq_true p580;replace q580:=eq_true q580;go_wp2_with (first|((with_reducible refine gate_fn (t:=26) rfl ?_);refine goesFL_ (some 29) rfl rfl eg2_ #[.slice A579_0 (rd_LI l0 x13_1).length c579_0,.slice A580_0 (rd_LI l1 x13_1).length c580_0] rfl rfl mq ?_;(with_reducible refine (HP2.out _ _ _ (rd_LI l0 x13_1) _ _ (rd_LI l1 x13_1) t581 A9.out ?side1 ?side2 ?side3 ?side4 ?side5).mono ?_);(case side1=>exact HB.out.lo);(case side2=>repeat (first|exact (Kd.C_below HR579_0.out HB.out.lo)|(with_reducible refine Kd.C_alloc ?_ _)|(with_reducible refine Kd.C_drewN ?_ _)|(with_reducible refine Kd.C_drew ?_)));(case side3=>exact HC579_0.out);(case side4=>repeat (first|exact (Kd.C_below HR580_0.out HB.out.lo)|(with_reducible refine Kd.C_alloc ?_ _)|(with_reducible refine Kd.C_drewN ?_ _)|(with_reducible refine Kd.C_drew ?_)));(case side5=>exact HC580_0.out);rintro e w12 ⟨rfl,hb⟩;refine ⟨_,rfl,?_⟩;have n0_:=aM (belowG_step (by repeat (first|(with_reducible first|exact HB.out|apply belowG_alloc|apply belowG_drewN|apply belowG_drew1)|exact HB.out)) hb);clear HB;have HB:=n0_;clear n0_;(try clear hb);(try clear hb2);(try clear hk);(try clear hi)))
         go_ret
         exact ⟨by first|rfl|(simp [errW_none,errW_some] <;> rfl)|(simp [*,errW_none,errW_some] <;> rfl),by repeat (first|(with_reducible first|exact HB.out|apply belowG_alloc|apply belowG_drewN|apply belowG_drew1)|exact HB.out)⟩
       ·rw [if_neg c8] at H;exact absurd H (by simp)
     ·rw [if_neg c6] at H;exact absurd H (by simp)
    ·rw [if_neg c5] at H;exact absurd H (by simp)
   ·rw [if_neg c4] at H;have c4b0:decide (x13_1 < (l0.length:Int)) = false:=decide_eq_false c4;clear c4;by_cases c13:(l0.length:Int) < (l1.length:Int)
    ·rw [if_pos c13] at H;have c13b0:decide ((l0.length:Int) < (l1.length:Int)) = true:=decide_eq_true c13;have c13b1:decide (l0.length < l1.length) = true:=decide_eq_true (Int.ofNat_lt.mp c13);clear c13;obtain rfl:=Option.some.inj H;go_wp2
     go_ret
     exact ⟨by first|rfl|(simp [errW_none,errW_some] <;> rfl)|(simp [*,errW_none,errW_some] <;> rfl),by repeat (first|(with_reducible first|exact HB.out|apply belowG_alloc|apply belowG_drewN|apply belowG_drew1)|exact HB.out)⟩
    ·rw [if_neg c13] at H;have c13b0:decide ((l0.length:Int) < (l1.length:Int)) = false:=decide_eq_false c13;have c13b1:decide (l0.length < l1.length) = false:=decide_eq_false (fun h=>c13 (Int.ofNat_lt.mpr h));clear c13;obtain rfl:=Option.some.inj H;go_wp2
     go_ret
     exact ⟨by first|rfl|(simp [errW_none,errW_some] <;> rfl)|(simp [*,errW_none,errW_some] <;> rfl),by repeat (first|(with_reducible first|exact HB.out|apply belowG_alloc|apply belowG_drewN|apply belowG_drew1)|exact HB.out)⟩


/-! ### impl_compareGames: function 139 -/
def impl_compareGames.f (k:Nat) (a0_0:Int) (l0_1:List (List Int)) (a1_0:Int) (l1_1:List (List Int)):Option (Int):=(slices_CompareFunc_LLint_LLint_int_int.f k l0_1 l1_1 (fun y0_ y1_=>slices_Compare_int_int.f k y0_ y1_)).bind fun t584=>(some t584)
theorem impl_compareGames.mono:∀ a0 a1 a2 a3 k,LeO (impl_compareGames.f k a0 a1 a2 a3) (impl_compareGames.f (k + 1) a0 a1 a2 a3):=by
 intro a0 a1 a2 a3 k;unfold impl_compareGames.f
 repeat' with_reducible first|exact slices_CompareFunc_LLint_LLint_int_int.mono _ _ _ _|exact slices_Compare_int_int.mono _ _ _|exact LeO.refl _|exact LeO.none _|refine LeO.trans (slices_CompareFunc_LLint_LLint_int_int.mono _ _ _ _) (slices_CompareFunc_LLint_LLint_int_int.mono_p (fun _ _=>?_) _ _ _)|refine LeO.ite ?_ ?_|refine LeO.bind ?_ (fun _=>?_)
set_option maxHeartbeats 8000000 in
set_option maxRecDepth 100000 in
theorem impl_compareGames.calls (k:Nat) (a0_0:Int) (A0_1:Option Addr) (c0_1:Nat) (l0_1:List (List Int)) (a1_0:Int) (A1_1:Option Addr) (c1_1:Nat) (l1_1:List (List Int)) (r:Int) (w:World) (hr0_1:Kd.C (Kd.slice 3 (Kd.int .i64)) w A0_1 l0_1.length l0_1) (hc0_1:l0_1.length ≤ c0_1) (hr1_1:Kd.C (Kd.slice 3 (Kd.int .i64)) w A1_1 l1_1.length l1_1) (hc1_1:l1_1.length ≤ c1_1) (h:impl_compareGames.f k a0_0 l0_1 a1_0 l1_1 = some r) :
  Calls Try.prog 139 #[.agg #[.int .i64 a0_0,.slice A0_1 l0_1.length c0_1],.agg #[.int .i64 a1_0,.slice A1_1 l1_1.length c1_1]] w fun e w'=>e = .returned (.int .i64 r) ∧ Below w.heap.size w w':=by
 have hu28:=Try.underlying28;have HR0_1:=aM hr0_1;have HC0_1:=aM hc0_1;clear hr0_1 hc0_1;have HR1_1:=aM hr1_1;have HC1_1:=aM hc1_1;clear hr1_1 hc1_1;have HB:=aM (Below.refl w.heap.size w);have H:((slices_CompareFunc_LLint_LLint_int_int.f k l0_1 l1_1 (fun y0_ y1_=>slices_Compare_int_int.f k y0_ y1_)).bind fun t584=>(some t584)) = some r:=h;clear h;replace H:=Option.bind_eq_some_iff.mp H;obtain ⟨t584,A30,H⟩:=H;replace H:(some t584) = some r:=H;have A3:=aM A30;clear A30;obtain rfl:=Option.some.inj H;go_enter Try.func139,Try.ntmps139;go_wp2_with (first|((with_reducible refine gate_dst (N:=2) rfl ?_);refine box_event ?hg (N:=2) ?hd (cs:=#[.int .i64 a0_0,.slice A0_1 l0_1.length c0_1]) (t:=28) ?hr ?_;(case hd=>rfl);(case hg=>rfl);(case hr=>first|(go_simp;done)|(go_simp;rfl));intro gb582 hg w4 hbox hb;have n0_:=aM (below_step bw hb);have n1_:=aM (hbox);have n2_:=aM ((by rw [hg];exact (below_size bw):w.heap.size ≤ gb582));have n3_:=aM ((by rw [hg];exact (below_size bw):w.heap.size ≤ gb582));clear HB;have HB:=n0_;have BK582:=n1_;have GW582:=n2_;have GE582:=n3_;clear n0_ n1_ n2_ n3_;clear hb hbox hg)|((with_reducible refine gate_dst (N:=3) rfl ?_);refine box_event ?hg (N:=3) ?hd (cs:=#[.int .i64 a1_0,.slice A1_1 l1_1.length c1_1]) (t:=28) ?hr ?_;(case hd=>rfl);(case hg=>rfl);(case hr=>first|(go_simp;done)|(go_simp;rfl));intro gb583 hg w5 hbox hb;have n0_:=aM (blk_below (g:=gb582) (o:=.cells #[.int .i64 a0_0,.slice A0_1 l0_1.length c0_1] 28 (0,0)) bk hb);have n1_:=aM (below_step bw hb);have n2_:=aM (hbox);have n3_:=aM ((by rw [hg];exact (below_size bw):w.heap.size ≤ gb583));have n4_:=aM ((by rw [hg];exact (below_size bw):w.heap.size ≤ gb583));have n5_:=aM ((by rw [hg];exact Nat.ne_of_lt (blk_lt (g:=gb582) (o:=.cells #[.int .i64 a0_0,.slice A0_1 l0_1.length c0_1] 28 (0,0)) bk):gb582 ≠ gb583));have n6_:=aM ((by rw [hg];exact Nat.ne_of_gt (blk_lt (g:=gb582) (o:=.cells #[.int .i64 a0_0,.slice A0_1 l0_1.length c0_1] 28 (0,0)) bk):gb583 ≠ gb582));clear BK582;clear HB;have BK582:=n0_;have HB:=n1_;have BK583:=n2_;have GW583:=n3_;have GE583:=n4_;have NB582_583:=n5_;have NB583_582:=n6_;clear n0_ n1_ n2_ n3_ n4_ n5_ n6_;clear hb hbox hg;have hnb6:=NB582_583.out;have hnc6:=NB583_582.out;have hcz7_0:w5.cell? ⟨gb582,0,none⟩ = some (.int .i64 a0_0):=(blk_cell BK582.out 0).trans rfl;have hcz7_1:w5.cell? ⟨gb582,1,none⟩ = some (.slice A0_1 l0_1.length c0_1):=(blk_cell BK582.out 1).trans rfl;have hfz7_0:=blk_frozen BK582.out 0;have hfz7_1:=blk_frozen BK582.out 1;have hcz8_0:w5.cell? ⟨gb583,0,none⟩ = some (.int .i64 a1_0):=(blk_cell BK583.out 0).trans rfl;have hcz8_1:w5.cell? ⟨gb583,1,none⟩ = some (.slice A1_1 l1_1.length c1_1):=(blk_cell BK583.out 1).trans rfl;have hfz8_0:=blk_frozen BK583.out 0;have hfz8_1:=blk_frozen BK583.out 1)|((with_reducible refine gate_callee (f:=161) rfl ?_);refine goesL_ (some 9) rfl rfl Try.func161 kR rfl #[.slice A0_1 l0_1.length c0_1,.slice A1_1 l1_1.length c1_1,.func (.func 128) #[] #[]] rfl mq ?_;(with_reducible refine (slices_CompareFunc_LLint_LLint_int_int.calls k _ _ l0_1 _ _ l1_1 (fun y0_ y1_=>slices_Compare_int_int.f k y0_ y1_) 128 #[] slices_Compare_int_int.enters t584 _ ?side1 ?side2 ?side3 ?side4 ?side5 A3.out).mono ?_);(case side1=>exact qcs HR0_1.out HB.out);(case side2=>exact HC0_1.out);(case side3=>exact qcs HR1_1.out HB.out);(case side4=>exact HC1_1.out);(case side5=>exact (fun W_ A0_ c0_ l0_ A1_ c1_ l1_ r0_ hx_ hb_ hr0_ hc0_ hr1_ hc1_=>(slices_Compare_int_int.calls k A0_ c0_ l0_ A1_ c1_ l1_  r0_ W_ hr0_ hc0_ hr1_ hc1_  hx_).mono (fun _ _ h_=>⟨h_.1,h_.2.below⟩)));rintro e w9 ⟨rfl,hb⟩;refine ⟨_,rfl,?_⟩;have n0_:=aM (blk_below (g:=gb582) (o:=.cells #[.int .i64 a0_0,.slice A0_1 l0_1.length c0_1] 28 (0,0)) bk hb);have n1_:=aM (blk_below (g:=gb583) (o:=.cells #[.int .i64 a1_0,.slice A1_1 l1_1.length c1_1] 28 (0,0)) bk hb);have n2_:=aM (below_step bw hb);clear BK582;clear BK583;clear HB;have BK582:=n0_;have BK583:=n1_;have HB:=n2_;clear n0_ n1_ n2_;(try clear hb);(try clear hb2);(try clear hk);(try clear hi)))
 go_ret
 exact ⟨by first|rfl|(simp [errW_none,errW_some] <;> rfl)|(simp [*,errW_none,errW_some] <;> rfl),by exact bw⟩
set_option maxHeartbeats 8000000 in
set_option maxRecDepth 100000 in
theorem impl_compareGames.callsG (k:Nat) (a0_0:Int) (A0_1:Option Addr) (c0_1:Nat) (l0_1:List (List Int)) (a1_0:Int) (A1_1:Option Addr) (c1_1:Nat) (l1_1:List (List Int)) (r:Int) (w:World) (hr0_1:Kd.C (Kd.slice 3 (Kd.int .i64)) w A0_1 l0_1.length l0_1) (hc0_1:l0_1.length ≤ c0_1) (hr1_1:Kd.C (Kd.slice 3 (Kd.int .i64)) w A1_1 l1_1.length l1_1) (hc1_1:l1_1.length ≤ c1_1) (h:impl_compareGames.f k a0_0 l0_1 a1_0 l1_1 = some r) :
  Calls Try.prog 139 #[.agg #[.int .i64 a0_0,.slice A0_1 l0_1.length c0_1],.agg #[.int .i64 a1_0,.slice A1_1 l1_1.length c1_1]] w fun e w'=>e = .returned (.int .i64 r) ∧ BelowG w.heap.size w w':=by
 have hu28:=Try.underlying28;have HR0_1:=aM hr0_1;have HC0_1:=aM hc0_1;clear hr0_1 hc0_1;have HR1_1:=aM hr1_1;have HC1_1:=aM hc1_1;clear hr1_1 hc1_1;have HB:=aM (BelowG.refl w.heap.size w);have H:((slices_CompareFunc_LLint_LLint_int_int.f k l0_1 l1_1 (fun y0_ y1_=>slices_Compare_int_int.f k y0_ y1_)).bind fun t584=>(some t584)) = some r:=h;clear h;replace H:=Option.bind_eq_some_iff.mp H;obtain ⟨t584,A30,H⟩:=H;replace H:(some t584) = some r:=H;have A3:=aM A30;clear A30;obtain rfl:=Option.some.inj H;go_enter Try.func139,Try.ntmps139;go_wp2_with (first|((with_reducible refine gate_dst (N:=2) rfl ?_);refine box_eventG ?hg (N:=2) ?hd (cs:=#[.int .i64 a0_0,.slice A0_1 l0_1.length c0_1]) (t:=28) ?hr ?_;(case hd=>rfl);(case hg=>rfl);(case hr=>first|(go_simp;done)|(go_simp;rfl));intro gb582 hg w4 hbox hb;have n0_:=aM (belowG_step (by repeat (first|(with_reducible first|exact HB.out|apply belowG_alloc|apply belowG_drewN|apply belowG_drew1)|exact HB.out)) hb);have n1_:=aM (hbox);have n2_:=aM ((by rw [hg];exact (belowG_size (by repeat (first|(with_reducible first|exact HB.out|apply belowG_alloc|apply belowG_drewN|apply belowG_drew1)|exact HB.out))):w.heap.size ≤ gb582));have n3_:=aM ((by rw [hg];exact (belowG_size (by repeat (first|(with_reducible first|exact HB.out|apply belowG_alloc|apply belowG_drewN|apply belowG_drew1)|exact HB.out))):w.heap.size ≤ gb582));clear HB;have HB:=n0_;have BK582:=n1_;have GW582:=n2_;have GE582:=n3_;clear n0_ n1_ n2_ n3_;clear hb hbox hg)|((with_reducible refine gate_dst (N:=3) rfl ?_);refine box_eventG ?hg (N:=3) ?hd (cs:=#[.int .i64 a1_0,.slice A1_1 l1_1.length c1_1]) (t:=28) ?hr ?_;(case hd=>rfl);(case hg=>rfl);(case hr=>first|(go_simp;done)|(go_simp;rfl));intro gb583 hg w5 hbox hb;have n0_:=aM (blk_below (g:=gb582) (o:=.cells #[.int .i64 a0_0,.slice A0_1 l0_1.length c0_1] 28 (0,0)) bk hb.lo);have n1_:=aM (belowG_step (by repeat (first|(with_reducible first|exact HB.out|apply belowG_alloc|apply belowG_drewN|apply belowG_drew1|refine below_set ?_ GE582.out)|exact HB.out)) hb);have n2_:=aM (hbox);have n3_:=aM ((by rw [hg];exact (belowG_size (by repeat (first|(with_reducible first|exact HB.out|apply belowG_alloc|apply belowG_drewN|apply belowG_drew1|refine below_set ?_ GE582.out)|exact HB.out))):w.heap.size ≤ gb583));have n4_:=aM ((by rw [hg];exact (belowG_size (by repeat (first|(with_reducible first|exact HB.out|apply belowG_alloc|apply belowG_drewN|apply belowG_drew1|refine below_set ?_ GE582.out)|exact HB.out))):w.heap.size ≤ gb583));have n5_:=aM ((by rw [hg];exact Nat.ne_of_lt (blk_lt (g:=gb582) (o:=.cells #[.int .i64 a0_0,.slice A0_1 l0_1.length c0_1] 28 (0,0)) bk):gb582 ≠ gb583));have n6_:=aM ((by rw [hg];exact Nat.ne_of_gt (blk_lt (g:=gb582) (o:=.cells #[.int .i64 a0_0,.slice A0_1 l0_1.length c0_1] 28 (0,0)) bk):gb583 ≠ gb582));clear BK582;clear HB;have BK582:=n0_;have HB:=n1_;have BK583:=n2_;have GW583:=n3_;have GE583:=n4_;have NB582_583:=n5_;have NB583_582:=n6_;clear n0_ n1_ n2_ n3_ n4_ n5_ n6_;clear hb hbox hg;have hnb6:=NB582_583.out;have hnc6:=NB583_582.out;have hcz7_0:w5.cell? ⟨gb582,0,none⟩ = some (.int .i64 a0_0):=(blk_cell BK582.out 0).trans rfl;have hcz7_1:w5.cell? ⟨gb582,1,none⟩ = some (.slice A0_1 l0_1.length c0_1):=(blk_cell BK582.out 1).trans rfl;have hfz7_0:=blk_frozen BK582.out 0;have hfz7_1:=blk_frozen BK582.out 1;have hcz8_0:w5.cell? ⟨gb583,0,none⟩ = some (.int .i64 a1_0):=(blk_cell BK583.out 0).trans rfl;have hcz8_1:w5.cell? ⟨gb583,1,none⟩ = some (.slice A1_1 l1_1.length c1_1):=(blk_cell BK583.out 1).trans rfl;have hfz8_0:=blk_frozen BK583.out 0;have hfz8_1:=blk_frozen BK583.out 1)|((with_reducible refine gate_callee (f:=161) rfl ?_);refine goesL_ (some 9) rfl rfl Try.func161 kR rfl #[.slice A0_1 l0_1.length c0_1,.slice A1_1 l1_1.length c1_1,.func (.func 128) #[] #[]] rfl mq ?_;(with_reducible refine (slices_CompareFunc_LLint_LLint_int_int.callsG k _ _ l0_1 _ _ l1_1 (fun y0_ y1_=>slices_Compare_int_int.f k y0_ y1_) 128 #[] slices_Compare_int_int.enters t584 _ ?side1 ?side2 ?side3 ?side4 ?side5 A3.out).mono ?_);(case side1=>repeat (first|exact (Kd.C_below HR0_1.out HB.out.lo)|(with_reducible refine Kd.C_alloc ?_ _)|(with_reducible refine Kd.C_drewN ?_ _)|(with_reducible refine Kd.C_drew ?_)));(case side2=>exact HC0_1.out);(case side3=>repeat (first|exact (Kd.C_below HR1_1.out HB.out.lo)|(with_reducible refine Kd.C_alloc ?_ _)|(with_reducible refine Kd.C_drewN ?_ _)|(with_reducible refine Kd.C_drew ?_)));(case side4=>exact HC1_1.out);(case side5=>exact (fun W_ A0_ c0_ l0_ A1_ c1_ l1_ r0_ hx_ hb_ hr0_ hc0_ hr1_ hc1_=>(slices_Compare_int_int.calls k A0_ c0_ l0_ A1_ c1_ l1_  r0_ W_ hr0_ hc0_ hr1_ hc1_  hx_).mono (fun _ _ h_=>⟨h_.1,BelowG.of h_.2⟩)));rintro e w9 ⟨rfl,hb⟩;refine ⟨_,rfl,?_⟩;have n0_:=aM (blk_below (g:=gb582) (o:=.cells #[.int .i64 a0_0,.slice A0_1 l0_1.length c0_1] 28 (0,0)) bk hb.lo);have n1_:=aM (blk_below (g:=gb583) (o:=.cells #[.int .i64 a1_0,.slice A1_1 l1_1.length c1_1] 28 (0,0)) bk hb.lo);have n2_:=aM (belowG_step (by repeat (first|(with_reducible first|exact HB.out|apply belowG_alloc|apply belowG_drewN|apply belowG_drew1|refine below_set ?_ GE582.out|refine below_set ?_ GE583.out)|exact HB.out)) hb);clear BK582;clear BK583;clear HB;have BK582:=n0_;have BK583:=n1_;have HB:=n2_;clear n0_ n1_ n2_;(try clear hb);(try clear hb2);(try clear hk);(try clear hi)))
 go_ret
 exact ⟨by first|rfl|(simp [errW_none,errW_some] <;> rfl)|(simp [*,errW_none,errW_some] <;> rfl),by repeat (first|(with_reducible first|exact HB.out|apply belowG_alloc|apply belowG_drewN|apply belowG_drew1|refine below_set ?_ GE582.out|refine below_set ?_ GE583.out)|exact HB.out)⟩
theorem impl_compareGames.enters:∀ (args:Array Value) (w:World),(callFunc 139 args).run Try.prog w = .ok (.enter 139 args) w:=enters_of Try.func139 kR rfl


/-! ### impl_allGames: function 99 -/
def impl_allGames.l0:Nat → Int → List (S_impl_Game) → List Int → Int → Int → Option ((List (S_impl_Game)))
 | 0,_,_,_,_,_=>none
 | k + 1,x0,x3,x9,x10,x11=>if x11 < x10 then (if 0 ≤ x11 then (if x11 < (x9.length:Int) then ((impl_votesOf.f k x0 (fun y0_=>impl_allGames_1.f y0_ (rd x9 x11))).bind fun bt594=>(if 0 < (bt594.2.length:Int) then (if rdOf false bt594.2 0 = true then (impl_allGames.l0 k x0 x3 x9 x10 (wrap64 (x11 + 1))) else ((impl_votes_all.f bt594.1 bt594.2).bind fun t600=>(if 0 ≤ t600 then (if t600 < (bt594.2.length:Int) then (if rdOf false bt594.2 t600 = true then ((impl_votes_game.f k bt594.1 bt594.2).bind fun bt602=>(if x3.length < 4398046511104 then (impl_allGames.l0 k x0 (x3 ++ [(⟨bt602.1,bt602.2⟩:S_impl_Game)]) x9 x10 (wrap64 (x11 + 1))) else (none))) else (impl_allGames.l0 k x0 x3 x9 x10 (wrap64 (x11 + 1)))) else (none)) else (none)))) else (none))) else (none)) else (none)) else ((slices_SortFunc_impl_Game_impl_Game.f k x3 (fun y0_ y1_ y2_ y3_=>impl_compareGames.f k y0_ y1_ y2_ y3_)).bind fun t591=>(some t591))
def impl_allGames.f (k:Nat) (a0:Int):Option ((List (S_impl_Game))):=(impl_tables.f k a0).bind fun t588=>(impl_allGames.l0 k a0 (([]:List (S_impl_Game))) t588 (t588.length:Int) 0)
theorem impl_allGames.mono_l:∀ k,(∀ y0 y1 y2 y3 y4,LeO (impl_allGames.l0 k y0 y1 y2 y3 y4) (impl_allGames.l0 (k + 1) y0 y1 y2 y3 y4))
 | 0=>fun _ _ _ _ _ r h=>by simp [impl_allGames.l0] at h
 | k + 1=>by
  have ih0:=impl_allGames.mono_l k
  ·intro y0 y1 y2 y3 y4;unfold impl_allGames.l0
   repeat' with_reducible first|exact ih0 _ _ _ _ _|exact impl_compareGames.mono _ _ _ _ _|exact impl_tables.mono _ _|exact impl_votesOf.mono _ _ _|exact impl_votes_game.mono _ _ _|refine LeO.trans (slices_SortFunc_impl_Game_impl_Game.mono _ _ _) (slices_SortFunc_impl_Game_impl_Game.mono_p (fun _ _ _ _=>?_) _ _)|exact LeO.refl _|exact LeO.none _|refine LeO.trans (impl_votesOf.mono _ _ _) (impl_votesOf.mono_p (fun _=>?_) _ _)|refine LeO.ite ?_ ?_|refine LeO.bind ?_ (fun _=>?_)
theorem impl_allGames.mono:∀ a0 k,LeO (impl_allGames.f k a0) (impl_allGames.f (k + 1) a0):=by
 intro a0 k;have ih0:=impl_allGames.mono_l k;unfold impl_allGames.f
 repeat' with_reducible first|exact ih0 _ _ _ _ _|exact impl_compareGames.mono _ _ _ _ _|exact impl_tables.mono _ _|exact impl_votesOf.mono _ _ _|exact impl_votes_game.mono _ _ _|refine LeO.trans (slices_SortFunc_impl_Game_impl_Game.mono _ _ _) (slices_SortFunc_impl_Game_impl_Game.mono_p (fun _ _ _ _=>?_) _ _)|exact LeO.refl _|exact LeO.none _|refine LeO.trans (impl_votesOf.mono _ _ _) (impl_votesOf.mono_p (fun _=>?_) _ _)|refine LeO.ite ?_ ?_|refine LeO.bind ?_ (fun _=>?_)
def impl_allGames.T6:Bool × List (List Nat × List Nat):=(true,[([],[]),([0],[0]),([1],[1]),([2],[2]),([3],[3]),([4],[4]),([5],[5]),([6,5],[5,6]),([5],[5]),([8,5,5],[5,8]),([7,9,5],[5,7,9]),([10,5],[5,10]),([5,11],[5,11])])
def impl_allGames.B6:List Nat:=[0,1,3,7,15,31,63,127,63,319,1023,2047,4095]
theorem impl_allGames.tab6:rtab .any (opsOf Try.f99 6) = impl_allGames.T6:=by kernel_rfl
theorem impl_allGames.bits6:waitsOk impl_allGames.T6.2 impl_allGames.B6 = true:=by kernel_rfl
set_option maxHeartbeats 8000000 in
set_option maxRecDepth 100000 in
theorem impl_allGames.calls (k:Nat) (a0:Int) (r:List (S_impl_Game)) (w:World) (h:impl_allGames.f k a0 = some r) :
  Calls Try.prog 99 #[.int .i64 a0] w fun e w'=>∃ v0_:Value,e = .returned (v0_) ∧ Kd.R k_impl_Game 28 w' w.heap.size (fun _=>True) v0_ r ∧ Below w.heap.size w w':=by
 have hmf:∀ (fn:Fn) (first cap:Array Value) (w:World),(Instr.makeFunc fn first cap).run Try.prog w = .ok (.func fn first cap) w:=fun _ _ _ _=>rfl
 have hu68:=Try.underlying68;have HB:=aM (Below.refl w.heap.size w);have H:((impl_tables.f k a0).bind fun t588=>(impl_allGames.l0 k a0 (([]:List (S_impl_Game))) t588 (t588.length:Int) 0)) = some r:=h;clear h;obtain ⟨y585,hy585⟩:∃ y_:List (S_impl_Game),y_ = (([]:List (S_impl_Game))):=⟨_,rfl⟩;replace H:((impl_tables.f k a0).bind fun t588=>(impl_allGames.l0 k a0 y585 t588 (t588.length:Int) 0)) = some r:=by first|(rw [hy585];with_reducible exact H)|(have H2_:=(Option.bind_some _ _).symm.trans H;rw [hy585];with_reducible exact H2_)|(have H2_:=(Option.bind_some _ _).symm.trans H;with_reducible exact H2_)|with_reducible exact H|(rw [hy585];exact H)|exact H
 have Ny585:=aM hy585;clear hy585;replace H:=Option.bind_eq_some_iff.mp H;obtain ⟨t588,A20,H⟩:=H;replace H:(impl_allGames.l0 k a0 y585 t588 (t588.length:Int) 0) = some r:=H;have A2:=aM A20;clear A20;have H':=aM H;clear H;go_enter Try.func99,Try.ntmps99;go_wp2_with (first|((with_reducible refine gate_dst (N:=7) rfl ?_);refine Kd.R_lit k_impl_Game _ 28 ?hg (N:=7) ?hd (xs:=([]:List (S_impl_Game))) (inner:=[]) (ok:=fun _=>True) (okp:=fun _=>True) ?hr ?hp (fun _ hk=>hk) trivial (Below.refl _ _) (Nat.le_refl _) (by simp) ?_;(case hd=>rfl);(case hg=>rfl);(case hr=>first|(go_simp;done)|(go_simp;rfl));(case hp=>exact (Reps.none _ _));intro v586 w3 ho4 hb hg_ hnew_;clear hg_ hnew_;(first|rw [← Ny585.out] at ho4|(simp only [Int.reduceToNat] at ho4;rw [← Ny585.out] at ho4));have n0_:=aM (Kd.R_lower ho4 (below_size bw));have n1_:=aM (below_step bw hb);clear HB;have HO587:=n0_;have HB:=n1_;clear n0_ n1_;clear hb ho4)|((with_reducible refine gate_callee (f:=135) rfl ?_);refine goesL_ (some 9) rfl rfl Try.func135 kR rfl #[.int .i64 a0] rfl mq ?_;(with_reducible refine (impl_tables.calls k a0 t588 _ A2.out).mono ?_);rintro e w5 ⟨v589,rfl,ho0,hb⟩;refine ⟨_,rfl,?_⟩;have n0_:=aM (Kd.R_elder' (qra HO587.out) (Kd.R_base ho0) hb);have n1_:=aM (Kd.R_lower ho0 (below_size bw));have n2_:=aM (below_step bw hb);clear HO587;clear HB;have HO587:=n0_;have HO590:=n1_;have HB:=n2_;clear n0_ n1_ n2_;(try clear hb);(try clear hb2);(try clear hk);(try clear hi);(try clear ho0);obtain ⟨Ao6,co6,eo6⟩:=Kd.R_slice HO590.out;subst eo6))
 go_loopg [3,11] k (fun kq v3 v11 w'=>∃ (x3_1:List (S_impl_Game)) (x11_1:Int),v11 = .int .i64 x11_1 ∧ Aside0 (impl_allGames.l0 kq a0 x3_1 t588 (t588.length:Int) x11_1 = some r) ∧ Aside0 (kq ≤ k) ∧ Aside0 (Kd.R k_impl_Game 28 w' w.heap.size (fun k_=>some k_ ≠ ((.slice Ao6 t588.length co6):Value).ownBlock) v3 x3_1) ∧ Aside0 (Kd.R (Kd.int .i64) 3 w' w.heap.size (fun _=>True) (.slice Ao6 t588.length co6) t588) ∧ Aside0 (Below w.heap.size w w'))
 case atStart=>exact ⟨(y585),(0),qrs,H',⟨Nat.le_refl _⟩,⟨by (with_reducible repeat (first|apply Kd.R_alloc|apply Kd.R_drewN|apply Kd.R_drew));exact Kd.R_mono HO587.out (fun _ hk=>hk.2)⟩,⟨qra HO590.out⟩,⟨by exact bw⟩⟩
 case round =>
  clear H';(try clear c1);(try clear p2)
  obtain ⟨x3_1,x11_1,rfl,HA,HK1,HO_3,HO_9,HB⟩:=hrel
  cases gk with
  | zero=>exact absurd HA.out (by simp [impl_allGames.l0])
  | succ k1 =>
   have H:=HA.out;clear HA;simp only [impl_allGames.l0] at H;by_cases c7:x11_1 < (t588.length:Int)
   ·rw [if_pos c7] at H;have c7b0:decide (x11_1 < (t588.length:Int)) = true:=decide_eq_true c7;clear c7;by_cases c8:0 ≤ x11_1
    ·rw [if_pos c8] at H;have c8b0:decide (0 ≤ x11_1) = true:=decide_eq_true c8;clear c8;by_cases c9:x11_1 < (t588.length:Int)
     ·rw [if_pos c9] at H;have c9b0:decide (x11_1 < (t588.length:Int)) = true:=decide_eq_true c9;clear c9;replace H:=Option.bind_eq_some_iff.mp H;obtain ⟨⟨t594,t595⟩,A100,H⟩:=H;replace H:(if 0 < (t595.length:Int) then (if rdOf false t595 0 = true then (impl_allGames.l0 k1 a0 x3_1 t588 (t588.length:Int) (wrap64 (x11_1 + 1))) else ((impl_votes_all.f t594 t595).bind fun t600=>(if 0 ≤ t600 then (if t600 < (t595.length:Int) then (if rdOf false t595 t600 = true then ((impl_votes_game.f k1 t594 t595).bind fun bt602=>(if x3_1.length < 4398046511104 then (impl_allGames.l0 k1 a0 (x3_1 ++ [(⟨bt602.1,bt602.2⟩:S_impl_Game)]) t588 (t588.length:Int) (wrap64 (x11_1 + 1))) else (none))) else (impl_allGames.l0 k1 a0 x3_1 t588 (t588.length:Int) (wrap64 (x11_1 + 1)))) else (none)) else (none)))) else (none)) = some r:=H;have A10:=aM A100;clear A100;by_cases c11:0 < (t595.length:Int)
      ·rw [if_pos c11] at H;have c11b0:decide (0 < (t595.length:Int)) = true:=decide_eq_true c11;have c11b1:decide (0 < t595.length) = true:=decide_eq_true (by omega);clear c11;obtain ⟨bq12,hbq12⟩:∃ b_:Bool,b_ = (rdOf false t595 0):=⟨_,rfl⟩;replace H:(if bq12 = true then (impl_allGames.l0 k1 a0 x3_1 t588 (t588.length:Int) (wrap64 (x11_1 + 1))) else ((impl_votes_all.f t594 t595).bind fun t600=>(if 0 ≤ t600 then (if t600 < (t595.length:Int) then (if rdOf false t595 t600 = true then ((impl_votes_game.f k1 t594 t595).bind fun bt602=>(if x3_1.length < 4398046511104 then (impl_allGames.l0 k1 a0 (x3_1 ++ [(⟨bt602.1,bt602.2⟩:S_impl_Game)]) t588 (t588.length:Int) (wrap64 (x11_1 + 1))) else (none))) else (impl_allGames.l0 k1 a0 x3_1 t588 (t588.length:Int) (wrap64 (x11_1 + 1)))) else (none)) else (none)))) = some r:=by rw [← hbq12] at H;exact H
       have Nbq12:=aM hbq12;clear hbq12;by_cases c13:bq12 = true
       ·subst c13;have H1:(impl_allGames.l0 k1 a0 x3_1 t588 (t588.length:Int) (wrap64 (x11_1 + 1))) = some r:=by rw [if_pos rfl] at H;exact H
        clear H;have H:=H1;clear H1;have H':=aM H;clear H;have p592:0 ≤ (x11_1:Int):=of_decide_eq_true ab;have q592:x11_1 < (t588.length:Int):=of_decide_eq_true ab;obtain ⟨ad592,e592,hx592_0⟩:=Kd.at_int (Kd.R_reads' HO_9.out).2.2 x11_1 p592 q592;cases e592
        replace p592:=eq_true p592;replace q592:=eq_true q592
        try go_wp2_with (first|((with_reducible refine gate_dst (N:=5) rfl ?_);refine box_event ?hg (N:=5) ?hd (cs:=#[.int .i64 0]) (t:=3) ?hr ?_;(case hd=>rfl);(case hg=>rfl);(case hr=>first|(go_simp;done)|(go_simp;rfl));intro gb593 hg w14 hbox hb;have n0_:=aM (Kd.R_below (Kd.R_elderB (qra HO_3.out) gb593 (Nat.le_of_eq hg.symm)) hb);have n1_:=aM (Kd.R_below (Kd.R_elderB (qra HO_9.out) gb593 (Nat.le_of_eq hg.symm)) hb);have n2_:=aM (below_step bw hb);have n3_:=aM (hbox);have n4_:=aM ((by rw [hg];exact (below_size bw):w.heap.size ≤ gb593));have n5_:=aM ((by rw [hg];exact (below_size bw):w.heap.size ≤ gb593));clear HO_3;clear HO_9;clear HB;have HO_3:=n0_;have HO_9:=n1_;have HB:=n2_;have BK593:=n3_;have GW593:=n4_;have GE593:=n5_;clear n0_ n1_ n2_ n3_ n4_ n5_;clear hb hbox hg;have hcz15_0:w14.cell? ⟨gb593,0,none⟩ = some (.int .i64 0):=(blk_cell BK593.out 0).trans rfl;have hfz15_0:=blk_frozen BK593.out 0)|((with_reducible refine gate_callee (f:=71) rfl ?_);refine goesL_ (some 17) rfl rfl Try.func71 kR rfl #[.int .i64 a0,.func (.func 136) #[] #[.pointer (some ⟨gb593,0,none⟩)]] rfl mq ?_;(with_reducible refine (impl_votesOf.calls k1 a0 (fun y0_=>impl_allGames_1.f y0_ (rd t588 x11_1)) 136 #[.pointer (some ⟨gb593,0,none⟩)] impl_allGames_1.enters t594 t595 _ ?side1 A10.out).mono ?_);(case side1=>exact (fun W_ a0_ r0_ hx_ hb_ =>(impl_allGames_1.calls a0_ gb593 (rd t588 x11_1) r0_ W_  (box_later (by (with_reducible repeat (first|refine blk_drewN ?_ _|refine blk_drew ?_|refine blk_alloc ?_ _));refine blk_put (cs:=#[.int .i64 0]) ?_ 0 _ rfl;(with_reducible repeat (first|refine blk_drewN ?_ _|refine blk_drew ?_|refine blk_alloc ?_ _));exact BK593.out) hb_) hx_).mono (fun _ _ h_=>⟨h_.1,h_.2.below⟩)));rintro e w16 ⟨v596,rfl,ho0,hb⟩;refine ⟨_,rfl,?_⟩;have n0_:=aM (Kd.R_below (by (with_reducible repeat (first|apply Kd.R_alloc|apply Kd.R_drewN|apply Kd.R_drew));exact (Kd.R_mono (Kd.R_far (p:=⟨gb593,0,none⟩) (Kd.R_mono HO_3.out (fun k_ hk=>(⟨hk,hk.2⟩:_ ∧ k_ ≠ gb593))) (fun _ hk=>hk.2) (.int .i64 (rd t588 x11_1))) (fun _ h_=>h_.1))) hb);have n1_:=aM (Kd.R_below (by (with_reducible repeat (first|apply Kd.R_alloc|apply Kd.R_drewN|apply Kd.R_drew));exact (Kd.R_mono (Kd.R_far (p:=⟨gb593,0,none⟩) (Kd.R_mono HO_9.out (fun k_ hk=>(⟨hk,hk.2⟩:_ ∧ k_ ≠ gb593))) (fun _ hk=>hk.2) (.int .i64 (rd t588 x11_1))) (fun _ h_=>h_.1))) hb);have n2_:=aM (Kd.R_lower ho0 (below_size bw));have n3_:=aM (blk_below (g:=gb593) (o:=.cells #[.int .i64 (rd t588 x11_1)] 3 (0,0)) (by (with_reducible repeat (first|refine blk_drewN ?_ _|refine blk_drew ?_|refine blk_alloc ?_ _));refine blk_put (cs:=#[.int .i64 0]) ?_ 0 _ rfl;(with_reducible repeat (first|refine blk_drewN ?_ _|refine blk_drew ?_|refine blk_alloc ?_ _));exact BK593.out) hb);have n4_:=aM (below_step bw hb);clear HO_3;clear HO_9;clear BK593;clear HB;have HO_3:=n0_;have HO_9:=n1_;have HO597:=n2_;have BK593:=n3_;have HB:=n4_;clear n0_ n1_ n2_ n3_ n4_;(try clear hb);(try clear hb2);(try clear hk);(try clear hi);(try clear ho0))|((with_reducible refine gate_dst (N:=6) rfl ?_);refine box_event ?hg (N:=6) ?hd (cs:=#[.int .i64 0,.slice none 0 0]) (t:=68) ?hr ?_;(case hd=>rfl);(case hg=>rfl);(case hr=>first|(go_simp;done)|(go_simp;rfl));intro gb598 hg w17 hbox hb;have n0_:=aM (Kd.R_below (qra HO_3.out) hb);have n1_:=aM (Kd.R_below (qra HO_9.out) hb);have n2_:=aM (Kd.R_below (qra HO597.out) hb);have n3_:=aM (blk_below (g:=gb593) (o:=.cells #[.int .i64 (rd t588 x11_1)] 3 (0,0)) bk hb);have n4_:=aM (below_step bw hb);have n5_:=aM (hbox);have n6_:=aM ((by rw [hg];exact (below_size bw):w.heap.size ≤ gb598));have n7_:=aM ((by rw [hg];exact (below_size bw):w.heap.size ≤ gb598));have n8_:=aM ((by rw [hg];exact Nat.ne_of_lt (blk_lt (g:=gb593) (o:=.cells #[.int .i64 (rd t588 x11_1)] 3 (0,0)) bk):gb593 ≠ gb598));have n9_:=aM ((by rw [hg];exact Nat.ne_of_gt (blk_lt (g:=gb593) (o:=.cells #[.int .i64 (rd t588 x11_1)] 3 (0,0)) bk):gb598 ≠ gb593));clear HO_3;clear HO_9;clear HO597;clear BK593;clear HB;have HO_3:=n0_;have HO_9:=n1_;have HO597:=n2_;have BK593:=n3_;have HB:=n4_;have BK598:=n5_;have GW598:=n6_;have GE598:=n7_;have NB593_598:=n8_;have NB598_593:=n9_;clear n0_ n1_ n2_ n3_ n4_ n5_ n6_ n7_ n8_ n9_;clear hb hbox hg;have hnb18:=NB598_593.out;have hnc18:=NB593_598.out;have hcz19_0:w17.cell? ⟨gb598,0,none⟩ = some (.int .i64 0):=(blk_cell BK598.out 0).trans rfl;have hcz19_1:w17.cell? ⟨gb598,1,none⟩ = some (.slice none 0 0):=(blk_cell BK598.out 1).trans rfl;have hfz19_0:=blk_frozen BK598.out 0;have hfz19_1:=blk_frozen BK598.out 1;obtain ⟨Ao20,co20,eo20⟩:=Kd.R_slice HO597.out;subst eo20))
        have n0_:Aside0 (Kd.R k_impl_Game 28 ((w17.setCell ⟨gb598,0,none⟩ (.int .i64 t594)).setCell ⟨gb598,1,none⟩ (.slice Ao20 t595.length co20)) w.heap.size (fun k_=>some k_ ≠ (.slice (some ad592) t588.length co6:Value).ownBlock ∧ k_ ≠ gb593) u3 x3_1):=⟨by (with_reducible repeat (first|apply Kd.R_alloc|apply Kd.R_drewN|apply Kd.R_drew));exact Kd.R_mono (Kd.R_far (p:=⟨gb598,1,none⟩) (Kd.R_far (p:=⟨gb598,0,none⟩) (Kd.R_types HO_3.out BK598.out (by decide)) (fun _ hk=>hk.2) (.int .i64 t594)) (fun _ hk=>hk.2) (.slice Ao20 t595.length co20)) (fun _ hk=>⟨hk.1.1,hk.1.2⟩)⟩;have n1_:Aside0 (Kd.R (Kd.int .i64) 3 ((w17.setCell ⟨gb598,0,none⟩ (.int .i64 t594)).setCell ⟨gb598,1,none⟩ (.slice Ao20 t595.length co20)) w.heap.size (fun k_=>k_ ≠ gb593) (.slice (some ad592) t588.length co6) t588):=⟨by (with_reducible repeat (first|apply Kd.R_alloc|apply Kd.R_drewN|apply Kd.R_drew));exact Kd.R_mono (Kd.R_far (p:=⟨gb598,1,none⟩) (Kd.R_far (p:=⟨gb598,0,none⟩) (Kd.R_types HO_9.out BK598.out (by decide)) (fun _ hk=>hk.2) (.int .i64 t594)) (fun _ hk=>hk.2) (.slice Ao20 t595.length co20)) (fun _ hk=>hk.1.2)⟩;have n2_:Aside0 (Kd.R Kd.bool 4 ((w17.setCell ⟨gb598,0,none⟩ (.int .i64 t594)).setCell ⟨gb598,1,none⟩ (.slice Ao20 t595.length co20)) w.heap.size (fun _=>True) (.slice Ao20 t595.length co20) t595):=⟨by (with_reducible repeat (first|apply Kd.R_alloc|apply Kd.R_drewN|apply Kd.R_drew));exact Kd.R_mono (Kd.R_far (p:=⟨gb598,1,none⟩) (Kd.R_far (p:=⟨gb598,0,none⟩) (Kd.R_types HO597.out BK598.out (by decide)) (fun _ hk=>hk.2) (.int .i64 t594)) (fun _ hk=>hk.2) (.slice Ao20 t595.length co20)) (fun _ hk=>trivial)⟩;have n3_:Aside0 (((w17.setCell ⟨gb598,0,none⟩ (.int .i64 t594)).setCell ⟨gb598,1,none⟩ (.slice Ao20 t595.length co20)).heap[gb593]? = some (.cells #[.int .i64 (rd t588 x11_1)] 3 (0,0))):=⟨by (with_reducible repeat (first|refine blk_drewN ?_ _|refine blk_drew ?_|refine blk_alloc ?_ _));refine blk_far ?_ NB593_598.out _;(with_reducible repeat (first|refine blk_drewN ?_ _|refine blk_drew ?_|refine blk_alloc ?_ _));refine blk_far ?_ NB593_598.out _;(with_reducible repeat (first|refine blk_drewN ?_ _|refine blk_drew ?_|refine blk_alloc ?_ _));exact BK593.out⟩;have n4_:Aside0 (((w17.setCell ⟨gb598,0,none⟩ (.int .i64 t594)).setCell ⟨gb598,1,none⟩ (.slice Ao20 t595.length co20)).heap[gb598]? = some (.cells #[.int .i64 t594,.slice Ao20 t595.length co20] 68 (0,0))):=⟨by (with_reducible repeat (first|refine blk_drewN ?_ _|refine blk_drew ?_|refine blk_alloc ?_ _));refine blk_put (cs:=#[.int .i64 t594,.slice none 0 0]) ?_ 1 _ rfl;(with_reducible repeat (first|refine blk_drewN ?_ _|refine blk_drew ?_|refine blk_alloc ?_ _));refine blk_put (cs:=#[.int .i64 0,.slice none 0 0]) ?_ 0 _ rfl;(with_reducible repeat (first|refine blk_drewN ?_ _|refine blk_drew ?_|refine blk_alloc ?_ _));exact BK598.out⟩;have n5_:Aside0 (Below w.heap.size w ((w17.setCell ⟨gb598,0,none⟩ (.int .i64 t594)).setCell ⟨gb598,1,none⟩ (.slice Ao20 t595.length co20))):=⟨by exact bw⟩;(try clear HO_3)
        (try clear HO_9)
        (try clear HO597)
        (try clear BK593)
        (try clear BK598)
        (try clear HB)
        generalize ((w17.setCell ⟨gb598,0,none⟩ (.int .i64 t594)).setCell ⟨gb598,1,none⟩ (.slice Ao20 t595.length co20)) = w21 at n0_ n1_ n2_ n3_ n4_ n5_ ⊢
        have HO_3:=n0_;have HO_9:=n1_;have HO597:=n2_;have BK593:=n3_;have BK598:=n4_;have HB:=n5_;clear n0_ n1_ n2_ n3_ n4_ n5_;have n0_:=aM (Kd.R_drew HO_3.out);have n1_:=aM (Kd.R_drew HO_9.out);have n2_:=aM (Kd.R_drew HO597.out);have n3_:=aM (blk_drew BK593.out);have n4_:=aM (blk_drew BK598.out);have n5_:=aM (below_drew1 HB.out);clear HO_3;clear HO_9;clear HO597;clear BK593;clear BK598;clear HB;have HO_3:=n0_;have HO_9:=n1_;have HO597:=n2_;have BK593:=n3_;have BK598:=n4_;have HB:=n5_;clear n0_ n1_ n2_ n3_ n4_ n5_;have p599:0 ≤ (0:Int):=(by omega);have q599:0 < (t595.length:Int):=of_decide_eq_true ab;obtain ⟨ad599,e599,hx599_0⟩:=Kd.at_bool (Kd.R_reads' HO597.out).2.2 0 p599 q599;(try rw [← Nbq12.out] at hx599_0)
        cases e599
        have qi599:(0 < t595.length) = True:=eq_true (by omega);(try rw [show ((0:Int)).toNat = 0 from rfl] at hx599_0)
        (try rw [Addr.add_zero'] at hx599_0)
        replace p599:=eq_true p599;replace q599:=eq_true q599;refine start_ (n:=13) (S:=fun w'=>w'.cell? ⟨gb598,0,none⟩ = some (.int .i64 t594) ∧ w'.cell? ⟨gb598,1,none⟩ = some (.slice (some ad599) t595.length co20) ∧ w'.cell? ad599 = some (.bool true)) (ds:=[]) (mA 13 0) kR rfl rfl ⟨(blk_cell BK598.out 0).trans rfl,(blk_cell BK598.out 1).trans rfl,hx599_0⟩ (fun hHeld=>?_);refine with_tabW impl_allGames.tab6 impl_allGames.bits6 (fun HT_ HW_=>?_)
        generalize w21.drew = w22 at HO_3 HO_9 HO597 BK593 BK598 HB hx599_0 hHeld ⊢
        refine pure_ (i:=0) (N:=some 18) (v:=?_) (a':=?_) (mA 13 1) rfl rfl (any_of HT_.out kR) (fun _ _ _ h=>h) (Or.inl ⟨by rfl,?_⟩) ?_ ?_;rotate_left
        ·intro w';go_simp
         with_reducible rfl
        rotate_left
        ·simp only [Act.put,sA,sZ,sS,i64_w,i32_w];rfl
        refine take_ (i:=1) (N:=some 19) (v:=?_) (a':=?_) (mA 13 3) rfl rfl (take_ofW HT_.out HW_.out kR) (fun _ _ _ h=>h) (Or.inl ⟨by rfl,?_⟩) hHeld ?_ ?_;rotate_left
        ·rintro w' ⟨s0,s1,s2⟩
         go_simp
         with_reducible rfl
        rotate_left
        ·simp only [Act.put,sA,sZ,sS,i64_w,i32_w];rfl
        refine pure_ (i:=2) (N:=some 20) (v:=?_) (a':=?_) (mA 13 7) rfl rfl (any_of HT_.out kR) (fun _ _ _ h=>h) (Or.inl ⟨by rfl,?_⟩) ?_ ?_;rotate_left
        ·intro w';go_simp
         with_reducible rfl
        rotate_left
        ·simp only [Act.put,sA,sZ,sS,i64_w,i32_w];rfl
        refine take_ (i:=3) (N:=some 21) (v:=?_) (a':=?_) (mA 13 15) rfl rfl (take_ofW HT_.out HW_.out kR) (fun _ _ _ h=>h) (Or.inl ⟨by rfl,?_⟩) hHeld ?_ ?_;rotate_left
        ·rintro w' ⟨s0,s1,s2⟩
         go_simp
         with_reducible rfl
        rotate_left
        ·simp only [Act.put,sA,sZ,sS,i64_w,i32_w];rfl
        refine pure_ (i:=4) (N:=some 22) (v:=?_) (a':=?_) (mA 13 31) rfl rfl (any_of HT_.out kR) (fun _ _ _ h=>h) (Or.inl ⟨by rfl,?_⟩) ?_ ?_;rotate_left
        ·intro w';go_simp
         with_reducible rfl
        rotate_left
        ·simp only [Act.put,sA,sZ,sS,i64_w,i32_w];rfl
        refine pure_ (i:=5) (N:=some 23) (v:=?_) (a':=?_) (mA 13 63) rfl rfl (any_of HT_.out kR) (fun _ _ _ h=>h) (Or.inl ⟨by rfl,?_⟩) ?_ ?_;rotate_left
        ·intro w';go_simp
         with_reducible rfl
        rotate_left
        ·simp only [Act.put,sA,sZ,sS,i64_w,i32_w];rfl
        refine pure_ (i:=6) (N:=some 24) (v:=undef) (a':=?_) (mA 13 127) rfl rfl (any_of HT_.out kR) (fun _ _ _ h=>h) (Or.inr ⟨by rfl,rfl⟩) ?_ ?_;rotate_left
        ·simp only [Act.put,sA,sZ,sS,i64_w,i32_w];rfl
        refine pure_ (i:=7) (N:=some 25) (v:=undef) (a':=?_) (mA 13 255) rfl rfl (any_of HT_.out kR) (fun _ _ _ h=>h) (Or.inr ⟨by rfl,rfl⟩) ?_ ?_;rotate_left
        ·simp only [Act.put,sA,sZ,sS,i64_w,i32_w];rfl
        refine pure_ (i:=8) (N:=some 26) (v:=undef) (a':=?_) (mA 13 511) rfl rfl (any_of HT_.out kR) (fun _ _ _ h=>h) (Or.inr ⟨by rfl,rfl⟩) ?_ ?_;rotate_left
        ·simp only [Act.put,sA,sZ,sS,i64_w,i32_w];rfl
        refine pure_ (i:=9) (N:=some 27) (v:=undef) (a':=?_) (mA 13 1023) rfl rfl (any_of HT_.out kR) (fun _ _ _ h=>h) (Or.inr ⟨by rfl,rfl⟩) ?_ ?_;rotate_left
        ·simp only [Act.put,sA,sZ,sS,i64_w,i32_w];rfl
        refine pure_ (i:=10) (N:=some 28) (v:=undef) (a':=?_) (mA 13 2047) rfl rfl (any_of HT_.out kR) (fun _ _ _ h=>h) (Or.inr ⟨by rfl,rfl⟩) ?_ ?_;rotate_left
        ·simp only [Act.put,sA,sZ,sS,i64_w,i32_w];rfl
        refine pure_ (i:=11) (N:=some 29) (v:=undef) (a':=?_) (mA 13 4095) rfl rfl (any_of HT_.out kR) (fun _ _ _ h=>h) (Or.inr ⟨by rfl,rfl⟩) ?_ ?_;rotate_left
        ·simp only [Act.put,sA,sZ,sS,i64_w,i32_w];rfl
        refine pure_ (i:=12) (N:=some 30) (v:=?_) (a':=?_) (mA 13 8191) rfl rfl (any_of HT_.out kR) (fun _ _ _ h=>h) (Or.inl ⟨by rfl,?_⟩) ?_ ?_;rotate_left
        ·intro w';go_simp
         with_reducible rfl
        rotate_left
        ·simp only [Act.put,sA,sZ,sS,i64_w,i32_w];rfl
        refine done_ (done_of HT_.out kR) ?_
        try go_wp2
        go_roundg k1
        case measure=>have:=HK1.out;omega
        case rel=>exact ⟨(x3_1),(wrap64 (x11_1 + 1)),qrs,H',⟨by have:=HK1.out;omega⟩,⟨by (with_reducible repeat (first|apply Kd.R_alloc|apply Kd.R_drewN|apply Kd.R_drew));exact Kd.R_mono HO_3.out (fun _ hk=>hk.1)⟩,⟨by (with_reducible repeat (first|apply Kd.R_alloc|apply Kd.R_drewN|apply Kd.R_drew));exact Kd.R_mono HO_9.out (fun _ hk=>trivial)⟩,⟨by exact bw⟩⟩
       ·replace c13:=Bool.eq_false_iff.mpr c13;subst c13;have H1:((impl_votes_all.f t594 t595).bind fun t600=>(if 0 ≤ t600 then (if t600 < (t595.length:Int) then (if rdOf false t595 t600 = true then ((impl_votes_game.f k1 t594 t595).bind fun bt602=>(if x3_1.length < 4398046511104 then (impl_allGames.l0 k1 a0 (x3_1 ++ [(⟨bt602.1,bt602.2⟩:S_impl_Game)]) t588 (t588.length:Int) (wrap64 (x11_1 + 1))) else (none))) else (impl_allGames.l0 k1 a0 x3_1 t588 (t588.length:Int) (wrap64 (x11_1 + 1)))) else (none)) else (none))) = some r:=by rw [if_neg (show ¬ (false = true) by decide)] at H;exact H
        clear H;have H:=H1;clear H1;replace H:=Option.bind_eq_some_iff.mp H;obtain ⟨t600,A230,H⟩:=H;replace H:(if 0 ≤ t600 then (if t600 < (t595.length:Int) then (if rdOf false t595 t600 = true then ((impl_votes_game.f k1 t594 t595).bind fun bt602=>(if x3_1.length < 4398046511104 then (impl_allGames.l0 k1 a0 (x3_1 ++ [(⟨bt602.1,bt602.2⟩:S_impl_Game)]) t588 (t588.length:Int) (wrap64 (x11_1 + 1))) else (none))) else (impl_allGames.l0 k1 a0 x3_1 t588 (t588.length:Int) (wrap64 (x11_1 + 1)))) else (none)) else (none)) = some r:=H;have A23:=aM A230;clear A230;by_cases c24:0 ≤ t600
        ·rw [if_pos c24] at H;have c24b0:decide (0 ≤ t600) = true:=decide_eq_true c24;clear c24;by_cases c25:t600 < (t595.length:Int)
         ·rw [if_pos c25] at H;have c25b0:decide (t600 < (t595.length:Int)) = true:=decide_eq_true c25;clear c25;obtain ⟨bq26,hbq26⟩:∃ b_:Bool,b_ = (rdOf false t595 t600):=⟨_,rfl⟩;replace H:(if bq26 = true then ((impl_votes_game.f k1 t594 t595).bind fun bt602=>(if x3_1.length < 4398046511104 then (impl_allGames.l0 k1 a0 (x3_1 ++ [(⟨bt602.1,bt602.2⟩:S_impl_Game)]) t588 (t588.length:Int) (wrap64 (x11_1 + 1))) else (none))) else (impl_allGames.l0 k1 a0 x3_1 t588 (t588.length:Int) (wrap64 (x11_1 + 1)))) = some r:=by rw [← hbq26] at H;exact H
          have Nbq26:=aM hbq26;clear hbq26;by_cases c27:bq26 = true
          ·subst c27;have H1:((impl_votes_game.f k1 t594 t595).bind fun bt602=>(if x3_1.length < 4398046511104 then (impl_allGames.l0 k1 a0 (x3_1 ++ [(⟨bt602.1,bt602.2⟩:S_impl_Game)]) t588 (t588.length:Int) (wrap64 (x11_1 + 1))) else (none))) = some r:=by rw [if_pos rfl] at H;exact H
           clear H;have H:=H1;clear H1;replace H:=Option.bind_eq_some_iff.mp H;obtain ⟨⟨t602,t603⟩,A280,H⟩:=H;replace H:(if x3_1.length < 4398046511104 then (impl_allGames.l0 k1 a0 (x3_1 ++ [(⟨t602,t603⟩:S_impl_Game)]) t588 (t588.length:Int) (wrap64 (x11_1 + 1))) else (none)) = some r:=H;have A28:=aM A280;clear A280;by_cases c29:x3_1.length < 4398046511104
           ·rw [if_pos c29] at H;have LMc29:=aM c29;clear c29;obtain ⟨y606,hy606⟩:∃ y_:List (S_impl_Game),y_ = (x3_1 ++ [(⟨t602,t603⟩:S_impl_Game)]):=⟨_,rfl⟩;replace H:(impl_allGames.l0 k1 a0 y606 t588 (t588.length:Int) (wrap64 (x11_1 + 1))) = some r:=by first|(rw [hy606];with_reducible exact H)|(have H2_:=(Option.bind_some _ _).symm.trans H;rw [hy606];with_reducible exact H2_)|(have H2_:=(Option.bind_some _ _).symm.trans H;with_reducible exact H2_)|with_reducible exact H|(rw [hy606];exact H)|exact H
            have Ny606:=aM hy606;clear hy606;have H':=aM H;clear H;have p592:0 ≤ (x11_1:Int):=of_decide_eq_true ab;have q592:x11_1 < (t588.length:Int):=of_decide_eq_true ab;obtain ⟨ad592,e592,hx592_0⟩:=Kd.at_int (Kd.R_reads' HO_9.out).2.2 x11_1 p592 q592;cases e592
            replace p592:=eq_true p592;replace q592:=eq_true q592
            try go_wp2_with (first|((with_reducible refine gate_dst (N:=5) rfl ?_);refine box_event ?hg (N:=5) ?hd (cs:=#[.int .i64 0]) (t:=3) ?hr ?_;(case hd=>rfl);(case hg=>rfl);(case hr=>first|(go_simp;done)|(go_simp;rfl));intro gb593 hg w30 hbox hb;have n0_:=aM (Kd.R_below (Kd.R_elderB (qra HO_3.out) gb593 (Nat.le_of_eq hg.symm)) hb);have n1_:=aM (Kd.R_below (Kd.R_elderB (qra HO_9.out) gb593 (Nat.le_of_eq hg.symm)) hb);have n2_:=aM (below_step bw hb);have n3_:=aM (hbox);have n4_:=aM ((by rw [hg];exact (below_size bw):w.heap.size ≤ gb593));have n5_:=aM ((by rw [hg];exact (below_size bw):w.heap.size ≤ gb593));clear HO_3;clear HO_9;clear HB;have HO_3:=n0_;have HO_9:=n1_;have HB:=n2_;have BK593:=n3_;have GW593:=n4_;have GE593:=n5_;clear n0_ n1_ n2_ n3_ n4_ n5_;clear hb hbox hg;have hcz31_0:w30.cell? ⟨gb593,0,none⟩ = some (.int .i64 0):=(blk_cell BK593.out 0).trans rfl;have hfz31_0:=blk_frozen BK593.out 0)|((with_reducible refine gate_callee (f:=71) rfl ?_);refine goesL_ (some 17) rfl rfl Try.func71 kR rfl #[.int .i64 a0,.func (.func 136) #[] #[.pointer (some ⟨gb593,0,none⟩)]] rfl mq ?_;(with_reducible refine (impl_votesOf.calls k1 a0 (fun y0_=>impl_allGames_1.f y0_ (rd t588 x11_1)) 136 #[.pointer (some ⟨gb593,0,none⟩)] impl_allGames_1.enters t594 t595 _ ?side1 A10.out).mono ?_);(case side1=>exact (fun W_ a0_ r0_ hx_ hb_ =>(impl_allGames_1.calls a0_ gb593 (rd t588 x11_1) r0_ W_  (box_later (by (with_reducible repeat (first|refine blk_drewN ?_ _|refine blk_drew ?_|refine blk_alloc ?_ _));refine blk_put (cs:=#[.int .i64 0]) ?_ 0 _ rfl;(with_reducible repeat (first|refine blk_drewN ?_ _|refine blk_drew ?_|refine blk_alloc ?_ _));exact BK593.out) hb_) hx_).mono (fun _ _ h_=>⟨h_.1,h_.2.below⟩)));rintro e w32 ⟨v596,rfl,ho0,hb⟩;refine ⟨_,rfl,?_⟩;have n0_:=aM (Kd.R_below (by (with_reducible repeat (first|apply Kd.R_alloc|apply Kd.R_drewN|apply Kd.R_drew));exact (Kd.R_mono (Kd.R_far (p:=⟨gb593,0,none⟩) (Kd.R_mono HO_3.out (fun k_ hk=>(⟨hk,hk.2⟩:_ ∧ k_ ≠ gb593))) (fun _ hk=>hk.2) (.int .i64 (rd t588 x11_1))) (fun _ h_=>h_.1))) hb);have n1_:=aM (Kd.R_below (by (with_reducible repeat (first|apply Kd.R_alloc|apply Kd.R_drewN|apply Kd.R_drew));exact (Kd.R_mono (Kd.R_far (p:=⟨gb593,0,none⟩) (Kd.R_mono HO_9.out (fun k_ hk=>(⟨hk,hk.2⟩:_ ∧ k_ ≠ gb593))) (fun _ hk=>hk.2) (.int .i64 (rd t588 x11_1))) (fun _ h_=>h_.1))) hb);have n2_:=aM (Kd.R_lower ho0 (below_size bw));have n3_:=aM (blk_below (g:=gb593) (o:=.cells #[.int .i64 (rd t588 x11_1)] 3 (0,0)) (by (with_reducible repeat (first|refine blk_drewN ?_ _|refine blk_drew ?_|refine blk_alloc ?_ _));refine blk_put (cs:=#[.int .i64 0]) ?_ 0 _ rfl;(with_reducible repeat (first|refine blk_drewN ?_ _|refine blk_drew ?_|refine blk_alloc ?_ _));exact BK593.out) hb);have n4_:=aM (below_step bw hb);clear HO_3;clear HO_9;clear BK593;clear HB;have HO_3:=n0_;have HO_9:=n1_;have HO597:=n2_;have BK593:=n3_;have HB:=n4_;clear n0_ n1_ n2_ n3_ n4_;(try clear hb);(try clear hb2);(try clear hk);(try clear hi);(try clear ho0))|((with_reducible refine gate_dst (N:=6) rfl ?_);refine box_event ?hg (N:=6) ?hd (cs:=#[.int .i64 0,.slice none 0 0]) (t:=68) ?hr ?_;(case hd=>rfl);(case hg=>rfl);(case hr=>first|(go_simp;done)|(go_simp;rfl));intro gb598 hg w33 hbox hb;have n0_:=aM (Kd.R_below (qra HO_3.out) hb);have n1_:=aM (Kd.R_below (qra HO_9.out) hb);have n2_:=aM (Kd.R_below (qra HO597.out) hb);have n3_:=aM (blk_below (g:=gb593) (o:=.cells #[.int .i64 (rd t588 x11_1)] 3 (0,0)) bk hb);have n4_:=aM (below_step bw hb);have n5_:=aM (hbox);have n6_:=aM ((by rw [hg];exact (below_size bw):w.heap.size ≤ gb598));have n7_:=aM ((by rw [hg];exact (below_size bw):w.heap.size ≤ gb598));have n8_:=aM ((by rw [hg];exact Nat.ne_of_lt (blk_lt (g:=gb593) (o:=.cells #[.int .i64 (rd t588 x11_1)] 3 (0,0)) bk):gb593 ≠ gb598));have n9_:=aM ((by rw [hg];exact Nat.ne_of_gt (blk_lt (g:=gb593) (o:=.cells #[.int .i64 (rd t588 x11_1)] 3 (0,0)) bk):gb598 ≠ gb593));clear HO_3;clear HO_9;clear HO597;clear BK593;clear HB;have HO_3:=n0_;have HO_9:=n1_;have HO597:=n2_;have BK593:=n3_;have HB:=n4_;have BK598:=n5_;have GW598:=n6_;have GE598:=n7_;have NB593_598:=n8_;have NB598_593:=n9_;clear n0_ n1_ n2_ n3_ n4_ n5_ n6_ n7_ n8_ n9_;clear hb hbox hg;have hnb34:=NB598_593.out;have hnc34:=NB593_598.out;have hcz35_0:w33.cell? ⟨gb598,0,none⟩ = some (.int .i64 0):=(blk_cell BK598.out 0).trans rfl;have hcz35_1:w33.cell? ⟨gb598,1,none⟩ = some (.slice none 0 0):=(blk_cell BK598.out 1).trans rfl;have hfz35_0:=blk_frozen BK598.out 0;have hfz35_1:=blk_frozen BK598.out 1;obtain ⟨Ao36,co36,eo36⟩:=Kd.R_slice HO597.out;subst eo36))
            have n0_:Aside0 (Kd.R k_impl_Game 28 ((w33.setCell ⟨gb598,0,none⟩ (.int .i64 t594)).setCell ⟨gb598,1,none⟩ (.slice Ao36 t595.length co36)) w.heap.size (fun k_=>some k_ ≠ (.slice (some ad592) t588.length co6:Value).ownBlock ∧ k_ ≠ gb593) u3 x3_1):=⟨by (with_reducible repeat (first|apply Kd.R_alloc|apply Kd.R_drewN|apply Kd.R_drew));exact Kd.R_mono (Kd.R_far (p:=⟨gb598,1,none⟩) (Kd.R_far (p:=⟨gb598,0,none⟩) (Kd.R_types HO_3.out BK598.out (by decide)) (fun _ hk=>hk.2) (.int .i64 t594)) (fun _ hk=>hk.2) (.slice Ao36 t595.length co36)) (fun _ hk=>⟨hk.1.1,hk.1.2⟩)⟩;have n1_:Aside0 (Kd.R (Kd.int .i64) 3 ((w33.setCell ⟨gb598,0,none⟩ (.int .i64 t594)).setCell ⟨gb598,1,none⟩ (.slice Ao36 t595.length co36)) w.heap.size (fun k_=>k_ ≠ gb593) (.slice (some ad592) t588.length co6) t588):=⟨by (with_reducible repeat (first|apply Kd.R_alloc|apply Kd.R_drewN|apply Kd.R_drew));exact Kd.R_mono (Kd.R_far (p:=⟨gb598,1,none⟩) (Kd.R_far (p:=⟨gb598,0,none⟩) (Kd.R_types HO_9.out BK598.out (by decide)) (fun _ hk=>hk.2) (.int .i64 t594)) (fun _ hk=>hk.2) (.slice Ao36 t595.length co36)) (fun _ hk=>hk.1.2)⟩;have n2_:Aside0 (Kd.R Kd.bool 4 ((w33.setCell ⟨gb598,0,none⟩ (.int .i64 t594)).setCell ⟨gb598,1,none⟩ (.slice Ao36 t595.length co36)) w.heap.size (fun _=>True) (.slice Ao36 t595.length co36) t595):=⟨by (with_reducible repeat (first|apply Kd.R_alloc|apply Kd.R_drewN|apply Kd.R_drew));exact Kd.R_mono (Kd.R_far (p:=⟨gb598,1,none⟩) (Kd.R_far (p:=⟨gb598,0,none⟩) (Kd.R_types HO597.out BK598.out (by decide)) (fun _ hk=>hk.2) (.int .i64 t594)) (fun _ hk=>hk.2) (.slice Ao36 t595.length co36)) (fun _ hk=>trivial)⟩;have n3_:Aside0 (((w33.setCell ⟨gb598,0,none⟩ (.int .i64 t594)).setCell ⟨gb598,1,none⟩ (.slice Ao36 t595.length co36)).heap[gb593]? = some (.cells #[.int .i64 (rd t588 x11_1)] 3 (0,0))):=⟨by (with_reducible repeat (first|refine blk_drewN ?_ _|refine blk_drew ?_|refine blk_alloc ?_ _));refine blk_far ?_ NB593_598.out _;(with_reducible repeat (first|refine blk_drewN ?_ _|refine blk_drew ?_|refine blk_alloc ?_ _));refine blk_far ?_ NB593_598.out _;(with_reducible repeat (first|refine blk_drewN ?_ _|refine blk_drew ?_|refine blk_alloc ?_ _));exact BK593.out⟩;have n4_:Aside0 (((w33.setCell ⟨gb598,0,none⟩ (.int .i64 t594)).setCell ⟨gb598,1,none⟩ (.slice Ao36 t595.length co36)).heap[gb598]? = some (.cells #[.int .i64 t594,.slice Ao36 t595.length co36] 68 (0,0))):=⟨by (with_reducible repeat (first|refine blk_drewN ?_ _|refine blk_drew ?_|refine blk_alloc ?_ _));refine blk_put (cs:=#[.int .i64 t594,.slice none 0 0]) ?_ 1 _ rfl;(with_reducible repeat (first|refine blk_drewN ?_ _|refine blk_drew ?_|refine blk_alloc ?_ _));refine blk_put (cs:=#[.int .i64 0,.slice none 0 0]) ?_ 0 _ rfl;(with_reducible repeat (first|refine blk_drewN ?_ _|refine blk_drew ?_|refine blk_alloc ?_ _));exact BK598.out⟩;have n5_:Aside0 (Below w.heap.size w ((w33.setCell ⟨gb598,0,none⟩ (.int .i64 t594)).setCell ⟨gb598,1,none⟩ (.slice Ao36 t595.length co36))):=⟨by exact bw⟩;(try clear HO_3)
            (try clear HO_9)
            (try clear HO597)
            (try clear BK593)
            (try clear BK598)
            (try clear HB)
            generalize ((w33.setCell ⟨gb598,0,none⟩ (.int .i64 t594)).setCell ⟨gb598,1,none⟩ (.slice Ao36 t595.length co36)) = w37 at n0_ n1_ n2_ n3_ n4_ n5_ ⊢
            have HO_3:=n0_;have HO_9:=n1_;have HO597:=n2_;have BK593:=n3_;have BK598:=n4_;have HB:=n5_;clear n0_ n1_ n2_ n3_ n4_ n5_;have n0_:=aM (Kd.R_drew HO_3.out);have n1_:=aM (Kd.R_drew HO_9.out);have n2_:=aM (Kd.R_drew HO597.out);have n3_:=aM (blk_drew BK593.out);have n4_:=aM (blk_drew BK598.out);have n5_:=aM (below_drew1 HB.out);clear HO_3;clear HO_9;clear HO597;clear BK593;clear BK598;clear HB;have HO_3:=n0_;have HO_9:=n1_;have HO597:=n2_;have BK593:=n3_;have BK598:=n4_;have HB:=n5_;clear n0_ n1_ n2_ n3_ n4_ n5_;have p599:0 ≤ (0:Int):=(by omega);have q599:0 < (t595.length:Int):=of_decide_eq_true ab;obtain ⟨ad599,e599,hx599_0⟩:=Kd.at_bool (Kd.R_reads' HO597.out).2.2 0 p599 q599;(try rw [← Nbq12.out] at hx599_0)
            (try rw [← Nbq26.out] at hx599_0)
            cases e599
            have qi599:(0 < t595.length) = True:=eq_true (by omega);(try rw [show ((0:Int)).toNat = 0 from rfl] at hx599_0)
            (try rw [Addr.add_zero'] at hx599_0)
            replace p599:=eq_true p599;replace q599:=eq_true q599;have p601:0 ≤ (t600:Int):=of_decide_eq_true ab;have q601:t600 < (t595.length:Int):=of_decide_eq_true ab;obtain ⟨ad601,e601,hx601_0⟩:=Kd.at_bool (Kd.R_reads' HO597.out).2.2 t600 p601 q601;(try rw [← Nbq12.out] at hx601_0)
            (try rw [← Nbq26.out] at hx601_0)
            obtain rfl:ad599 = ad601:=(by injection e601);replace p601:=eq_true p601;replace q601:=eq_true q601;refine start_ (n:=13) (S:=fun w'=>w'.cell? ⟨gb598,0,none⟩ = some (.int .i64 t594) ∧ w'.cell? ⟨gb598,1,none⟩ = some (.slice (some ad599) t595.length co36) ∧ w'.cell? ad599 = some (.bool false) ∧ w'.cell? (ad599.add (t600).toNat) = some (.bool true)) (ds:=[]) (mA 13 0) kR rfl rfl ⟨(blk_cell BK598.out 0).trans rfl,(blk_cell BK598.out 1).trans rfl,hx599_0,hx601_0⟩ (fun hHeld=>?_);refine with_tabW impl_allGames.tab6 impl_allGames.bits6 (fun HT_ HW_=>?_)
            generalize w37.drew = w38 at HO_3 HO_9 HO597 BK593 BK598 HB hx599_0 hx601_0 hHeld ⊢
            refine pure_ (i:=0) (N:=some 18) (v:=?_) (a':=?_) (mA 13 1) rfl rfl (any_of HT_.out kR) (fun _ _ _ h=>h) (Or.inl ⟨by rfl,?_⟩) ?_ ?_;rotate_left
            ·intro w';go_simp
             with_reducible rfl
            rotate_left
            ·simp only [Act.put,sA,sZ,sS,i64_w,i32_w];rfl
            refine take_ (i:=1) (N:=some 19) (v:=?_) (a':=?_) (mA 13 3) rfl rfl (take_ofW HT_.out HW_.out kR) (fun _ _ _ h=>h) (Or.inl ⟨by rfl,?_⟩) hHeld ?_ ?_;rotate_left
            ·rintro w' ⟨s0,s1,s2,s3⟩
             go_simp
             with_reducible rfl
            rotate_left
            ·simp only [Act.put,sA,sZ,sS,i64_w,i32_w];rfl
            refine pure_ (i:=2) (N:=some 20) (v:=?_) (a':=?_) (mA 13 7) rfl rfl (any_of HT_.out kR) (fun _ _ _ h=>h) (Or.inl ⟨by rfl,?_⟩) ?_ ?_;rotate_left
            ·intro w';go_simp
             with_reducible rfl
            rotate_left
            ·simp only [Act.put,sA,sZ,sS,i64_w,i32_w];rfl
            refine take_ (i:=3) (N:=some 21) (v:=?_) (a':=?_) (mA 13 15) rfl rfl (take_ofW HT_.out HW_.out kR) (fun _ _ _ h=>h) (Or.inl ⟨by rfl,?_⟩) hHeld ?_ ?_;rotate_left
            ·rintro w' ⟨s0,s1,s2,s3⟩
             go_simp
             with_reducible rfl
            rotate_left
            ·simp only [Act.put,sA,sZ,sS,i64_w,i32_w];rfl
            refine pure_ (i:=4) (N:=some 22) (v:=?_) (a':=?_) (mA 13 31) rfl rfl (any_of HT_.out kR) (fun _ _ _ h=>h) (Or.inl ⟨by rfl,?_⟩) ?_ ?_;rotate_left
            ·intro w';go_simp
             with_reducible rfl
            rotate_left
            ·simp only [Act.put,sA,sZ,sS,i64_w,i32_w];rfl
            refine pure_ (i:=5) (N:=some 23) (v:=?_) (a':=?_) (mA 13 63) rfl rfl (any_of HT_.out kR) (fun _ _ _ h=>h) (Or.inl ⟨by rfl,?_⟩) ?_ ?_;rotate_left
            ·intro w';go_simp
             with_reducible rfl
            rotate_left
            ·simp only [Act.put,sA,sZ,sS,i64_w,i32_w];rfl
            refine pure_ (i:=6) (N:=some 24) (v:=?_) (a':=?_) (mA 13 127) rfl rfl (any_of HT_.out kR) (fun _ _ _ h=>h) (Or.inl ⟨by rfl,?_⟩) ?_ ?_;rotate_left
            ·intro w';go_simp
             with_reducible rfl
            rotate_left
            ·simp only [Act.put,sA,sZ,sS,i64_w,i32_w];rfl
            refine take_ (i:=7) (N:=some 25) (v:=?_) (a':=?_) (mA 13 255) rfl rfl (take_ofW HT_.out HW_.out kR) (fun _ _ _ h=>h) (Or.inl ⟨by rfl,?_⟩) hHeld ?_ ?_;rotate_left
            ·rintro w' ⟨s0,s1,s2,s3⟩
             go_simp
             with_reducible rfl
            rotate_left
            ·simp only [Act.put,sA,sZ,sS,i64_w,i32_w];rfl
            refine take_ (i:=8) (N:=some 26) (v:=?_) (a':=?_) (mA 13 511) rfl rfl (take_ofW HT_.out HW_.out kR) (fun _ _ _ h=>h) (Or.inl ⟨by rfl,?_⟩) hHeld ?_ ?_;rotate_left
            ·rintro w' ⟨s0,s1,s2,s3⟩
             go_simp
             with_reducible rfl
            rotate_left
            ·simp only [Act.put,sA,sZ,sS,i64_w,i32_w];rfl
            refine one_ (i:=9) (N:=some 27) (mA 13 1023) rfl rfl (one_of HT_.out kR) (by decide) (fun K hK=>?_);refine goes_ Try.func137 kR rfl #[.agg #[.int .i64 t594,.slice (some ad599) t595.length co36]] (by rfl) rfl rfl mq ?_
            with_reducible refine (impl_votes_all.calls t594 _ _ t595 t600 _ ?side1 ?side2 A23.out).mono ?_
            (case side1=>repeat (first|exact (Kd.R_reads' HO597.out).2.2|(with_reducible refine Kd.C_alloc ?_ _)|(with_reducible refine Kd.C_drewN ?_ _)|(with_reducible refine Kd.C_drew ?_)))
            (case side2=>exact (Kd.R_reads' HO597.out).2.1)
            rintro e w39 ⟨rfl,hb⟩
            have HS2_:=(hb.cell (World.block_lt_of_cell? _ _ (hHeld.2.2.1))).trans (hHeld.2.2.1);have HS3_:=(hb.cell (World.block_lt_of_cell? _ _ (hHeld.2.2.2))).trans (hHeld.2.2.2);refine ⟨_,rfl,?_⟩;have n0_:=aM (Kd.R_below (qra HO_3.out) hb);have n1_:=aM (Kd.R_below (qra HO_9.out) hb);have n2_:=aM (Kd.R_below (qra HO597.out) hb);have n3_:=aM (blk_below (g:=gb593) (o:=.cells #[.int .i64 (rd t588 x11_1)] 3 (0,0)) bk hb);have n4_:=aM (blk_below (g:=gb598) (o:=.cells #[.int .i64 t594,.slice (some ad599) t595.length co36] 68 (0,0)) bk hb);have n5_:=aM (below_step bw hb);clear HO_3;clear HO_9;clear HO597;clear BK593;clear BK598;clear HB;have HO_3:=n0_;have HO_9:=n1_;have HO597:=n2_;have BK593:=n3_;have BK598:=n4_;have HB:=n5_;clear n0_ n1_ n2_ n3_ n4_ n5_;(try clear hb)
            (try clear hb2)
            (try clear hk)
            (try clear hi)
            refine hK.out _ _ ⟨(blk_cell BK598.out 0).trans rfl,(blk_cell BK598.out 1).trans rfl,HS2_,HS3_⟩ (fun hHeld=>?_);clear hK K;refine norm_ (a':=?_) ?_ ?_;rotate_left
            ·show Act.put _ (some 27) _ = _;simp only [Act.put,sA,sZ,sS,i64_w,i32_w];rfl
            refine pure_ (i:=10) (N:=some 28) (v:=?_) (a':=?_) (mA 13 2047) rfl rfl (any_of HT_.out kR) (fun _ _ _ h=>h) (Or.inl ⟨by rfl,?_⟩) ?_ ?_;rotate_left
            ·intro w';go_simp
             with_reducible rfl
            rotate_left
            ·simp only [Act.put,sA,sZ,sS,i64_w,i32_w];rfl
            refine take_ (i:=11) (N:=some 29) (v:=?_) (a':=?_) (mA 13 4095) rfl rfl (take_ofW HT_.out HW_.out kR) (fun _ _ _ h=>h) (Or.inl ⟨by rfl,?_⟩) hHeld ?_ ?_;rotate_left
            ·rintro w' ⟨s0,s1,s2,s3⟩
             go_simp
             with_reducible rfl
            rotate_left
            ·simp only [Act.put,sA,sZ,sS,i64_w,i32_w];rfl
            refine pure_ (i:=12) (N:=some 30) (v:=?_) (a':=?_) (mA 13 8191) rfl rfl (any_of HT_.out kR) (fun _ _ _ h=>h) (Or.inl ⟨by rfl,?_⟩) ?_ ?_;rotate_left
            ·intro w';go_simp
             with_reducible rfl
            rotate_left
            ·simp only [Act.put,sA,sZ,sS,i64_w,i32_w];rfl
            refine done_ (done_of HT_.out kR) ?_;have hcz40_0:w39.cell? ⟨gb598,0,none⟩ = some (.int .i64 t594):=(blk_cell BK598.out 0).trans rfl;have hcz40_1:w39.cell? ⟨gb598,1,none⟩ = some (.slice (some ad599) t595.length co36):=(blk_cell BK598.out 1).trans rfl;have hfz40_0:=blk_frozen BK598.out 0;have hfz40_1:=blk_frozen BK598.out 1
            try go_wp2_with (first|((with_reducible refine gate_callee (f:=74) rfl ?_);refine goesL_ (some 33) rfl rfl Try.func74 kR rfl #[.agg #[.int .i64 t594,.slice (some ad599) t595.length co36]] rfl mq ?_;(with_reducible refine (impl_votes_game.calls k1 t594 _ _ t595 t602 t603 _ ?side1 ?side2 A28.out).mono ?_);(case side1=>repeat (first|exact (Kd.R_reads' HO597.out).2.2|(with_reducible refine Kd.C_alloc ?_ _)|(with_reducible refine Kd.C_drewN ?_ _)|(with_reducible refine Kd.C_drew ?_)));(case side2=>exact (Kd.R_reads' HO597.out).2.1);rintro e w41 ⟨v604,rfl,ho0,hb⟩;refine ⟨_,rfl,?_⟩;have n0_:=aM (Kd.R_elder' (qra HO_3.out) (Kd.S_base ho0) hb);have n1_:=aM (Kd.R_below (qra HO_9.out) hb);have n2_:=aM (Kd.R_below (qra HO597.out) hb);have n3_:=aM (Kd.S_lower (Kd.S_newB (Kd.S_new' ho0 (Kd.R_lt (qra HO_9.out))) (g:=gb593) (o:=.cells #[.int .i64 (rd t588 x11_1)] 3 (0,0)) bk) (below_size bw));have n4_:=aM (blk_below (g:=gb593) (o:=.cells #[.int .i64 (rd t588 x11_1)] 3 (0,0)) bk hb);have n5_:=aM (blk_below (g:=gb598) (o:=.cells #[.int .i64 t594,.slice (some ad599) t595.length co36] 68 (0,0)) bk hb);have n6_:=aM (below_step bw hb);clear HO_3;clear HO_9;clear HO597;clear BK593;clear BK598;clear HB;have HO_3:=n0_;have HO_9:=n1_;have HO597:=n2_;have HO605:=n3_;have BK593:=n4_;have BK598:=n5_;have HB:=n6_;clear n0_ n1_ n2_ n3_ n4_ n5_ n6_;(try clear hb);(try clear hb2);(try clear hk);(try clear hi);(try clear ho0);obtain ⟨Ao43,co43,eo43⟩:=Kd.S_slice HO605.out;subst eo43)|((with_reducible refine gate_builtin (b:=.append) (xs:=#[.tmp 31,.tmp 34]) rfl ?_);at_builtin;refine Kd.R_append k_impl_Game (w0:=w) w.heap.size rfl (.tmp 31) (.tmp 34) 106 28 (.agg #[(.int .i64 0),(.slice none 0 0)]) 32 rfl Try.underlying106 info28 rfl (by decide) (by omega) u3 x3_1 (⟨t602,t603⟩:S_impl_Game) [.int .i64 t602,.slice Ao43 t603.length co43] (fun k_=>some k_ ≠ (.slice (some ad592) t588.length co6:Value).ownBlock ∧ k_ ≠ gb593) (fun k_=>((fun k_=>some k_ ≠ (.slice (some ad592) t588.length co6:Value).ownBlock ∧ k_ ≠ gb593)) k_ ∧ some k_ ≠ (u3:Value).ownBlock) rfl rfl ?aP (fun _ hk=>hk) ?aF ?aO ?aB ?aS ?aL ?_;(case aP=>exact k_impl_Game_mkM _ _ _ (⟨t602,t603⟩:S_impl_Game) (Kd.R_mono (Kd.R_apart' ((Kd.S_R HO605.out)) (Kd.R_typed HO_3.out) (by decide)) (fun k_ hk=>⟨⟨hk.1.1.2,hk.1.2⟩,hk.2⟩)));(case aB=>exact bw);(case aF=>exact (fun k_ hk=>⟨Kd.fresh' (Kd.R_lt (qra HO_9.out)) k_ hk,Kd.freshB (g:=gb593) (o:=.cells #[.int .i64 (rd t588 x11_1)] 3 (0,0)) bk k_ hk⟩));(case aO=>exact (by (with_reducible repeat (first|apply Kd.R_alloc|apply Kd.R_drewN|apply Kd.R_drew));exact Kd.R_mono HO_3.out (fun _ hk=>⟨hk.1.1,hk.1.2⟩)));(case aS=>exact (below_size bw));(case aL=>have:=LMc29.out;omega);intro v607 w42 ho hb hg hat;rw [← Ny606.out] at ho;have n0_:=aM (Kd.R_over' (qra HO_9.out) (Kd.R_typed (qra HO_3.out)) (by decide) hg);have n1_:=aM (blk_grown (g:=gb593) (o:=.cells #[.int .i64 (rd t588 x11_1)] 3 (0,0)) bk hg (Kd.R_ne HO_3.out BK593.out (by decide)));have n2_:=aM (Kd.R_over' (qra HO597.out) (Kd.R_typed (qra HO_3.out)) (by decide) hg);have n3_:=aM (blk_grown (g:=gb598) (o:=.cells #[.int .i64 t594,.slice (some ad599) t595.length co36] 68 (0,0)) bk hg (Kd.R_ne HO_3.out BK598.out (by decide)));have n4_:=aM (hb);have n5_:=aM (ho);clear HO_9;clear BK593;clear HO597;clear BK598;clear HB;clear HO_3;clear HO605;have HO_9:=n0_;have BK593:=n1_;have HO597:=n2_;have BK598:=n3_;have HB:=n4_;have HO608:=n5_;clear n0_ n1_ n2_ n3_ n4_ n5_;clear ho hb hg hat))
            go_roundg k1
            case measure=>have:=HK1.out;omega
            case rel=>exact ⟨(y606),(wrap64 (x11_1 + 1)),qrs,H',⟨by have:=HK1.out;omega⟩,⟨by (with_reducible repeat (first|apply Kd.R_alloc|apply Kd.R_drewN|apply Kd.R_drew));exact Kd.R_mono HO608.out (fun _ hk=>hk.1)⟩,⟨by (with_reducible repeat (first|apply Kd.R_alloc|apply Kd.R_drewN|apply Kd.R_drew));exact Kd.R_mono HO_9.out (fun _ hk=>trivial)⟩,⟨by exact bw⟩⟩
           ·rw [if_neg c29] at H;exact absurd H (by simp)
          ·replace c27:=Bool.eq_false_iff.mpr c27;subst c27;have H1:(impl_allGames.l0 k1 a0 x3_1 t588 (t588.length:Int) (wrap64 (x11_1 + 1))) = some r:=by rw [if_neg (show ¬ (false = true) by decide)] at H;exact H
           clear H;have H:=H1;clear H1;have H':=aM H;clear H;have p592:0 ≤ (x11_1:Int):=of_decide_eq_true ab;have q592:x11_1 < (t588.length:Int):=of_decide_eq_true ab;obtain ⟨ad592,e592,hx592_0⟩:=Kd.at_int (Kd.R_reads' HO_9.out).2.2 x11_1 p592 q592;cases e592
           replace p592:=eq_true p592;replace q592:=eq_true q592
           try go_wp2_with (first|((with_reducible refine gate_dst (N:=5) rfl ?_);refine box_event ?hg (N:=5) ?hd (cs:=#[.int .i64 0]) (t:=3) ?hr ?_;(case hd=>rfl);(case hg=>rfl);(case hr=>first|(go_simp;done)|(go_simp;rfl));intro gb593 hg w44 hbox hb;have n0_:=aM (Kd.R_below (Kd.R_elderB (qra HO_3.out) gb593 (Nat.le_of_eq hg.symm)) hb);have n1_:=aM (Kd.R_below (Kd.R_elderB (qra HO_9.out) gb593 (Nat.le_of_eq hg.symm)) hb);have n2_:=aM (below_step bw hb);have n3_:=aM (hbox);have n4_:=aM ((by rw [hg];exact (below_size bw):w.heap.size ≤ gb593));have n5_:=aM ((by rw [hg];exact (below_size bw):w.heap.size ≤ gb593));clear HO_3;clear HO_9;clear HB;have HO_3:=n0_;have HO_9:=n1_;have HB:=n2_;have BK593:=n3_;have GW593:=n4_;have GE593:=n5_;clear n0_ n1_ n2_ n3_ n4_ n5_;clear hb hbox hg;have hcz45_0:w44.cell? ⟨gb593,0,none⟩ = some (.int .i64 0):=(blk_cell BK593.out 0).trans rfl;have hfz45_0:=blk_frozen BK593.out 0)|((with_reducible refine gate_callee (f:=71) rfl ?_);refine goesL_ (some 17) rfl rfl Try.func71 kR rfl #[.int .i64 a0,.func (.func 136) #[] #[.pointer (some ⟨gb593,0,none⟩)]] rfl mq ?_;(with_reducible refine (impl_votesOf.calls k1 a0 (fun y0_=>impl_allGames_1.f y0_ (rd t588 x11_1)) 136 #[.pointer (some ⟨gb593,0,none⟩)] impl_allGames_1.enters t594 t595 _ ?side1 A10.out).mono ?_);(case side1=>exact (fun W_ a0_ r0_ hx_ hb_ =>(impl_allGames_1.calls a0_ gb593 (rd t588 x11_1) r0_ W_  (box_later (by (with_reducible repeat (first|refine blk_drewN ?_ _|refine blk_drew ?_|refine blk_alloc ?_ _));refine blk_put (cs:=#[.int .i64 0]) ?_ 0 _ rfl;(with_reducible repeat (first|refine blk_drewN ?_ _|refine blk_drew ?_|refine blk_alloc ?_ _));exact BK593.out) hb_) hx_).mono (fun _ _ h_=>⟨h_.1,h_.2.below⟩)));rintro e w46 ⟨v596,rfl,ho0,hb⟩;refine ⟨_,rfl,?_⟩;have n0_:=aM (Kd.R_below (by (with_reducible repeat (first|apply Kd.R_alloc|apply Kd.R_drewN|apply Kd.R_drew));exact (Kd.R_mono (Kd.R_far (p:=⟨gb593,0,none⟩) (Kd.R_mono HO_3.out (fun k_ hk=>(⟨hk,hk.2⟩:_ ∧ k_ ≠ gb593))) (fun _ hk=>hk.2) (.int .i64 (rd t588 x11_1))) (fun _ h_=>h_.1))) hb);have n1_:=aM (Kd.R_below (by (with_reducible repeat (first|apply Kd.R_alloc|apply Kd.R_drewN|apply Kd.R_drew));exact (Kd.R_mono (Kd.R_far (p:=⟨gb593,0,none⟩) (Kd.R_mono HO_9.out (fun k_ hk=>(⟨hk,hk.2⟩:_ ∧ k_ ≠ gb593))) (fun _ hk=>hk.2) (.int .i64 (rd t588 x11_1))) (fun _ h_=>h_.1))) hb);have n2_:=aM (Kd.R_lower ho0 (below_size bw));have n3_:=aM (blk_below (g:=gb593) (o:=.cells #[.int .i64 (rd t588 x11_1)] 3 (0,0)) (by (with_reducible repeat (first|refine blk_drewN ?_ _|refine blk_drew ?_|refine blk_alloc ?_ _));refine blk_put (cs:=#[.int .i64 0]) ?_ 0 _ rfl;(with_reducible repeat (first|refine blk_drewN ?_ _|refine blk_drew ?_|refine blk_alloc ?_ _));exact BK593.out) hb);have n4_:=aM (below_step bw hb);clear HO_3;clear HO_9;clear BK593;clear HB;have HO_3:=n0_;have HO_9:=n1_;have HO597:=n2_;have BK593:=n3_;have HB:=n4_;clear n0_ n1_ n2_ n3_ n4_;(try clear hb);(try clear hb2);(try clear hk);(try clear hi);(try clear ho0))|((with_reducible refine gate_dst (N:=6) rfl ?_);refine box_event ?hg (N:=6) ?hd (cs:=#[.int .i64 0,.slice none 0 0]) (t:=68) ?hr ?_;(case hd=>rfl);(case hg=>rfl);(case hr=>first|(go_simp;done)|(go_simp;rfl));intro gb598 hg w47 hbox hb;have n0_:=aM (Kd.R_below (qra HO_3.out) hb);have n1_:=aM (Kd.R_below (qra HO_9.out) hb);have n2_:=aM (Kd.R_below (qra HO597.out) hb);have n3_:=aM (blk_below (g:=gb593) (o:=.cells #[.int .i64 (rd t588 x11_1)] 3 (0,0)) bk hb);have n4_:=aM (below_step bw hb);have n5_:=aM (hbox);have n6_:=aM ((by rw [hg];exact (below_size bw):w.heap.size ≤ gb598));have n7_:=aM ((by rw [hg];exact (below_size bw):w.heap.size ≤ gb598));have n8_:=aM ((by rw [hg];exact Nat.ne_of_lt (blk_lt (g:=gb593) (o:=.cells #[.int .i64 (rd t588 x11_1)] 3 (0,0)) bk):gb593 ≠ gb598));have n9_:=aM ((by rw [hg];exact Nat.ne_of_gt (blk_lt (g:=gb593) (o:=.cells #[.int .i64 (rd t588 x11_1)] 3 (0,0)) bk):gb598 ≠ gb593));clear HO_3;clear HO_9;clear HO597;clear BK593;clear HB;have HO_3:=n0_;have HO_9:=n1_;have HO597:=n2_;have BK593:=n3_;have HB:=n4_;have BK598:=n5_;have GW598:=n6_;have GE598:=n7_;have NB593_598:=n8_;have NB598_593:=n9_;clear n0_ n1_ n2_ n3_ n4_ n5_ n6_ n7_ n8_ n9_;clear hb hbox hg;have hnb48:=NB598_593.out;have hnc48:=NB593_598.out;have hcz49_0:w47.cell? ⟨gb598,0,none⟩ = some (.int .i64 0):=(blk_cell BK598.out 0).trans rfl;have hcz49_1:w47.cell? ⟨gb598,1,none⟩ = some (.slice none 0 0):=(blk_cell BK598.out 1).trans rfl;have hfz49_0:=blk_frozen BK598.out 0;have hfz49_1:=blk_frozen BK598.out 1;obtain ⟨Ao50,co50,eo50⟩:=Kd.R_slice HO597.out;subst eo50))
           have n0_:Aside0 (Kd.R k_impl_Game 28 ((w47.setCell ⟨gb598,0,none⟩ (.int .i64 t594)).setCell ⟨gb598,1,none⟩ (.slice Ao50 t595.length co50)) w.heap.size (fun k_=>some k_ ≠ (.slice (some ad592) t588.length co6:Value).ownBlock ∧ k_ ≠ gb593) u3 x3_1):=⟨by (with_reducible repeat (first|apply Kd.R_alloc|apply Kd.R_drewN|apply Kd.R_drew));exact Kd.R_mono (Kd.R_far (p:=⟨gb598,1,none⟩) (Kd.R_far (p:=⟨gb598,0,none⟩) (Kd.R_types HO_3.out BK598.out (by decide)) (fun _ hk=>hk.2) (.int .i64 t594)) (fun _ hk=>hk.2) (.slice Ao50 t595.length co50)) (fun _ hk=>⟨hk.1.1,hk.1.2⟩)⟩;have n1_:Aside0 (Kd.R (Kd.int .i64) 3 ((w47.setCell ⟨gb598,0,none⟩ (.int .i64 t594)).setCell ⟨gb598,1,none⟩ (.slice Ao50 t595.length co50)) w.heap.size (fun k_=>k_ ≠ gb593) (.slice (some ad592) t588.length co6) t588):=⟨by (with_reducible repeat (first|apply Kd.R_alloc|apply Kd.R_drewN|apply Kd.R_drew));exact Kd.R_mono (Kd.R_far (p:=⟨gb598,1,none⟩) (Kd.R_far (p:=⟨gb598,0,none⟩) (Kd.R_types HO_9.out BK598.out (by decide)) (fun _ hk=>hk.2) (.int .i64 t594)) (fun _ hk=>hk.2) (.slice Ao50 t595.length co50)) (fun _ hk=>hk.1.2)⟩;have n2_:Aside0 (Kd.R Kd.bool 4 ((w47.setCell ⟨gb598,0,none⟩ (.int .i64 t594)).setCell ⟨gb598,1,none⟩ (.slice Ao50 t595.length co50)) w.heap.size (fun _=>True) (.slice Ao50 t595.length co50) t595):=⟨by (with_reducible repeat (first|apply Kd.R_alloc|apply Kd.R_drewN|apply Kd.R_drew));exact Kd.R_mono (Kd.R_far (p:=⟨gb598,1,none⟩) (Kd.R_far (p:=⟨gb598,0,none⟩) (Kd.R_types HO597.out BK598.out (by decide)) (fun _ hk=>hk.2) (.int .i64 t594)) (fun _ hk=>hk.2) (.slice Ao50 t595.length co50)) (fun _ hk=>trivial)⟩;have n3_:Aside0 (((w47.setCell ⟨gb598,0,none⟩ (.int .i64 t594)).setCell ⟨gb598,1,none⟩ (.slice Ao50 t595.length co50)).heap[gb593]? = some (.cells #[.int .i64 (rd t588 x11_1)] 3 (0,0))):=⟨by (with_reducible repeat (first|refine blk_drewN ?_ _|refine blk_drew ?_|refine blk_alloc ?_ _));refine blk_far ?_ NB593_598.out _;(with_reducible repeat (first|refine blk_drewN ?_ _|refine blk_drew ?_|refine blk_alloc ?_ _));refine blk_far ?_ NB593_598.out _;(with_reducible repeat (first|refine blk_drewN ?_ _|refine blk_drew ?_|refine blk_alloc ?_ _));exact BK593.out⟩;have n4_:Aside0 (((w47.setCell ⟨gb598,0,none⟩ (.int .i64 t594)).setCell ⟨gb598,1,none⟩ (.slice Ao50 t595.length co50)).heap[gb598]? = some (.cells #[.int .i64 t594,.slice Ao50 t595.length co50] 68 (0,0))):=⟨by (with_reducible repeat (first|refine blk_drewN ?_ _|refine blk_drew ?_|refine blk_alloc ?_ _));refine blk_put (cs:=#[.int .i64 t594,.slice none 0 0]) ?_ 1 _ rfl;(with_reducible repeat (first|refine blk_drewN ?_ _|refine blk_drew ?_|refine blk_alloc ?_ _));refine blk_put (cs:=#[.int .i64 0,.slice none 0 0]) ?_ 0 _ rfl;(with_reducible repeat (first|refine blk_drewN ?_ _|refine blk_drew ?_|refine blk_alloc ?_ _));exact BK598.out⟩;have n5_:Aside0 (Below w.heap.size w ((w47.setCell ⟨gb598,0,none⟩ (.int .i64 t594)).setCell ⟨gb598,1,none⟩ (.slice Ao50 t595.length co50))):=⟨by exact bw⟩;(try clear HO_3)
           (try clear HO_9)
           (try clear HO597)
           (try clear BK593)
           (try clear BK598)
           (try clear HB)
           generalize ((w47.setCell ⟨gb598,0,none⟩ (.int .i64 t594)).setCell ⟨gb598,1,none⟩ (.slice Ao50 t595.length co50)) = w51 at n0_ n1_ n2_ n3_ n4_ n5_ ⊢
           have HO_3:=n0_;have HO_9:=n1_;have HO597:=n2_;have BK593:=n3_;have BK598:=n4_;have HB:=n5_;clear n0_ n1_ n2_ n3_ n4_ n5_;have n0_:=aM (Kd.R_drew HO_3.out);have n1_:=aM (Kd.R_drew HO_9.out);have n2_:=aM (Kd.R_drew HO597.out);have n3_:=aM (blk_drew BK593.out);have n4_:=aM (blk_drew BK598.out);have n5_:=aM (below_drew1 HB.out);clear HO_3;clear HO_9;clear HO597;clear BK593;clear BK598;clear HB;have HO_3:=n0_;have HO_9:=n1_;have HO597:=n2_;have BK593:=n3_;have BK598:=n4_;have HB:=n5_;clear n0_ n1_ n2_ n3_ n4_ n5_;have p599:0 ≤ (0:Int):=(by omega);have q599:0 < (t595.length:Int):=of_decide_eq_true ab;obtain ⟨ad599,e599,hx599_0⟩:=Kd.at_bool (Kd.R_reads' HO597.out).2.2 0 p599 q599;(try rw [← Nbq12.out] at hx599_0)
           (try rw [← Nbq26.out] at hx599_0)
           cases e599
           have qi599:(0 < t595.length) = True:=eq_true (by omega);(try rw [show ((0:Int)).toNat = 0 from rfl] at hx599_0)
           (try rw [Addr.add_zero'] at hx599_0)
           replace p599:=eq_true p599;replace q599:=eq_true q599;have p601:0 ≤ (t600:Int):=of_decide_eq_true ab;have q601:t600 < (t595.length:Int):=of_decide_eq_true ab;obtain ⟨ad601,e601,hx601_0⟩:=Kd.at_bool (Kd.R_reads' HO597.out).2.2 t600 p601 q601;(try rw [← Nbq12.out] at hx601_0)
           (try rw [← Nbq26.out] at hx601_0)
           obtain rfl:ad599 = ad601:=(by injection e601);replace p601:=eq_true p601;replace q601:=eq_true q601;refine start_ (n:=13) (S:=fun w'=>w'.cell? ⟨gb598,0,none⟩ = some (.int .i64 t594) ∧ w'.cell? ⟨gb598,1,none⟩ = some (.slice (some ad599) t595.length co50) ∧ w'.cell? ad599 = some (.bool false) ∧ w'.cell? (ad599.add (t600).toNat) = some (.bool false)) (ds:=[]) (mA 13 0) kR rfl rfl ⟨(blk_cell BK598.out 0).trans rfl,(blk_cell BK598.out 1).trans rfl,hx599_0,hx601_0⟩ (fun hHeld=>?_);refine with_tabW impl_allGames.tab6 impl_allGames.bits6 (fun HT_ HW_=>?_)
           generalize w51.drew = w52 at HO_3 HO_9 HO597 BK593 BK598 HB hx599_0 hx601_0 hHeld ⊢
           refine pure_ (i:=0) (N:=some 18) (v:=?_) (a':=?_) (mA 13 1) rfl rfl (any_of HT_.out kR) (fun _ _ _ h=>h) (Or.inl ⟨by rfl,?_⟩) ?_ ?_;rotate_left
           ·intro w';go_simp
            with_reducible rfl
           rotate_left
           ·simp only [Act.put,sA,sZ,sS,i64_w,i32_w];rfl
           refine take_ (i:=1) (N:=some 19) (v:=?_) (a':=?_) (mA 13 3) rfl rfl (take_ofW HT_.out HW_.out kR) (fun _ _ _ h=>h) (Or.inl ⟨by rfl,?_⟩) hHeld ?_ ?_;rotate_left
           ·rintro w' ⟨s0,s1,s2,s3⟩
            go_simp
            with_reducible rfl
           rotate_left
           ·simp only [Act.put,sA,sZ,sS,i64_w,i32_w];rfl
           refine pure_ (i:=2) (N:=some 20) (v:=?_) (a':=?_) (mA 13 7) rfl rfl (any_of HT_.out kR) (fun _ _ _ h=>h) (Or.inl ⟨by rfl,?_⟩) ?_ ?_;rotate_left
           ·intro w';go_simp
            with_reducible rfl
           rotate_left
           ·simp only [Act.put,sA,sZ,sS,i64_w,i32_w];rfl
           refine take_ (i:=3) (N:=some 21) (v:=?_) (a':=?_) (mA 13 15) rfl rfl (take_ofW HT_.out HW_.out kR) (fun _ _ _ h=>h) (Or.inl ⟨by rfl,?_⟩) hHeld ?_ ?_;rotate_left
           ·rintro w' ⟨s0,s1,s2,s3⟩
            go_simp
            with_reducible rfl
           rotate_left
           ·simp only [Act.put,sA,sZ,sS,i64_w,i32_w];rfl
           refine pure_ (i:=4) (N:=some 22) (v:=?_) (a':=?_) (mA 13 31) rfl rfl (any_of HT_.out kR) (fun _ _ _ h=>h) (Or.inl ⟨by rfl,?_⟩) ?_ ?_;rotate_left
           ·intro w';go_simp
            with_reducible rfl
           rotate_left
           ·simp only [Act.put,sA,sZ,sS,i64_w,i32_w];rfl
           refine pure_ (i:=5) (N:=some 23) (v:=?_) (a':=?_) (mA 13 63) rfl rfl (any_of HT_.out kR) (fun _ _ _ h=>h) (Or.inl ⟨by rfl,?_⟩) ?_ ?_;rotate_left
           ·intro w';go_simp
            with_reducible rfl
           rotate_left
           ·simp only [Act.put,sA,sZ,sS,i64_w,i32_w];rfl
           refine pure_ (i:=6) (N:=some 24) (v:=?_) (a':=?_) (mA 13 127) rfl rfl (any_of HT_.out kR) (fun _ _ _ h=>h) (Or.inl ⟨by rfl,?_⟩) ?_ ?_;rotate_left
           ·intro w';go_simp
            with_reducible rfl
           rotate_left
           ·simp only [Act.put,sA,sZ,sS,i64_w,i32_w];rfl
           refine take_ (i:=7) (N:=some 25) (v:=?_) (a':=?_) (mA 13 255) rfl rfl (take_ofW HT_.out HW_.out kR) (fun _ _ _ h=>h) (Or.inl ⟨by rfl,?_⟩) hHeld ?_ ?_;rotate_left
           ·rintro w' ⟨s0,s1,s2,s3⟩
            go_simp
            with_reducible rfl
           rotate_left
           ·simp only [Act.put,sA,sZ,sS,i64_w,i32_w];rfl
           refine take_ (i:=8) (N:=some 26) (v:=?_) (a':=?_) (mA 13 511) rfl rfl (take_ofW HT_.out HW_.out kR) (fun _ _ _ h=>h) (Or.inl ⟨by rfl,?_⟩) hHeld ?_ ?_;rotate_left
           ·rintro w' ⟨s0,s1,s2,s3⟩
            go_simp
            with_reducible rfl
           rotate_left
           ·simp only [Act.put,sA,sZ,sS,i64_w,i32_w];rfl
           refine one_ (i:=9) (N:=some 27) (mA 13 1023) rfl rfl (one_of HT_.out kR) (by decide) (fun K hK=>?_);refine goes_ Try.func137 kR rfl #[.agg #[.int .i64 t594,.slice (some ad599) t595.length co50]] (by rfl) rfl rfl mq ?_
           with_reducible refine (impl_votes_all.calls t594 _ _ t595 t600 _ ?side1 ?side2 A23.out).mono ?_
           (case side1=>repeat (first|exact (Kd.R_reads' HO597.out).2.2|(with_reducible refine Kd.C_alloc ?_ _)|(with_reducible refine Kd.C_drewN ?_ _)|(with_reducible refine Kd.C_drew ?_)))
           (case side2=>exact (Kd.R_reads' HO597.out).2.1)
           rintro e w53 ⟨rfl,hb⟩
           have HS2_:=(hb.cell (World.block_lt_of_cell? _ _ (hHeld.2.2.1))).trans (hHeld.2.2.1);have HS3_:=(hb.cell (World.block_lt_of_cell? _ _ (hHeld.2.2.2))).trans (hHeld.2.2.2);refine ⟨_,rfl,?_⟩;have n0_:=aM (Kd.R_below (qra HO_3.out) hb);have n1_:=aM (Kd.R_below (qra HO_9.out) hb);have n2_:=aM (Kd.R_below (qra HO597.out) hb);have n3_:=aM (blk_below (g:=gb593) (o:=.cells #[.int .i64 (rd t588 x11_1)] 3 (0,0)) bk hb);have n4_:=aM (blk_below (g:=gb598) (o:=.cells #[.int .i64 t594,.slice (some ad599) t595.length co50] 68 (0,0)) bk hb);have n5_:=aM (below_step bw hb);clear HO_3;clear HO_9;clear HO597;clear BK593;clear BK598;clear HB;have HO_3:=n0_;have HO_9:=n1_;have HO597:=n2_;have BK593:=n3_;have BK598:=n4_;have HB:=n5_;clear n0_ n1_ n2_ n3_ n4_ n5_;(try clear hb)
           (try clear hb2)
           (try clear hk)
           (try clear hi)
           refine hK.out _ _ ⟨(blk_cell BK598.out 0).trans rfl,(blk_cell BK598.out 1).trans rfl,HS2_,HS3_⟩ (fun hHeld=>?_);clear hK K;refine norm_ (a':=?_) ?_ ?_;rotate_left
           ·show Act.put _ (some 27) _ = _;simp only [Act.put,sA,sZ,sS,i64_w,i32_w];rfl
           refine pure_ (i:=10) (N:=some 28) (v:=?_) (a':=?_) (mA 13 2047) rfl rfl (any_of HT_.out kR) (fun _ _ _ h=>h) (Or.inl ⟨by rfl,?_⟩) ?_ ?_;rotate_left
           ·intro w';go_simp
            with_reducible rfl
           rotate_left
           ·simp only [Act.put,sA,sZ,sS,i64_w,i32_w];rfl
           refine take_ (i:=11) (N:=some 29) (v:=?_) (a':=?_) (mA 13 4095) rfl rfl (take_ofW HT_.out HW_.out kR) (fun _ _ _ h=>h) (Or.inl ⟨by rfl,?_⟩) hHeld ?_ ?_;rotate_left
           ·rintro w' ⟨s0,s1,s2,s3⟩
            go_simp
            with_reducible rfl
           rotate_left
           ·simp only [Act.put,sA,sZ,sS,i64_w,i32_w];rfl
           refine pure_ (i:=12) (N:=some 30) (v:=?_) (a':=?_) (mA 13 8191) rfl rfl (any_of HT_.out kR) (fun _ _ _ h=>h) (Or.inl ⟨by rfl,?_⟩) ?_ ?_;rotate_left
           ·intro w';go_simp
            with_reducible rfl
           rotate_left
           ·simp only [Act.put,sA,sZ,sS,i64_w,i32_w];rfl
           refine done_ (done_of HT_.out kR) ?_
           try go_wp2
           go_roundg k1
           case measure=>have:=HK1.out;omega
           case rel=>exact ⟨(x3_1),(wrap64 (x11_1 + 1)),qrs,H',⟨by have:=HK1.out;omega⟩,⟨by (with_reducible repeat (first|apply Kd.R_alloc|apply Kd.R_drewN|apply Kd.R_drew));exact Kd.R_mono HO_3.out (fun _ hk=>hk.1)⟩,⟨by (with_reducible repeat (first|apply Kd.R_alloc|apply Kd.R_drewN|apply Kd.R_drew));exact Kd.R_mono HO_9.out (fun _ hk=>trivial)⟩,⟨by exact bw⟩⟩
         ·rw [if_neg c25] at H;exact absurd H (by simp)
        ·rw [if_neg c24] at H;exact absurd H (by simp)
      ·rw [if_neg c11] at H;exact absurd H (by simp)
     ·rw [if_neg c9] at H;exact absurd H (by simp)
    ·rw [if_neg c8] at H;exact absurd H (by simp)
   ·rw [if_neg c7] at H;have c7b0:decide (x11_1 < (t588.length:Int)) = false:=decide_eq_false c7;clear c7;replace H:=Option.bind_eq_some_iff.mp H;obtain ⟨t591,A540,H⟩:=H;replace H:(some t591) = some r:=H;have A54:=aM A540;clear A540;obtain rfl:=Option.some.inj H;obtain ⟨Ao55,co55,eo55⟩:=Kd.R_slice HO_3.out;subst eo55;go_wp2_with (first|((with_reducible refine gate_callee (f:=138) rfl ?_);refine goesL_ (some 38) rfl rfl Try.func138 kR rfl #[.slice Ao55 x3_1.length co55,.func (.func 139) #[] #[]] rfl mq ?_;(with_reducible refine (slices_SortFunc_impl_Game_impl_Game.calls k1 ?pp_ (.slice Ao55 x3_1.length co55) x3_1 (fun y0_ y1_ y2_ y3_=>impl_compareGames.f k1 y0_ y1_ y2_ y3_) 139 #[] impl_compareGames.enters t591 w _ ?side1 ?side2 ?side3 A54.out).mono ?_);(case side1=>exact bw);(case side2=>exact HO_3.out);(case side3=>exact (fun W_ a0_ A1_ c1_ l1_ a2_ A3_ c3_ l3_ r0_ hx_ hb_ hr1_ hc1_ hr3_ hc3_=>(impl_compareGames.callsG k1 a0_ A1_ c1_ l1_ a2_ A3_ c3_ l3_  r0_ W_ hr1_ hc1_ hr3_ hc3_  hx_).mono (fun _ _ h_=>h_)));rintro e w56 ⟨rfl,hy0,hb,hkp⟩;refine ⟨_,rfl,?_⟩;have n0_:=aM hy0;have n1_:=aM (Kd.R_mono (ok':=fun k_=>True) (Kd.R_keptB ((Kd.R_apart' HO_9.out (Kd.R_typed HO_3.out) (by decide))) hkp (fun k_ hk_ hs_=>(hk_.2) hs_)) (fun k_ hk_=>trivial));have n2_:=aM (hb);clear HO_3;clear HO_9;clear HB;have HO_3:=n0_;have HO_9:=n1_;have HB:=n2_;clear n0_ n1_ n2_;(try clear hb);(try clear hkp);(try clear hy0)))
    go_ret
    exact ⟨_,by first|rfl|(simp [errW_none,errW_some] <;> rfl)|(simp [*,errW_none,errW_some] <;> rfl),by (with_reducible repeat (first|apply Kd.R_alloc|apply Kd.R_drewN|apply Kd.R_drew));exact Kd.R_mono HO_3.out (fun _ hk=>trivial),by exact bw⟩


/-! ### impl_countGames: function 56 -/
def impl_countGames.l0:Nat → (Int → List (List Int) → Option (Bool)) → Int → List (S_impl_Game) → Int → Int → Option (Int × Bool)
 | 0,_,_,_,_,_=>none
 | k + 1,x1,x6,x13,x14,x15=>if x15 < x14 then (if 0 ≤ x15 then (if x15 < (x13.length:Int) then ((x1 ((rd_impl_Game x13 x15).f0) ((rd_impl_Game x13 x15).f1)).bind fun t615=>(if t615 = true then (impl_countGames.l0 k x1 (wrap64 (x6 + 1)) x13 x14 (wrap64 (x15 + 1))) else (impl_countGames.l0 k x1 x6 x13 x14 (wrap64 (x15 + 1))))) else (none)) else (none)) else (some (x6,true))
def impl_countGames.f (k:Nat) (a0:Int) (a1:(Int → List (List Int) → Option (Bool))):Option (Int × Bool):=(impl_within.f a0 1 4).bind fun t609=>(if t609 = true then ((impl_allGames.f k a0).bind fun t610=>(impl_countGames.l0 k a1 0 t610 (t610.length:Int) 0)) else (some (0,false)))
theorem impl_countGames.mono_l:∀ k,(∀ y0 y1 y2 y3 y4,LeO (impl_countGames.l0 k y0 y1 y2 y3 y4) (impl_countGames.l0 (k + 1) y0 y1 y2 y3 y4))
 | 0=>fun _ _ _ _ _ r h=>by simp [impl_countGames.l0] at h
 | k + 1=>by
  have ih0:=impl_countGames.mono_l k
  ·intro y0 y1 y2 y3 y4;unfold impl_countGames.l0
   repeat' with_reducible first|exact ih0 _ _ _ _ _|exact impl_allGames.mono _ _|exact LeO.refl _|exact LeO.none _|refine LeO.ite ?_ ?_|refine LeO.bind ?_ (fun _=>?_)
theorem impl_countGames.mono:∀ a0 a1 k,LeO (impl_countGames.f k a0 a1) (impl_countGames.f (k + 1) a0 a1):=by
 intro a0 a1 k;have ih0:=impl_countGames.mono_l k;unfold impl_countGames.f
 repeat' with_reducible first|exact ih0 _ _ _ _ _|exact impl_allGames.mono _ _|exact LeO.refl _|exact LeO.none _|refine LeO.ite ?_ ?_|refine LeO.bind ?_ (fun _=>?_)
theorem impl_countGames.monop_l {p_ q_:(Int → List (List Int) → Option (Bool))} (h_:∀ x0_ x1_,LeO (p_ x0_ x1_) (q_ x0_ x1_)):∀ k,(∀ y1 y2 y3 y4,LeO (impl_countGames.l0 k p_ y1 y2 y3 y4) (impl_countGames.l0 k q_ y1 y2 y3 y4))
 | 0=>fun _ _ _ _ r hz=>by simp [impl_countGames.l0] at hz
 | k + 1=>by
  have ih0:=impl_countGames.monop_l h_ k
  ·intro y0 y1 y2 y3;unfold impl_countGames.l0
   repeat' with_reducible first|exact ih0 _ _ _ _|exact h_ _ _|exact LeO.refl _|refine LeO.ite ?_ ?_|refine LeO.bind ?_ (fun _=>?_)
theorem impl_countGames.mono_p {p_ q_:(Int → List (List Int) → Option (Bool))} (h_:∀ x0_ x1_,LeO (p_ x0_ x1_) (q_ x0_ x1_)):∀ a0 k,LeO (impl_countGames.f k a0 p_) (impl_countGames.f k a0 q_):=by
 intro a0 k;have ih0:=impl_countGames.monop_l h_ k;unfold impl_countGames.f
 repeat' with_reducible first|exact ih0 _ _ _ _|exact h_ _ _|exact LeO.refl _|refine LeO.ite ?_ ?_|refine LeO.bind ?_ (fun _=>?_)
set_option maxHeartbeats 8000000 in
set_option maxRecDepth 100000 in
theorem impl_countGames.calls (k:Nat) (a0:Int) (a1:(Int → List (List Int) → Option (Bool))) (g1_:Nat) (lb1_:Array Value) (eg1_:∀ (args:Array Value) (w:World),(callFunc g1_ args).run Try.prog w = .ok (.enter g1_ args) w) (r1:Int) (r2:Bool) (w:World) (hp1:∀ (W:World) (b0_:Int) (A1_:Option Addr) (c1_:Nat) (l1_:List (List Int)) (r0_:Bool),a1 b0_ l1_ = some r0_ → Below w.heap.size w W → Kd.C (Kd.slice 3 (Kd.int .i64)) W A1_ l1_.length l1_ → l1_.length ≤ c1_ → Calls Try.prog g1_ (#[.agg #[.int .i64 b0_,.slice A1_ l1_.length c1_]] ++ lb1_) W fun e w'=>e = .returned (.bool r0_) ∧ Below W.heap.size W w') (h:impl_countGames.f k a0 a1 = some (r1,r2)) :
  Calls Try.prog 56 #[.int .i64 a0,.func (.func g1_) #[] lb1_] w fun e w'=>e = .returned (.tuple #[.int .i64 r1,.bool r2]) ∧ Below w.heap.size w w':=by
 have hu28:=Try.underlying28;have HP1:=aM hp1;clear hp1;have HB:=aM (Below.refl w.heap.size w);have H:((impl_within.f a0 1 4).bind fun t609=>(if t609 = true then ((impl_allGames.f k a0).bind fun t610=>(impl_countGames.l0 k a1 0 t610 (t610.length:Int) 0)) else (some (0,false)))) = some (r1,r2):=h;clear h;replace H:=Option.bind_eq_some_iff.mp H;obtain ⟨t609,A30,H⟩:=H;replace H:(if t609 = true then ((impl_allGames.f k a0).bind fun t610=>(impl_countGames.l0 k a1 0 t610 (t610.length:Int) 0)) else (some (0,false))) = some (r1,r2):=H;have A3:=aM A30;clear A30;by_cases c4:t609 = true
 ·subst c4;have H1:((impl_allGames.f k a0).bind fun t610=>(impl_countGames.l0 k a1 0 t610 (t610.length:Int) 0)) = some (r1,r2):=by rw [if_pos rfl] at H;exact H
  clear H;have H:=H1;clear H1;replace H:=Option.bind_eq_some_iff.mp H;obtain ⟨t610,A50,H⟩:=H;replace H:(impl_countGames.l0 k a1 0 t610 (t610.length:Int) 0) = some (r1,r2):=H;have A5:=aM A50;clear A50;have H':=aM H;clear H;go_enter Try.func56,Try.ntmps56;go_wp2_with (first|((with_reducible refine gate_callee (f:=69) rfl ?_);refine goesL_ (some 10) rfl rfl Try.func69 kR rfl #[.int .i64 a0,.int .i64 1,.int .i64 4] rfl mq ?_;(with_reducible refine (impl_within.calls a0 1 4 true _ A3.out).mono ?_);rintro e w' ⟨rfl,⟨nd,rfl⟩⟩;refine ⟨_,rfl,?_⟩)|((with_reducible refine gate_callee (f:=99) rfl ?_);refine goesL_ (some 13) rfl rfl Try.func99 kR rfl #[.int .i64 a0] rfl mq ?_;(with_reducible refine (impl_allGames.calls k a0 t610 _ A5.out).mono ?_);rintro e w6 ⟨v611,rfl,ho0,hb⟩;refine ⟨_,rfl,?_⟩;have n0_:=aM (Kd.R_lower ho0 (below_size bw));have n1_:=aM (below_step bw hb);clear HB;have HO612:=n0_;have HB:=n1_;clear n0_ n1_;(try clear hb);(try clear hb2);(try clear hk);(try clear hi);(try clear ho0);obtain ⟨Ao7,co7,eo7⟩:=Kd.R_slice HO612.out;subst eo7))
  go_loopg [6,15] k (fun kq v6 v15 w'=>∃ (x6_1:Int) (x15_1:Int),v6 = .int .i64 x6_1 ∧ v15 = .int .i64 x15_1 ∧ Aside0 (impl_countGames.l0 kq a1 x6_1 t610 (t610.length:Int) x15_1 = some (r1,r2)) ∧ Aside0 (kq ≤ k) ∧ Aside0 (Kd.R k_impl_Game 28 w' w.heap.size (fun _=>True) (.slice Ao7 t610.length co7) t610) ∧ Aside0 (Below w.heap.size w w'))
  case atStart=>exact ⟨(0),(0),qrs,qrs,H',⟨Nat.le_refl _⟩,⟨qra HO612.out⟩,⟨by exact bw⟩⟩
  case round =>
   clear H';(try clear p1);(try clear p2);(try clear c4);(try clear c5);(try clear c6)
   obtain ⟨x6_1,x15_1,rfl,rfl,HA,HK1,HO_13,HB⟩:=hrel
   cases gk with
   | zero=>exact absurd HA.out (by simp [impl_countGames.l0])
   | succ k1 =>
    have H:=HA.out;clear HA;simp only [impl_countGames.l0] at H;by_cases c8:x15_1 < (t610.length:Int)
    ·rw [if_pos c8] at H;have c8b0:decide (x15_1 < (t610.length:Int)) = true:=decide_eq_true c8;clear c8;by_cases c9:0 ≤ x15_1
     ·rw [if_pos c9] at H;have c9b0:decide (0 ≤ x15_1) = true:=decide_eq_true c9;clear c9;by_cases c10:x15_1 < (t610.length:Int)
      ·rw [if_pos c10] at H;have c10b0:decide (x15_1 < (t610.length:Int)) = true:=decide_eq_true c10;clear c10;replace H:=Option.bind_eq_some_iff.mp H;obtain ⟨t615,A110,H⟩:=H;replace H:(if t615 = true then (impl_countGames.l0 k1 a1 (wrap64 (x6_1 + 1)) t610 (t610.length:Int) (wrap64 (x15_1 + 1))) else (impl_countGames.l0 k1 a1 x6_1 t610 (t610.length:Int) (wrap64 (x15_1 + 1)))) = some (r1,r2):=H;have A11:=aM A110;clear A110;by_cases c12:t615 = true
       ·subst c12;have H1:(impl_countGames.l0 k1 a1 (wrap64 (x6_1 + 1)) t610 (t610.length:Int) (wrap64 (x15_1 + 1))) = some (r1,r2):=by rw [if_pos rfl] at H;exact H
        clear H;have H:=H1;clear H1;have H':=aM H;clear H;have p613:0 ≤ (x15_1:Int):=of_decide_eq_true ab;have q613:x15_1 < (t610.length:Int):=of_decide_eq_true ab;obtain ⟨ad613,A613_1,c613_1,e613,hx613_0,hx613_1,hl613_1,hi613_1⟩:=at_impl_Game (Kd.R_reads' HO_13.out).2.2 x15_1 p613 q613;cases e613
        obtain ⟨ce613,hce613,hMe613,hcc613⟩:=Kd.R_get HO_13.out z_impl_Game x15_1 p613 (by first|exact q613|exact of_decide_eq_true ab|(have e_:=(Kd.R_reads' HO_13.out).1;omega));obtain ⟨ve613_1,rfl,ge613_1⟩:=k_impl_Game_openM hMe613;have hv613_1:=hcc613 1 _ rfl;rw [add_field _ _ 1 (by omega)] at hv613_1;replace hv613_1:=Option.some.inj (hv613_1.symm.trans hx613_1);rw [hv613_1] at ge613_1;have HL613_1:=aM (show Kd.R (Kd.slice 3 (Kd.int .i64)) 40 _ _ _ _ ((rd_impl_Game t610 x15_1).f1) from ge613_1);clear hv613_1 ge613_1;clear hcc613 hce613;have HR613_1:=aM hi613_1;have HC613_1:=aM hl613_1;clear hi613_1 hl613_1;replace p613:=eq_true p613;replace q613:=eq_true q613;go_wp2_with (first|((with_reducible refine gate_dst (N:=8) rfl ?_);refine box_event ?hg (N:=8) ?hd (cs:=#[.int .i64 0,.slice none 0 0]) (t:=28) ?hr ?_;(case hd=>rfl);(case hg=>rfl);(case hr=>first|(go_simp;done)|(go_simp;rfl));intro gb614 hg w13 hbox hb;have n0_:=aM (Kd.R_below (Kd.R_elderB (qra HO_13.out) gb614 (Nat.le_of_eq hg.symm)) hb);have n1_:=aM (Kd.R_below (qra HL613_1.out) hb);have n2_:=aM (Kd.C_below (by repeat (first|(with_reducible exact HR613_1.out)|(with_reducible refine Kd.C_alloc ?_ _)|(with_reducible refine Kd.C_drewN ?_ _)|(with_reducible refine Kd.C_drew ?_)|exact HR613_1.out)) hb);have n3_:=aM (below_step bw hb);have n4_:=aM (hbox);have n5_:=aM ((by rw [hg];exact (below_size bw):w.heap.size ≤ gb614));have n6_:=aM ((by rw [hg];exact (below_size bw):w.heap.size ≤ gb614));clear HO_13;clear HL613_1;clear HR613_1;clear HB;have HO_13:=n0_;have HL613_1:=n1_;have HR613_1:=n2_;have HB:=n3_;have BK614:=n4_;have GW614:=n5_;have GE614:=n6_;clear n0_ n1_ n2_ n3_ n4_ n5_ n6_;clear hb hbox hg;have hcz14_0:w13.cell? ⟨gb614,0,none⟩ = some (.int .i64 0):=(blk_cell BK614.out 0).trans rfl;have hcz14_1:w13.cell? ⟨gb614,1,none⟩ = some (.slice none 0 0):=(blk_cell BK614.out 1).trans rfl;have hfz14_0:=blk_frozen BK614.out 0;have hfz14_1:=blk_frozen BK614.out 1)|((with_reducible refine gate_fn (t:=19) rfl ?_);refine goesFL_ (some 21) rfl rfl eg1_ #[.agg #[.int .i64 ((rd_impl_Game t610 x15_1).f0),.slice A613_1 ((rd_impl_Game t610 x15_1).f1).length c613_1]] rfl rfl mq ?_;(with_reducible refine (HP1.out _ ((rd_impl_Game t610 x15_1).f0) _ _ ((rd_impl_Game t610 x15_1).f1) true A11.out ?side1 ?side2 ?side3).mono ?_);(case side1=>exact bw);(case side2=>repeat (first|exact ((Kd.R_reads' (by (with_reducible repeat (first|apply Kd.R_alloc|apply Kd.R_drewN|apply Kd.R_drew));exact (Kd.R_mono (Kd.R_far (p:=⟨gb614,1,none⟩) (Kd.R_far (p:=⟨gb614,0,none⟩) (Kd.R_types HL613_1.out BK614.out (by decide)) (fun _ hk=>hk.2) (.int .i64 ((rd_impl_Game t610 x15_1).f0))) (fun _ hk=>hk.2) (.slice A613_1 ((rd_impl_Game t610 x15_1).f1).length c613_1)) (fun _ h_=>h_.1)))).2.2)|(with_reducible refine Kd.C_alloc ?_ _)|(with_reducible refine Kd.C_drewN ?_ _)|(with_reducible refine Kd.C_drew ?_)));(case side3=>exact HC613_1.out);rintro e w15 ⟨rfl,hb⟩;refine ⟨_,rfl,?_⟩;have n0_:=aM (Kd.R_below (by (with_reducible repeat (first|apply Kd.R_alloc|apply Kd.R_drewN|apply Kd.R_drew));exact (Kd.R_mono (Kd.R_far (p:=⟨gb614,1,none⟩) (Kd.R_far (p:=⟨gb614,0,none⟩) (Kd.R_mono HO_13.out (fun k_ hk=>(⟨hk,hk.2⟩:_ ∧ k_ ≠ gb614))) (fun _ hk=>hk.2) (.int .i64 ((rd_impl_Game t610 x15_1).f0))) (fun _ hk=>hk.2) (.slice A613_1 ((rd_impl_Game t610 x15_1).f1).length c613_1)) (fun _ h_=>h_.1))) hb);have n1_:=aM (Kd.R_below (by (with_reducible repeat (first|apply Kd.R_alloc|apply Kd.R_drewN|apply Kd.R_drew));exact (Kd.R_mono (Kd.R_far (p:=⟨gb614,1,none⟩) (Kd.R_far (p:=⟨gb614,0,none⟩) (Kd.R_types HL613_1.out BK614.out (by decide)) (fun _ hk=>hk.2) (.int .i64 ((rd_impl_Game t610 x15_1).f0))) (fun _ hk=>hk.2) (.slice A613_1 ((rd_impl_Game t610 x15_1).f1).length c613_1)) (fun _ h_=>h_.1))) hb);have n2_:=aM (Kd.C_below ((Kd.R_reads' (by (with_reducible repeat (first|apply Kd.R_alloc|apply Kd.R_drewN|apply Kd.R_drew));exact (Kd.R_mono (Kd.R_far (p:=⟨gb614,1,none⟩) (Kd.R_far (p:=⟨gb614,0,none⟩) (Kd.R_types HL613_1.out BK614.out (by decide)) (fun _ hk=>hk.2) (.int .i64 ((rd_impl_Game t610 x15_1).f0))) (fun _ hk=>hk.2) (.slice A613_1 ((rd_impl_Game t610 x15_1).f1).length c613_1)) (fun _ h_=>h_.1)))).2.2) hb);have n3_:=aM (blk_below (g:=gb614) (o:=.cells #[.int .i64 ((rd_impl_Game t610 x15_1).f0),.slice A613_1 ((rd_impl_Game t610 x15_1).f1).length c613_1] 28 (0,0)) (by (with_reducible repeat (first|refine blk_drewN ?_ _|refine blk_drew ?_|refine blk_alloc ?_ _));refine blk_put (cs:=#[.int .i64 ((rd_impl_Game t610 x15_1).f0),.slice none 0 0]) ?_ 1 _ rfl;(with_reducible repeat (first|refine blk_drewN ?_ _|refine blk_drew ?_|refine blk_alloc ?_ _));refine blk_put (cs:=#[.int .i64 0,.slice none 0 0]) ?_ 0 _ rfl;(with_reducible repeat (first|refine blk_drewN ?_ _|refine blk_drew ?_|refine blk_alloc ?_ _));exact BK614.out) hb);have n4_:=aM (below_step bw hb);clear HO_13;clear HL613_1;clear HR613_1;clear BK614;clear HB;have HO_13:=n0_;have HL613_1:=n1_;have HR613_1:=n2_;have BK614:=n3_;have HB:=n4_;clear n0_ n1_ n2_ n3_ n4_;(try clear hb);(try clear hb2);(try clear hk);(try clear hi)))
        go_roundg k1
        case measure=>have:=HK1.out;omega
        case rel=>exact ⟨(wrap64 (x6_1 + 1)),(wrap64 (x15_1 + 1)),qrs,qrs,H',⟨by have:=HK1.out;omega⟩,⟨by (with_reducible repeat (first|apply Kd.R_alloc|apply Kd.R_drewN|apply Kd.R_drew));exact Kd.R_mono HO_13.out (fun _ hk=>trivial)⟩,⟨by exact bw⟩⟩
       ·replace c12:=Bool.eq_false_iff.mpr c12;subst c12;have H1:(impl_countGames.l0 k1 a1 x6_1 t610 (t610.length:Int) (wrap64 (x15_1 + 1))) = some (r1,r2):=by rw [if_neg (show ¬ (false = true) by decide)] at H;exact H
        clear H;have H:=H1;clear H1;have H':=aM H;clear H;have p613:0 ≤ (x15_1:Int):=of_decide_eq_true ab;have q613:x15_1 < (t610.length:Int):=of_decide_eq_true ab;obtain ⟨ad613,A613_1,c613_1,e613,hx613_0,hx613_1,hl613_1,hi613_1⟩:=at_impl_Game (Kd.R_reads' HO_13.out).2.2 x15_1 p613 q613;cases e613
        obtain ⟨ce613,hce613,hMe613,hcc613⟩:=Kd.R_get HO_13.out z_impl_Game x15_1 p613 (by first|exact q613|exact of_decide_eq_true ab|(have e_:=(Kd.R_reads' HO_13.out).1;omega));obtain ⟨ve613_1,rfl,ge613_1⟩:=k_impl_Game_openM hMe613;have hv613_1:=hcc613 1 _ rfl;rw [add_field _ _ 1 (by omega)] at hv613_1;replace hv613_1:=Option.some.inj (hv613_1.symm.trans hx613_1);rw [hv613_1] at ge613_1;have HL613_1:=aM (show Kd.R (Kd.slice 3 (Kd.int .i64)) 40 _ _ _ _ ((rd_impl_Game t610 x15_1).f1) from ge613_1);clear hv613_1 ge613_1;clear hcc613 hce613;have HR613_1:=aM hi613_1;have HC613_1:=aM hl613_1;clear hi613_1 hl613_1;replace p613:=eq_true p613;replace q613:=eq_true q613;go_wp2_with (first|((with_reducible refine gate_dst (N:=8) rfl ?_);refine box_event ?hg (N:=8) ?hd (cs:=#[.int .i64 0,.slice none 0 0]) (t:=28) ?hr ?_;(case hd=>rfl);(case hg=>rfl);(case hr=>first|(go_simp;done)|(go_simp;rfl));intro gb614 hg w16 hbox hb;have n0_:=aM (Kd.R_below (Kd.R_elderB (qra HO_13.out) gb614 (Nat.le_of_eq hg.symm)) hb);have n1_:=aM (Kd.R_below (qra HL613_1.out) hb);have n2_:=aM (Kd.C_below (by repeat (first|(with_reducible exact HR613_1.out)|(with_reducible refine Kd.C_alloc ?_ _)|(with_reducible refine Kd.C_drewN ?_ _)|(with_reducible refine Kd.C_drew ?_)|exact HR613_1.out)) hb);have n3_:=aM (below_step bw hb);have n4_:=aM (hbox);have n5_:=aM ((by rw [hg];exact (below_size bw):w.heap.size ≤ gb614));have n6_:=aM ((by rw [hg];exact (below_size bw):w.heap.size ≤ gb614));clear HO_13;clear HL613_1;clear HR613_1;clear HB;have HO_13:=n0_;have HL613_1:=n1_;have HR613_1:=n2_;have HB:=n3_;have BK614:=n4_;have GW614:=n5_;have GE614:=n6_;clear n0_ n1_ n2_ n3_ n4_ n5_ n6_;clear hb hbox hg;have hcz17_0:w16.cell? ⟨gb614,0,none⟩ = some (.int .i64 0):=(blk_cell BK614.out 0).trans rfl;have hcz17_1:w16.cell? ⟨gb614,1,none⟩ = some (.slice none 0 0):=(blk_cell BK614.out 1).trans rfl;have hfz17_0:=blk_frozen BK614.out 0;have hfz17_1:=blk_frozen BK614.out 1)|((with_reducible refine gate_fn (t:=19) rfl ?_);refine goesFL_ (some 21) rfl rfl eg1_ #[.agg #[.int .i64 ((rd_impl_Game t610 x15_1).f0),.slice A613_1 ((rd_impl_Game t610 x15_1).f1).length c613_1]] rfl rfl mq ?_;(with_reducible refine (HP1.out _ ((rd_impl_Game t610 x15_1).f0) _ _ ((rd_impl_Game t610 x15_1).f1) false A11.out ?side1 ?side2 ?side3).mono ?_);(case side1=>exact bw);(case side2=>repeat (first|exact ((Kd.R_reads' (by (with_reducible repeat (first|apply Kd.R_alloc|apply Kd.R_drewN|apply Kd.R_drew));exact (Kd.R_mono (Kd.R_far (p:=⟨gb614,1,none⟩) (Kd.R_far (p:=⟨gb614,0,none⟩) (Kd.R_types HL613_1.out BK614.out (by decide)) (fun _ hk=>hk.2) (.int .i64 ((rd_impl_Game t610 x15_1).f0))) (fun _ hk=>hk.2) (.slice A613_1 ((rd_impl_Game t610 x15_1).f1).length c613_1)) (fun _ h_=>h_.1)))).2.2)|(with_reducible refine Kd.C_alloc ?_ _)|(with_reducible refine Kd.C_drewN ?_ _)|(with_reducible refine Kd.C_drew ?_)));(case side3=>exact HC613_1.out);rintro e w18 ⟨rfl,hb⟩;refine ⟨_,rfl,?_⟩;have n0_:=aM (Kd.R_below (by (with_reducible repeat (first|apply Kd.R_alloc|apply Kd.R_drewN|apply Kd.R_drew));exact (Kd.R_mono (Kd.R_far (p:=⟨gb614,1,none⟩) (Kd.R_far (p:=⟨gb614,0,none⟩) (Kd.R_mono HO_13.out (fun k_ hk=>(⟨hk,hk.2⟩:_ ∧ k_ ≠ gb614))) (fun _ hk=>hk.2) (.int .i64 ((rd_impl_Game t610 x15_1).f0))) (fun _ hk=>hk.2) (.slice A613_1 ((rd_impl_Game t610 x15_1).f1).length c613_1)) (fun _ h_=>h_.1))) hb);have n1_:=aM (Kd.R_below (by (with_reducible repeat (first|apply Kd.R_alloc|apply Kd.R_drewN|apply Kd.R_drew));exact (Kd.R_mono (Kd.R_far (p:=⟨gb614,1,none⟩) (Kd.R_far (p:=⟨gb614,0,none⟩) (Kd.R_types HL613_1.out BK614.out (by decide)) (fun _ hk=>hk.2) (.int .i64 ((rd_impl_Game t610 x15_1).f0))) (fun _ hk=>hk.2) (.slice A613_1 ((rd_impl_Game t610 x15_1).f1).length c613_1)) (fun _ h_=>h_.1))) hb);have n2_:=aM (Kd.C_below ((Kd.R_reads' (by (with_reducible repeat (first|apply Kd.R_alloc|apply Kd.R_drewN|apply Kd.R_drew));exact (Kd.R_mono (Kd.R_far (p:=⟨gb614,1,none⟩) (Kd.R_far (p:=⟨gb614,0,none⟩) (Kd.R_types HL613_1.out BK614.out (by decide)) (fun _ hk=>hk.2) (.int .i64 ((rd_impl_Game t610 x15_1).f0))) (fun _ hk=>hk.2) (.slice A613_1 ((rd_impl_Game t610 x15_1).f1).length c613_1)) (fun _ h_=>h_.1)))).2.2) hb);have n3_:=aM (blk_below (g:=gb614) (o:=.cells #[.int .i64 ((rd_impl_Game t610 x15_1).f0),.slice A613_1 ((rd_impl_Game t610 x15_1).f1).length c613_1] 28 (0,0)) (by (with_reducible repeat (first|refine blk_drewN ?_ _|refine blk_drew ?_|refine blk_alloc ?_ _));refine blk_put (cs:=#[.int .i64 ((rd_impl_Game t610 x15_1).f0),.slice none 0 0]) ?_ 1 _ rfl;(with_reducible repeat (first|refine blk_drewN ?_ _|refine blk_drew ?_|refine blk_alloc ?_ _));refine blk_put (cs:=#[.int .i64 0,.slice none 0 0]) ?_ 0 _ rfl;(with_reducible repeat (first|refine blk_drewN ?_ _|refine blk_drew ?_|refine blk_alloc ?_ _));exact BK614.out) hb);have n4_:=aM (below_step bw hb);clear HO_13;clear HL613_1;clear HR613_1;clear BK614;clear HB;have HO_13:=n0_;have HL613_1:=n1_;have HR613_1:=n2_;have BK614:=n3_;have HB:=n4_;clear n0_ n1_ n2_ n3_ n4_;(try clear hb);(try clear hb2);(try clear hk);(try clear hi)))
        go_roundg k1
        case measure=>have:=HK1.out;omega
        case rel=>exact ⟨(x6_1),(wrap64 (x15_1 + 1)),qrs,qrs,H',⟨by have:=HK1.out;omega⟩,⟨by (with_reducible repeat (first|apply Kd.R_alloc|apply Kd.R_drewN|apply Kd.R_drew));exact Kd.R_mono HO_13.out (fun _ hk=>trivial)⟩,⟨by exact bw⟩⟩
      ·rw [if_neg c10] at H;exact absurd H (by simp)
     ·rw [if_neg c9] at H;exact absurd H (by simp)
    ·rw [if_neg c8] at H;have c8b0:decide (x15_1 < (t610.length:Int)) = false:=decide_eq_false c8;clear c8;simp only [Option.some.injEq,Prod.mk.injEq] at H;obtain ⟨rfl,rfl⟩:=H;go_wp2
     go_ret2
     exact ⟨by first|rfl|(simp [errW_none,errW_some] <;> rfl)|(simp [*,errW_none,errW_some] <;> rfl),by exact bw⟩
 ·replace c4:=Bool.eq_false_iff.mpr c4;subst c4;have H1:(some (0,false)) = some (r1,r2):=by rw [if_neg (show ¬ (false = true) by decide)] at H;exact H
  clear H;have H:=H1;clear H1;simp only [Option.some.injEq,Prod.mk.injEq] at H;obtain ⟨rfl,rfl⟩:=H;go_enter Try.func56,Try.ntmps56;go_wp2_with (first|((with_reducible refine gate_callee (f:=69) rfl ?_);refine goesL_ (some 10) rfl rfl Try.func69 kR rfl #[.int .i64 a0,.int .i64 1,.int .i64 4] rfl mq ?_;(with_reducible refine (impl_within.calls a0 1 4 false _ A3.out).mono ?_);rintro e w' ⟨rfl,⟨nd,rfl⟩⟩;refine ⟨_,rfl,?_⟩))
  go_ret2
  exact ⟨by first|rfl|(simp [errW_none,errW_some] <;> rfl)|(simp [*,errW_none,errW_some] <;> rfl),by exact bw⟩


/-! ### impl_votes_ordered: function 140 -/
def impl_votes_ordered.l0:Nat → List Int → List (List Int) → Int → Int → Option (List Int)
 | 0,_,_,_,_=>none
 | k + 1,x3,x8,x9,x10=>if x10 < x9 then (if 0 ≤ x10 then (if x10 < (x8.length:Int) then ((impl_maskOf.f k (rd_LI x8 x10)).bind fun t624=>(if x3.length < 17592186044416 then (impl_votes_ordered.l0 k (x3 ++ [t624]) x8 x9 (wrap64 (x10 + 1))) else (none))) else (none)) else (none)) else (some x3)
def impl_votes_ordered.f (k:Nat) (a0_0:Int) (l0_1:List Bool):Option (List Int):=(impl_votes_sets.f k a0_0 l0_1 (fun y0_=>impl_votes_ordered_1.f y0_)).bind fun t620=>(impl_votes_ordered.l0 k (([]:List Int)) t620 (t620.length:Int) 0)
theorem impl_votes_ordered.mono_l:∀ k,(∀ y0 y1 y2 y3,LeO (impl_votes_ordered.l0 k y0 y1 y2 y3) (impl_votes_ordered.l0 (k + 1) y0 y1 y2 y3))
 | 0=>fun _ _ _ _ r h=>by simp [impl_votes_ordered.l0] at h
 | k + 1=>by
  have ih0:=impl_votes_ordered.mono_l k
  ·intro y0 y1 y2 y3;unfold impl_votes_ordered.l0
   repeat' with_reducible first|exact ih0 _ _ _ _|exact impl_maskOf.mono _ _|exact impl_votes_sets.mono _ _ _ _|exact LeO.refl _|exact LeO.none _|refine LeO.trans (impl_votes_sets.mono _ _ _ _) (impl_votes_sets.mono_p (fun _=>?_) _ _ _)|refine LeO.ite ?_ ?_|refine LeO.bind ?_ (fun _=>?_)
theorem impl_votes_ordered.mono:∀ a0 a1 k,LeO (impl_votes_ordered.f k a0 a1) (impl_votes_ordered.f (k + 1) a0 a1):=by
 intro a0 a1 k;have ih0:=impl_votes_ordered.mono_l k;unfold impl_votes_ordered.f
 repeat' with_reducible first|exact ih0 _ _ _ _|exact impl_maskOf.mono _ _|exact impl_votes_sets.mono _ _ _ _|exact LeO.refl _|exact LeO.none _|refine LeO.trans (impl_votes_sets.mono _ _ _ _) (impl_votes_sets.mono_p (fun _=>?_) _ _ _)|refine LeO.ite ?_ ?_|refine LeO.bind ?_ (fun _=>?_)
set_option maxHeartbeats 8000000 in
set_option maxRecDepth 100000 in
theorem impl_votes_ordered.calls (k:Nat) (a0_0:Int) (A0_1:Option Addr) (c0_1:Nat) (l0_1:List Bool) (r:List Int) (w:World) (hr0_1:Kd.C Kd.bool w A0_1 l0_1.length l0_1) (hc0_1:l0_1.length ≤ c0_1) (h:impl_votes_ordered.f k a0_0 l0_1 = some r) :
  Calls Try.prog 140 #[.agg #[.int .i64 a0_0,.slice A0_1 l0_1.length c0_1]] w fun e w'=>∃ v0_:Value,e = .returned (v0_) ∧ Kd.R (Kd.int .i64) 3 w' w.heap.size (fun _=>True) v0_ r ∧ Below w.heap.size w w':=by
 have hu68:=Try.underlying68;have HR0_1:=aM hr0_1;have HC0_1:=aM hc0_1;clear hr0_1 hc0_1;have HB:=aM (Below.refl w.heap.size w);have H:((impl_votes_sets.f k a0_0 l0_1 (fun y0_=>impl_votes_ordered_1.f y0_)).bind fun t620=>(impl_votes_ordered.l0 k (([]:List Int)) t620 (t620.length:Int) 0)) = some r:=h;clear h;obtain ⟨y617,hy617⟩:∃ y_:List Int,y_ = (([]:List Int)):=⟨_,rfl⟩;replace H:((impl_votes_sets.f k a0_0 l0_1 (fun y0_=>impl_votes_ordered_1.f y0_)).bind fun t620=>(impl_votes_ordered.l0 k y617 t620 (t620.length:Int) 0)) = some r:=by first|(rw [hy617];with_reducible exact H)|(have H2_:=(Option.bind_some _ _).symm.trans H;rw [hy617];with_reducible exact H2_)|(have H2_:=(Option.bind_some _ _).symm.trans H;with_reducible exact H2_)|with_reducible exact H|(rw [hy617];exact H)|exact H
 have Ny617:=aM hy617;clear hy617;replace H:=Option.bind_eq_some_iff.mp H;obtain ⟨t620,A20,H⟩:=H;replace H:(impl_votes_ordered.l0 k y617 t620 (t620.length:Int) 0) = some r:=H;have A2:=aM A20;clear A20;have H':=aM H;clear H;go_enter Try.func140,Try.ntmps140;go_wp2_with (first|((with_reducible refine gate_dst (N:=1) rfl ?_);refine box_event ?hg (N:=1) ?hd (cs:=#[.int .i64 a0_0,.slice A0_1 l0_1.length c0_1]) (t:=68) ?hr ?_;(case hd=>rfl);(case hg=>rfl);(case hr=>first|(go_simp;done)|(go_simp;rfl));intro gb616 hg w3 hbox hb;have n0_:=aM (below_step bw hb);have n1_:=aM (hbox);have n2_:=aM ((by rw [hg];exact (below_size bw):w.heap.size ≤ gb616));have n3_:=aM ((by rw [hg];exact (below_size bw):w.heap.size ≤ gb616));clear HB;have HB:=n0_;have BK616:=n1_;have GW616:=n2_;have GE616:=n3_;clear n0_ n1_ n2_ n3_;clear hb hbox hg)|((with_reducible refine gate_dst (N:=6) rfl ?_);refine Kd.R_lit (Kd.int .i64) _ 3 ?hg (N:=6) ?hd (xs:=([]:List Int)) (inner:=[]) (ok:=fun _=>True) (okp:=fun _=>True) ?hr ?hp (fun _ hk=>hk) trivial (Below.refl _ _) (Nat.le_refl _) (by simp) ?_;(case hd=>rfl);(case hg=>rfl);(case hr=>first|(go_simp;done)|(go_simp;rfl));(case hp=>exact (Reps.none _ _));intro v618 w4 ho5 hb hg_ hnew_;clear hg_ hnew_;(first|rw [← Ny617.out] at ho5|(simp only [Int.reduceToNat] at ho5;rw [← Ny617.out] at ho5));have n0_:=aM (Kd.R_lower ho5 (below_size bw));have n1_:=aM (blk_below (g:=gb616) (o:=.cells #[.int .i64 a0_0,.slice A0_1 l0_1.length c0_1] 68 (0,0)) bk hb);have n2_:=aM (below_step bw hb);clear BK616;clear HB;have HO619:=n0_;have BK616:=n1_;have HB:=n2_;clear n0_ n1_ n2_;clear hb ho5;have hcz6_0:w4.cell? ⟨gb616,0,none⟩ = some (.int .i64 a0_0):=(blk_cell BK616.out 0).trans rfl;have hcz6_1:w4.cell? ⟨gb616,1,none⟩ = some (.slice A0_1 l0_1.length c0_1):=(blk_cell BK616.out 1).trans rfl;have hfz6_0:=blk_frozen BK616.out 0;have hfz6_1:=blk_frozen BK616.out 1)|((with_reducible refine gate_callee (f:=147) rfl ?_);refine goesL_ (some 8) rfl rfl Try.func147 kR rfl #[.agg #[.int .i64 a0_0,.slice A0_1 l0_1.length c0_1],.func (.func 162) #[] #[]] rfl mq ?_;(with_reducible refine (impl_votes_sets.calls k a0_0 _ _ l0_1 (fun y0_=>impl_votes_ordered_1.f y0_) 162 #[] impl_votes_ordered_1.enters t620 _ ?side1 ?side2 ?side3 A2.out).mono ?_);(case side1=>exact qcs HR0_1.out HB.out);(case side2=>exact HC0_1.out);(case side3=>exact (fun W_ a0_ r0_ hx_ hb_ =>(impl_votes_ordered_1.calls a0_  r0_ W_   hx_).mono (fun _ _ h_=>⟨h_.1,h_.2.below⟩)));rintro e w7 ⟨v621,rfl,ho0,hb⟩;refine ⟨_,rfl,?_⟩;have n0_:=aM (Kd.R_below (qra HO619.out) hb);have n1_:=aM (Kd.S_lower (Kd.S_new' ho0 (Kd.R_lt (qra HO619.out))) (below_size bw));have n2_:=aM (blk_below (g:=gb616) (o:=.cells #[.int .i64 a0_0,.slice A0_1 l0_1.length c0_1] 68 (0,0)) bk hb);have n3_:=aM (below_step bw hb);clear HO619;clear BK616;clear HB;have HO619:=n0_;have HO622:=n1_;have BK616:=n2_;have HB:=n3_;clear n0_ n1_ n2_ n3_;(try clear hb);(try clear hb2);(try clear hk);(try clear hi);(try clear ho0);obtain ⟨Ao8,co8,eo8⟩:=Kd.S_slice HO622.out;subst eo8))
 go_loopg [3,10] k (fun kq v3 v10 w'=>∃ (x3_1:List Int) (x10_1:Int),v10 = .int .i64 x10_1 ∧ Aside0 (impl_votes_ordered.l0 kq x3_1 t620 (t620.length:Int) x10_1 = some r) ∧ Aside0 (kq ≤ k) ∧ Aside0 (Kd.R (Kd.int .i64) 3 w' w.heap.size (fun _=>True) v3 x3_1) ∧ Aside0 (Kd.S (Kd.slice 3 (Kd.int .i64)) 40 w' w.heap.size (fun k_=>some k_ ≠ (v3:Value).ownBlock) (.slice Ao8 t620.length co8) t620) ∧ Aside0 (w'.heap[gb616]? = some (.cells #[.int .i64 a0_0,(.slice A0_1 l0_1.length c0_1)] 68 (0,0))) ∧ Aside0 (Below w.heap.size w w'))
 case atStart=>exact ⟨(y617),(0),qrs,H',⟨Nat.le_refl _⟩,⟨qra HO619.out⟩,⟨by (with_reducible repeat (first|apply Kd.S_alloc|apply Kd.S_drewN|apply Kd.S_drew));exact Kd.S_mono HO622.out (fun _ hk=>hk.2)⟩,⟨by (with_reducible repeat (first|refine blk_drewN ?_ _|refine blk_drew ?_|refine blk_alloc ?_ _));exact BK616.out⟩,⟨by exact bw⟩⟩
 case round =>
  clear H';(try clear c1);(try clear p2);(try clear hcz6_0);(try clear hcz6_1);(try clear hfz6_0);(try clear hfz6_1)
  obtain ⟨x3_1,x10_1,rfl,HA,HK1,HO_3,HO_8,BK616,HB⟩:=hrel
  cases gk with
  | zero=>exact absurd HA.out (by simp [impl_votes_ordered.l0])
  | succ k1 =>
   have H:=HA.out;clear HA;simp only [impl_votes_ordered.l0] at H;by_cases c9:x10_1 < (t620.length:Int)
   ·rw [if_pos c9] at H;have c9b0:decide (x10_1 < (t620.length:Int)) = true:=decide_eq_true c9;clear c9;by_cases c10:0 ≤ x10_1
    ·rw [if_pos c10] at H;have c10b0:decide (0 ≤ x10_1) = true:=decide_eq_true c10;clear c10;by_cases c11:x10_1 < (t620.length:Int)
     ·rw [if_pos c11] at H;have c11b0:decide (x10_1 < (t620.length:Int)) = true:=decide_eq_true c11;clear c11;replace H:=Option.bind_eq_some_iff.mp H;obtain ⟨t624,A120,H⟩:=H;replace H:(if x3_1.length < 17592186044416 then (impl_votes_ordered.l0 k1 (x3_1 ++ [t624]) t620 (t620.length:Int) (wrap64 (x10_1 + 1))) else (none)) = some r:=H;have A12:=aM A120;clear A120;by_cases c13:x3_1.length < 17592186044416
      ·rw [if_pos c13] at H;have LMc13:=aM c13;clear c13;obtain ⟨y625,hy625⟩:∃ y_:List Int,y_ = (x3_1 ++ [t624]):=⟨_,rfl⟩;replace H:(impl_votes_ordered.l0 k1 y625 t620 (t620.length:Int) (wrap64 (x10_1 + 1))) = some r:=by first|(rw [hy625];with_reducible exact H)|(have H2_:=(Option.bind_some _ _).symm.trans H;rw [hy625];with_reducible exact H2_)|(have H2_:=(Option.bind_some _ _).symm.trans H;with_reducible exact H2_)|with_reducible exact H|(rw [hy625];exact H)|exact H
       have Ny625:=aM hy625;clear hy625;have H':=aM H;clear H;have p623:0 ≤ (x10_1:Int):=of_decide_eq_true ab;have q623:x10_1 < (t620.length:Int):=of_decide_eq_true ab;obtain ⟨ad623,A623_0,c623_0,e623,hx623_0,hl623_0,hi623_0⟩:=at_LI (Kd.S_reads' HO_8.out).2.2 x10_1 p623 q623;cases e623
       obtain ⟨ce623,hce623,hMe623,hcc623⟩:=Kd.S_get HO_8.out [] x10_1 p623 (by first|exact q623|exact of_decide_eq_true ab|(have e_:=(Kd.S_reads' HO_8.out).1;omega));obtain ⟨ve623_0,rfl,ge623_0⟩:=hMe623;have hv623_0:=hcc623 0 _ rfl;rw [Nat.add_zero,show ((Kd.slice 3 (Kd.int .i64))).sz = 1 from rfl,Nat.mul_one] at hv623_0;replace hv623_0:=Option.some.inj (hv623_0.symm.trans hx623_0);rw [hv623_0] at ge623_0;have HL623_0:=aM (show Kd.R (Kd.int .i64) 3 _ _ _ _ (rd_LI t620 x10_1) from ge623_0);clear hv623_0 ge623_0;clear hcc623 hce623;have HR623_0:=aM hi623_0;have HC623_0:=aM hl623_0;clear hi623_0 hl623_0;replace p623:=eq_true p623;replace q623:=eq_true q623;go_wp2_with (first|((with_reducible refine gate_callee (f:=129) rfl ?_);refine goesL_ (some 16) rfl rfl Try.func129 kR rfl #[.slice A623_0 (rd_LI t620 x10_1).length c623_0] rfl mq ?_;(with_reducible refine (impl_maskOf.calls k1 _ _ (rd_LI t620 x10_1) t624 _ ?side1 ?side2 A12.out).mono ?_);(case side1=>repeat (first|exact (by repeat (first|(with_reducible exact HR623_0.out)|(with_reducible refine Kd.C_alloc ?_ _)|(with_reducible refine Kd.C_drewN ?_ _)|(with_reducible refine Kd.C_drew ?_)|exact HR623_0.out))|(with_reducible refine Kd.C_alloc ?_ _)|(with_reducible refine Kd.C_drewN ?_ _)|(with_reducible refine Kd.C_drew ?_)));(case side2=>exact HC623_0.out);rintro e w' ⟨rfl,⟨nd,rfl⟩⟩;refine ⟨_,rfl,?_⟩)|((with_reducible refine gate_builtin (b:=.append) (xs:=#[.tmp 14,.tmp 17]) rfl ?_);at_builtin;refine Kd.R_append (Kd.int .i64) (w0:=w) w.heap.size rfl (.tmp 14) (.tmp 17) 40 3 (.int .i64 0) 8 rfl Try.underlying40 info3 rfl (by decide) (by omega) u3 x3_1 t624 [.int .i64 t624] (fun _=>True) (fun _=>False) rfl rfl ?aP (fun _ hk=>hk.elim) ?aF ?aO ?aB ?aS ?aL ?_;(case aP=>exact rfl);(case aB=>exact bw);(case aF=>exact (fun _ _=>trivial));(case aO=>exact (qra HO_3.out));(case aS=>exact (below_size bw));(case aL=>have:=LMc13.out;omega);intro v626 w14 ho hb hg hat;rw [← Ny625.out] at ho;have n0_:=aM (Kd.S_after (ok:=(fun _=>True)) (by (with_reducible repeat (first|apply Kd.S_alloc|apply Kd.S_drewN|apply Kd.S_drew));exact Kd.S_mono HO_8.out (fun _ hk=>⟨trivial,hk⟩)) hg hat);have n1_:=aM (blk_grown (g:=gb616) (o:=.cells #[.int .i64 a0_0,.slice A0_1 l0_1.length c0_1] 68 (0,0)) bk hg (Kd.R_ne HO_3.out BK616.out (by decide)));have n2_:=aM (Kd.R_after (ok:=(fun k_=>some k_ ≠ (.slice (some ad623) t620.length co8:Value).ownBlock)) (by (with_reducible repeat (first|apply Kd.R_alloc|apply Kd.R_drewN|apply Kd.R_drew));exact Kd.R_mono HL623_0.out (fun _ hk=>⟨hk.2,hk.1⟩)) hg hat);have n3_:=aM (hb);have n4_:=aM (ho);clear HO_8;clear BK616;clear HL623_0;clear HB;clear HO_3;have HO_8:=n0_;have BK616:=n1_;have HL623_0:=n2_;have HB:=n3_;have HO627:=n4_;clear n0_ n1_ n2_ n3_ n4_;clear ho hb hg hat))
       go_roundg k1
       case measure=>have:=HK1.out;omega
       case rel=>exact ⟨(y625),(wrap64 (x10_1 + 1)),qrs,H',⟨by have:=HK1.out;omega⟩,⟨qra HO627.out⟩,⟨by (with_reducible repeat (first|apply Kd.S_alloc|apply Kd.S_drewN|apply Kd.S_drew));exact Kd.S_mono HO_8.out (fun _ hk=>hk.2)⟩,⟨by (with_reducible repeat (first|refine blk_drewN ?_ _|refine blk_drew ?_|refine blk_alloc ?_ _));exact BK616.out⟩,⟨by exact bw⟩⟩
      ·rw [if_neg c13] at H;exact absurd H (by simp)
     ·rw [if_neg c11] at H;exact absurd H (by simp)
    ·rw [if_neg c10] at H;exact absurd H (by simp)
   ·rw [if_neg c9] at H;have c9b0:decide (x10_1 < (t620.length:Int)) = false:=decide_eq_false c9;clear c9;obtain rfl:=Option.some.inj H;go_wp2
    go_ret
    exact ⟨_,by first|rfl|(simp [errW_none,errW_some] <;> rfl)|(simp [*,errW_none,errW_some] <;> rfl),by (with_reducible repeat (first|apply Kd.R_alloc|apply Kd.R_drewN|apply Kd.R_drew));exact HO_3.out,by exact bw⟩

end Go.Proofs.Ytokelcedamegbaa.P
