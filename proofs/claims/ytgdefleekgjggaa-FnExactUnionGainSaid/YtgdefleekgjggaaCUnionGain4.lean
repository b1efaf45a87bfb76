/- Part 4 of the texts below the law FnExactUnionGain. Printed by this session's driver over the kit's printer, but for the hand contracts and the plain laws. -/
import Derived.Test.YtgdefleekgjggaaCUnionGain1
import Derived.Test.YtgdefleekgjggaaCUnionGain2
import Derived.Test.YtgdefleekgjggaaCUnionGain3
namespace Go.Proofs.Ytgdefleekgjggaa.P
open Go.RowKit Go.Proofs.YtgdefleekgjggaaW.PrintWords Go.Proofs.YtgdefleekgjggaaW.PrintLast Go.Proofs.YtgdefleekgjggaaW.PrintMore
attribute [local go_sem] max2_int min2_int max_two min_two max_three min_three max_four min_four   -- for this text's walks alone
set_option linter.unusedVariables false
set_option linter.unusedSimpArgs false

/-! ### laws_FnExactUnionGain: function 13 -/
def laws_FnExactUnionGain.f (k : Nat) (a0_0 : Int) (l0_1 : List Int) (l1 : List Int) : Option (Bool) := if (l1.length : Int) > 1048576 then (some true) else ((laws_szCommittee.f a0_0 l0_1 1048576).bind fun t1093 => (if t1093 < 0 then (some true) else ((laws_toCommittee.f k a0_0 l0_1).bind fun bt1094 => ((laws_toIntS.f k l1).bind fun t1098 => ((spec_UnionGain.f k bt1094.1 bt1094.2 t1098).bind fun bt1101 => ((laws_toCommittee.f k a0_0 l0_1).bind fun bt1103 => ((laws_toIntS.f k l1).bind fun t1108 => ((impl_UnionGain.f k bt1103.1 bt1103.2 t1108).bind fun bt1111 => (if bt1111.1 = bt1101.1 then (if (bt1111.2 != bt1101.2) = true then (some false) else ((laws_toCommittee.f k a0_0 l0_1).bind fun bt1113 => ((laws_eqCommittee.f k bt1103.1 bt1103.2 bt1113.1 bt1113.2).bind fun t1117 => (if t1117 = true then ((laws_toIntS.f k l1).bind fun t1118 => ((laws_eqIntS.f k t1108 t1118).bind fun t1121 => (if t1121 = true then (some true) else (some false)))) else (some false))))) else (some false))))))))))
theorem laws_FnExactUnionGain.mono : ∀ a0 a1 a2 k, LeO (laws_FnExactUnionGain.f k a0 a1 a2) (laws_FnExactUnionGain.f (k + 1) a0 a1 a2) := by
  intro a0 a1 a2 k
  unfold laws_FnExactUnionGain.f
  repeat' first
      | (with_reducible exact impl_UnionGain.mono _ _ _ _)
      | (with_reducible exact laws_eqCommittee.mono _ _ _ _ _)
      | (with_reducible exact laws_eqIntS.mono _ _ _)
      | (with_reducible exact laws_toCommittee.mono _ _ _)
      | (with_reducible exact laws_toIntS.mono _ _)
      | (with_reducible exact spec_UnionGain.mono _ _ _ _)
      | (with_reducible exact LeO.refl _)
      | (with_reducible exact LeO.none _)
      | (with_reducible refine LeO.ite ?_ ?_)
      | (with_reducible refine LeO.bind ?_ (fun _ => ?_))
      | exact impl_UnionGain.mono _ _ _ _
      | exact laws_eqCommittee.mono _ _ _ _ _
      | exact laws_eqIntS.mono _ _ _
      | exact laws_toCommittee.mono _ _ _
      | exact laws_toIntS.mono _ _
      | exact spec_UnionGain.mono _ _ _ _
      | exact LeO.none _
      | refine LeO.ite ?_ ?_
      | refine LeO.bind ?_ (fun _ => ?_)
set_option maxHeartbeats 8000000 in
set_option maxRecDepth 100000 in
theorem laws_FnExactUnionGain.calls (k : Nat) (a0_0 : Int) (A0_1 : Option Addr) (c0_1 : Nat) (l0_1 : List Int) (A1 : Option Addr) (c1 : Nat) (l1 : List Int) (r : Bool) (w : World) (hr0_1 : Kd.C (Kd.int .i64) w A0_1 l0_1.length l0_1) (hc0_1 : l0_1.length ≤ c0_1) (hr1 : Kd.C (Kd.int .i64) w A1 l1.length l1) (hc1 : l1.length ≤ c1) (hr_ : Aside0 (r = true)) (h : laws_FnExactUnionGain.f k a0_0 l0_1 l1 = some r) :
    Calls Try.prog 13 #[.agg #[.int .i64 a0_0, .slice A0_1 l0_1.length c0_1], .slice A1 l1.length c1] w fun e w' => e = .returned (.bool r) ∧ Below w.heap.size w w' := by
  have hu34 := Try.underlying34
  have hu39 := Try.underlying39
  have HR0_1 := Aside0.mk hr0_1
  have HC0_1 := Aside0.mk hc0_1
  clear hr0_1 hc0_1
  have HR1 := Aside0.mk hr1
  have HC1 := Aside0.mk hc1
  clear hr1 hc1
  have HB := Aside0.mk (Below.refl w.heap.size w)
  have H : (if (l1.length : Int) > 1048576 then (some true) else ((laws_szCommittee.f a0_0 l0_1 1048576).bind fun t1093 => (if t1093 < 0 then (some true) else ((laws_toCommittee.f k a0_0 l0_1).bind fun bt1094 => ((laws_toIntS.f k l1).bind fun t1098 => ((spec_UnionGain.f k bt1094.1 bt1094.2 t1098).bind fun bt1101 => ((laws_toCommittee.f k a0_0 l0_1).bind fun bt1103 => ((laws_toIntS.f k l1).bind fun t1108 => ((impl_UnionGain.f k bt1103.1 bt1103.2 t1108).bind fun bt1111 => (if bt1111.1 = bt1101.1 then (if (bt1111.2 != bt1101.2) = true then (some false) else ((laws_toCommittee.f k a0_0 l0_1).bind fun bt1113 => ((laws_eqCommittee.f k bt1103.1 bt1103.2 bt1113.1 bt1113.2).bind fun t1117 => (if t1117 = true then ((laws_toIntS.f k l1).bind fun t1118 => ((laws_eqIntS.f k t1108 t1118).bind fun t1121 => (if t1121 = true then (some true) else (some false)))) else (some false))))) else (some false))))))))))) = some r := h
  clear h
  by_cases c3 : (l1.length : Int) > 1048576
  · rw [if_pos c3] at H
    have c3b0 : decide (1048576 < (l1.length : Int)) = true := decide_eq_true c3
    have c3b1 : decide (1048576 < l1.length) = true := decide_eq_true (by omega)
    clear c3
    obtain rfl := Option.some.inj H
    go_enter Try.func13, Try.ntmps13
    go_wp2_with (first | ((with_reducible refine gate_dst (N := 2) rfl ?_); refine box_event ?hg (N := 2) ?hd (cs := #[.int .i64 a0_0, .slice A0_1 l0_1.length c0_1]) (t := 34) ?hr ?_; (case hd => rfl); (case hg => rfl); (case hr => first | (go_simp; done) | (go_simp; rfl)); intro gb1092 hg w4 hbox hb; have n0_ := Aside0.mk (below_step (by repeat (first | (with_reducible first | exact HB.out | apply below_alloc | apply pw_below_drewN | apply below_drew1) | exact HB.out)) hb); have n1_ := Aside0.mk (hbox); have n2_ := Aside0.mk ((by rw [hg]; exact (below_size (by repeat (first | (with_reducible first | exact HB.out | apply below_alloc | apply pw_below_drewN | apply below_drew1) | exact HB.out))) : w.heap.size ≤ gb1092)); have n3_ := Aside0.mk ((by rw [hg]; exact (below_size (by repeat (first | (with_reducible first | exact HB.out | apply below_alloc | apply pw_below_drewN | apply below_drew1) | exact HB.out))) : w.heap.size ≤ gb1092)); clear HB; have HB := n0_; have BK1092 := n1_; have GW1092 := n2_; have GE1092 := n3_; clear n0_ n1_ n2_ n3_; clear hb hbox hg))
    go_ret
    exact ⟨by first | rfl | (simp [errW_none, errW_some] <;> rfl) | (simp [*, errW_none, errW_some] <;> rfl), by repeat (first | (with_reducible first | exact HB.out | apply below_alloc | apply pw_below_drewN | apply below_drew1 | refine below_set ?_ GE1092.out) | exact HB.out)⟩
  · rw [if_neg c3] at H
    have c3b0 : decide (1048576 < (l1.length : Int)) = false := decide_eq_false c3
    have c3b1 : decide (1048576 < l1.length) = false := decide_eq_false (by omega)
    clear c3
    replace H := Option.bind_eq_some_iff.mp H
    obtain ⟨t1093, A50, H⟩ := H
    replace H : (if t1093 < 0 then (some true) else ((laws_toCommittee.f k a0_0 l0_1).bind fun bt1094 => ((laws_toIntS.f k l1).bind fun t1098 => ((spec_UnionGain.f k bt1094.1 bt1094.2 t1098).bind fun bt1101 => ((laws_toCommittee.f k a0_0 l0_1).bind fun bt1103 => ((laws_toIntS.f k l1).bind fun t1108 => ((impl_UnionGain.f k bt1103.1 bt1103.2 t1108).bind fun bt1111 => (if bt1111.1 = bt1101.1 then (if (bt1111.2 != bt1101.2) = true then (some false) else ((laws_toCommittee.f k a0_0 l0_1).bind fun bt1113 => ((laws_eqCommittee.f k bt1103.1 bt1103.2 bt1113.1 bt1113.2).bind fun t1117 => (if t1117 = true then ((laws_toIntS.f k l1).bind fun t1118 => ((laws_eqIntS.f k t1108 t1118).bind fun t1121 => (if t1121 = true then (some true) else (some false)))) else (some false))))) else (some false))))))))) = some r := H
    have A5 := Aside0.mk A50
    clear A50
    by_cases c6 : t1093 < 0
    · rw [if_pos c6] at H
      have c6b0 : decide (t1093 < 0) = true := decide_eq_true c6
      clear c6
      obtain rfl := Option.some.inj H
      go_enter Try.func13, Try.ntmps13
      go_wp2_with (first | ((with_reducible refine gate_dst (N := 2) rfl ?_); refine box_event ?hg (N := 2) ?hd (cs := #[.int .i64 a0_0, .slice A0_1 l0_1.length c0_1]) (t := 34) ?hr ?_; (case hd => rfl); (case hg => rfl); (case hr => first | (go_simp; done) | (go_simp; rfl)); intro gb1092 hg w7 hbox hb; have n0_ := Aside0.mk (below_step (by repeat (first | (with_reducible first | exact HB.out | apply below_alloc | apply pw_below_drewN | apply below_drew1) | exact HB.out)) hb); have n1_ := Aside0.mk (hbox); have n2_ := Aside0.mk ((by rw [hg]; exact (below_size (by repeat (first | (with_reducible first | exact HB.out | apply below_alloc | apply pw_below_drewN | apply below_drew1) | exact HB.out))) : w.heap.size ≤ gb1092)); have n3_ := Aside0.mk ((by rw [hg]; exact (below_size (by repeat (first | (with_reducible first | exact HB.out | apply below_alloc | apply pw_below_drewN | apply below_drew1) | exact HB.out))) : w.heap.size ≤ gb1092)); clear HB; have HB := n0_; have BK1092 := n1_; have GW1092 := n2_; have GE1092 := n3_; clear n0_ n1_ n2_ n3_; clear hb hbox hg; have hcz8_0 : w7.cell? ⟨gb1092, 0, none⟩ = some (.int .i64 a0_0) := (blk_cell BK1092.out 0).trans rfl; have hcz8_1 : w7.cell? ⟨gb1092, 1, none⟩ = some (.slice A0_1 l0_1.length c0_1) := (blk_cell BK1092.out 1).trans rfl; have hfz8_0 := blk_frozen BK1092.out 0; have hfz8_1 := blk_frozen BK1092.out 1) | ((with_reducible refine gate_callee (f := 24) rfl ?_); refine goesL_ (some 17) rfl rfl Try.func24 (by kernel_rfl) rfl #[.agg #[.int .i64 a0_0, .slice A0_1 l0_1.length c0_1], .int .i64 1048576] rfl (by (try simp only [List.map_toArray, List.map_cons, List.map_nil]); first | done | rfl | (simp only [List.length_drop, List.length_take]; rfl)) ?_; (with_reducible refine (laws_szCommittee.calls a0_0 _ _ l0_1 1048576 t1093 _ ?side1 ?side2 A5.out).mono ?_); (case side1 => repeat (first | exact (Kd.C_below HR0_1.out HB.out) | (with_reducible refine Kd.C_alloc ?_ _) | (with_reducible refine Kd.C_drewN ?_ _) | (with_reducible refine Kd.C_drew ?_))); (case side2 => exact HC0_1.out); rintro e w9 ⟨rfl, hb⟩; refine ⟨_, rfl, ?_⟩; have n0_ := Aside0.mk (blk_below (g := gb1092) (o := .cells #[.int .i64 a0_0, .slice A0_1 l0_1.length c0_1] 34 (0, 0)) (by (with_reducible repeat (first | refine blk_drewN ?_ _ | refine blk_drew ?_ | refine blk_alloc ?_ _)); exact BK1092.out) hb); have n1_ := Aside0.mk (below_step (by repeat (first | (with_reducible first | exact HB.out | apply below_alloc | apply pw_below_drewN | apply below_drew1 | refine below_set ?_ GE1092.out) | exact HB.out)) hb); clear BK1092; clear HB; have BK1092 := n0_; have HB := n1_; clear n0_ n1_; (try clear hb); (try clear hb2); (try clear hk); (try clear hi)))
      go_ret
      exact ⟨by first | rfl | (simp [errW_none, errW_some] <;> rfl) | (simp [*, errW_none, errW_some] <;> rfl), by repeat (first | (with_reducible first | exact HB.out | apply below_alloc | apply pw_below_drewN | apply below_drew1 | refine below_set ?_ GE1092.out) | exact HB.out)⟩
    · rw [if_neg c6] at H
      have c6b0 : decide (t1093 < 0) = false := decide_eq_false c6
      clear c6
      replace H := Option.bind_eq_some_iff.mp H
      obtain ⟨⟨t1094, t1095⟩, A100, H⟩ := H
      replace H : ((laws_toIntS.f k l1).bind fun t1098 => ((spec_UnionGain.f k t1094 t1095 t1098).bind fun bt1101 => ((laws_toCommittee.f k a0_0 l0_1).bind fun bt1103 => ((laws_toIntS.f k l1).bind fun t1108 => ((impl_UnionGain.f k bt1103.1 bt1103.2 t1108).bind fun bt1111 => (if bt1111.1 = bt1101.1 then (if (bt1111.2 != bt1101.2) = true then (some false) else ((laws_toCommittee.f k a0_0 l0_1).bind fun bt1113 => ((laws_eqCommittee.f k bt1103.1 bt1103.2 bt1113.1 bt1113.2).bind fun t1117 => (if t1117 = true then ((laws_toIntS.f k l1).bind fun t1118 => ((laws_eqIntS.f k t1108 t1118).bind fun t1121 => (if t1121 = true then (some true) else (some false)))) else (some false))))) else (some false))))))) = some r := H
      have A10 := Aside0.mk A100
      clear A100
      replace H := Option.bind_eq_some_iff.mp H
      obtain ⟨t1098, A110, H⟩ := H
      replace H : ((spec_UnionGain.f k t1094 t1095 t1098).bind fun bt1101 => ((laws_toCommittee.f k a0_0 l0_1).bind fun bt1103 => ((laws_toIntS.f k l1).bind fun t1108 => ((impl_UnionGain.f k bt1103.1 bt1103.2 t1108).bind fun bt1111 => (if bt1111.1 = bt1101.1 then (if (bt1111.2 != bt1101.2) = true then (some false) else ((laws_toCommittee.f k a0_0 l0_1).bind fun bt1113 => ((laws_eqCommittee.f k bt1103.1 bt1103.2 bt1113.1 bt1113.2).bind fun t1117 => (if t1117 = true then ((laws_toIntS.f k l1).bind fun t1118 => ((laws_eqIntS.f k t1108 t1118).bind fun t1121 => (if t1121 = true then (some true) else (some false)))) else (some false))))) else (some false)))))) = some r := H
      have A11 := Aside0.mk A110
      clear A110
      replace H := Option.bind_eq_some_iff.mp H
      obtain ⟨⟨t1101, t1102⟩, A120, H⟩ := H
      replace H : ((laws_toCommittee.f k a0_0 l0_1).bind fun bt1103 => ((laws_toIntS.f k l1).bind fun t1108 => ((impl_UnionGain.f k bt1103.1 bt1103.2 t1108).bind fun bt1111 => (if bt1111.1 = t1101 then (if (bt1111.2 != t1102) = true then (some false) else ((laws_toCommittee.f k a0_0 l0_1).bind fun bt1113 => ((laws_eqCommittee.f k bt1103.1 bt1103.2 bt1113.1 bt1113.2).bind fun t1117 => (if t1117 = true then ((laws_toIntS.f k l1).bind fun t1118 => ((laws_eqIntS.f k t1108 t1118).bind fun t1121 => (if t1121 = true then (some true) else (some false)))) else (some false))))) else (some false))))) = some r := H
      have A12 := Aside0.mk A120
      clear A120
      replace H := Option.bind_eq_some_iff.mp H
      obtain ⟨⟨t1103, t1104⟩, A130, H⟩ := H
      replace H : ((laws_toIntS.f k l1).bind fun t1108 => ((impl_UnionGain.f k t1103 t1104 t1108).bind fun bt1111 => (if bt1111.1 = t1101 then (if (bt1111.2 != t1102) = true then (some false) else ((laws_toCommittee.f k a0_0 l0_1).bind fun bt1113 => ((laws_eqCommittee.f k t1103 t1104 bt1113.1 bt1113.2).bind fun t1117 => (if t1117 = true then ((laws_toIntS.f k l1).bind fun t1118 => ((laws_eqIntS.f k t1108 t1118).bind fun t1121 => (if t1121 = true then (some true) else (some false)))) else (some false))))) else (some false)))) = some r := H
      have A13 := Aside0.mk A130
      clear A130
      replace H := Option.bind_eq_some_iff.mp H
      obtain ⟨t1108, A140, H⟩ := H
      replace H : ((impl_UnionGain.f k t1103 t1104 t1108).bind fun bt1111 => (if bt1111.1 = t1101 then (if (bt1111.2 != t1102) = true then (some false) else ((laws_toCommittee.f k a0_0 l0_1).bind fun bt1113 => ((laws_eqCommittee.f k t1103 t1104 bt1113.1 bt1113.2).bind fun t1117 => (if t1117 = true then ((laws_toIntS.f k l1).bind fun t1118 => ((laws_eqIntS.f k t1108 t1118).bind fun t1121 => (if t1121 = true then (some true) else (some false)))) else (some false))))) else (some false))) = some r := H
      have A14 := Aside0.mk A140
      clear A140
      replace H := Option.bind_eq_some_iff.mp H
      obtain ⟨⟨t1111, t1112⟩, A150, H⟩ := H
      replace H : (if t1111 = t1101 then (if (t1112 != t1102) = true then (some false) else ((laws_toCommittee.f k a0_0 l0_1).bind fun bt1113 => ((laws_eqCommittee.f k t1103 t1104 bt1113.1 bt1113.2).bind fun t1117 => (if t1117 = true then ((laws_toIntS.f k l1).bind fun t1118 => ((laws_eqIntS.f k t1108 t1118).bind fun t1121 => (if t1121 = true then (some true) else (some false)))) else (some false))))) else (some false)) = some r := H
      have A15 := Aside0.mk A150
      clear A150
      by_cases c16 : t1111 = t1101
      · rw [if_pos c16] at H
        have c16b0 : (t1111 == t1101) = true := beq_iff_eq.mpr c16
        have c16b1 : (t1111 != t1101) = false := bne_eq_false_iff_eq.mpr c16
        clear c16
        by_cases c17 : (t1112 != t1102) = true
        · rw [if_pos c17] at H
          have c17b0 : (t1112 != t1102) = true := c17
          (try (have c17b1 : decide (t1112 = t1102) = false := by simpa using c17))
          (try (have c17b2 : (t1112 == t1102) = false := by simpa using c17))
          (try (have c17b3 : ¬ (t1112 = t1102) := by simpa using c17))
          clear c17
          exact absurd (H.trans (congrArg some hr_.out)) (by simp)
        · rw [if_neg c17] at H
          have c17b0 : (t1112 != t1102) = false := by simpa using c17
          (try (have c17b1 : decide (t1112 = t1102) = true := by simpa using c17))
          (try (have c17b2 : (t1112 == t1102) = true := by simpa using c17))
          clear c17
          replace H := Option.bind_eq_some_iff.mp H
          obtain ⟨⟨t1113, t1114⟩, A180, H⟩ := H
          replace H : ((laws_eqCommittee.f k t1103 t1104 t1113 t1114).bind fun t1117 => (if t1117 = true then ((laws_toIntS.f k l1).bind fun t1118 => ((laws_eqIntS.f k t1108 t1118).bind fun t1121 => (if t1121 = true then (some true) else (some false)))) else (some false))) = some r := H
          have A18 := Aside0.mk A180
          clear A180
          replace H := Option.bind_eq_some_iff.mp H
          obtain ⟨t1117, A190, H⟩ := H
          replace H : (if t1117 = true then ((laws_toIntS.f k l1).bind fun t1118 => ((laws_eqIntS.f k t1108 t1118).bind fun t1121 => (if t1121 = true then (some true) else (some false)))) else (some false)) = some r := H
          have A19 := Aside0.mk A190
          clear A190
          by_cases c20 : t1117 = true
          · subst c20
            have H1 : ((laws_toIntS.f k l1).bind fun t1118 => ((laws_eqIntS.f k t1108 t1118).bind fun t1121 => (if t1121 = true then (some true) else (some false)))) = some r := by rw [if_pos rfl] at H; exact H
            clear H
            have H := H1
            clear H1
            replace H := Option.bind_eq_some_iff.mp H
            obtain ⟨t1118, A210, H⟩ := H
            replace H : ((laws_eqIntS.f k t1108 t1118).bind fun t1121 => (if t1121 = true then (some true) else (some false))) = some r := H
            have A21 := Aside0.mk A210
            clear A210
            replace H := Option.bind_eq_some_iff.mp H
            obtain ⟨t1121, A220, H⟩ := H
            replace H : (if t1121 = true then (some true) else (some false)) = some r := H
            have A22 := Aside0.mk A220
            clear A220
            by_cases c23 : t1121 = true
            · subst c23
              have H1 : (some true) = some r := by rw [if_pos rfl] at H; exact H
              clear H
              have H := H1
              clear H1
              obtain rfl := Option.some.inj H
              go_enter Try.func13, Try.ntmps13
              try go_wp2_with (first | ((with_reducible refine gate_dst (N := 2) rfl ?_); refine box_event ?hg (N := 2) ?hd (cs := #[.int .i64 a0_0, .slice A0_1 l0_1.length c0_1]) (t := 34) ?hr ?_; (case hd => rfl); (case hg => rfl); (case hr => first | (go_simp; done) | (go_simp; rfl)); intro gb1092 hg w24 hbox hb; have n0_ := Aside0.mk (below_step (by repeat (first | (with_reducible first | exact HB.out | apply below_alloc | apply pw_below_drewN | apply below_drew1) | exact HB.out)) hb); have n1_ := Aside0.mk (hbox); have n2_ := Aside0.mk ((by rw [hg]; exact (below_size (by repeat (first | (with_reducible first | exact HB.out | apply below_alloc | apply pw_below_drewN | apply below_drew1) | exact HB.out))) : w.heap.size ≤ gb1092)); have n3_ := Aside0.mk ((by rw [hg]; exact (below_size (by repeat (first | (with_reducible first | exact HB.out | apply below_alloc | apply pw_below_drewN | apply below_drew1) | exact HB.out))) : w.heap.size ≤ gb1092)); clear HB; have HB := n0_; have BK1092 := n1_; have GW1092 := n2_; have GE1092 := n3_; clear n0_ n1_ n2_ n3_; clear hb hbox hg; have hcz25_0 : w24.cell? ⟨gb1092, 0, none⟩ = some (.int .i64 a0_0) := (blk_cell BK1092.out 0).trans rfl; have hcz25_1 : w24.cell? ⟨gb1092, 1, none⟩ = some (.slice A0_1 l0_1.length c0_1) := (blk_cell BK1092.out 1).trans rfl; have hfz25_0 := blk_frozen BK1092.out 0; have hfz25_1 := blk_frozen BK1092.out 1) | ((with_reducible refine gate_callee (f := 24) rfl ?_); refine goesL_ (some 17) rfl rfl Try.func24 (by kernel_rfl) rfl #[.agg #[.int .i64 a0_0, .slice A0_1 l0_1.length c0_1], .int .i64 1048576] rfl (by (try simp only [List.map_toArray, List.map_cons, List.map_nil]); first | done | rfl | (simp only [List.length_drop, List.length_take]; rfl)) ?_; (with_reducible refine (laws_szCommittee.calls a0_0 _ _ l0_1 1048576 t1093 _ ?side1 ?side2 A5.out).mono ?_); (case side1 => repeat (first | exact (Kd.C_below HR0_1.out HB.out) | (with_reducible refine Kd.C_alloc ?_ _) | (with_reducible refine Kd.C_drewN ?_ _) | (with_reducible refine Kd.C_drew ?_))); (case side2 => exact HC0_1.out); rintro e w26 ⟨rfl, hb⟩; refine ⟨_, rfl, ?_⟩; have n0_ := Aside0.mk (blk_below (g := gb1092) (o := .cells #[.int .i64 a0_0, .slice A0_1 l0_1.length c0_1] 34 (0, 0)) (by (with_reducible repeat (first | refine blk_drewN ?_ _ | refine blk_drew ?_ | refine blk_alloc ?_ _)); exact BK1092.out) hb); have n1_ := Aside0.mk (below_step (by repeat (first | (with_reducible first | exact HB.out | apply below_alloc | apply pw_below_drewN | apply below_drew1 | refine below_set ?_ GE1092.out) | exact HB.out)) hb); clear BK1092; clear HB; have BK1092 := n0_; have HB := n1_; clear n0_ n1_; (try clear hb); (try clear hb2); (try clear hk); (try clear hi); have hcz27_0 : w26.cell? ⟨gb1092, 0, none⟩ = some (.int .i64 a0_0) := (blk_cell BK1092.out 0).trans rfl; have hcz27_1 : w26.cell? ⟨gb1092, 1, none⟩ = some (.slice A0_1 l0_1.length c0_1) := (blk_cell BK1092.out 1).trans rfl; have hfz27_0 := blk_frozen BK1092.out 0; have hfz27_1 := blk_frozen BK1092.out 1) | ((with_reducible refine gate_callee (f := 27) rfl ?_); refine goesL_ (some 22) rfl rfl Try.func27 (by kernel_rfl) rfl #[.agg #[.int .i64 a0_0, .slice A0_1 l0_1.length c0_1]] rfl (by (try simp only [List.map_toArray, List.map_cons, List.map_nil]); first | done | rfl | (simp only [List.length_drop, List.length_take]; rfl)) ?_; (with_reducible refine (laws_toCommittee.calls k a0_0 _ _ l0_1 t1094 t1095 _ ?side1 ?side2 A10.out).mono ?_); (case side1 => repeat (first | exact (Kd.C_below HR0_1.out HB.out) | (with_reducible refine Kd.C_alloc ?_ _) | (with_reducible refine Kd.C_drewN ?_ _) | (with_reducible refine Kd.C_drew ?_))); (case side2 => exact HC0_1.out); rintro e w28 ⟨v1096, rfl, ho0, hb⟩; refine ⟨_, rfl, ?_⟩; have n0_ := Aside0.mk (Kd.R_lower ho0 (below_size (by repeat (first | (with_reducible first | exact HB.out | apply below_alloc | apply pw_below_drewN | apply below_drew1 | refine below_set ?_ GE1092.out) | exact HB.out)))); have n1_ := Aside0.mk (blk_below (g := gb1092) (o := .cells #[.int .i64 a0_0, .slice A0_1 l0_1.length c0_1] 34 (0, 0)) (by (with_reducible repeat (first | refine blk_drewN ?_ _ | refine blk_drew ?_ | refine blk_alloc ?_ _)); exact BK1092.out) hb); have n2_ := Aside0.mk (below_step (by repeat (first | (with_reducible first | exact HB.out | apply below_alloc | apply pw_below_drewN | apply below_drew1 | refine below_set ?_ GE1092.out) | exact HB.out)) hb); clear BK1092; clear HB; have HO1097 := n0_; have BK1092 := n1_; have HB := n2_; clear n0_ n1_ n2_; (try clear hb); (try clear hb2); (try clear hk); (try clear hi); (try clear ho0)) | ((with_reducible refine gate_callee (f := 18) rfl ?_); refine goesL_ (some 24) rfl rfl Try.func18 (by kernel_rfl) rfl #[.slice A1 l1.length c1] rfl (by (try simp only [List.map_toArray, List.map_cons, List.map_nil]); first | done | rfl | (simp only [List.length_drop, List.length_take]; rfl)) ?_; (with_reducible refine (laws_toIntS.calls k _ _ l1 t1098 _ ?side1 ?side2 A11.out).mono ?_); (case side1 => repeat (first | exact (Kd.C_below HR1.out HB.out) | (with_reducible refine Kd.C_alloc ?_ _) | (with_reducible refine Kd.C_drewN ?_ _) | (with_reducible refine Kd.C_drew ?_))); (case side2 => exact HC1.out); rintro e w29 ⟨v1099, rfl, ho0, hb⟩; refine ⟨_, rfl, ?_⟩; have n0_ := Aside0.mk (Kd.R_elder' (by (with_reducible repeat (first | apply Kd.R_alloc | apply Kd.R_drewN | apply Kd.R_drew)); exact HO1097.out) (Kd.R_base ho0) hb); have n1_ := Aside0.mk (Kd.R_lower (Kd.R_new' ho0 (Kd.R_lt (by (with_reducible repeat (first | apply Kd.R_alloc | apply Kd.R_drewN | apply Kd.R_drew)); exact HO1097.out))) (below_size (by repeat (first | (with_reducible first | exact HB.out | apply below_alloc | apply pw_below_drewN | apply below_drew1 | refine below_set ?_ GE1092.out) | exact HB.out)))); have n2_ := Aside0.mk (blk_below (g := gb1092) (o := .cells #[.int .i64 a0_0, .slice A0_1 l0_1.length c0_1] 34 (0, 0)) (by (with_reducible repeat (first | refine blk_drewN ?_ _ | refine blk_drew ?_ | refine blk_alloc ?_ _)); exact BK1092.out) hb); have n3_ := Aside0.mk (below_step (by repeat (first | (with_reducible first | exact HB.out | apply below_alloc | apply pw_below_drewN | apply below_drew1 | refine below_set ?_ GE1092.out) | exact HB.out)) hb); clear HO1097; clear BK1092; clear HB; have HO1097 := n0_; have HO1100 := n1_; have BK1092 := n2_; have HB := n3_; clear n0_ n1_ n2_ n3_; (try clear hb); (try clear hb2); (try clear hk); (try clear hi); (try clear ho0); obtain ⟨Ao30, co30, eo30⟩ := Kd.R_slice HO1097.out; subst eo30; obtain ⟨Ao31, co31, eo31⟩ := Kd.R_slice HO1100.out; subst eo31) | ((with_reducible refine gate_callee (f := 53) rfl ?_); refine goesL_ (some 25) rfl rfl Try.func53 (by kernel_rfl) rfl #[.agg #[.int .i64 t1094, .slice Ao30 t1095.length co30], .slice Ao31 t1098.length co31] rfl (by (try simp only [List.map_toArray, List.map_cons, List.map_nil]); first | done | rfl | (simp only [List.length_drop, List.length_take]; rfl)) ?_; (with_reducible refine (spec_UnionGain.calls k t1094 _ _ t1095 _ _ t1098 t1101 t1102 _ ?side1 ?side2 ?side3 ?side4 A12.out).mono ?_); (case side1 => repeat (first | exact (Kd.R_reads' HO1097.out).2.2 | (with_reducible refine Kd.C_alloc ?_ _) | (with_reducible refine Kd.C_drewN ?_ _) | (with_reducible refine Kd.C_drew ?_))); (case side2 => exact (Kd.R_reads' HO1097.out).2.1); (case side3 => repeat (first | exact (Kd.R_reads' HO1100.out).2.2 | (with_reducible refine Kd.C_alloc ?_ _) | (with_reducible refine Kd.C_drewN ?_ _) | (with_reducible refine Kd.C_drew ?_))); (case side4 => exact (Kd.R_reads' HO1100.out).2.1); rintro e w32 ⟨rfl, hb⟩; refine ⟨_, rfl, ?_⟩; have n0_ := Aside0.mk (Kd.R_below (by (with_reducible repeat (first | apply Kd.R_alloc | apply Kd.R_drewN | apply Kd.R_drew)); exact HO1097.out) hb); have n1_ := Aside0.mk (Kd.R_below (by (with_reducible repeat (first | apply Kd.R_alloc | apply Kd.R_drewN | apply Kd.R_drew)); exact HO1100.out) hb); have n2_ := Aside0.mk (blk_below (g := gb1092) (o := .cells #[.int .i64 a0_0, .slice A0_1 l0_1.length c0_1] 34 (0, 0)) (by (with_reducible repeat (first | refine blk_drewN ?_ _ | refine blk_drew ?_ | refine blk_alloc ?_ _)); exact BK1092.out) hb); have n3_ := Aside0.mk (below_step (by repeat (first | (with_reducible first | exact HB.out | apply below_alloc | apply pw_below_drewN | apply below_drew1 | refine below_set ?_ GE1092.out) | exact HB.out)) hb); clear HO1097; clear HO1100; clear BK1092; clear HB; have HO1097 := n0_; have HO1100 := n1_; have BK1092 := n2_; have HB := n3_; clear n0_ n1_ n2_ n3_; (try clear hb); (try clear hb2); (try clear hk); (try clear hi); have hcz33_0 : w32.cell? ⟨gb1092, 0, none⟩ = some (.int .i64 a0_0) := (blk_cell BK1092.out 0).trans rfl; have hcz33_1 : w32.cell? ⟨gb1092, 1, none⟩ = some (.slice A0_1 l0_1.length c0_1) := (blk_cell BK1092.out 1).trans rfl; have hfz33_0 := blk_frozen BK1092.out 0; have hfz33_1 := blk_frozen BK1092.out 1) | ((with_reducible refine gate_callee (f := 27) rfl ?_); refine goesL_ (some 29) rfl rfl Try.func27 (by kernel_rfl) rfl #[.agg #[.int .i64 a0_0, .slice A0_1 l0_1.length c0_1]] rfl (by (try simp only [List.map_toArray, List.map_cons, List.map_nil]); first | done | rfl | (simp only [List.length_drop, List.length_take]; rfl)) ?_; (with_reducible refine (laws_toCommittee.calls k a0_0 _ _ l0_1 t1103 t1104 _ ?side1 ?side2 A13.out).mono ?_); (case side1 => repeat (first | exact (Kd.C_below HR0_1.out HB.out) | (with_reducible refine Kd.C_alloc ?_ _) | (with_reducible refine Kd.C_drewN ?_ _) | (with_reducible refine Kd.C_drew ?_))); (case side2 => exact HC0_1.out); rintro e w34 ⟨v1105, rfl, ho0, hb⟩; refine ⟨_, rfl, ?_⟩; have n0_ := Aside0.mk (Kd.R_elder' (by (with_reducible repeat (first | apply Kd.R_alloc | apply Kd.R_drewN | apply Kd.R_drew)); exact HO1097.out) (Kd.R_base ho0) hb); have n1_ := Aside0.mk (Kd.R_elder' (by (with_reducible repeat (first | apply Kd.R_alloc | apply Kd.R_drewN | apply Kd.R_drew)); exact HO1100.out) (Kd.R_base ho0) hb); have n2_ := Aside0.mk (Kd.R_lower (Kd.R_new' (Kd.R_new' ho0 (Kd.R_lt (by (with_reducible repeat (first | apply Kd.R_alloc | apply Kd.R_drewN | apply Kd.R_drew)); exact HO1097.out))) (Kd.R_lt (by (with_reducible repeat (first | apply Kd.R_alloc | apply Kd.R_drewN | apply Kd.R_drew)); exact HO1100.out))) (below_size (by repeat (first | (with_reducible first | exact HB.out | apply below_alloc | apply pw_below_drewN | apply below_drew1 | refine below_set ?_ GE1092.out) | exact HB.out)))); have n3_ := Aside0.mk (blk_below (g := gb1092) (o := .cells #[.int .i64 a0_0, .slice A0_1 l0_1.length c0_1] 34 (0, 0)) (by (with_reducible repeat (first | refine blk_drewN ?_ _ | refine blk_drew ?_ | refine blk_alloc ?_ _)); exact BK1092.out) hb); have n4_ := Aside0.mk (below_step (by repeat (first | (with_reducible first | exact HB.out | apply below_alloc | apply pw_below_drewN | apply below_drew1 | refine below_set ?_ GE1092.out) | exact HB.out)) hb); clear HO1097; clear HO1100; clear BK1092; clear HB; have HO1097 := n0_; have HO1100 := n1_; have HO1106 := n2_; have BK1092 := n3_; have HB := n4_; clear n0_ n1_ n2_ n3_ n4_; (try clear hb); (try clear hb2); (try clear hk); (try clear hi); (try clear ho0)) | ((with_reducible refine gate_dst (N := 8) rfl ?_); refine box_event ?hg (N := 8) ?hd (cs := #[.int .i64 0, .slice none 0 0]) (t := 39) ?hr ?_; (case hd => rfl); (case hg => rfl); (case hr => first | (go_simp; done) | (go_simp; rfl)); intro gb1107 hg w35 hbox hb; have n0_ := Aside0.mk (Kd.R_below (by (with_reducible repeat (first | apply Kd.R_alloc | apply Kd.R_drewN | apply Kd.R_drew)); exact HO1097.out) hb); have n1_ := Aside0.mk (Kd.R_below (by (with_reducible repeat (first | apply Kd.R_alloc | apply Kd.R_drewN | apply Kd.R_drew)); exact HO1100.out) hb); have n2_ := Aside0.mk (Kd.R_below (by (with_reducible repeat (first | apply Kd.R_alloc | apply Kd.R_drewN | apply Kd.R_drew)); exact HO1106.out) hb); have n3_ := Aside0.mk (blk_below (g := gb1092) (o := .cells #[.int .i64 a0_0, .slice A0_1 l0_1.length c0_1] 34 (0, 0)) (by (with_reducible repeat (first | refine blk_drewN ?_ _ | refine blk_drew ?_ | refine blk_alloc ?_ _)); exact BK1092.out) hb); have n4_ := Aside0.mk (below_step (by repeat (first | (with_reducible first | exact HB.out | apply below_alloc | apply pw_below_drewN | apply below_drew1 | refine below_set ?_ GE1092.out) | exact HB.out)) hb); have n5_ := Aside0.mk (hbox); have n6_ := Aside0.mk ((by rw [hg]; exact (below_size (by repeat (first | (with_reducible first | exact HB.out | apply below_alloc | apply pw_below_drewN | apply below_drew1 | refine below_set ?_ GE1092.out) | exact HB.out))) : w.heap.size ≤ gb1107)); have n7_ := Aside0.mk ((by rw [hg]; exact (below_size (by repeat (first | (with_reducible first | exact HB.out | apply below_alloc | apply pw_below_drewN | apply below_drew1 | refine below_set ?_ GE1092.out) | exact HB.out))) : w.heap.size ≤ gb1107)); have n8_ := Aside0.mk ((by rw [hg]; exact Nat.ne_of_lt (blk_lt (g := gb1092) (o := .cells #[.int .i64 a0_0, .slice A0_1 l0_1.length c0_1] 34 (0, 0)) (by (with_reducible repeat (first | refine blk_drewN ?_ _ | refine blk_drew ?_ | refine blk_alloc ?_ _)); exact BK1092.out)) : gb1092 ≠ gb1107)); have n9_ := Aside0.mk ((by rw [hg]; exact Nat.ne_of_gt (blk_lt (g := gb1092) (o := .cells #[.int .i64 a0_0, .slice A0_1 l0_1.length c0_1] 34 (0, 0)) (by (with_reducible repeat (first | refine blk_drewN ?_ _ | refine blk_drew ?_ | refine blk_alloc ?_ _)); exact BK1092.out)) : gb1107 ≠ gb1092)); clear HO1097; clear HO1100; clear HO1106; clear BK1092; clear HB; have HO1097 := n0_; have HO1100 := n1_; have HO1106 := n2_; have BK1092 := n3_; have HB := n4_; have BK1107 := n5_; have GW1107 := n6_; have GE1107 := n7_; have NB1092_1107 := n8_; have NB1107_1092 := n9_; clear n0_ n1_ n2_ n3_ n4_ n5_ n6_ n7_ n8_ n9_; clear hb hbox hg; have hnb36 := NB1107_1092.out; have hnc36 := NB1092_1107.out; have hcz37_0 : w35.cell? ⟨gb1107, 0, none⟩ = some (.int .i64 0) := (blk_cell BK1107.out 0).trans rfl; have hcz37_1 : w35.cell? ⟨gb1107, 1, none⟩ = some (.slice none 0 0) := (blk_cell BK1107.out 1).trans rfl; have hfz37_0 := blk_frozen BK1107.out 0; have hfz37_1 := blk_frozen BK1107.out 1; obtain ⟨Ao38, co38, eo38⟩ := Kd.R_slice HO1106.out; subst eo38) | ((with_reducible refine gate_callee (f := 18) rfl ?_); refine goesL_ (some 31) rfl rfl Try.func18 (by kernel_rfl) rfl #[.slice A1 l1.length c1] rfl (by (try simp only [List.map_toArray, List.map_cons, List.map_nil]); first | done | rfl | (simp only [List.length_drop, List.length_take]; rfl)) ?_; (with_reducible refine (laws_toIntS.calls k _ _ l1 t1108 _ ?side1 ?side2 A14.out).mono ?_); (case side1 => exact Kd.C_below HR1.out (by repeat (first | (with_reducible first | exact HB.out | apply below_alloc | apply pw_below_drewN | apply below_drew1 | refine below_set ?_ GE1092.out | refine below_set ?_ GE1107.out) | exact HB.out))); (case side2 => exact HC1.out); rintro e w39 ⟨v1109, rfl, ho0, hb⟩; refine ⟨_, rfl, ?_⟩; have n0_ := Aside0.mk (Kd.R_elder' (by (with_reducible repeat (first | apply Kd.R_alloc | apply Kd.R_drewN | apply Kd.R_drew)); exact (Kd.R_mono (Kd.R_far (p := ⟨gb1107, 1, none⟩) (Kd.R_far (p := ⟨gb1107, 0, none⟩) (Kd.R_types HO1097.out BK1107.out (by decide)) (fun _ hk => hk.2) (.int .i64 t1103)) (fun _ hk => hk.2) (.slice Ao38 t1104.length co38)) (fun _ h_ => h_.1))) (Kd.R_base ho0) hb); have n1_ := Aside0.mk (Kd.R_elder' (by (with_reducible repeat (first | apply Kd.R_alloc | apply Kd.R_drewN | apply Kd.R_drew)); exact (Kd.R_mono (Kd.R_far (p := ⟨gb1107, 1, none⟩) (Kd.R_far (p := ⟨gb1107, 0, none⟩) (Kd.R_types HO1100.out BK1107.out (by decide)) (fun _ hk => hk.2) (.int .i64 t1103)) (fun _ hk => hk.2) (.slice Ao38 t1104.length co38)) (fun _ h_ => h_.1))) (Kd.R_base ho0) hb); have n2_ := Aside0.mk (Kd.R_elder' (by (with_reducible repeat (first | apply Kd.R_alloc | apply Kd.R_drewN | apply Kd.R_drew)); exact (Kd.R_mono (Kd.R_far (p := ⟨gb1107, 1, none⟩) (Kd.R_far (p := ⟨gb1107, 0, none⟩) (Kd.R_types HO1106.out BK1107.out (by decide)) (fun _ hk => hk.2) (.int .i64 t1103)) (fun _ hk => hk.2) (.slice Ao38 t1104.length co38)) (fun _ h_ => h_.1))) (Kd.R_base ho0) hb); have n3_ := Aside0.mk (Kd.R_lower (Kd.R_new' (Kd.R_new' (Kd.R_new' ho0 (Kd.R_lt (by (with_reducible repeat (first | apply Kd.R_alloc | apply Kd.R_drewN | apply Kd.R_drew)); exact (Kd.R_mono (Kd.R_far (p := ⟨gb1107, 1, none⟩) (Kd.R_far (p := ⟨gb1107, 0, none⟩) (Kd.R_types HO1097.out BK1107.out (by decide)) (fun _ hk => hk.2) (.int .i64 t1103)) (fun _ hk => hk.2) (.slice Ao38 t1104.length co38)) (fun _ h_ => h_.1))))) (Kd.R_lt (by (with_reducible repeat (first | apply Kd.R_alloc | apply Kd.R_drewN | apply Kd.R_drew)); exact (Kd.R_mono (Kd.R_far (p := ⟨gb1107, 1, none⟩) (Kd.R_far (p := ⟨gb1107, 0, none⟩) (Kd.R_types HO1100.out BK1107.out (by decide)) (fun _ hk => hk.2) (.int .i64 t1103)) (fun _ hk => hk.2) (.slice Ao38 t1104.length co38)) (fun _ h_ => h_.1))))) (Kd.R_lt (by (with_reducible repeat (first | apply Kd.R_alloc | apply Kd.R_drewN | apply Kd.R_drew)); exact (Kd.R_mono (Kd.R_far (p := ⟨gb1107, 1, none⟩) (Kd.R_far (p := ⟨gb1107, 0, none⟩) (Kd.R_types HO1106.out BK1107.out (by decide)) (fun _ hk => hk.2) (.int .i64 t1103)) (fun _ hk => hk.2) (.slice Ao38 t1104.length co38)) (fun _ h_ => h_.1))))) (below_size (by repeat (first | (with_reducible first | exact HB.out | apply below_alloc | apply pw_below_drewN | apply below_drew1 | refine below_set ?_ GE1092.out | refine below_set ?_ GE1107.out) | exact HB.out)))); have n4_ := Aside0.mk (blk_below (g := gb1092) (o := .cells #[.int .i64 a0_0, .slice A0_1 l0_1.length c0_1] 34 (0, 0)) (by (with_reducible repeat (first | refine blk_drewN ?_ _ | refine blk_drew ?_ | refine blk_alloc ?_ _)); refine blk_far ?_ NB1092_1107.out _; (with_reducible repeat (first | refine blk_drewN ?_ _ | refine blk_drew ?_ | refine blk_alloc ?_ _)); refine blk_far ?_ NB1092_1107.out _; (with_reducible repeat (first | refine blk_drewN ?_ _ | refine blk_drew ?_ | refine blk_alloc ?_ _)); exact BK1092.out) hb); have n5_ := Aside0.mk (blk_below (g := gb1107) (o := .cells #[.int .i64 t1103, .slice Ao38 t1104.length co38] 39 (0, 0)) (by (with_reducible repeat (first | refine blk_drewN ?_ _ | refine blk_drew ?_ | refine blk_alloc ?_ _)); refine blk_put (cs := #[.int .i64 t1103, .slice none 0 0]) ?_ 1 _ rfl; (with_reducible repeat (first | refine blk_drewN ?_ _ | refine blk_drew ?_ | refine blk_alloc ?_ _)); refine blk_put (cs := #[.int .i64 0, .slice none 0 0]) ?_ 0 _ rfl; (with_reducible repeat (first | refine blk_drewN ?_ _ | refine blk_drew ?_ | refine blk_alloc ?_ _)); exact BK1107.out) hb); have n6_ := Aside0.mk (below_step (by repeat (first | (with_reducible first | exact HB.out | apply below_alloc | apply pw_below_drewN | apply below_drew1 | refine below_set ?_ GE1092.out | refine below_set ?_ GE1107.out) | exact HB.out)) hb); clear HO1097; clear HO1100; clear HO1106; clear BK1092; clear BK1107; clear HB; have HO1097 := n0_; have HO1100 := n1_; have HO1106 := n2_; have HO1110 := n3_; have BK1092 := n4_; have BK1107 := n5_; have HB := n6_; clear n0_ n1_ n2_ n3_ n4_ n5_ n6_; (try clear hb); (try clear hb2); (try clear hk); (try clear hi); (try clear ho0); have hcz40_0 : w39.cell? ⟨gb1107, 0, none⟩ = some (.int .i64 t1103) := (blk_cell BK1107.out 0).trans rfl; have hcz40_1 : w39.cell? ⟨gb1107, 1, none⟩ = some (.slice Ao38 t1104.length co38) := (blk_cell BK1107.out 1).trans rfl; have hfz40_0 := blk_frozen BK1107.out 0; have hfz40_1 := blk_frozen BK1107.out 1; obtain ⟨Ao41, co41, eo41⟩ := Kd.R_slice HO1110.out; subst eo41) | ((with_reducible refine gate_callee (f := 54) rfl ?_); refine goesL_ (some 35) rfl rfl Try.func54 (by kernel_rfl) rfl #[.agg #[.int .i64 t1103, .slice Ao38 t1104.length co38], .slice Ao41 t1108.length co41] rfl (by (try simp only [List.map_toArray, List.map_cons, List.map_nil]); first | done | rfl | (simp only [List.length_drop, List.length_take]; rfl)) ?_; (with_reducible refine (impl_UnionGain.calls k t1103 _ _ t1104 _ _ t1108 t1111 t1112 _ ?side1 ?side2 ?side3 ?side4 A15.out).mono ?_); (case side1 => repeat (first | exact (Kd.R_reads' HO1106.out).2.2 | (with_reducible refine Kd.C_alloc ?_ _) | (with_reducible refine Kd.C_drewN ?_ _) | (with_reducible refine Kd.C_drew ?_))); (case side2 => exact (Kd.R_reads' HO1106.out).2.1); (case side3 => repeat (first | exact (Kd.R_reads' HO1110.out).2.2 | (with_reducible refine Kd.C_alloc ?_ _) | (with_reducible refine Kd.C_drewN ?_ _) | (with_reducible refine Kd.C_drew ?_))); (case side4 => exact (Kd.R_reads' HO1110.out).2.1); rintro e w42 ⟨rfl, hb⟩; refine ⟨_, rfl, ?_⟩; have n0_ := Aside0.mk (Kd.R_below (by (with_reducible repeat (first | apply Kd.R_alloc | apply Kd.R_drewN | apply Kd.R_drew)); exact HO1097.out) hb); have n1_ := Aside0.mk (Kd.R_below (by (with_reducible repeat (first | apply Kd.R_alloc | apply Kd.R_drewN | apply Kd.R_drew)); exact HO1100.out) hb); have n2_ := Aside0.mk (Kd.R_below (by (with_reducible repeat (first | apply Kd.R_alloc | apply Kd.R_drewN | apply Kd.R_drew)); exact HO1106.out) hb); have n3_ := Aside0.mk (Kd.R_below (by (with_reducible repeat (first | apply Kd.R_alloc | apply Kd.R_drewN | apply Kd.R_drew)); exact HO1110.out) hb); have n4_ := Aside0.mk (blk_below (g := gb1092) (o := .cells #[.int .i64 a0_0, .slice A0_1 l0_1.length c0_1] 34 (0, 0)) (by (with_reducible repeat (first | refine blk_drewN ?_ _ | refine blk_drew ?_ | refine blk_alloc ?_ _)); exact BK1092.out) hb); have n5_ := Aside0.mk (blk_below (g := gb1107) (o := .cells #[.int .i64 t1103, .slice Ao38 t1104.length co38] 39 (0, 0)) (by (with_reducible repeat (first | refine blk_drewN ?_ _ | refine blk_drew ?_ | refine blk_alloc ?_ _)); exact BK1107.out) hb); have n6_ := Aside0.mk (below_step (by repeat (first | (with_reducible first | exact HB.out | apply below_alloc | apply pw_below_drewN | apply below_drew1 | refine below_set ?_ GE1092.out | refine below_set ?_ GE1107.out) | exact HB.out)) hb); clear HO1097; clear HO1100; clear HO1106; clear HO1110; clear BK1092; clear BK1107; clear HB; have HO1097 := n0_; have HO1100 := n1_; have HO1106 := n2_; have HO1110 := n3_; have BK1092 := n4_; have BK1107 := n5_; have HB := n6_; clear n0_ n1_ n2_ n3_ n4_ n5_ n6_; (try clear hb); (try clear hb2); (try clear hk); (try clear hi)))
              have n0_ := Aside0.mk (Kd.R_drew HO1097.out)
              have n1_ := Aside0.mk (Kd.R_drew HO1100.out)
              have n2_ := Aside0.mk (Kd.R_drew HO1106.out)
              have n3_ := Aside0.mk (Kd.R_drew HO1110.out)
              have n4_ := Aside0.mk (blk_drew BK1092.out)
              have n5_ := Aside0.mk (blk_drew BK1107.out)
              have n6_ := Aside0.mk (below_drew1 HB.out)
              clear HO1097
              clear HO1100
              clear HO1106
              clear HO1110
              clear BK1092
              clear BK1107
              clear HB
              have HO1097 := n0_
              have HO1100 := n1_
              have HO1106 := n2_
              have HO1110 := n3_
              have BK1092 := n4_
              have BK1107 := n5_
              have HB := n6_
              clear n0_ n1_ n2_ n3_ n4_ n5_ n6_
              refine start_ (n := 5) (S := fun w' => w'.cell? ⟨gb1107, 0, none⟩ = some (.int .i64 t1103) ∧ w'.cell? ⟨gb1107, 1, none⟩ = some (.slice Ao38 t1104.length co38) ∧ w'.cell? ⟨gb1092, 0, none⟩ = some (.int .i64 a0_0) ∧ w'.cell? ⟨gb1092, 1, none⟩ = some (.slice A0_1 l0_1.length c0_1)) (ds := []) #[false, false, false, false, false] (by kernel_rfl) rfl rfl ⟨(blk_cell BK1107.out 0).trans rfl, (blk_cell BK1107.out 1).trans rfl, (blk_cell BK1092.out 0).trans rfl, (blk_cell BK1092.out 1).trans rfl⟩ (fun hHeld => ?_)
              generalize w42.drew = w43 at HO1097 HO1100 HO1106 HO1110 BK1092 BK1107 HB hHeld ⊢
              refine take_ (i := 0) (N := some 46) (v := ?_) (a' := ?_) #[true, false, false, false, false] rfl rfl (by kernel_rfl) (fun _ _ _ h => h) (Or.inl ⟨by rfl, ?_⟩) hHeld ?_ ?_
              rotate_left
              · rintro w' ⟨s0, s1, s2, s3⟩
                go_simp
                with_reducible rfl
              rotate_left
              · simp only [Act.put, List.setIfInBounds_toArray, List.set_cons_zero, List.set_cons_succ, i64_w, i32_w]
                rfl
              refine take_ (i := 1) (N := some 47) (v := ?_) (a' := ?_) #[true, true, false, false, false] rfl rfl (by kernel_rfl) (fun _ _ _ h => h) (Or.inl ⟨by rfl, ?_⟩) hHeld ?_ ?_
              rotate_left
              · rintro w' ⟨s0, s1, s2, s3⟩
                go_simp
                with_reducible rfl
              rotate_left
              · simp only [Act.put, List.setIfInBounds_toArray, List.set_cons_zero, List.set_cons_succ, i64_w, i32_w]
                rfl
              refine one_ (i := 2) (N := some 48) #[true, true, true, false, false] rfl rfl (by kernel_rfl) (by decide) (fun K hK => ?_)
              refine goes_ Try.func27 (by kernel_rfl) rfl #[.agg #[.int .i64 a0_0, .slice A0_1 l0_1.length c0_1]] (by rfl) rfl rfl (by (try simp only [List.map_toArray, List.map_cons, List.map_nil]); first | done | rfl | (simp only [List.length_drop, List.length_take]; rfl)) ?_
              with_reducible refine (laws_toCommittee.calls k a0_0 _ _ l0_1 t1113 t1114 _ ?side1 ?side2 A18.out).mono ?_
              (case side1 => repeat (first | exact (Kd.C_below HR0_1.out HB.out) | (with_reducible refine Kd.C_alloc ?_ _) | (with_reducible refine Kd.C_drewN ?_ _) | (with_reducible refine Kd.C_drew ?_)))
              (case side2 => exact HC0_1.out)
              rintro e w44 ⟨v1115, rfl, ho0, hb⟩
              refine ⟨_, rfl, ?_⟩
              have n0_ := Aside0.mk (Kd.R_elder' (by (with_reducible repeat (first | apply Kd.R_alloc | apply Kd.R_drewN | apply Kd.R_drew)); exact HO1097.out) (Kd.R_base ho0) hb)
              have n1_ := Aside0.mk (Kd.R_elder' (by (with_reducible repeat (first | apply Kd.R_alloc | apply Kd.R_drewN | apply Kd.R_drew)); exact HO1100.out) (Kd.R_base ho0) hb)
              have n2_ := Aside0.mk (Kd.R_elder' (by (with_reducible repeat (first | apply Kd.R_alloc | apply Kd.R_drewN | apply Kd.R_drew)); exact HO1106.out) (Kd.R_base ho0) hb)
              have n3_ := Aside0.mk (Kd.R_elder' (by (with_reducible repeat (first | apply Kd.R_alloc | apply Kd.R_drewN | apply Kd.R_drew)); exact HO1110.out) (Kd.R_base ho0) hb)
              have n4_ := Aside0.mk (Kd.R_lower (Kd.R_new' (Kd.R_new' (Kd.R_new' (Kd.R_new' ho0 (Kd.R_lt (by (with_reducible repeat (first | apply Kd.R_alloc | apply Kd.R_drewN | apply Kd.R_drew)); exact HO1097.out))) (Kd.R_lt (by (with_reducible repeat (first | apply Kd.R_alloc | apply Kd.R_drewN | apply Kd.R_drew)); exact HO1100.out))) (Kd.R_lt (by (with_reducible repeat (first | apply Kd.R_alloc | apply Kd.R_drewN | apply Kd.R_drew)); exact HO1106.out))) (Kd.R_lt (by (with_reducible repeat (first | apply Kd.R_alloc | apply Kd.R_drewN | apply Kd.R_drew)); exact HO1110.out))) (below_size (by repeat (first | (with_reducible first | exact HB.out | apply below_alloc | apply pw_below_drewN | apply below_drew1 | refine below_set ?_ GE1092.out | refine below_set ?_ GE1107.out) | exact HB.out))))
              have n5_ := Aside0.mk (blk_below (g := gb1092) (o := .cells #[.int .i64 a0_0, .slice A0_1 l0_1.length c0_1] 34 (0, 0)) (by (with_reducible repeat (first | refine blk_drewN ?_ _ | refine blk_drew ?_ | refine blk_alloc ?_ _)); exact BK1092.out) hb)
              have n6_ := Aside0.mk (blk_below (g := gb1107) (o := .cells #[.int .i64 t1103, .slice Ao38 t1104.length co38] 39 (0, 0)) (by (with_reducible repeat (first | refine blk_drewN ?_ _ | refine blk_drew ?_ | refine blk_alloc ?_ _)); exact BK1107.out) hb)
              have n7_ := Aside0.mk (below_step (by repeat (first | (with_reducible first | exact HB.out | apply below_alloc | apply pw_below_drewN | apply below_drew1 | refine below_set ?_ GE1092.out | refine below_set ?_ GE1107.out) | exact HB.out)) hb)
              clear HO1097
              clear HO1100
              clear HO1106
              clear HO1110
              clear BK1092
              clear BK1107
              clear HB
              have HO1097 := n0_
              have HO1100 := n1_
              have HO1106 := n2_
              have HO1110 := n3_
              have HO1116 := n4_
              have BK1092 := n5_
              have BK1107 := n6_
              have HB := n7_
              clear n0_ n1_ n2_ n3_ n4_ n5_ n6_ n7_
              (try clear hb)
              (try clear hb2)
              (try clear hk)
              (try clear hi)
              (try clear ho0)
              obtain ⟨Ao45, co45, eo45⟩ := Kd.R_slice HO1116.out
              (first | subst eo45 | (injection eo45 with f1_ f2_ f3_; have f4_ := f1_.symm; have f5_ := f3_.symm; clear f1_ f2_ f3_; subst f4_; subst f5_))
              refine hK.out _ _ ⟨(blk_cell BK1107.out 0).trans rfl, (blk_cell BK1107.out 1).trans rfl, (blk_cell BK1092.out 0).trans rfl, (blk_cell BK1092.out 1).trans rfl⟩ (fun hHeld => ?_)
              clear hK K
              refine norm_ (a' := ?_) ?_ ?_
              rotate_left
              · show Act.put _ (some 48) _ = _
                simp only [Act.put, List.setIfInBounds_toArray, List.set_cons_zero, List.set_cons_succ, i64_w, i32_w]
                rfl
              refine one_ (i := 3) (N := some 49) #[true, true, true, true, false] rfl rfl (by kernel_rfl) (by decide) (fun K hK => ?_)
              refine goes_ Try.func30 (by kernel_rfl) rfl #[.agg #[.int .i64 t1103, .slice Ao38 t1104.length co38], .agg #[.int .i64 t1113, .slice Ao45 t1114.length co45]] (by rfl) rfl rfl (by (try simp only [List.map_toArray, List.map_cons, List.map_nil]); first | done | rfl | (simp only [List.length_drop, List.length_take]; rfl)) ?_
              with_reducible refine (laws_eqCommittee.calls k t1103 _ _ t1104 t1113 _ _ t1114 true _ ?side1 ?side2 ?side3 ?side4 A19.out).mono ?_
              (case side1 => repeat (first | exact (Kd.R_reads' HO1106.out).2.2 | (with_reducible refine Kd.C_alloc ?_ _) | (with_reducible refine Kd.C_drewN ?_ _) | (with_reducible refine Kd.C_drew ?_)))
              (case side2 => exact (Kd.R_reads' HO1106.out).2.1)
              (case side3 => repeat (first | exact (Kd.R_reads' HO1116.out).2.2 | (with_reducible refine Kd.C_alloc ?_ _) | (with_reducible refine Kd.C_drewN ?_ _) | (with_reducible refine Kd.C_drew ?_)))
              (case side4 => exact (Kd.R_reads' HO1116.out).2.1)
              rintro e w46 ⟨rfl, hb⟩
              refine ⟨_, rfl, ?_⟩
              have n0_ := Aside0.mk (Kd.R_below (by (with_reducible repeat (first | apply Kd.R_alloc | apply Kd.R_drewN | apply Kd.R_drew)); exact HO1097.out) hb)
              have n1_ := Aside0.mk (Kd.R_below (by (with_reducible repeat (first | apply Kd.R_alloc | apply Kd.R_drewN | apply Kd.R_drew)); exact HO1100.out) hb)
              have n2_ := Aside0.mk (Kd.R_below (by (with_reducible repeat (first | apply Kd.R_alloc | apply Kd.R_drewN | apply Kd.R_drew)); exact HO1106.out) hb)
              have n3_ := Aside0.mk (Kd.R_below (by (with_reducible repeat (first | apply Kd.R_alloc | apply Kd.R_drewN | apply Kd.R_drew)); exact HO1110.out) hb)
              have n4_ := Aside0.mk (Kd.R_below (by (with_reducible repeat (first | apply Kd.R_alloc | apply Kd.R_drewN | apply Kd.R_drew)); exact HO1116.out) hb)
              have n5_ := Aside0.mk (blk_below (g := gb1092) (o := .cells #[.int .i64 a0_0, .slice A0_1 l0_1.length c0_1] 34 (0, 0)) (by (with_reducible repeat (first | refine blk_drewN ?_ _ | refine blk_drew ?_ | refine blk_alloc ?_ _)); exact BK1092.out) hb)
              have n6_ := Aside0.mk (blk_below (g := gb1107) (o := .cells #[.int .i64 t1103, .slice Ao38 t1104.length co38] 39 (0, 0)) (by (with_reducible repeat (first | refine blk_drewN ?_ _ | refine blk_drew ?_ | refine blk_alloc ?_ _)); exact BK1107.out) hb)
              have n7_ := Aside0.mk (below_step (by repeat (first | (with_reducible first | exact HB.out | apply below_alloc | apply pw_below_drewN | apply below_drew1 | refine below_set ?_ GE1092.out | refine below_set ?_ GE1107.out) | exact HB.out)) hb)
              clear HO1097
              clear HO1100
              clear HO1106
              clear HO1110
              clear HO1116
              clear BK1092
              clear BK1107
              clear HB
              have HO1097 := n0_
              have HO1100 := n1_
              have HO1106 := n2_
              have HO1110 := n3_
              have HO1116 := n4_
              have BK1092 := n5_
              have BK1107 := n6_
              have HB := n7_
              clear n0_ n1_ n2_ n3_ n4_ n5_ n6_ n7_
              (try clear hb)
              (try clear hb2)
              (try clear hk)
              (try clear hi)
              refine hK.out _ _ ⟨(blk_cell BK1107.out 0).trans rfl, (blk_cell BK1107.out 1).trans rfl, (blk_cell BK1092.out 0).trans rfl, (blk_cell BK1092.out 1).trans rfl⟩ (fun hHeld => ?_)
              clear hK K
              refine norm_ (a' := ?_) ?_ ?_
              rotate_left
              · show Act.put _ (some 49) _ = _
                simp only [Act.put, List.setIfInBounds_toArray, List.set_cons_zero, List.set_cons_succ, i64_w, i32_w]
                rfl
              refine pure_ (i := 4) (N := some 50) (v := ?_) (a' := ?_) #[true, true, true, true, true] rfl rfl (by kernel_rfl) (fun _ _ _ h => h) (Or.inl ⟨by rfl, ?_⟩) ?_ ?_
              rotate_left
              · intro w'
                go_simp
                with_reducible rfl
              rotate_left
              · simp only [Act.put, List.setIfInBounds_toArray, List.set_cons_zero, List.set_cons_succ, i64_w, i32_w]
                rfl
              refine done_ (by kernel_rfl) ?_
              try go_wp2_with (first | ((with_reducible refine gate_callee (f := 18) rfl ?_); refine goesL_ (some 53) rfl rfl Try.func18 (by kernel_rfl) rfl #[.slice A1 l1.length c1] rfl (by (try simp only [List.map_toArray, List.map_cons, List.map_nil]); first | done | rfl | (simp only [List.length_drop, List.length_take]; rfl)) ?_; (with_reducible refine (laws_toIntS.calls k _ _ l1 t1118 _ ?side1 ?side2 A21.out).mono ?_); (case side1 => repeat (first | exact (Kd.C_below HR1.out HB.out) | (with_reducible refine Kd.C_alloc ?_ _) | (with_reducible refine Kd.C_drewN ?_ _) | (with_reducible refine Kd.C_drew ?_))); (case side2 => exact HC1.out); rintro e w47 ⟨v1119, rfl, ho0, hb⟩; refine ⟨_, rfl, ?_⟩; have n0_ := Aside0.mk (Kd.R_elder' (by (with_reducible repeat (first | apply Kd.R_alloc | apply Kd.R_drewN | apply Kd.R_drew)); exact HO1097.out) (Kd.R_base ho0) hb); have n1_ := Aside0.mk (Kd.R_elder' (by (with_reducible repeat (first | apply Kd.R_alloc | apply Kd.R_drewN | apply Kd.R_drew)); exact HO1100.out) (Kd.R_base ho0) hb); have n2_ := Aside0.mk (Kd.R_elder' (by (with_reducible repeat (first | apply Kd.R_alloc | apply Kd.R_drewN | apply Kd.R_drew)); exact HO1106.out) (Kd.R_base ho0) hb); have n3_ := Aside0.mk (Kd.R_elder' (by (with_reducible repeat (first | apply Kd.R_alloc | apply Kd.R_drewN | apply Kd.R_drew)); exact HO1110.out) (Kd.R_base ho0) hb); have n4_ := Aside0.mk (Kd.R_elder' (by (with_reducible repeat (first | apply Kd.R_alloc | apply Kd.R_drewN | apply Kd.R_drew)); exact HO1116.out) (Kd.R_base ho0) hb); have n5_ := Aside0.mk (Kd.R_lower (Kd.R_new' (Kd.R_new' (Kd.R_new' (Kd.R_new' (Kd.R_new' ho0 (Kd.R_lt (by (with_reducible repeat (first | apply Kd.R_alloc | apply Kd.R_drewN | apply Kd.R_drew)); exact HO1097.out))) (Kd.R_lt (by (with_reducible repeat (first | apply Kd.R_alloc | apply Kd.R_drewN | apply Kd.R_drew)); exact HO1100.out))) (Kd.R_lt (by (with_reducible repeat (first | apply Kd.R_alloc | apply Kd.R_drewN | apply Kd.R_drew)); exact HO1106.out))) (Kd.R_lt (by (with_reducible repeat (first | apply Kd.R_alloc | apply Kd.R_drewN | apply Kd.R_drew)); exact HO1110.out))) (Kd.R_lt (by (with_reducible repeat (first | apply Kd.R_alloc | apply Kd.R_drewN | apply Kd.R_drew)); exact HO1116.out))) (below_size (by repeat (first | (with_reducible first | exact HB.out | apply below_alloc | apply pw_below_drewN | apply below_drew1 | refine below_set ?_ GE1092.out | refine below_set ?_ GE1107.out) | exact HB.out)))); have n6_ := Aside0.mk (blk_below (g := gb1092) (o := .cells #[.int .i64 a0_0, .slice A0_1 l0_1.length c0_1] 34 (0, 0)) (by (with_reducible repeat (first | refine blk_drewN ?_ _ | refine blk_drew ?_ | refine blk_alloc ?_ _)); exact BK1092.out) hb); have n7_ := Aside0.mk (blk_below (g := gb1107) (o := .cells #[.int .i64 t1103, .slice Ao38 t1104.length co38] 39 (0, 0)) (by (with_reducible repeat (first | refine blk_drewN ?_ _ | refine blk_drew ?_ | refine blk_alloc ?_ _)); exact BK1107.out) hb); have n8_ := Aside0.mk (below_step (by repeat (first | (with_reducible first | exact HB.out | apply below_alloc | apply pw_below_drewN | apply below_drew1 | refine below_set ?_ GE1092.out | refine below_set ?_ GE1107.out) | exact HB.out)) hb); clear HO1097; clear HO1100; clear HO1106; clear HO1110; clear HO1116; clear BK1092; clear BK1107; clear HB; have HO1097 := n0_; have HO1100 := n1_; have HO1106 := n2_; have HO1110 := n3_; have HO1116 := n4_; have HO1120 := n5_; have BK1092 := n6_; have BK1107 := n7_; have HB := n8_; clear n0_ n1_ n2_ n3_ n4_ n5_ n6_ n7_ n8_; (try clear hb); (try clear hb2); (try clear hk); (try clear hi); (try clear ho0); obtain ⟨Ao48, co48, eo48⟩ := Kd.R_slice HO1120.out; subst eo48) | ((with_reducible refine gate_callee (f := 21) rfl ?_); refine goesL_ (some 54) rfl rfl Try.func21 (by kernel_rfl) rfl #[.slice Ao41 t1108.length co41, .slice Ao48 t1118.length co48] rfl (by (try simp only [List.map_toArray, List.map_cons, List.map_nil]); first | done | rfl | (simp only [List.length_drop, List.length_take]; rfl)) ?_; (with_reducible refine (laws_eqIntS.calls k _ _ t1108 _ _ t1118 true _ ?side1 ?side2 ?side3 ?side4 A22.out).mono ?_); (case side1 => repeat (first | exact (Kd.R_reads' HO1110.out).2.2 | (with_reducible refine Kd.C_alloc ?_ _) | (with_reducible refine Kd.C_drewN ?_ _) | (with_reducible refine Kd.C_drew ?_))); (case side2 => exact (Kd.R_reads' HO1110.out).2.1); (case side3 => repeat (first | exact (Kd.R_reads' HO1120.out).2.2 | (with_reducible refine Kd.C_alloc ?_ _) | (with_reducible refine Kd.C_drewN ?_ _) | (with_reducible refine Kd.C_drew ?_))); (case side4 => exact (Kd.R_reads' HO1120.out).2.1); rintro e w' ⟨rfl, ⟨nd, rfl⟩⟩; refine ⟨_, rfl, ?_⟩))
              go_ret
              exact ⟨by first | rfl | (simp [errW_none, errW_some] <;> rfl) | (simp [*, errW_none, errW_some] <;> rfl), by repeat (first | (with_reducible first | exact HB.out | apply below_alloc | apply pw_below_drewN | apply below_drew1 | refine below_set ?_ GE1092.out | refine below_set ?_ GE1107.out) | exact HB.out)⟩
            · replace c23 := Bool.eq_false_iff.mpr c23
              subst c23
              have H1 : (some false) = some r := by rw [if_neg (show ¬ (false = true) by decide)] at H; exact H
              clear H
              have H := H1
              clear H1
              exact absurd (H.trans (congrArg some hr_.out)) (by simp)
          · replace c20 := Bool.eq_false_iff.mpr c20
            subst c20
            have H1 : (some false) = some r := by rw [if_neg (show ¬ (false = true) by decide)] at H; exact H
            clear H
            have H := H1
            clear H1
            exact absurd (H.trans (congrArg some hr_.out)) (by simp)
      · rw [if_neg c16] at H
        have c16b0 : (t1111 == t1101) = false := beq_eq_false_iff_ne.mpr c16
        have c16b1 : (t1111 != t1101) = true := bne_iff_ne.mpr c16
        exact absurd (H.trans (congrArg some hr_.out)) (by simp)

end Go.Proofs.Ytgdefleekgjggaa.P
