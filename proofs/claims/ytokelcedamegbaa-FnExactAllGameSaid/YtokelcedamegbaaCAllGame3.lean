/- Part 3 of the texts below the law FnExactAllGame. Printed by this session's driver over the kit's printer, but for the hand contracts and the plain laws. -/
import Derived.Test.YtokelcedamegbaaCAllGame1
set_option linter.unusedVariables false
set_option linter.unusedSimpArgs false
namespace Go.Proofs.Ytokelcedamegbaa.P
open Go.RowKit Go.Proofs.YtokelcedamegbaaW.PrintWords Go.Proofs.YtokelcedamegbaaW.PrintLast Go.Proofs.YtokelcedamegbaaW.PrintMore
attribute [local go_sem] max2_int min2_int max_two min_two max_three min_three max_four min_four   -- for this text's walks alone
set_option linter.unusedVariables false
set_option linter.unusedSimpArgs false

/-! ### laws_eqCommittee: function 28 -/
def laws_eqCommittee.f (k:Nat) (a0_0:Int) (l0_1:List Int) (a1_0:Int) (l1_1:List Int):Option (Bool):=if a0_0 = a1_0 then ((laws_eqIntS.f k l0_1 l1_1).bind fun t824=>(if t824 = true then (some true) else (some false))) else (some false)
theorem laws_eqCommittee.mono:∀ a0 a1 a2 a3 k,LeO (laws_eqCommittee.f k a0 a1 a2 a3) (laws_eqCommittee.f (k + 1) a0 a1 a2 a3):=by
 intro a0 a1 a2 a3 k;unfold laws_eqCommittee.f
 repeat' with_reducible first|exact laws_eqIntS.mono _ _ _|exact LeO.refl _|exact LeO.none _|refine LeO.ite ?_ ?_|refine LeO.bind ?_ (fun _=>?_)
set_option maxHeartbeats 8000000 in
set_option maxRecDepth 100000 in
theorem laws_eqCommittee.calls (k:Nat) (a0_0:Int) (A0_1:Option Addr) (c0_1:Nat) (l0_1:List Int) (a1_0:Int) (A1_1:Option Addr) (c1_1:Nat) (l1_1:List Int) (r:Bool) (w:World) (hr0_1:Kd.C (Kd.int .i64) w A0_1 l0_1.length l0_1) (hc0_1:l0_1.length ≤ c0_1) (hr1_1:Kd.C (Kd.int .i64) w A1_1 l1_1.length l1_1) (hc1_1:l1_1.length ≤ c1_1) (h:laws_eqCommittee.f k a0_0 l0_1 a1_0 l1_1 = some r) :
  Calls Try.prog 28 #[.agg #[.int .i64 a0_0,.slice A0_1 l0_1.length c0_1],.agg #[.int .i64 a1_0,.slice A1_1 l1_1.length c1_1]] w fun e w'=>e = .returned (.bool r) ∧ Below w.heap.size w w':=by
 have hu46:=Try.underlying46;have HR0_1:=Aside0.mk hr0_1;have HC0_1:=Aside0.mk hc0_1;clear hr0_1 hc0_1;have HR1_1:=Aside0.mk hr1_1;have HC1_1:=Aside0.mk hc1_1;clear hr1_1 hc1_1;have HB:=Aside0.mk (Below.refl w.heap.size w);have H:(if a0_0 = a1_0 then ((laws_eqIntS.f k l0_1 l1_1).bind fun t824=>(if t824 = true then (some true) else (some false))) else (some false)) = some r:=h;clear h;by_cases c3:a0_0 = a1_0
 ·rw [if_pos c3] at H;have c3b0:(a0_0 == a1_0) = true:=beq_iff_eq.mpr c3;have c3b1:(a0_0 != a1_0) = false:=bne_eq_false_iff_eq.mpr c3;clear c3;replace H:=Option.bind_eq_some_iff.mp H;obtain ⟨t824,A40,H⟩:=H;replace H:(if t824 = true then (some true) else (some false)) = some r:=H;have A4:=Aside0.mk A40;clear A40;by_cases c5:t824 = true
  ·subst c5;have H1:(some true) = some r:=by rw [if_pos rfl] at H;exact H
   clear H;have H:=H1;clear H1;obtain rfl:=Option.some.inj H;go_enter Try.func28,Try.ntmps28;go_wp2_with (first|((with_reducible refine gate_dst (N:=2) rfl ?_);refine box_event ?hg (N:=2) ?hd (cs:=#[.int .i64 a0_0,.slice A0_1 l0_1.length c0_1]) (t:=46) ?hr ?_;(case hd=>rfl);(case hg=>rfl);(case hr=>first|(go_simp;done)|(go_simp;rfl));intro gb822 hg w6 hbox hb;have n0_:=Aside0.mk (below_step bw hb);have n1_:=Aside0.mk (hbox);have n2_:=Aside0.mk ((by rw [hg];exact (below_size bw):w.heap.size ≤ gb822));have n3_:=Aside0.mk ((by rw [hg];exact (below_size bw):w.heap.size ≤ gb822));clear HB;have HB:=n0_;have BK822:=n1_;have GW822:=n2_;have GE822:=n3_;clear n0_ n1_ n2_ n3_;clear hb hbox hg)|((with_reducible refine gate_dst (N:=3) rfl ?_);refine box_event ?hg (N:=3) ?hd (cs:=#[.int .i64 a1_0,.slice A1_1 l1_1.length c1_1]) (t:=46) ?hr ?_;(case hd=>rfl);(case hg=>rfl);(case hr=>first|(go_simp;done)|(go_simp;rfl));intro gb823 hg w7 hbox hb;have n0_:=Aside0.mk (blk_below (g:=gb822) (o:=.cells #[.int .i64 a0_0,.slice A0_1 l0_1.length c0_1] 46 (0,0)) bk hb);have n1_:=Aside0.mk (below_step bw hb);have n2_:=Aside0.mk (hbox);have n3_:=Aside0.mk ((by rw [hg];exact (below_size bw):w.heap.size ≤ gb823));have n4_:=Aside0.mk ((by rw [hg];exact (below_size bw):w.heap.size ≤ gb823));have n5_:=Aside0.mk ((by rw [hg];exact Nat.ne_of_lt (blk_lt (g:=gb822) (o:=.cells #[.int .i64 a0_0,.slice A0_1 l0_1.length c0_1] 46 (0,0)) bk):gb822 ≠ gb823));have n6_:=Aside0.mk ((by rw [hg];exact Nat.ne_of_gt (blk_lt (g:=gb822) (o:=.cells #[.int .i64 a0_0,.slice A0_1 l0_1.length c0_1] 46 (0,0)) bk):gb823 ≠ gb822));clear BK822;clear HB;have BK822:=n0_;have HB:=n1_;have BK823:=n2_;have GW823:=n3_;have GE823:=n4_;have NB822_823:=n5_;have NB823_822:=n6_;clear n0_ n1_ n2_ n3_ n4_ n5_ n6_;clear hb hbox hg;have hnb8:=NB822_823.out;have hnc8:=NB823_822.out;have hcz9_0:w7.cell? ⟨gb822,0,none⟩ = some (.int .i64 a0_0):=(blk_cell BK822.out 0).trans rfl;have hcz9_1:w7.cell? ⟨gb822,1,none⟩ = some (.slice A0_1 l0_1.length c0_1):=(blk_cell BK822.out 1).trans rfl;have hfz9_0:=blk_frozen BK822.out 0;have hfz9_1:=blk_frozen BK822.out 1;have hcz10_0:w7.cell? ⟨gb823,0,none⟩ = some (.int .i64 a1_0):=(blk_cell BK823.out 0).trans rfl;have hcz10_1:w7.cell? ⟨gb823,1,none⟩ = some (.slice A1_1 l1_1.length c1_1):=(blk_cell BK823.out 1).trans rfl;have hfz10_0:=blk_frozen BK823.out 0;have hfz10_1:=blk_frozen BK823.out 1)|((with_reducible refine gate_callee (f:=51) rfl ?_);refine goesL_ (some 14) rfl rfl Try.func51 (by kernel_rfl) rfl #[.slice A0_1 l0_1.length c0_1,.slice A1_1 l1_1.length c1_1] rfl mq ?_;(with_reducible refine (laws_eqIntS.calls k _ _ l0_1 _ _ l1_1 true _ ?side1 ?side2 ?side3 ?side4 A4.out).mono ?_);(case side1=>repeat (first|exact (Kd.C_below HR0_1.out HB.out)|(with_reducible refine Kd.C_alloc ?_ _)|(with_reducible refine Kd.C_drewN ?_ _)|(with_reducible refine Kd.C_drew ?_)));(case side2=>exact HC0_1.out);(case side3=>repeat (first|exact (Kd.C_below HR1_1.out HB.out)|(with_reducible refine Kd.C_alloc ?_ _)|(with_reducible refine Kd.C_drewN ?_ _)|(with_reducible refine Kd.C_drew ?_)));(case side4=>exact HC1_1.out);rintro e w' ⟨rfl,⟨nd,rfl⟩⟩;refine ⟨_,rfl,?_⟩))
   go_ret
   exact ⟨by first|rfl|(simp [errW_none,errW_some] <;> rfl)|(simp [*,errW_none,errW_some] <;> rfl),by repeat (first|(with_reducible first|exact HB.out|apply below_alloc|apply pw_below_drewN|apply below_drew1|refine below_set ?_ GE822.out|refine below_set ?_ GE823.out)|exact HB.out)⟩
  ·replace c5:=Bool.eq_false_iff.mpr c5;subst c5;have H1:(some false) = some r:=by rw [if_neg (show ¬ (false = true) by decide)] at H;exact H
   clear H;have H:=H1;clear H1;obtain rfl:=Option.some.inj H;go_enter Try.func28,Try.ntmps28;go_wp2_with (first|((with_reducible refine gate_dst (N:=2) rfl ?_);refine box_event ?hg (N:=2) ?hd (cs:=#[.int .i64 a0_0,.slice A0_1 l0_1.length c0_1]) (t:=46) ?hr ?_;(case hd=>rfl);(case hg=>rfl);(case hr=>first|(go_simp;done)|(go_simp;rfl));intro gb822 hg w11 hbox hb;have n0_:=Aside0.mk (below_step bw hb);have n1_:=Aside0.mk (hbox);have n2_:=Aside0.mk ((by rw [hg];exact (below_size bw):w.heap.size ≤ gb822));have n3_:=Aside0.mk ((by rw [hg];exact (below_size bw):w.heap.size ≤ gb822));clear HB;have HB:=n0_;have BK822:=n1_;have GW822:=n2_;have GE822:=n3_;clear n0_ n1_ n2_ n3_;clear hb hbox hg)|((with_reducible refine gate_dst (N:=3) rfl ?_);refine box_event ?hg (N:=3) ?hd (cs:=#[.int .i64 a1_0,.slice A1_1 l1_1.length c1_1]) (t:=46) ?hr ?_;(case hd=>rfl);(case hg=>rfl);(case hr=>first|(go_simp;done)|(go_simp;rfl));intro gb823 hg w12 hbox hb;have n0_:=Aside0.mk (blk_below (g:=gb822) (o:=.cells #[.int .i64 a0_0,.slice A0_1 l0_1.length c0_1] 46 (0,0)) bk hb);have n1_:=Aside0.mk (below_step bw hb);have n2_:=Aside0.mk (hbox);have n3_:=Aside0.mk ((by rw [hg];exact (below_size bw):w.heap.size ≤ gb823));have n4_:=Aside0.mk ((by rw [hg];exact (below_size bw):w.heap.size ≤ gb823));have n5_:=Aside0.mk ((by rw [hg];exact Nat.ne_of_lt (blk_lt (g:=gb822) (o:=.cells #[.int .i64 a0_0,.slice A0_1 l0_1.length c0_1] 46 (0,0)) bk):gb822 ≠ gb823));have n6_:=Aside0.mk ((by rw [hg];exact Nat.ne_of_gt (blk_lt (g:=gb822) (o:=.cells #[.int .i64 a0_0,.slice A0_1 l0_1.length c0_1] 46 (0,0)) bk):gb823 ≠ gb822));clear BK822;clear HB;have BK822:=n0_;have HB:=n1_;have BK823:=n2_;have GW823:=n3_;have GE823:=n4_;have NB822_823:=n5_;have NB823_822:=n6_;clear n0_ n1_ n2_ n3_ n4_ n5_ n6_;clear hb hbox hg;have hnb13:=NB822_823.out;have hnc13:=NB823_822.out;have hcz14_0:w12.cell? ⟨gb822,0,none⟩ = some (.int .i64 a0_0):=(blk_cell BK822.out 0).trans rfl;have hcz14_1:w12.cell? ⟨gb822,1,none⟩ = some (.slice A0_1 l0_1.length c0_1):=(blk_cell BK822.out 1).trans rfl;have hfz14_0:=blk_frozen BK822.out 0;have hfz14_1:=blk_frozen BK822.out 1;have hcz15_0:w12.cell? ⟨gb823,0,none⟩ = some (.int .i64 a1_0):=(blk_cell BK823.out 0).trans rfl;have hcz15_1:w12.cell? ⟨gb823,1,none⟩ = some (.slice A1_1 l1_1.length c1_1):=(blk_cell BK823.out 1).trans rfl;have hfz15_0:=blk_frozen BK823.out 0;have hfz15_1:=blk_frozen BK823.out 1)|((with_reducible refine gate_callee (f:=51) rfl ?_);refine goesL_ (some 14) rfl rfl Try.func51 (by kernel_rfl) rfl #[.slice A0_1 l0_1.length c0_1,.slice A1_1 l1_1.length c1_1] rfl mq ?_;(with_reducible refine (laws_eqIntS.calls k _ _ l0_1 _ _ l1_1 false _ ?side1 ?side2 ?side3 ?side4 A4.out).mono ?_);(case side1=>repeat (first|exact (Kd.C_below HR0_1.out HB.out)|(with_reducible refine Kd.C_alloc ?_ _)|(with_reducible refine Kd.C_drewN ?_ _)|(with_reducible refine Kd.C_drew ?_)));(case side2=>exact HC0_1.out);(case side3=>repeat (first|exact (Kd.C_below HR1_1.out HB.out)|(with_reducible refine Kd.C_alloc ?_ _)|(with_reducible refine Kd.C_drewN ?_ _)|(with_reducible refine Kd.C_drew ?_)));(case side4=>exact HC1_1.out);rintro e w' ⟨rfl,⟨nd,rfl⟩⟩;refine ⟨_,rfl,?_⟩))
   go_ret
   exact ⟨by first|rfl|(simp [errW_none,errW_some] <;> rfl)|(simp [*,errW_none,errW_some] <;> rfl),by repeat (first|(with_reducible first|exact HB.out|apply below_alloc|apply pw_below_drewN|apply below_drew1|refine below_set ?_ GE822.out|refine below_set ?_ GE823.out)|exact HB.out)⟩
 ·rw [if_neg c3] at H;have c3b0:(a0_0 == a1_0) = false:=beq_eq_false_iff_ne.mpr c3;have c3b1:(a0_0 != a1_0) = true:=bne_iff_ne.mpr c3;obtain rfl:=Option.some.inj H;go_enter Try.func28,Try.ntmps28;go_wp2_with (first|((with_reducible refine gate_dst (N:=2) rfl ?_);refine box_event ?hg (N:=2) ?hd (cs:=#[.int .i64 a0_0,.slice A0_1 l0_1.length c0_1]) (t:=46) ?hr ?_;(case hd=>rfl);(case hg=>rfl);(case hr=>first|(go_simp;done)|(go_simp;rfl));intro gb822 hg w16 hbox hb;have n0_:=Aside0.mk (below_step bw hb);have n1_:=Aside0.mk (hbox);have n2_:=Aside0.mk ((by rw [hg];exact (below_size bw):w.heap.size ≤ gb822));have n3_:=Aside0.mk ((by rw [hg];exact (below_size bw):w.heap.size ≤ gb822));clear HB;have HB:=n0_;have BK822:=n1_;have GW822:=n2_;have GE822:=n3_;clear n0_ n1_ n2_ n3_;clear hb hbox hg)|((with_reducible refine gate_dst (N:=3) rfl ?_);refine box_event ?hg (N:=3) ?hd (cs:=#[.int .i64 a1_0,.slice A1_1 l1_1.length c1_1]) (t:=46) ?hr ?_;(case hd=>rfl);(case hg=>rfl);(case hr=>first|(go_simp;done)|(go_simp;rfl));intro gb823 hg w17 hbox hb;have n0_:=Aside0.mk (blk_below (g:=gb822) (o:=.cells #[.int .i64 a0_0,.slice A0_1 l0_1.length c0_1] 46 (0,0)) bk hb);have n1_:=Aside0.mk (below_step bw hb);have n2_:=Aside0.mk (hbox);have n3_:=Aside0.mk ((by rw [hg];exact (below_size bw):w.heap.size ≤ gb823));have n4_:=Aside0.mk ((by rw [hg];exact (below_size bw):w.heap.size ≤ gb823));have n5_:=Aside0.mk ((by rw [hg];exact Nat.ne_of_lt (blk_lt (g:=gb822) (o:=.cells #[.int .i64 a0_0,.slice A0_1 l0_1.length c0_1] 46 (0,0)) bk):gb822 ≠ gb823));have n6_:=Aside0.mk ((by rw [hg];exact Nat.ne_of_gt (blk_lt (g:=gb822) (o:=.cells #[.int .i64 a0_0,.slice A0_1 l0_1.length c0_1] 46 (0,0)) bk):gb823 ≠ gb822));clear BK822;clear HB;have BK822:=n0_;have HB:=n1_;have BK823:=n2_;have GW823:=n3_;have GE823:=n4_;have NB822_823:=n5_;have NB823_822:=n6_;clear n0_ n1_ n2_ n3_ n4_ n5_ n6_;clear hb hbox hg;have hnb18:=NB822_823.out;have hnc18:=NB823_822.out;have hcz19_0:w17.cell? ⟨gb822,0,none⟩ = some (.int .i64 a0_0):=(blk_cell BK822.out 0).trans rfl;have hcz19_1:w17.cell? ⟨gb822,1,none⟩ = some (.slice A0_1 l0_1.length c0_1):=(blk_cell BK822.out 1).trans rfl;have hfz19_0:=blk_frozen BK822.out 0;have hfz19_1:=blk_frozen BK822.out 1;have hcz20_0:w17.cell? ⟨gb823,0,none⟩ = some (.int .i64 a1_0):=(blk_cell BK823.out 0).trans rfl;have hcz20_1:w17.cell? ⟨gb823,1,none⟩ = some (.slice A1_1 l1_1.length c1_1):=(blk_cell BK823.out 1).trans rfl;have hfz20_0:=blk_frozen BK823.out 0;have hfz20_1:=blk_frozen BK823.out 1))
  go_ret
  exact ⟨by first|rfl|(simp [errW_none,errW_some] <;> rfl)|(simp [*,errW_none,errW_some] <;> rfl),by repeat (first|(with_reducible first|exact HB.out|apply below_alloc|apply pw_below_drewN|apply below_drew1|refine below_set ?_ GE822.out|refine below_set ?_ GE823.out)|exact HB.out)⟩


/-! ### laws_eqCommitteeS: function 35 -/
def laws_eqCommitteeS.l0:Nat → List (S_impl_Committee) → List (S_impl_Committee) → Int → Option (Bool)
 | 0,_,_,_=>none
 | k + 1,x0,x1,x5=>if x5 < (x0.length:Int) then (if 0 ≤ x5 then (if x5 < (x1.length:Int) then ((laws_eqCommittee.f k ((rd_impl_Committee x0 x5).f0) ((rd_impl_Committee x0 x5).f1) ((rd_impl_Committee x1 x5).f0) ((rd_impl_Committee x1 x5).f1)).bind fun t971=>(if t971 = true then (laws_eqCommitteeS.l0 k x0 x1 (wrap64 (x5 + 1))) else (some false))) else (none)) else (none)) else (some true)
def laws_eqCommitteeS.f (k:Nat) (l0:List (S_impl_Committee)) (l1:List (S_impl_Committee)):Option (Bool):=if (l0.length:Int) = (l1.length:Int) then (laws_eqCommitteeS.l0 k l0 l1 0) else (some false)
theorem laws_eqCommitteeS.mono_l:∀ k,(∀ y0 y1 y2,LeO (laws_eqCommitteeS.l0 k y0 y1 y2) (laws_eqCommitteeS.l0 (k + 1) y0 y1 y2))
 | 0=>fun _ _ _ r h=>by simp [laws_eqCommitteeS.l0] at h
 | k + 1=>by
  have ih0:=laws_eqCommitteeS.mono_l k
  ·intro y0 y1 y2;unfold laws_eqCommitteeS.l0
   repeat' with_reducible first|exact ih0 _ _ _|exact laws_eqCommittee.mono _ _ _ _ _|exact LeO.refl _|exact LeO.none _|refine LeO.ite ?_ ?_|refine LeO.bind ?_ (fun _=>?_)
theorem laws_eqCommitteeS.mono:∀ a0 a1 k,LeO (laws_eqCommitteeS.f k a0 a1) (laws_eqCommitteeS.f (k + 1) a0 a1):=by
 intro a0 a1 k;have ih0:=laws_eqCommitteeS.mono_l k;unfold laws_eqCommitteeS.f
 repeat' with_reducible first|exact ih0 _ _ _|exact laws_eqCommittee.mono _ _ _ _ _|exact LeO.refl _|exact LeO.none _|refine LeO.ite ?_ ?_|refine LeO.bind ?_ (fun _=>?_)
def laws_eqCommitteeS.T6:Bool × List (List Nat × List Nat):=(true,[([],[]),([],[]),([0,1],[0,1]),([2],[2]),([],[]),([],[]),([4,5],[4,5]),([6],[6]),([3,7],[3,7]),([8],[8])])
def laws_eqCommitteeS.B6:List Nat:=[0,0,3,7,0,0,48,112,255,511]
theorem laws_eqCommitteeS.tab6:rtab .any (opsOf Try.f35 6) = laws_eqCommitteeS.T6:=by kernel_rfl
theorem laws_eqCommitteeS.bits6:waitsOk laws_eqCommitteeS.T6.2 laws_eqCommitteeS.B6 = true:=by kernel_rfl
set_option maxHeartbeats 8000000 in
set_option maxRecDepth 100000 in
theorem laws_eqCommitteeS.calls (k:Nat) (A0:Option Addr) (c0:Nat) (l0:List (S_impl_Committee)) (A1:Option Addr) (c1:Nat) (l1:List (S_impl_Committee)) (r:Bool) (w:World) (hr0:Kd.C k_impl_Committee w A0 l0.length l0) (hc0:l0.length ≤ c0) (hr1:Kd.C k_impl_Committee w A1 l1.length l1) (hc1:l1.length ≤ c1) (h:laws_eqCommitteeS.f k l0 l1 = some r) :
  Calls Try.prog 35 #[.slice A0 l0.length c0,.slice A1 l1.length c1] w fun e w'=>e = .returned (.bool r) ∧ Below w.heap.size w w':=by
 have hu46:=Try.underlying46;have HR0:=Aside0.mk hr0;have HC0:=Aside0.mk hc0;clear hr0 hc0;have HR1:=Aside0.mk hr1;have HC1:=Aside0.mk hc1;clear hr1 hc1;have HB:=Aside0.mk (Below.refl w.heap.size w);have H:(if (l0.length:Int) = (l1.length:Int) then (laws_eqCommitteeS.l0 k l0 l1 0) else (some false)) = some r:=h;clear h;by_cases c3:(l0.length:Int) = (l1.length:Int)
 ·rw [if_pos c3] at H;have c3b0:((l0.length:Int) == (l1.length:Int)) = true:=beq_iff_eq.mpr c3;have c3b1:((l0.length:Int) != (l1.length:Int)) = false:=bne_eq_false_iff_eq.mpr c3;have c3b2:(l0.length == l1.length) = true:=by first|simpa using c3|(simp at c3 ⊢;omega)
  clear c3;have H':=Aside0.mk H;clear H;go_enter Try.func35,Try.ntmps35;go_wp2
  go_loopg [5] k (fun kq v5 w'=>∃ (x5_1:Int),v5 = .int .i64 x5_1 ∧ Aside0 (laws_eqCommitteeS.l0 kq l0 l1 x5_1 = some r) ∧ Aside0 (kq ≤ k) ∧ Aside0 (Below w.heap.size w w'))
  case atStart=>exact ⟨(0),(by first|rfl|(simp;done)|(simp [*];done)),H',⟨Nat.le_refl _⟩,⟨by repeat (first|(with_reducible first|exact HB.out|apply below_alloc|apply pw_below_drewN|apply below_drew1)|exact HB.out)⟩⟩
  case round =>
   clear H'
   try clear c1
   try clear p2
   try clear c3
   try clear c3b0
   try clear c3b1
   try clear c3b2
   obtain ⟨x5_1,rfl,HA,HK1,HB⟩:=hrel
   cases gk with
   | zero=>exact absurd HA.out (by simp [laws_eqCommitteeS.l0])
   | succ k1 =>
    have H:=HA.out;clear HA;simp only [laws_eqCommitteeS.l0] at H;by_cases c4:x5_1 < (l0.length:Int)
    ·rw [if_pos c4] at H;have c4b0:decide (x5_1 < (l0.length:Int)) = true:=decide_eq_true c4;clear c4;by_cases c5:0 ≤ x5_1
     ·rw [if_pos c5] at H;have c5b0:decide (0 ≤ x5_1) = true:=decide_eq_true c5;clear c5;by_cases c6:x5_1 < (l1.length:Int)
      ·rw [if_pos c6] at H;have c6b0:decide (x5_1 < (l1.length:Int)) = true:=decide_eq_true c6;clear c6;replace H:=Option.bind_eq_some_iff.mp H;obtain ⟨t971,A70,H⟩:=H;replace H:(if t971 = true then (laws_eqCommitteeS.l0 k1 l0 l1 (wrap64 (x5_1 + 1))) else (some false)) = some r:=H;have A7:=Aside0.mk A70;clear A70;by_cases c8:t971 = true
       ·subst c8;have H1:(laws_eqCommitteeS.l0 k1 l0 l1 (wrap64 (x5_1 + 1))) = some r:=by rw [if_pos rfl] at H;exact H
        clear H;have H:=H1;clear H1;have H':=Aside0.mk H;clear H
        try go_wp2
        have n0_:=Aside0.mk (below_drew1 HB.out);clear HB;have HB:=n0_;clear n0_;have p969:0 ≤ (x5_1:Int):=of_decide_eq_true ab;have q969:x5_1 < (l0.length:Int):=of_decide_eq_true ab;obtain ⟨ad969,A969_1,c969_1,e969,hx969_0,hx969_1,hl969_1,hi969_1⟩:=at_impl_Committee HR0.out x5_1 p969 q969;have hw969_1:=hx969_1;have hw969_0:=hx969_0;cases e969
        replace hx969_0:=(HB.out.cell (World.block_lt_of_cell? w _ hx969_0)).trans hx969_0;replace hx969_1:=(HB.out.cell (World.block_lt_of_cell? w _ hx969_1)).trans hx969_1;have HR969_1:=Aside0.mk hi969_1;have HC969_1:=Aside0.mk hl969_1;clear hi969_1 hl969_1;replace p969:=eq_true p969;replace q969:=eq_true q969;have p970:0 ≤ (x5_1:Int):=of_decide_eq_true ab;have q970:x5_1 < (l1.length:Int):=of_decide_eq_true ab;obtain ⟨ad970,A970_1,c970_1,e970,hx970_0,hx970_1,hl970_1,hi970_1⟩:=at_impl_Committee HR1.out x5_1 p970 q970;have hw970_1:=hx970_1;have hw970_0:=hx970_0;cases e970
        replace hx970_0:=(HB.out.cell (World.block_lt_of_cell? w _ hx970_0)).trans hx970_0;replace hx970_1:=(HB.out.cell (World.block_lt_of_cell? w _ hx970_1)).trans hx970_1;have HR970_1:=Aside0.mk hi970_1;have HC970_1:=Aside0.mk hl970_1;clear hi970_1 hl970_1;replace p970:=eq_true p970;replace q970:=eq_true q970;refine start_ (n:=10) (S:=fun w'=>w'.cell? (ad969.add ((x5_1).toNat * 2)) = some (.int .i64 ((rd_impl_Committee l0 x5_1).f0)) ∧ w'.cell? ⟨(ad969.add ((x5_1).toNat * 2)).block,(ad969.add ((x5_1).toNat * 2)).off + 1,none⟩ = some (.slice A969_1 ((rd_impl_Committee l0 x5_1).f1).length c969_1) ∧ w'.cell? (ad970.add ((x5_1).toNat * 2)) = some (.int .i64 ((rd_impl_Committee l1 x5_1).f0)) ∧ w'.cell? ⟨(ad970.add ((x5_1).toNat * 2)).block,(ad970.add ((x5_1).toNat * 2)).off + 1,none⟩ = some (.slice A970_1 ((rd_impl_Committee l1 x5_1).f1).length c970_1)) (ds:=[]) #[false,false,false,false,false,false,false,false,false,false] (by kernel_rfl) rfl rfl ⟨((HB.out.cell (World.block_lt_of_cell? w _ hw969_0)).trans hw969_0),((HB.out.cell (World.block_lt_of_cell? w _ hw969_1)).trans hw969_1),((HB.out.cell (World.block_lt_of_cell? w _ hw970_0)).trans hw970_0),((HB.out.cell (World.block_lt_of_cell? w _ hw970_1)).trans hw970_1)⟩ (fun hHeld=>?_);refine with_tabW laws_eqCommitteeS.tab6 laws_eqCommitteeS.bits6 (fun HT_ HW_=>?_)
        generalize wr.drew = w9 at HB HR969_1 HR970_1 hx969_0 hx969_1 hx970_0 hx970_1 hHeld ⊢
        refine pure_ (i:=0) (N:=some 17) (v:=?_) (a':=?_) #[true,false,false,false,false,false,false,false,false,false] rfl rfl (any_of HT_.out (by kernel_rfl)) (fun _ _ _ h=>h) (Or.inl ⟨by rfl,?_⟩) ?_ ?_;rotate_left
        ·intro w';go_simp
         with_reducible rfl
        rotate_left
        ·simp only [Act.put,sA,sZ,sS,i64_w,i32_w];rfl
        refine pure_ (i:=1) (N:=some 18) (v:=?_) (a':=?_) #[true,true,false,false,false,false,false,false,false,false] rfl rfl (any_of HT_.out (by kernel_rfl)) (fun _ _ _ h=>h) (Or.inl ⟨by rfl,?_⟩) ?_ ?_;rotate_left
        ·intro w';go_simp
         with_reducible rfl
        rotate_left
        ·simp only [Act.put,sA,sZ,sS,i64_w,i32_w];rfl
        refine pure_ (i:=2) (N:=some 19) (v:=?_) (a':=?_) #[true,true,true,false,false,false,false,false,false,false] rfl rfl (any_of HT_.out (by kernel_rfl)) (fun _ _ _ h=>h) (Or.inl ⟨by rfl,?_⟩) ?_ ?_;rotate_left
        ·intro w';go_simp
         with_reducible rfl
        rotate_left
        ·simp only [Act.put,sA,sZ,sS,i64_w,i32_w];rfl
        refine pure_ (i:=4) (N:=some 21) (v:=?_) (a':=?_) #[true,true,true,false,true,false,false,false,false,false] rfl rfl (any_of HT_.out (by kernel_rfl)) (fun _ _ _ h=>h) (Or.inl ⟨by rfl,?_⟩) ?_ ?_;rotate_left
        ·intro w';go_simp
         with_reducible rfl
        rotate_left
        ·simp only [Act.put,sA,sZ,sS,i64_w,i32_w];rfl
        refine pure_ (i:=5) (N:=some 22) (v:=?_) (a':=?_) #[true,true,true,false,true,true,false,false,false,false] rfl rfl (any_of HT_.out (by kernel_rfl)) (fun _ _ _ h=>h) (Or.inl ⟨by rfl,?_⟩) ?_ ?_;rotate_left
        ·intro w';go_simp
         with_reducible rfl
        rotate_left
        ·simp only [Act.put,sA,sZ,sS,i64_w,i32_w];rfl
        refine pure_ (i:=6) (N:=some 23) (v:=?_) (a':=?_) #[true,true,true,false,true,true,true,false,false,false] rfl rfl (any_of HT_.out (by kernel_rfl)) (fun _ _ _ h=>h) (Or.inl ⟨by rfl,?_⟩) ?_ ?_;rotate_left
        ·intro w';go_simp
         with_reducible rfl
        rotate_left
        ·simp only [Act.put,sA,sZ,sS,i64_w,i32_w];rfl
        refine take_ (i:=3) (N:=some 20) (v:=?_) (a':=?_) #[true,true,true,true,true,true,true,false,false,false] rfl rfl (take_ofW HT_.out HW_.out (by kernel_rfl)) (fun _ _ _ h=>h) (Or.inl ⟨by rfl,?_⟩) hHeld ?_ ?_;rotate_left
        ·rintro w' ⟨s0,s1,s2,s3⟩
         go_simp
         with_reducible rfl
        rotate_left
        ·simp only [Act.put,sA,sZ,sS,i64_w,i32_w];rfl
        refine take_ (i:=7) (N:=some 24) (v:=?_) (a':=?_) #[true,true,true,true,true,true,true,true,false,false] rfl rfl (take_ofW HT_.out HW_.out (by kernel_rfl)) (fun _ _ _ h=>h) (Or.inl ⟨by rfl,?_⟩) hHeld ?_ ?_;rotate_left
        ·rintro w' ⟨s0,s1,s2,s3⟩
         go_simp
         with_reducible rfl
        rotate_left
        ·simp only [Act.put,sA,sZ,sS,i64_w,i32_w];rfl
        refine one_ (i:=8) (N:=some 25) #[true,true,true,true,true,true,true,true,true,false] rfl rfl (one_of HT_.out (by kernel_rfl)) (by decide) (fun K hK=>?_);refine goes_ Try.func28 (by kernel_rfl) rfl #[.agg #[.int .i64 ((rd_impl_Committee l0 x5_1).f0),.slice A969_1 ((rd_impl_Committee l0 x5_1).f1).length c969_1],.agg #[.int .i64 ((rd_impl_Committee l1 x5_1).f0),.slice A970_1 ((rd_impl_Committee l1 x5_1).f1).length c970_1]] (by rfl) rfl rfl mq ?_
        with_reducible refine (laws_eqCommittee.calls k1 ((rd_impl_Committee l0 x5_1).f0) _ _ ((rd_impl_Committee l0 x5_1).f1) ((rd_impl_Committee l1 x5_1).f0) _ _ ((rd_impl_Committee l1 x5_1).f1) true _ ?side1 ?side2 ?side3 ?side4 A7.out).mono ?_
        (case side1=>repeat (first|exact (Kd.C_below HR969_1.out HB.out)|(with_reducible refine Kd.C_alloc ?_ _)|(with_reducible refine Kd.C_drewN ?_ _)|(with_reducible refine Kd.C_drew ?_)))
        (case side2=>exact HC969_1.out)
        (case side3=>repeat (first|exact (Kd.C_below HR970_1.out HB.out)|(with_reducible refine Kd.C_alloc ?_ _)|(with_reducible refine Kd.C_drewN ?_ _)|(with_reducible refine Kd.C_drew ?_)))
        (case side4=>exact HC970_1.out)
        rintro e w10 ⟨rfl,hb⟩
        refine ⟨_,rfl,?_⟩;have n0_:=Aside0.mk (below_step bw hb);clear HB;have HB:=n0_;clear n0_;(try clear hb)
        (try clear hb2)
        (try clear hk)
        (try clear hi)
        refine hK.out _ _ ⟨((HB.out.cell (World.block_lt_of_cell? w _ hw969_0)).trans hw969_0),((HB.out.cell (World.block_lt_of_cell? w _ hw969_1)).trans hw969_1),((HB.out.cell (World.block_lt_of_cell? w _ hw970_0)).trans hw970_0),((HB.out.cell (World.block_lt_of_cell? w _ hw970_1)).trans hw970_1)⟩ (fun hHeld=>?_);clear hK K;refine norm_ (a':=?_) ?_ ?_;rotate_left
        ·show Act.put _ (some 25) _ = _;simp only [Act.put,sA,sZ,sS,i64_w,i32_w];rfl
        refine pure_ (i:=9) (N:=some 26) (v:=?_) (a':=?_) #[true,true,true,true,true,true,true,true,true,true] rfl rfl (any_of HT_.out (by kernel_rfl)) (fun _ _ _ h=>h) (Or.inl ⟨by rfl,?_⟩) ?_ ?_;rotate_left
        ·intro w';go_simp
         with_reducible rfl
        rotate_left
        ·simp only [Act.put,sA,sZ,sS,i64_w,i32_w];rfl
        refine done_ (done_of HT_.out (by kernel_rfl)) ?_
        try go_wp2
        go_roundg k1
        case measure=>have:=HK1.out;omega
        case rel=>exact ⟨(wrap64 (x5_1 + 1)),(by first|rfl|(simp;done)|(simp [*];done)),H',⟨by have:=HK1.out;omega⟩,⟨by repeat (first|(with_reducible first|exact HB.out|apply below_alloc|apply pw_below_drewN|apply below_drew1)|exact HB.out)⟩⟩
       ·replace c8:=Bool.eq_false_iff.mpr c8;subst c8;have H1:(some false) = some r:=by rw [if_neg (show ¬ (false = true) by decide)] at H;exact H
        clear H;have H:=H1;clear H1;obtain rfl:=Option.some.inj H
        try go_wp2
        have n0_:=Aside0.mk (below_drew1 HB.out);clear HB;have HB:=n0_;clear n0_;have p969:0 ≤ (x5_1:Int):=of_decide_eq_true ab;have q969:x5_1 < (l0.length:Int):=of_decide_eq_true ab;obtain ⟨ad969,A969_1,c969_1,e969,hx969_0,hx969_1,hl969_1,hi969_1⟩:=at_impl_Committee HR0.out x5_1 p969 q969;have hw969_1:=hx969_1;have hw969_0:=hx969_0;cases e969
        replace hx969_0:=(HB.out.cell (World.block_lt_of_cell? w _ hx969_0)).trans hx969_0;replace hx969_1:=(HB.out.cell (World.block_lt_of_cell? w _ hx969_1)).trans hx969_1;have HR969_1:=Aside0.mk hi969_1;have HC969_1:=Aside0.mk hl969_1;clear hi969_1 hl969_1;replace p969:=eq_true p969;replace q969:=eq_true q969;have p970:0 ≤ (x5_1:Int):=of_decide_eq_true ab;have q970:x5_1 < (l1.length:Int):=of_decide_eq_true ab;obtain ⟨ad970,A970_1,c970_1,e970,hx970_0,hx970_1,hl970_1,hi970_1⟩:=at_impl_Committee HR1.out x5_1 p970 q970;have hw970_1:=hx970_1;have hw970_0:=hx970_0;cases e970
        replace hx970_0:=(HB.out.cell (World.block_lt_of_cell? w _ hx970_0)).trans hx970_0;replace hx970_1:=(HB.out.cell (World.block_lt_of_cell? w _ hx970_1)).trans hx970_1;have HR970_1:=Aside0.mk hi970_1;have HC970_1:=Aside0.mk hl970_1;clear hi970_1 hl970_1;replace p970:=eq_true p970;replace q970:=eq_true q970;refine start_ (n:=10) (S:=fun w'=>w'.cell? (ad969.add ((x5_1).toNat * 2)) = some (.int .i64 ((rd_impl_Committee l0 x5_1).f0)) ∧ w'.cell? ⟨(ad969.add ((x5_1).toNat * 2)).block,(ad969.add ((x5_1).toNat * 2)).off + 1,none⟩ = some (.slice A969_1 ((rd_impl_Committee l0 x5_1).f1).length c969_1) ∧ w'.cell? (ad970.add ((x5_1).toNat * 2)) = some (.int .i64 ((rd_impl_Committee l1 x5_1).f0)) ∧ w'.cell? ⟨(ad970.add ((x5_1).toNat * 2)).block,(ad970.add ((x5_1).toNat * 2)).off + 1,none⟩ = some (.slice A970_1 ((rd_impl_Committee l1 x5_1).f1).length c970_1)) (ds:=[]) #[false,false,false,false,false,false,false,false,false,false] (by kernel_rfl) rfl rfl ⟨((HB.out.cell (World.block_lt_of_cell? w _ hw969_0)).trans hw969_0),((HB.out.cell (World.block_lt_of_cell? w _ hw969_1)).trans hw969_1),((HB.out.cell (World.block_lt_of_cell? w _ hw970_0)).trans hw970_0),((HB.out.cell (World.block_lt_of_cell? w _ hw970_1)).trans hw970_1)⟩ (fun hHeld=>?_);refine with_tabW laws_eqCommitteeS.tab6 laws_eqCommitteeS.bits6 (fun HT_ HW_=>?_)
        generalize wr.drew = w11 at HB HR969_1 HR970_1 hx969_0 hx969_1 hx970_0 hx970_1 hHeld ⊢
        refine pure_ (i:=0) (N:=some 17) (v:=?_) (a':=?_) #[true,false,false,false,false,false,false,false,false,false] rfl rfl (any_of HT_.out (by kernel_rfl)) (fun _ _ _ h=>h) (Or.inl ⟨by rfl,?_⟩) ?_ ?_;rotate_left
        ·intro w';go_simp
         with_reducible rfl
        rotate_left
        ·simp only [Act.put,sA,sZ,sS,i64_w,i32_w];rfl
        refine pure_ (i:=1) (N:=some 18) (v:=?_) (a':=?_) #[true,true,false,false,false,false,false,false,false,false] rfl rfl (any_of HT_.out (by kernel_rfl)) (fun _ _ _ h=>h) (Or.inl ⟨by rfl,?_⟩) ?_ ?_;rotate_left
        ·intro w';go_simp
         with_reducible rfl
        rotate_left
        ·simp only [Act.put,sA,sZ,sS,i64_w,i32_w];rfl
        refine pure_ (i:=2) (N:=some 19) (v:=?_) (a':=?_) #[true,true,true,false,false,false,false,false,false,false] rfl rfl (any_of HT_.out (by kernel_rfl)) (fun _ _ _ h=>h) (Or.inl ⟨by rfl,?_⟩) ?_ ?_;rotate_left
        ·intro w';go_simp
         with_reducible rfl
        rotate_left
        ·simp only [Act.put,sA,sZ,sS,i64_w,i32_w];rfl
        refine pure_ (i:=4) (N:=some 21) (v:=?_) (a':=?_) #[true,true,true,false,true,false,false,false,false,false] rfl rfl (any_of HT_.out (by kernel_rfl)) (fun _ _ _ h=>h) (Or.inl ⟨by rfl,?_⟩) ?_ ?_;rotate_left
        ·intro w';go_simp
         with_reducible rfl
        rotate_left
        ·simp only [Act.put,sA,sZ,sS,i64_w,i32_w];rfl
        refine pure_ (i:=5) (N:=some 22) (v:=?_) (a':=?_) #[true,true,true,false,true,true,false,false,false,false] rfl rfl (any_of HT_.out (by kernel_rfl)) (fun _ _ _ h=>h) (Or.inl ⟨by rfl,?_⟩) ?_ ?_;rotate_left
        ·intro w';go_simp
         with_reducible rfl
        rotate_left
        ·simp only [Act.put,sA,sZ,sS,i64_w,i32_w];rfl
        refine pure_ (i:=6) (N:=some 23) (v:=?_) (a':=?_) #[true,true,true,false,true,true,true,false,false,false] rfl rfl (any_of HT_.out (by kernel_rfl)) (fun _ _ _ h=>h) (Or.inl ⟨by rfl,?_⟩) ?_ ?_;rotate_left
        ·intro w';go_simp
         with_reducible rfl
        rotate_left
        ·simp only [Act.put,sA,sZ,sS,i64_w,i32_w];rfl
        refine take_ (i:=3) (N:=some 20) (v:=?_) (a':=?_) #[true,true,true,true,true,true,true,false,false,false] rfl rfl (take_ofW HT_.out HW_.out (by kernel_rfl)) (fun _ _ _ h=>h) (Or.inl ⟨by rfl,?_⟩) hHeld ?_ ?_;rotate_left
        ·rintro w' ⟨s0,s1,s2,s3⟩
         go_simp
         with_reducible rfl
        rotate_left
        ·simp only [Act.put,sA,sZ,sS,i64_w,i32_w];rfl
        refine take_ (i:=7) (N:=some 24) (v:=?_) (a':=?_) #[true,true,true,true,true,true,true,true,false,false] rfl rfl (take_ofW HT_.out HW_.out (by kernel_rfl)) (fun _ _ _ h=>h) (Or.inl ⟨by rfl,?_⟩) hHeld ?_ ?_;rotate_left
        ·rintro w' ⟨s0,s1,s2,s3⟩
         go_simp
         with_reducible rfl
        rotate_left
        ·simp only [Act.put,sA,sZ,sS,i64_w,i32_w];rfl
        refine one_ (i:=8) (N:=some 25) #[true,true,true,true,true,true,true,true,true,false] rfl rfl (one_of HT_.out (by kernel_rfl)) (by decide) (fun K hK=>?_);refine goes_ Try.func28 (by kernel_rfl) rfl #[.agg #[.int .i64 ((rd_impl_Committee l0 x5_1).f0),.slice A969_1 ((rd_impl_Committee l0 x5_1).f1).length c969_1],.agg #[.int .i64 ((rd_impl_Committee l1 x5_1).f0),.slice A970_1 ((rd_impl_Committee l1 x5_1).f1).length c970_1]] (by rfl) rfl rfl mq ?_
        with_reducible refine (laws_eqCommittee.calls k1 ((rd_impl_Committee l0 x5_1).f0) _ _ ((rd_impl_Committee l0 x5_1).f1) ((rd_impl_Committee l1 x5_1).f0) _ _ ((rd_impl_Committee l1 x5_1).f1) false _ ?side1 ?side2 ?side3 ?side4 A7.out).mono ?_
        (case side1=>repeat (first|exact (Kd.C_below HR969_1.out HB.out)|(with_reducible refine Kd.C_alloc ?_ _)|(with_reducible refine Kd.C_drewN ?_ _)|(with_reducible refine Kd.C_drew ?_)))
        (case side2=>exact HC969_1.out)
        (case side3=>repeat (first|exact (Kd.C_below HR970_1.out HB.out)|(with_reducible refine Kd.C_alloc ?_ _)|(with_reducible refine Kd.C_drewN ?_ _)|(with_reducible refine Kd.C_drew ?_)))
        (case side4=>exact HC970_1.out)
        rintro e w12 ⟨rfl,hb⟩
        refine ⟨_,rfl,?_⟩;have n0_:=Aside0.mk (below_step bw hb);clear HB;have HB:=n0_;clear n0_;(try clear hb)
        (try clear hb2)
        (try clear hk)
        (try clear hi)
        refine hK.out _ _ ⟨((HB.out.cell (World.block_lt_of_cell? w _ hw969_0)).trans hw969_0),((HB.out.cell (World.block_lt_of_cell? w _ hw969_1)).trans hw969_1),((HB.out.cell (World.block_lt_of_cell? w _ hw970_0)).trans hw970_0),((HB.out.cell (World.block_lt_of_cell? w _ hw970_1)).trans hw970_1)⟩ (fun hHeld=>?_);clear hK K;refine norm_ (a':=?_) ?_ ?_;rotate_left
        ·show Act.put _ (some 25) _ = _;simp only [Act.put,sA,sZ,sS,i64_w,i32_w];rfl
        refine pure_ (i:=9) (N:=some 26) (v:=?_) (a':=?_) #[true,true,true,true,true,true,true,true,true,true] rfl rfl (any_of HT_.out (by kernel_rfl)) (fun _ _ _ h=>h) (Or.inl ⟨by rfl,?_⟩) ?_ ?_;rotate_left
        ·intro w';go_simp
         with_reducible rfl
        rotate_left
        ·simp only [Act.put,sA,sZ,sS,i64_w,i32_w];rfl
        refine done_ (done_of HT_.out (by kernel_rfl)) ?_
        try go_wp2
        go_ret
        exact ⟨by first|rfl|(simp [errW_none,errW_some] <;> rfl)|(simp [*,errW_none,errW_some] <;> rfl),by repeat (first|(with_reducible first|exact HB.out|apply below_alloc|apply pw_below_drewN|apply below_drew1)|exact HB.out)⟩
      ·rw [if_neg c6] at H;exact absurd H (by simp)
     ·rw [if_neg c5] at H;exact absurd H (by simp)
    ·rw [if_neg c4] at H;have c4b0:decide (x5_1 < (l0.length:Int)) = false:=decide_eq_false c4;clear c4;obtain rfl:=Option.some.inj H;go_wp2
     go_ret
     exact ⟨by first|rfl|(simp [errW_none,errW_some] <;> rfl)|(simp [*,errW_none,errW_some] <;> rfl),by repeat (first|(with_reducible first|exact HB.out|apply below_alloc|apply pw_below_drewN|apply below_drew1)|exact HB.out)⟩
 ·rw [if_neg c3] at H;have c3b0:((l0.length:Int) == (l1.length:Int)) = false:=beq_eq_false_iff_ne.mpr c3;have c3b1:((l0.length:Int) != (l1.length:Int)) = true:=bne_iff_ne.mpr c3;have c3b2:(l0.length == l1.length) = false:=by first|simpa using c3|(simp at c3 ⊢;omega)
  obtain rfl:=Option.some.inj H;go_enter Try.func35,Try.ntmps35;go_wp2
  go_ret
  exact ⟨by first|rfl|(simp [errW_none,errW_some] <;> rfl)|(simp [*,errW_none,errW_some] <;> rfl),by repeat (first|(with_reducible first|exact HB.out|apply below_alloc|apply pw_below_drewN|apply below_drew1)|exact HB.out)⟩


/-! ### laws_markCommitteeS: function 36 -/
-- OWN 0 0
-- IMPORT P_laws_markIntS
def laws_markCommitteeS.l0 : Nat → List S_impl_Committee → Int → Int → Option (Int × List S_impl_Committee)
  | 0, _, _, _ => none
  | k + 1, x0, x1, x5 => if x5 < (x0.length : Int) then (if 0 ≤ x5 then ((laws_markIntS.f k (rd_impl_Committee x0 x5).f1 (wrap64 (x1 + 1))).bind fun t => (laws_markCommitteeS.l0 k (x0.set (x5 : Int).toNat ⟨x1, t.2⟩) t.1 (wrap64 (x5 + 1)))) else (none)) else (some (x1, x0))
def laws_markCommitteeS.f (k : Nat) (l0 : List S_impl_Committee) (a1 : Int) : Option (Int × List S_impl_Committee) := laws_markCommitteeS.l0 k l0 a1 0
theorem laws_markCommitteeS.mono_l : ∀ k, (∀ y0 y1 y2, LeO (laws_markCommitteeS.l0 k y0 y1 y2) (laws_markCommitteeS.l0 (k + 1) y0 y1 y2))
  | 0 => fun _ _ _ r h => by simp [laws_markCommitteeS.l0] at h
  | k + 1 => by
    have ih0 := laws_markCommitteeS.mono_l k
    · intro y0 y1 y2
      unfold laws_markCommitteeS.l0
      repeat' first
      | (with_reducible exact ih0 _ _ _)
      | (with_reducible exact laws_markIntS.mono _ _ _)
      | (with_reducible exact LeO.refl _)
      | (with_reducible exact LeO.none _)
      | (with_reducible refine LeO.ite ?_ ?_)
      | (with_reducible refine LeO.bind ?_ (fun _ => ?_))
      | exact ih0 _ _ _
      | exact laws_markIntS.mono _ _ _
      | exact LeO.none _
      | refine LeO.ite ?_ ?_
      | refine LeO.bind ?_ (fun _ => ?_)
theorem laws_markCommitteeS.mono : ∀ a0 a1 k, LeO (laws_markCommitteeS.f k a0 a1) (laws_markCommitteeS.f (k + 1) a0 a1) := fun a0 a1 k => laws_markCommitteeS.mono_l k a0 a1 0
/-- An element's row, marked: the row of committees as it then stands. -/
theorem laws_markCommitteeS.put {W W' : World} {base : Nat} {P oki : Nat → Prop} {v u : Value} {xs : List S_impl_Committee} {i : Int} {q : Int} {r : List Int} (hH : Kd.H k_impl_Committee 46 W base P v xs i oki [.int .i64 q, u]) (hR : Kd.R (Kd.int .i64) 3 W' base oki u r) (hk : Kept W W' oki) :
    Kd.S k_impl_Committee 46 W' base P v (xs.set i.toNat ⟨q, r⟩) :=
  Kd.H_back (Kd.H_step hH (fun k _ hn hlt => hk.2 k hlt hn)) (k_impl_Committee_mkM _ _ _ ⟨q, r⟩ hR) (fun _ h => h)
set_option maxHeartbeats 8000000 in
set_option maxRecDepth 100000 in
theorem laws_markCommitteeS.calls (k : Nat) (P0_ : Nat → Prop) (u9000_ : Value) (l0 : List S_impl_Committee) (a1 : Int) (r1 : Int) (r2 : List S_impl_Committee) (w0 w : World) (hB : Below w0.heap.size w0 w) (ho0 : Kd.S k_impl_Committee 46 w w0.heap.size P0_ u9000_ l0) (h : laws_markCommitteeS.f k l0 a1 = some (r1, r2)) :
    Calls Try.prog 36 #[u9000_, .int .i64 a1] w fun e w' => e = .returned (.int .i64 r1) ∧ Kd.S k_impl_Committee 46 w' w0.heap.size P0_ u9000_ r2 ∧ Below w0.heap.size w0 w' ∧ Kept w w' (fun k_ => P0_ k_) := by
  have HO0 := Aside0.mk ho0
  have HK := Aside0.mk (Kept.refl w (fun k_ => P0_ k_))
  have HB := Aside0.mk hB
  clear hB
  have H' := Aside0.mk (show (laws_markCommitteeS.l0 k l0 a1 0) = some (r1, r2) from h)
  clear h
  go_enter Try.func36, Try.ntmps36
  go_wp2
  go_loopg [1, 5] k (fun kq v1 v5 w' => ∃ (x0_1 : List S_impl_Committee) (x1_1 : Int) (x5_1 : Int), v1 = .int .i64 x1_1 ∧ v5 = .int .i64 x5_1 ∧ Aside0 (laws_markCommitteeS.l0 kq x0_1 x1_1 x5_1 = some (r1, r2)) ∧ Aside0 (kq ≤ k) ∧ Aside0 (Kd.S k_impl_Committee 46 w' w0.heap.size P0_ u9000_ x0_1) ∧ Aside0 (Kept w w' (fun k_ => P0_ k_)) ∧ Aside0 (Below w0.heap.size w0 w'))
  case atStart => exact ⟨(l0), (a1), (0), (by first | rfl | (simp; done) | (simp [*]; done)), (by first | rfl | (simp; done) | (simp [*]; done)), H', ⟨Nat.le_refl _⟩, ⟨by (with_reducible repeat (first | apply Kd.S_alloc | apply Kd.S_drewN | apply Kd.S_drew)); exact HO0.out⟩, ⟨by repeat (first | (with_reducible first | exact HK.out | apply Kept.alloc | apply Kept.drewN | apply Kept.drew) | exact HK.out)⟩, ⟨by repeat (first | (with_reducible first | exact HB.out | apply below_alloc | apply pw_below_drewN | apply below_drew1) | exact HB.out)⟩⟩
  case round =>
    clear H'
    try clear p2
    obtain ⟨x0_1, x1_1, x5_1, rfl, rfl, HA, HK1, HO_0, HK, HB⟩ := hrel
    cases gk with
    | zero => exact absurd HA.out (by simp [laws_markCommitteeS.l0])
    | succ k1 =>
      have H := HA.out
      clear HA
      simp only [laws_markCommitteeS.l0] at H
      by_cases c3 : x5_1 < (x0_1.length : Int)
      · rw [if_pos c3] at H
        have c3b0 : decide (x5_1 < (x0_1.length : Int)) = true := decide_eq_true c3
        clear c3
        by_cases c4 : 0 ≤ x5_1
        · rw [if_pos c4] at H
          have c4b0 : decide (0 ≤ x5_1) = true := decide_eq_true c4
          clear c4
          replace H := Option.bind_eq_some_iff.mp H
          obtain ⟨⟨t1, t2⟩, A0_, H⟩ := H
          have A1_ := Aside0.mk A0_
          clear A0_
          have H' := Aside0.mk H
          clear H
          have p5 : 0 ≤ (x5_1 : Int) := of_decide_eq_true (by first | (with_reducible assumption) | assumption)
          have q5 : (x5_1 : Int) < ((x0_1.length : Int) : Int) := of_decide_eq_true (by first | (with_reducible assumption) | assumption)
          obtain ⟨go5, co5, eo5, gb5, gl5, cl5, HG5⟩ := Kd.S_form HO_0.out (by omega)
          subst eo5
          have GB5 := Aside0.mk gb5
          have HPg := Aside0.mk (show P0_ go5 from (Kd.S_R HO_0.out).1 go5 (by simp [Value.ownBlock]))
          obtain ⟨oki, c, hcl, hM, hcc, hfr, hoki, hH⟩ := Kd.S_elem HO_0.out z_impl_Committee x5_1 p5 q5
          obtain ⟨v1, rfl, hR⟩ := k_impl_Committee_openM hM
          obtain ⟨A_, c_, eu⟩ := Kd.R_slice hR
          subst eu
          have hs := Kd.H_seg hH p5 q5 (seg := [.int .i64 x1_1]) (j := 0) (show 0 + 1 ≤ 2 from by decide) (by intro q_ hq_; rw [List.mem_singleton.1 hq_]; rfl)
          have hx0 := hcc 0 _ rfl
          have hf0 := hfr 0
          have hs1 := hs.1
          simp only [show k_impl_Committee.sz = 2 from rfl, Nat.add_zero] at hx0 hf0 hs
          rw [show (k_impl_Committee).sz = 2 from rfl] at hs1
          have HR_ := Aside0.mk (show Kd.R (Kd.int .i64) 3 _ w0.heap.size oki _ (rd_impl_Committee x0_1 x5_1).f1 from hR)
          have HS_ := Aside0.mk hs1
          have HG_ := Aside0.mk hs.2
          have HP_ := Aside0.mk (fun k_ (hk_ : oki k_) => hoki k_ hk_)
          clear hR hH hcc hfr hcl hoki cl5 HG5 gb5 gl5 HO_0 hs hs1
          have hq5 := Aside0.mk q5
          have hp5 := Aside0.mk p5
          replace p5 := eq_true p5
          replace q5 := eq_true q5
          go_wp2_with (first
            | ((with_reducible refine gate_store (t := 3) (p := 16) rfl ?_); refine store_event (t := 3) (p := 16) (v := ?vo_w8) (w1 := (wr.setCell ⟨go5, (x5_1 : Int).toNat * 2, none⟩ (.int .i64 x1_1))) ?hg ?ho ?hn ?hr ?_; (case ho => rfl); (case hg => rfl); (case hn => rfl); (case hr => first | (go_simp; done) | (go_simp; rfl)); intro w8 hw;
               have hg : wr.grownBy w8 (some go5) := (by rw [hw]; exact HG_.out);
               have n0_ := Aside0.mk (show Kd.H k_impl_Committee 46 w8 w0.heap.size P0_ (.slice (some ⟨go5, 0, none⟩) x0_1.length co5) x0_1 x5_1 oki [.int .i64 x1_1, .slice A_ (rd_impl_Committee x0_1 x5_1).f1.length c_] from by rw [hw]; exact HS_.out);
               have n1_ := Aside0.mk (show Kd.R (Kd.int .i64) 3 w8 w0.heap.size oki (.slice A_ (rd_impl_Committee x0_1 x5_1).f1.length c_) (rd_impl_Committee x0_1 x5_1).f1 from Kd.R_grown HR_.out hg (fun k_ hk_ => by intro e_; injection e_ with e_; exact (HP_.out k_ hk_).2 e_));
               have n2_ := Aside0.mk ((by rw [hw]; exact below_set (HB.out) GB5.out : Below w0.heap.size w0 w8));
               have n3_ := Aside0.mk (Kept.of_grown (S := (fun k_ => P0_ k_)) hg HK.out (fun k_ e_ => .inl (by injection e_ with e_; rw [← e_]; exact HPg.out)));
               obtain ⟨_, _, _, _, _, hcc2, _⟩ := Kd.H_raw n0_.out hp5.out hq5.out;
               have hx1 := hcc2 1 _ rfl;
               clear hcc2 hx0 hf0 HS_ HG_ HR_ HB HK hg hw;
               have HH_ := n0_; have HR_ := n1_; have HB := n2_; have HK := n3_; clear n0_ n1_ n2_ n3_;
               rw [show (k_impl_Committee).sz = 2 from rfl] at hx1)
            | (go_at_call 52; (with_reducible refine (laws_markIntS.calls k1 oki _ (rd_impl_Committee x0_1 x5_1).f1 (wrap64 (x1_1 + 1)) t1 t2 w0 _ ?side1 ?side2 A1_.out).mono ?_); (case side1 => exact HB.out); (case side2 => exact HR_.out); rintro e w9 ⟨rfl, hy, hb, hkp⟩; have n0_ := Aside0.mk (laws_markCommitteeS.put HH_.out (Kd.R_reok rfl hy (fun k_ e_ => HR_.out.1 k_ e_)) hkp); have n1_ := Aside0.mk (Kept.then_ HK.out hkp (fun k_ h_ => .inl (HP_.out k_ h_).1)); have n2_ := Aside0.mk hb; clear HH_ HB HK HR_ HP_ hx1 hy hb hkp; have HO_0 := n0_; have HK := n1_; have HB := n2_; clear n0_ n1_ n2_))
          go_roundg k1
          case measure => have := HK1.out; omega
          case rel => exact ⟨(x0_1.set (x5_1 : Int).toNat ⟨x1_1, t2⟩), t1, (wrap64 (x5_1 + 1)), (by first | rfl | (simp; done) | (simp [*]; done)), (by first | rfl | (simp; done) | (simp [*]; done)), H', ⟨by have := HK1.out; omega⟩, HO_0, HK, HB⟩
        · rw [if_neg c4] at H
          exact absurd H (by simp)
      · rw [if_neg c3] at H
        have c3b0 : decide (x5_1 < (x0_1.length : Int)) = false := decide_eq_false c3
        clear c3
        simp only [Option.some.injEq, Prod.mk.injEq] at H
        obtain ⟨rfl, rfl⟩ := H
        obtain ⟨Ao9, co9, eo9⟩ := Kd.S_slice HO_0.out
        subst eo9
        go_wp2
        go_ret
        exact ⟨by first | rfl | (simp [errW_none, errW_some] <;> rfl) | (simp [*, errW_none, errW_some] <;> rfl), HO_0.out, HB.out, HK.out⟩


/-! ### spec_chMembers: function 84 -/
def spec_chMembers.l0:Nat → Int → List (S_impl_Committee) → Int → Int → Option (Int)
 | 0,_,_,_,_=>none
 | k + 1,x3,x6,x7,x8=>if x8 < x7 then (if 0 ≤ x8 then (if x8 < (x6.length:Int) then ((spec_voGood.f k ((rd_impl_Committee x6 x8).f0) ((rd_impl_Committee x6 x8).f1)).bind fun t1185=>(if t1185 = true then (spec_chMembers.l0 k (wrap64 (x3 + (((rd_impl_Committee x6 x8).f1).length:Int))) x6 x7 (wrap64 (x8 + 1))) else (some (-1)))) else (none)) else (none)) else (some x3)
def spec_chMembers.f (k:Nat) (l0:List (S_impl_Committee)):Option (Int):=spec_chMembers.l0 k 0 l0 (l0.length:Int) 0
theorem spec_chMembers.mono_l:∀ k,(∀ y0 y1 y2 y3,LeO (spec_chMembers.l0 k y0 y1 y2 y3) (spec_chMembers.l0 (k + 1) y0 y1 y2 y3))
 | 0=>fun _ _ _ _ r h=>by simp [spec_chMembers.l0] at h
 | k + 1=>by
  have ih0:=spec_chMembers.mono_l k
  ·intro y0 y1 y2 y3;unfold spec_chMembers.l0
   repeat' with_reducible first|exact ih0 _ _ _ _|exact spec_voGood.mono _ _ _|exact LeO.refl _|exact LeO.none _|refine LeO.ite ?_ ?_|refine LeO.bind ?_ (fun _=>?_)
theorem spec_chMembers.mono:∀ a0 k,LeO (spec_chMembers.f k a0) (spec_chMembers.f (k + 1) a0):=by
 intro a0 k;have ih0:=spec_chMembers.mono_l k;unfold spec_chMembers.f
 repeat' with_reducible first|exact ih0 _ _ _ _|exact spec_voGood.mono _ _ _|exact LeO.refl _|exact LeO.none _|refine LeO.ite ?_ ?_|refine LeO.bind ?_ (fun _=>?_)
set_option maxHeartbeats 8000000 in
set_option maxRecDepth 100000 in
theorem spec_chMembers.calls (k:Nat) (A0:Option Addr) (c0:Nat) (l0:List (S_impl_Committee)) (r:Int) (w:World) (hr0:Kd.C k_impl_Committee w A0 l0.length l0) (hc0:l0.length ≤ c0) (h:spec_chMembers.f k l0 = some r) :
  Calls Try.prog 84 #[.slice A0 l0.length c0] w fun e w'=>e = .returned (.int .i64 r) ∧ Below w.heap.size w w':=by
 have hu46:=Try.underlying46;have HR0:=Aside0.mk hr0;have HC0:=Aside0.mk hc0;clear hr0 hc0;have HB:=Aside0.mk (Below.refl w.heap.size w);have H:(spec_chMembers.l0 k 0 l0 (l0.length:Int) 0) = some r:=h;clear h;have H':=Aside0.mk H;clear H;go_enter Try.func84,Try.ntmps84;go_wp2
 go_loopg [3,8] k (fun kq v3 v8 w'=>∃ (x3_1:Int) (x8_1:Int),v3 = .int .i64 x3_1 ∧ v8 = .int .i64 x8_1 ∧ Aside0 (spec_chMembers.l0 kq x3_1 l0 (l0.length:Int) x8_1 = some r) ∧ Aside0 (kq ≤ k) ∧ Aside0 (Below w.heap.size w w'))
 case atStart=>exact ⟨(0),(0),(by first|rfl|(simp;done)|(simp [*];done)),(by first|rfl|(simp;done)|(simp [*];done)),H',⟨Nat.le_refl _⟩,⟨by repeat (first|(with_reducible first|exact HB.out|apply below_alloc|apply pw_below_drewN|apply below_drew1)|exact HB.out)⟩⟩
 case round =>
  clear H';obtain ⟨x3_1,x8_1,rfl,rfl,HA,HK1,HB⟩:=hrel
  cases gk with
  | zero=>exact absurd HA.out (by simp [spec_chMembers.l0])
  | succ k1 =>
   have H:=HA.out;clear HA;simp only [spec_chMembers.l0] at H;by_cases c2:x8_1 < (l0.length:Int)
   ·rw [if_pos c2] at H;have c2b0:decide (x8_1 < (l0.length:Int)) = true:=decide_eq_true c2;clear c2;by_cases c3:0 ≤ x8_1
    ·rw [if_pos c3] at H;have c3b0:decide (0 ≤ x8_1) = true:=decide_eq_true c3;clear c3;by_cases c4:x8_1 < (l0.length:Int)
     ·rw [if_pos c4] at H;have c4b0:decide (x8_1 < (l0.length:Int)) = true:=decide_eq_true c4;clear c4;replace H:=Option.bind_eq_some_iff.mp H;obtain ⟨t1185,A50,H⟩:=H;replace H:(if t1185 = true then (spec_chMembers.l0 k1 (wrap64 (x3_1 + (((rd_impl_Committee l0 x8_1).f1).length:Int))) l0 (l0.length:Int) (wrap64 (x8_1 + 1))) else (some (-1))) = some r:=H;have A5:=Aside0.mk A50;clear A50;by_cases c6:t1185 = true
      ·subst c6;have H1:(spec_chMembers.l0 k1 (wrap64 (x3_1 + (((rd_impl_Committee l0 x8_1).f1).length:Int))) l0 (l0.length:Int) (wrap64 (x8_1 + 1))) = some r:=by rw [if_pos rfl] at H;exact H
       clear H;have H:=H1;clear H1;have H':=Aside0.mk H;clear H;have p1183:0 ≤ (x8_1:Int):=of_decide_eq_true ab;have q1183:x8_1 < (l0.length:Int):=of_decide_eq_true ab;obtain ⟨ad1183,A1183_1,c1183_1,e1183,hx1183_0,hx1183_1,hl1183_1,hi1183_1⟩:=at_impl_Committee HR0.out x8_1 p1183 q1183;cases e1183
       replace hx1183_0:=(HB.out.cell (World.block_lt_of_cell? w _ hx1183_0)).trans hx1183_0;replace hx1183_1:=(HB.out.cell (World.block_lt_of_cell? w _ hx1183_1)).trans hx1183_1;have HR1183_1:=Aside0.mk hi1183_1;have HC1183_1:=Aside0.mk hl1183_1;clear hi1183_1 hl1183_1;replace p1183:=eq_true p1183;replace q1183:=eq_true q1183;go_wp2_with (first|((with_reducible refine gate_dst (N:=5) rfl ?_);refine box_event ?hg (N:=5) ?hd (cs:=#[.int .i64 0,.slice none 0 0]) (t:=46) ?hr ?_;(case hd=>rfl);(case hg=>rfl);(case hr=>first|(go_simp;done)|(go_simp;rfl));intro gb1184 hg w7 hbox hb;have n0_:=Aside0.mk (below_step bw hb);have n1_:=Aside0.mk (hbox);have n2_:=Aside0.mk ((by rw [hg];exact (below_size bw):w.heap.size ≤ gb1184));have n3_:=Aside0.mk ((by rw [hg];exact (below_size bw):w.heap.size ≤ gb1184));clear HB;have HB:=n0_;have BK1184:=n1_;have GW1184:=n2_;have GE1184:=n3_;clear n0_ n1_ n2_ n3_;clear hb hbox hg;have hcz8_0:w7.cell? ⟨gb1184,0,none⟩ = some (.int .i64 0):=(blk_cell BK1184.out 0).trans rfl;have hcz8_1:w7.cell? ⟨gb1184,1,none⟩ = some (.slice none 0 0):=(blk_cell BK1184.out 1).trans rfl;have hfz8_0:=blk_frozen BK1184.out 0;have hfz8_1:=blk_frozen BK1184.out 1)|((with_reducible refine gate_callee (f:=63) rfl ?_);refine goesL_ (some 13) rfl rfl Try.func63 (by kernel_rfl) rfl #[.agg #[.int .i64 ((rd_impl_Committee l0 x8_1).f0),.slice A1183_1 ((rd_impl_Committee l0 x8_1).f1).length c1183_1]] rfl mq ?_;(with_reducible refine (spec_voGood.calls k1 ((rd_impl_Committee l0 x8_1).f0) _ _ ((rd_impl_Committee l0 x8_1).f1) true _ ?side1 ?side2 A5.out).mono ?_);(case side1=>exact Kd.C_below HR1183_1.out bw);(case side2=>exact HC1183_1.out);rintro e w9 ⟨rfl,hb⟩;refine ⟨_,rfl,?_⟩;have n0_:=Aside0.mk (blk_below (g:=gb1184) (o:=.cells #[.int .i64 ((rd_impl_Committee l0 x8_1).f0),.slice A1183_1 ((rd_impl_Committee l0 x8_1).f1).length c1183_1] 46 (0,0)) (by (with_reducible repeat (first|refine blk_drewN ?_ _|refine blk_drew ?_|refine blk_alloc ?_ _));refine blk_put (cs:=#[.int .i64 ((rd_impl_Committee l0 x8_1).f0),.slice none 0 0]) ?_ 1 _ rfl;(with_reducible repeat (first|refine blk_drewN ?_ _|refine blk_drew ?_|refine blk_alloc ?_ _));refine blk_put (cs:=#[.int .i64 0,.slice none 0 0]) ?_ 0 _ rfl;(with_reducible repeat (first|refine blk_drewN ?_ _|refine blk_drew ?_|refine blk_alloc ?_ _));exact BK1184.out) hb);have n1_:=Aside0.mk (below_step bw hb);clear BK1184;clear HB;have BK1184:=n0_;have HB:=n1_;clear n0_ n1_;(try clear hb);(try clear hb2);(try clear hk);(try clear hi);have hcz10_0:w9.cell? ⟨gb1184,0,none⟩ = some (.int .i64 ((rd_impl_Committee l0 x8_1).f0)):=(blk_cell BK1184.out 0).trans rfl;have hcz10_1:w9.cell? ⟨gb1184,1,none⟩ = some (.slice A1183_1 ((rd_impl_Committee l0 x8_1).f1).length c1183_1):=(blk_cell BK1184.out 1).trans rfl;have hfz10_0:=blk_frozen BK1184.out 0;have hfz10_1:=blk_frozen BK1184.out 1))
       go_roundg k1
       case measure=>have:=HK1.out;omega
       case rel=>exact ⟨(wrap64 (x3_1 + (((rd_impl_Committee l0 x8_1).f1).length:Int))),(wrap64 (x8_1 + 1)),(by first|rfl|(simp;done)|(simp [*];done)),(by first|rfl|(simp;done)|(simp [*];done)),H',⟨by have:=HK1.out;omega⟩,⟨by repeat (first|(with_reducible first|exact HB.out|apply below_alloc|apply pw_below_drewN|apply below_drew1|refine below_set ?_ GE1184.out)|exact HB.out)⟩⟩
      ·replace c6:=Bool.eq_false_iff.mpr c6;subst c6;have H1:(some (-1)) = some r:=by rw [if_neg (show ¬ (false = true) by decide)] at H;exact H
       clear H;have H:=H1;clear H1;obtain rfl:=Option.some.inj H;have p1183:0 ≤ (x8_1:Int):=of_decide_eq_true ab;have q1183:x8_1 < (l0.length:Int):=of_decide_eq_true ab;obtain ⟨ad1183,A1183_1,c1183_1,e1183,hx1183_0,hx1183_1,hl1183_1,hi1183_1⟩:=at_impl_Committee HR0.out x8_1 p1183 q1183;cases e1183
       replace hx1183_0:=(HB.out.cell (World.block_lt_of_cell? w _ hx1183_0)).trans hx1183_0;replace hx1183_1:=(HB.out.cell (World.block_lt_of_cell? w _ hx1183_1)).trans hx1183_1;have HR1183_1:=Aside0.mk hi1183_1;have HC1183_1:=Aside0.mk hl1183_1;clear hi1183_1 hl1183_1;replace p1183:=eq_true p1183;replace q1183:=eq_true q1183;go_wp2_with (first|((with_reducible refine gate_dst (N:=5) rfl ?_);refine box_event ?hg (N:=5) ?hd (cs:=#[.int .i64 0,.slice none 0 0]) (t:=46) ?hr ?_;(case hd=>rfl);(case hg=>rfl);(case hr=>first|(go_simp;done)|(go_simp;rfl));intro gb1184 hg w11 hbox hb;have n0_:=Aside0.mk (below_step bw hb);have n1_:=Aside0.mk (hbox);have n2_:=Aside0.mk ((by rw [hg];exact (below_size bw):w.heap.size ≤ gb1184));have n3_:=Aside0.mk ((by rw [hg];exact (below_size bw):w.heap.size ≤ gb1184));clear HB;have HB:=n0_;have BK1184:=n1_;have GW1184:=n2_;have GE1184:=n3_;clear n0_ n1_ n2_ n3_;clear hb hbox hg;have hcz12_0:w11.cell? ⟨gb1184,0,none⟩ = some (.int .i64 0):=(blk_cell BK1184.out 0).trans rfl;have hcz12_1:w11.cell? ⟨gb1184,1,none⟩ = some (.slice none 0 0):=(blk_cell BK1184.out 1).trans rfl;have hfz12_0:=blk_frozen BK1184.out 0;have hfz12_1:=blk_frozen BK1184.out 1)|((with_reducible refine gate_callee (f:=63) rfl ?_);refine goesL_ (some 13) rfl rfl Try.func63 (by kernel_rfl) rfl #[.agg #[.int .i64 ((rd_impl_Committee l0 x8_1).f0),.slice A1183_1 ((rd_impl_Committee l0 x8_1).f1).length c1183_1]] rfl mq ?_;(with_reducible refine (spec_voGood.calls k1 ((rd_impl_Committee l0 x8_1).f0) _ _ ((rd_impl_Committee l0 x8_1).f1) false _ ?side1 ?side2 A5.out).mono ?_);(case side1=>exact Kd.C_below HR1183_1.out bw);(case side2=>exact HC1183_1.out);rintro e w13 ⟨rfl,hb⟩;refine ⟨_,rfl,?_⟩;have n0_:=Aside0.mk (blk_below (g:=gb1184) (o:=.cells #[.int .i64 ((rd_impl_Committee l0 x8_1).f0),.slice A1183_1 ((rd_impl_Committee l0 x8_1).f1).length c1183_1] 46 (0,0)) (by (with_reducible repeat (first|refine blk_drewN ?_ _|refine blk_drew ?_|refine blk_alloc ?_ _));refine blk_put (cs:=#[.int .i64 ((rd_impl_Committee l0 x8_1).f0),.slice none 0 0]) ?_ 1 _ rfl;(with_reducible repeat (first|refine blk_drewN ?_ _|refine blk_drew ?_|refine blk_alloc ?_ _));refine blk_put (cs:=#[.int .i64 0,.slice none 0 0]) ?_ 0 _ rfl;(with_reducible repeat (first|refine blk_drewN ?_ _|refine blk_drew ?_|refine blk_alloc ?_ _));exact BK1184.out) hb);have n1_:=Aside0.mk (below_step bw hb);clear BK1184;clear HB;have BK1184:=n0_;have HB:=n1_;clear n0_ n1_;(try clear hb);(try clear hb2);(try clear hk);(try clear hi)))
       go_ret
       exact ⟨by first|rfl|(simp [errW_none,errW_some] <;> rfl)|(simp [*,errW_none,errW_some] <;> rfl),by repeat (first|(with_reducible first|exact HB.out|apply below_alloc|apply pw_below_drewN|apply below_drew1|refine below_set ?_ GE1184.out)|exact HB.out)⟩
     ·rw [if_neg c4] at H;exact absurd H (by simp)
    ·rw [if_neg c3] at H;exact absurd H (by simp)
   ·rw [if_neg c2] at H;have c2b0:decide (x8_1 < (l0.length:Int)) = false:=decide_eq_false c2;clear c2;obtain rfl:=Option.some.inj H;go_wp2
    go_ret
    exact ⟨by first|rfl|(simp [errW_none,errW_some] <;> rfl)|(simp [*,errW_none,errW_some] <;> rfl),by repeat (first|(with_reducible first|exact HB.out|apply below_alloc|apply pw_below_drewN|apply below_drew1)|exact HB.out)⟩


/-! ### laws_szIntSS: function 43 -/
def laws_szIntSS.l0:Nat → List (List Int) → Int → Int → Option (Int)
 | 0,_,_,_=>none
 | k + 1,x0,x1,x5=>if x5 < (x0.length:Int) then (if 0 ≤ x5 then ((laws_szIntS.f (rd_LI x0 x5) x1).bind fun t102=>(if t102 < 0 then (some (-1)) else (laws_szIntSS.l0 k x0 t102 (wrap64 (x5 + 1))))) else (none)) else (some x1)
def laws_szIntSS.f (k:Nat) (l0:List (List Int)) (a1:Int):Option (Int):=if (wrap64 (a1 - (l0.length:Int))) < 0 then (some (-1)) else (laws_szIntSS.l0 k l0 (wrap64 (a1 - (l0.length:Int))) 0)
theorem laws_szIntSS.mono_l:∀ k,(∀ y0 y1 y2,LeO (laws_szIntSS.l0 k y0 y1 y2) (laws_szIntSS.l0 (k + 1) y0 y1 y2))
 | 0=>fun _ _ _ r h=>by simp [laws_szIntSS.l0] at h
 | k + 1=>by
  have ih0:=laws_szIntSS.mono_l k
  ·intro y0 y1 y2;unfold laws_szIntSS.l0
   repeat' with_reducible first|exact ih0 _ _ _|exact LeO.refl _|exact LeO.none _|refine LeO.ite ?_ ?_|refine LeO.bind ?_ (fun _=>?_)
theorem laws_szIntSS.mono:∀ a0 a1 k,LeO (laws_szIntSS.f k a0 a1) (laws_szIntSS.f (k + 1) a0 a1):=by
 intro a0 a1 k;have ih0:=laws_szIntSS.mono_l k;unfold laws_szIntSS.f
 repeat' with_reducible first|exact ih0 _ _ _|exact LeO.refl _|exact LeO.none _|refine LeO.ite ?_ ?_|refine LeO.bind ?_ (fun _=>?_)
set_option maxHeartbeats 8000000 in
set_option maxRecDepth 100000 in
theorem laws_szIntSS.calls (k:Nat) (A0:Option Addr) (c0:Nat) (l0:List (List Int)) (a1:Int) (r:Int) (w:World) (hr0:Kd.C (Kd.slice 3 (Kd.int .i64)) w A0 l0.length l0) (hc0:l0.length ≤ c0) (h:laws_szIntSS.f k l0 a1 = some r) :
  Calls Try.prog 43 #[.slice A0 l0.length c0,.int .i64 a1] w fun e w'=>e = .returned (.int .i64 r) ∧ Drawn0 w w':=by
 have HR0:=Aside0.mk hr0;have HC0:=Aside0.mk hc0;clear hr0 hc0;have H:(if (wrap64 (a1 - (l0.length:Int))) < 0 then (some (-1)) else (laws_szIntSS.l0 k l0 (wrap64 (a1 - (l0.length:Int))) 0)) = some r:=h;clear h;by_cases c3:(wrap64 (a1 - (l0.length:Int))) < 0
 ·rw [if_pos c3] at H;have c3b0:decide ((wrap64 (a1 - (l0.length:Int))) < 0) = true:=decide_eq_true c3;clear c3;obtain rfl:=Option.some.inj H;go_enter Try.func43,Try.ntmps43;go_wp2
  go_ret
  exact ⟨by first|rfl|(simp;done)|(simp [*];done),by repeat (first|exact Drawn0.refl _|apply Drawn0.step)⟩
 ·rw [if_neg c3] at H;have c3b0:decide ((wrap64 (a1 - (l0.length:Int))) < 0) = false:=decide_eq_false c3;clear c3;have H':=Aside0.mk H;clear H;go_enter Try.func43,Try.ntmps43;go_wp2
  go_loopg [1,5] k (fun kq v1 v5 w'=>∃ (x1_1:Int) (x5_1:Int),v1 = .int .i64 x1_1 ∧ v5 = .int .i64 x5_1 ∧ Aside0 (laws_szIntSS.l0 kq l0 x1_1 x5_1 = some r) ∧ Aside0 (kq ≤ k) ∧ Drawn0 w w')
  case atStart=>exact ⟨(wrap64 (a1 - (l0.length:Int))),(0),(by first|rfl|(simp;done)|(simp [*];done)),(by first|rfl|(simp;done)|(simp [*];done)),H',⟨Nat.le_refl _⟩,by repeat (first|exact Drawn0.refl _|apply Drawn0.step)⟩
  case round =>
   clear H'
   try clear p2
   try clear c3
   try clear c3b0
   obtain ⟨x1_1,x5_1,rfl,rfl,HA,HK1,⟨m1,rfl⟩⟩:=hrel
   cases gk with
   | zero=>exact absurd HA.out (by simp [laws_szIntSS.l0])
   | succ k1 =>
    have H:=HA.out;clear HA;simp only [laws_szIntSS.l0] at H;by_cases c4:x5_1 < (l0.length:Int)
    ·rw [if_pos c4] at H;have c4b0:decide (x5_1 < (l0.length:Int)) = true:=decide_eq_true c4;clear c4;by_cases c5:0 ≤ x5_1
     ·rw [if_pos c5] at H;have c5b0:decide (0 ≤ x5_1) = true:=decide_eq_true c5;clear c5;replace H:=Option.bind_eq_some_iff.mp H;obtain ⟨t102,A60,H⟩:=H;replace H:(if t102 < 0 then (some (-1)) else (laws_szIntSS.l0 k1 l0 t102 (wrap64 (x5_1 + 1)))) = some r:=H;have A6:=Aside0.mk A60;clear A60;by_cases c7:t102 < 0
      ·rw [if_pos c7] at H;have c7b0:decide (t102 < 0) = true:=decide_eq_true c7;clear c7;obtain rfl:=Option.some.inj H;have p101:0 ≤ (x5_1:Int):=of_decide_eq_true ab;have q101:x5_1 < (l0.length:Int):=of_decide_eq_true ab;obtain ⟨ad101,A101_0,c101_0,e101,hx101_0,hl101_0,hi101_0⟩:=at_LI HR0.out x5_1 p101 q101;cases e101
       have HR101_0:=Aside0.mk hi101_0;have HC101_0:=Aside0.mk hl101_0;clear hi101_0 hl101_0;replace p101:=eq_true p101;replace q101:=eq_true q101;go_wp2_with (first|((with_reducible refine gate_callee (f:=62) rfl ?_);refine goesL_ (some 23) rfl rfl Try.func62 (by kernel_rfl) rfl #[.slice A101_0 (rd_LI l0 x5_1).length c101_0,.int .i64 x1_1] rfl mq ?_;(with_reducible refine (laws_szIntS.calls _ _ (rd_LI l0 x5_1) x1_1 t102 _ ?side1 ?side2 A6.out).mono ?_);(case side1=>repeat (first|exact HR101_0.out|(with_reducible refine Kd.C_alloc ?_ _)|(with_reducible refine Kd.C_drewN ?_ _)|(with_reducible refine Kd.C_drew ?_)));(case side2=>exact HC101_0.out);rintro e w' ⟨rfl,⟨nd,rfl⟩⟩;refine ⟨_,rfl,?_⟩))
       go_ret
       exact ⟨by first|rfl|(simp;done)|(simp [*];done),by repeat (first|exact Drawn0.refl _|apply Drawn0.step)⟩
      ·rw [if_neg c7] at H;have c7b0:decide (t102 < 0) = false:=decide_eq_false c7;clear c7;have H':=Aside0.mk H;clear H;have p101:0 ≤ (x5_1:Int):=of_decide_eq_true ab;have q101:x5_1 < (l0.length:Int):=of_decide_eq_true ab;obtain ⟨ad101,A101_0,c101_0,e101,hx101_0,hl101_0,hi101_0⟩:=at_LI HR0.out x5_1 p101 q101;cases e101
       have HR101_0:=Aside0.mk hi101_0;have HC101_0:=Aside0.mk hl101_0;clear hi101_0 hl101_0;replace p101:=eq_true p101;replace q101:=eq_true q101;go_wp2_with (first|((with_reducible refine gate_callee (f:=62) rfl ?_);refine goesL_ (some 23) rfl rfl Try.func62 (by kernel_rfl) rfl #[.slice A101_0 (rd_LI l0 x5_1).length c101_0,.int .i64 x1_1] rfl mq ?_;(with_reducible refine (laws_szIntS.calls _ _ (rd_LI l0 x5_1) x1_1 t102 _ ?side1 ?side2 A6.out).mono ?_);(case side1=>repeat (first|exact HR101_0.out|(with_reducible refine Kd.C_alloc ?_ _)|(with_reducible refine Kd.C_drewN ?_ _)|(with_reducible refine Kd.C_drew ?_)));(case side2=>exact HC101_0.out);rintro e w' ⟨rfl,⟨nd,rfl⟩⟩;refine ⟨_,rfl,?_⟩))
       go_roundg k1
       case measure=>have:=HK1.out;omega
       case rel=>exact ⟨(t102),(wrap64 (x5_1 + 1)),(by first|rfl|(simp;done)|(simp [*];done)),(by first|rfl|(simp;done)|(simp [*];done)),H',⟨by have:=HK1.out;omega⟩,by repeat (first|exact Drawn0.refl _|apply Drawn0.step)⟩
     ·rw [if_neg c5] at H;exact absurd H (by simp)
    ·rw [if_neg c4] at H;have c4b0:decide (x5_1 < (l0.length:Int)) = false:=decide_eq_false c4;clear c4;obtain rfl:=Option.some.inj H;go_wp2
     go_ret
     exact ⟨by first|rfl|(simp;done)|(simp [*];done),by repeat (first|exact Drawn0.refl _|apply Drawn0.step)⟩


/-! ### laws_toIntSS: function 47 -/
def laws_toIntSS.l0:Nat → List (List Int) → List (List Int) → Int → Option ((List (List Int)))
 | 0,_,_,_=>none
 | k + 1,x0,x3,x4=>if x4 < (x0.length:Int) then (if 0 ≤ x4 then ((laws_toIntS.f k (rd_LI x0 x4)).bind fun t238=>(if x4 < (x3.length:Int) then (laws_toIntSS.l0 k x0 (x3.set (x4:Int).toNat t238) (wrap64 (x4 + 1))) else (none))) else (none)) else (some x3)
def laws_toIntSS.f (k:Nat) (l0:List (List Int)):Option ((List (List Int))):=if 0 ≤ (l0.length:Int) then (if ((l0.length:Int):Int).toNat ≤ 11728124029610 then (laws_toIntSS.l0 k l0 (List.replicate ((l0.length:Int):Int).toNat []) 0) else (none)) else (none)
theorem laws_toIntSS.mono_l:∀ k,(∀ y0 y1 y2,LeO (laws_toIntSS.l0 k y0 y1 y2) (laws_toIntSS.l0 (k + 1) y0 y1 y2))
 | 0=>fun _ _ _ r h=>by simp [laws_toIntSS.l0] at h
 | k + 1=>by
  have ih0:=laws_toIntSS.mono_l k
  ·intro y0 y1 y2;unfold laws_toIntSS.l0
   repeat' with_reducible first|exact ih0 _ _ _|exact laws_toIntS.mono _ _|exact LeO.refl _|exact LeO.none _|refine LeO.ite ?_ ?_|refine LeO.bind ?_ (fun _=>?_)
theorem laws_toIntSS.mono:∀ a0 k,LeO (laws_toIntSS.f k a0) (laws_toIntSS.f (k + 1) a0):=by
 intro a0 k;have ih0:=laws_toIntSS.mono_l k;unfold laws_toIntSS.f
 repeat' with_reducible first|exact ih0 _ _ _|exact laws_toIntS.mono _ _|exact LeO.refl _|exact LeO.none _|refine LeO.ite ?_ ?_|refine LeO.bind ?_ (fun _=>?_)
set_option maxHeartbeats 8000000 in
set_option maxRecDepth 100000 in
theorem laws_toIntSS.calls (k:Nat) (A0:Option Addr) (c0:Nat) (l0:List (List Int)) (r:List (List Int)) (w:World) (hr0:Kd.C (Kd.slice 3 (Kd.int .i64)) w A0 l0.length l0) (hc0:l0.length ≤ c0) (h:laws_toIntSS.f k l0 = some r) :
  Calls Try.prog 47 #[.slice A0 l0.length c0] w fun e w'=>∃ v0_:Value,e = .returned (v0_) ∧ Kd.S (Kd.slice 3 (Kd.int .i64)) 40 w' w.heap.size (fun _=>True) v0_ r ∧ Below w.heap.size w w':=by
 have HR0:=Aside0.mk hr0;have HC0:=Aside0.mk hc0;clear hr0 hc0;have HB:=Aside0.mk (Below.refl w.heap.size w);have H:(if 0 ≤ (l0.length:Int) then (if ((l0.length:Int):Int).toNat ≤ 11728124029610 then (laws_toIntSS.l0 k l0 (List.replicate ((l0.length:Int):Int).toNat []) 0) else (none)) else (none)) = some r:=h;clear h;by_cases c2:0 ≤ (l0.length:Int)
 ·rw [if_pos c2] at H;have c2b0:=eq_true c2;have c2b1:decide (0 ≤ (l0.length:Int)) = true:=decide_eq_true c2;clear c2;by_cases c3:((l0.length:Int):Int).toNat ≤ 11728124029610
  ·rw [if_pos c3] at H;have c3b0:=eq_true c3;have c3b1:decide (((l0.length:Int):Int).toNat ≤ 11728124029610) = true:=decide_eq_true c3;clear c3;obtain ⟨y234,hy234⟩:∃ y_:List (List Int),y_ = (List.replicate ((l0.length:Int):Int).toNat []):=⟨_,rfl⟩;replace H:(laws_toIntSS.l0 k l0 y234 0) = some r:=by first|(rw [hy234];with_reducible exact H)|(have H2_:=(Option.bind_some _ _).symm.trans H;rw [hy234];with_reducible exact H2_)|(have H2_:=(Option.bind_some _ _).symm.trans H;with_reducible exact H2_)|with_reducible exact H|(rw [hy234];exact H)|exact H
   have Ny234:=Aside0.mk hy234;clear hy234;have H':=Aside0.mk H;clear H;go_enter Try.func47,Try.ntmps47;go_wp2_with (first|((with_reducible refine gate_dst (N:=7) rfl ?_);refine Kd.S_make (Kd.slice 3 (Kd.int .i64)) _ 40 rfl (N:=7) rfl 22 _ _ rfl (l0.length:Int) rfl rfl Try.underlying22 (.slice none 0 0) 24 info40 rfl (by decide) (by omega) [] (ok:=fun _=>True) (okp:=fun _=>True) ⟨_,rfl,Kd.R_nil _ _ _ _ _⟩ (fun _ hk=>hk) trivial (of_decide_eq_true ab) (Nat.le_trans (Nat.mul_le_mul_right _ (of_decide_eq_true ab:(l0.length:Int).toNat ≤ 11728124029610)) (by omega)) (Below.refl _ _) (Nat.le_refl _) ?_;intro v235 w4 ho5 hb hg_ hnew_;clear hg_ hnew_;(first|rw [← Ny234.out] at ho5|(simp only [Int.reduceToNat] at ho5;rw [← Ny234.out] at ho5));have n0_:=Aside0.mk (Kd.S_lower ho5 (below_size bw));have n1_:=Aside0.mk (below_step bw hb);clear HB;have HO236:=n0_;have HB:=n1_;clear n0_ n1_;clear hb ho5))
   go_loopg [4] k (fun kq v4 w'=>∃ (x3_1:List (List Int)) (x4_1:Int),v4 = .int .i64 x4_1 ∧ Aside0 (laws_toIntSS.l0 kq l0 x3_1 x4_1 = some r) ∧ Aside0 (kq ≤ k) ∧ Aside0 (Kd.S (Kd.slice 3 (Kd.int .i64)) 40 w' w.heap.size (fun _=>True) v235 x3_1) ∧ Aside0 (Below w.heap.size w w'))
   case atStart=>exact ⟨(y234),(0),(by first|rfl|(simp;done)|(simp [*];done)),H',⟨Nat.le_refl _⟩,⟨by (with_reducible repeat (first|apply Kd.S_alloc|apply Kd.S_drewN|apply Kd.S_drew));exact HO236.out⟩,⟨by repeat (first|(with_reducible first|exact HB.out|apply below_alloc|apply pw_below_drewN|apply below_drew1)|exact HB.out)⟩⟩
   case round =>
    clear H'
    try clear c2
    try clear c2b0
    try clear c2b1
    try clear p2
    try clear c3
    try clear c3b0
    try clear c3b1
    try clear c4
    obtain ⟨x3_1,x4_1,rfl,HA,HK1,HO_3,HB⟩:=hrel
    cases gk with
    | zero=>exact absurd HA.out (by simp [laws_toIntSS.l0])
    | succ k1 =>
     have H:=HA.out;clear HA;simp only [laws_toIntSS.l0] at H;by_cases c6:x4_1 < (l0.length:Int)
     ·rw [if_pos c6] at H;have c6b0:decide (x4_1 < (l0.length:Int)) = true:=decide_eq_true c6;clear c6;by_cases c7:0 ≤ x4_1
      ·rw [if_pos c7] at H;have c7b0:decide (0 ≤ x4_1) = true:=decide_eq_true c7;clear c7;replace H:=Option.bind_eq_some_iff.mp H;obtain ⟨t238,A80,H⟩:=H;replace H:(if x4_1 < (x3_1.length:Int) then (laws_toIntSS.l0 k1 l0 (x3_1.set (x4_1:Int).toNat t238) (wrap64 (x4_1 + 1))) else (none)) = some r:=H;have A8:=Aside0.mk A80;clear A80;by_cases c9:x4_1 < (x3_1.length:Int)
       ·rw [if_pos c9] at H;have c9b0:decide (x4_1 < (x3_1.length:Int)) = true:=decide_eq_true c9;clear c9;obtain ⟨y241,hy241⟩:∃ y_:List (List Int),y_ = (x3_1.set (x4_1:Int).toNat t238):=⟨_,rfl⟩;replace H:(laws_toIntSS.l0 k1 l0 y241 (wrap64 (x4_1 + 1))) = some r:=by first|(rw [hy241];with_reducible exact H)|(have H2_:=(Option.bind_some _ _).symm.trans H;rw [hy241];with_reducible exact H2_)|(have H2_:=(Option.bind_some _ _).symm.trans H;with_reducible exact H2_)|with_reducible exact H|(rw [hy241];exact H)|exact H
        have Ny241:=Aside0.mk hy241;clear hy241;have H':=Aside0.mk H;clear H;have p237:0 ≤ (x4_1:Int):=of_decide_eq_true ab;have q237:x4_1 < (l0.length:Int):=of_decide_eq_true ab;obtain ⟨ad237,A237_0,c237_0,e237,hx237_0,hl237_0,hi237_0⟩:=at_LI HR0.out x4_1 p237 q237;cases e237
        replace hx237_0:=(HB.out.cell (World.block_lt_of_cell? w _ hx237_0)).trans hx237_0;have HR237_0:=Aside0.mk hi237_0;have HC237_0:=Aside0.mk hl237_0;clear hi237_0 hl237_0;replace p237:=eq_true p237;replace q237:=eq_true q237;go_wp2_with (first|((with_reducible refine gate_callee (f:=67) rfl ?_);refine goesL_ (some 20) rfl rfl Try.func67 (by kernel_rfl) rfl #[.slice A237_0 (rd_LI l0 x4_1).length c237_0] rfl mq ?_;(with_reducible refine (laws_toIntS.calls k1 _ _ (rd_LI l0 x4_1) t238 _ ?side1 ?side2 A8.out).mono ?_);(case side1=>repeat (first|exact (Kd.C_below HR237_0.out HB.out)|(with_reducible refine Kd.C_alloc ?_ _)|(with_reducible refine Kd.C_drewN ?_ _)|(with_reducible refine Kd.C_drew ?_)));(case side2=>exact HC237_0.out);rintro e w11 ⟨v239,rfl,ho0,hb⟩;refine ⟨_,rfl,?_⟩;have n0_:=Aside0.mk (Kd.S_elder' (by (with_reducible repeat (first|apply Kd.S_alloc|apply Kd.S_drewN|apply Kd.S_drew));exact HO_3.out) (Kd.R_base ho0) hb);have n1_:=Aside0.mk (Kd.R_lower ho0 (below_size bw));have n2_:=Aside0.mk (below_step bw hb);clear HO_3;clear HB;have HO_3:=n0_;have HO240:=n1_;have HB:=n2_;clear n0_ n1_ n2_;(try clear hb);(try clear hb2);(try clear hk);(try clear hi);(try clear ho0);have p10:0 ≤ (x4_1:Int):=of_decide_eq_true ab;have q10:(x4_1:Int) < ((x3_1.length:Int):Int):=of_decide_eq_true ab;obtain ⟨go10,co10,eo10,gb10,gl10,cl10,HG10⟩:=Kd.S_form HO_3.out (by omega);(first|cases eo10|(injection eo10 with ea_ en_ ec_;(first|subst ea_|(injection ea_ with ea_;subst ea_));subst ec_;clear en_));have GB10:=Aside0.mk gb10;have GG10:=Aside0.mk HG10;clear gb10 gl10 HG10;obtain ⟨_,ce10,hcl10,hM10,hcc10,hfr10,_,_⟩:=Kd.S_elem HO_3.out [] (x4_1:Int) p10 q10;obtain ⟨ve10_0,rfl,ge10_0⟩:=hM10;have hx10_0:=hcc10 0 _ rfl;have hf10_0:=hfr10 0;(try simp only [show ((Kd.slice 3 (Kd.int .i64))).sz = 1 from rfl,Nat.mul_one,Nat.add_zero] at hx10_0);(try simp only [show ((Kd.slice 3 (Kd.int .i64))).sz = 1 from rfl,Nat.mul_one,Nat.add_zero] at hf10_0);clear hcl10 hcc10 hfr10;(try clear hM10);replace p10:=eq_true p10;replace q10:=eq_true q10;obtain ⟨Ao12,co12,eo12⟩:=Kd.R_slice HO240.out;subst eo12;have n_:=Aside0.mk (Kd.S_mono (ok':=(fun k_=>some k_ ≠ (.slice Ao12 t238.length co12:Value).ownBlock)) HO_3.out (fun k_ hk=>hk.2));clear HO_3;have HO_3:=n_;clear n_;have HX13:=Aside0.mk (show Kd.S (Kd.slice 3 (Kd.int .i64)) 40 w11 w.heap.size (fun k_=>((fun _=>True)) k_ ∧ ¬ ((fun k_=>some k_ = (.slice Ao12 t238.length co12:Value).ownBlock)) k_) (.slice (some ⟨go10,0,none⟩) x3_1.length co10) x3_1 from (by (with_reducible repeat (first|apply Kd.S_alloc|apply Kd.S_drewN|apply Kd.S_drew));exact Kd.S_mono HO_3.out (fun k_ hk=>⟨trivial,fun e_=>hk e_⟩)));obtain ⟨oki13,ce13,hcl13,hM13,hcc13,hfr13,hoki13,hH13⟩:=Kd.S_elem HX13.out [] (x4_1:Int) (of_decide_eq_true ab) (by have h_:(x4_1:Int) < ((x3_1.length:Int):Int):=of_decide_eq_true ab;first|exact h_|(have e_:=(Kd.S_reads' HO_3.out).1;omega)|simpa using h_);obtain ⟨ve13_0,rfl,ge13_0⟩:=hM13;have HP13:=Kd.S_seg hH13 (of_decide_eq_true ab) (by have h_:(x4_1:Int) < ((x3_1.length:Int):Int):=of_decide_eq_true ab;first|exact h_|(have e_:=(Kd.S_reads' HO_3.out).1;omega)|simpa using h_) (seg:=[.slice Ao12 t238.length co12]) (j:=0) (show 1 ≤ 1 from by decide) (x':=t238) (Kd.M_row (Kd.R_mono (Kd.R_tight rfl (Kd.R_mono (ok':=fun k_=>((fun _=>True)) k_ ∧ k_ ≠ go10) (Kd.R_apart' (HO240.out) (Kd.S_typed HO_3.out) (by decide)) (fun k_ hk=>⟨trivial,fun e_=>(hk.2) (by rw [e_];rfl)⟩))) (fun _ h_=>Or.inr (h_)))) (fun _ hk=>hk) (fun k_ hk_=>((Kd.R_mono (ok':=fun k_=>((fun _=>True)) k_ ∧ k_ ≠ go10) (Kd.R_apart' (HO240.out) (Kd.S_typed HO_3.out) (by decide)) (fun k_ hk=>⟨trivial,fun e_=>(hk.2) (by rw [e_];rfl)⟩))).1 k_ hk_.symm);have hx13_0:=hcc13 0 _ rfl;(try simp only [show ((Kd.slice 3 (Kd.int .i64))).sz = 1 from rfl,Nat.mul_one,Nat.add_zero] at hx13_0);have hf13_0:=hfr13 0;(try simp only [show ((Kd.slice 3 (Kd.int .i64))).sz = 1 from rfl,Nat.mul_one,Nat.add_zero] at hf13_0);clear hcl13 hcc13 hfr13;(try clear hM13);clear hoki13 hH13;(try simp only [show ((Kd.slice 3 (Kd.int .i64))).sz = 1 from rfl,Nat.mul_one,Nat.add_zero] at HP13))|((with_reducible refine gate_store (t:=40) (p:=21) rfl ?_);refine store_event (t:=40) (p:=21) (v:=?vo_w14) (w1:=(w11.setCell ⟨go10,(x4_1:Int).toNat,none⟩ (.slice Ao12 t238.length co12))) ?hg ?ho ?hn ?hr ?_;(case ho=>rfl);(case hg=>rfl);(case hn=>rfl);(case hr=>first|(go_simp;done)|(go_simp;rfl));intro w14 hw;have hg:w11.grownBy w14 (some go10):=(by rw [hw];exact HP13.2);have hp_:Kd.S (Kd.slice 3 (Kd.int .i64)) 40 w14 w.heap.size (fun _=>True) (.slice (some ⟨go10,0,none⟩) x3_1.length co10) y241:=(by rw [hw,Ny241.out];exact HP13.1);clear HP13;have n0_:=Aside0.mk (hp_);have n1_:=Aside0.mk ((by rw [hw];exact below_set (HB.out) GB10.out:Below w.heap.size w w14));clear HO_3;clear HB;clear HO240;have HO_3:=n0_;have HB:=n1_;clear n0_ n1_;clear hg hw hp_))
        go_roundg k1
        case measure=>have:=HK1.out;omega
        case rel=>exact ⟨(y241),(wrap64 (x4_1 + 1)),(by first|rfl|(simp;done)|(simp [*];done)),H',⟨by have:=HK1.out;omega⟩,⟨by (with_reducible repeat (first|apply Kd.S_alloc|apply Kd.S_drewN|apply Kd.S_drew));exact HO_3.out⟩,⟨by repeat (first|(with_reducible first|exact HB.out|apply below_alloc|apply pw_below_drewN|apply below_drew1)|exact HB.out)⟩⟩
       ·rw [if_neg c9] at H;exact absurd H (by simp)
      ·rw [if_neg c7] at H;exact absurd H (by simp)
     ·rw [if_neg c6] at H;have c6b0:decide (x4_1 < (l0.length:Int)) = false:=decide_eq_false c6;clear c6;obtain rfl:=Option.some.inj H;go_wp2
      go_ret
      exact ⟨_,by first|rfl|(simp [errW_none,errW_some] <;> rfl)|(simp [*,errW_none,errW_some] <;> rfl),by (with_reducible repeat (first|apply Kd.S_alloc|apply Kd.S_drewN|apply Kd.S_drew));exact HO_3.out,by repeat (first|(with_reducible first|exact HB.out|apply below_alloc|apply pw_below_drewN|apply below_drew1)|exact HB.out)⟩
  ·rw [if_neg c3] at H;exact absurd H (by simp)
 ·rw [if_neg c2] at H;exact absurd H (by simp)


/-! ### laws_szGame: function 11 -/
def laws_szGame.f (k:Nat) (a0_0:Int) (l0_1:List (List Int)) (a1:Int):Option (Int):=(laws_szIntSS.f k l0_1 a1).bind fun t104=>(if t104 < 0 then (some (-1)) else (some t104))
theorem laws_szGame.mono:∀ a0 a1 a2 k,LeO (laws_szGame.f k a0 a1 a2) (laws_szGame.f (k + 1) a0 a1 a2):=by
 intro a0 a1 a2 k;unfold laws_szGame.f
 repeat' with_reducible first|exact laws_szIntSS.mono _ _ _|exact LeO.refl _|exact LeO.none _|refine LeO.ite ?_ ?_|refine LeO.bind ?_ (fun _=>?_)
set_option maxHeartbeats 8000000 in
set_option maxRecDepth 100000 in
theorem laws_szGame.calls (k:Nat) (a0_0:Int) (A0_1:Option Addr) (c0_1:Nat) (l0_1:List (List Int)) (a1:Int) (r:Int) (w:World) (hr0_1:Kd.C (Kd.slice 3 (Kd.int .i64)) w A0_1 l0_1.length l0_1) (hc0_1:l0_1.length ≤ c0_1) (h:laws_szGame.f k a0_0 l0_1 a1 = some r) :
  Calls Try.prog 11 #[.agg #[.int .i64 a0_0,.slice A0_1 l0_1.length c0_1],.int .i64 a1] w fun e w'=>e = .returned (.int .i64 r) ∧ Below w.heap.size w w':=by
 have hu24:=Try.underlying24;have HR0_1:=Aside0.mk hr0_1;have HC0_1:=Aside0.mk hc0_1;clear hr0_1 hc0_1;have HB:=Aside0.mk (Below.refl w.heap.size w);have H:((laws_szIntSS.f k l0_1 a1).bind fun t104=>(if t104 < 0 then (some (-1)) else (some t104))) = some r:=h;clear h;replace H:=Option.bind_eq_some_iff.mp H;obtain ⟨t104,A30,H⟩:=H;replace H:(if t104 < 0 then (some (-1)) else (some t104)) = some r:=H;have A3:=Aside0.mk A30;clear A30;by_cases c4:t104 < 0
 ·rw [if_pos c4] at H;have c4b0:decide (t104 < 0) = true:=decide_eq_true c4;clear c4;obtain rfl:=Option.some.inj H;go_enter Try.func11,Try.ntmps11;go_wp2_with (first|((with_reducible refine gate_dst (N:=2) rfl ?_);refine box_event ?hg (N:=2) ?hd (cs:=#[.int .i64 a0_0,.slice A0_1 l0_1.length c0_1]) (t:=24) ?hr ?_;(case hd=>rfl);(case hg=>rfl);(case hr=>first|(go_simp;done)|(go_simp;rfl));intro gb103 hg w5 hbox hb;have n0_:=Aside0.mk (below_step bw hb);have n1_:=Aside0.mk (hbox);have n2_:=Aside0.mk ((by rw [hg];exact (below_size bw):w.heap.size ≤ gb103));have n3_:=Aside0.mk ((by rw [hg];exact (below_size bw):w.heap.size ≤ gb103));clear HB;have HB:=n0_;have BK103:=n1_;have GW103:=n2_;have GE103:=n3_;clear n0_ n1_ n2_ n3_;clear hb hbox hg;have hcz6_0:w5.cell? ⟨gb103,0,none⟩ = some (.int .i64 a0_0):=(blk_cell BK103.out 0).trans rfl;have hcz6_1:w5.cell? ⟨gb103,1,none⟩ = some (.slice A0_1 l0_1.length c0_1):=(blk_cell BK103.out 1).trans rfl;have hfz6_0:=blk_frozen BK103.out 0;have hfz6_1:=blk_frozen BK103.out 1)|((with_reducible refine gate_callee (f:=43) rfl ?_);refine goesL_ (some 8) rfl rfl Try.func43 (by kernel_rfl) rfl #[.slice A0_1 l0_1.length c0_1,.int .i64 a1] rfl mq ?_;(with_reducible refine (laws_szIntSS.calls k _ _ l0_1 a1 t104 _ ?side1 ?side2 A3.out).mono ?_);(case side1=>repeat (first|exact (Kd.C_below HR0_1.out HB.out)|(with_reducible refine Kd.C_alloc ?_ _)|(with_reducible refine Kd.C_drewN ?_ _)|(with_reducible refine Kd.C_drew ?_)));(case side2=>exact HC0_1.out);rintro e w' ⟨rfl,⟨nd,rfl⟩⟩;refine ⟨_,rfl,?_⟩))
  go_ret
  exact ⟨by first|rfl|(simp [errW_none,errW_some] <;> rfl)|(simp [*,errW_none,errW_some] <;> rfl),by repeat (first|(with_reducible first|exact HB.out|apply below_alloc|apply pw_below_drewN|apply below_drew1|refine below_set ?_ GE103.out)|exact HB.out)⟩
 ·rw [if_neg c4] at H;have c4b0:decide (t104 < 0) = false:=decide_eq_false c4;clear c4;obtain rfl:=Option.some.inj H;go_enter Try.func11,Try.ntmps11;go_wp2_with (first|((with_reducible refine gate_dst (N:=2) rfl ?_);refine box_event ?hg (N:=2) ?hd (cs:=#[.int .i64 a0_0,.slice A0_1 l0_1.length c0_1]) (t:=24) ?hr ?_;(case hd=>rfl);(case hg=>rfl);(case hr=>first|(go_simp;done)|(go_simp;rfl));intro gb103 hg w7 hbox hb;have n0_:=Aside0.mk (below_step bw hb);have n1_:=Aside0.mk (hbox);have n2_:=Aside0.mk ((by rw [hg];exact (below_size bw):w.heap.size ≤ gb103));have n3_:=Aside0.mk ((by rw [hg];exact (below_size bw):w.heap.size ≤ gb103));clear HB;have HB:=n0_;have BK103:=n1_;have GW103:=n2_;have GE103:=n3_;clear n0_ n1_ n2_ n3_;clear hb hbox hg;have hcz8_0:w7.cell? ⟨gb103,0,none⟩ = some (.int .i64 a0_0):=(blk_cell BK103.out 0).trans rfl;have hcz8_1:w7.cell? ⟨gb103,1,none⟩ = some (.slice A0_1 l0_1.length c0_1):=(blk_cell BK103.out 1).trans rfl;have hfz8_0:=blk_frozen BK103.out 0;have hfz8_1:=blk_frozen BK103.out 1)|((with_reducible refine gate_callee (f:=43) rfl ?_);refine goesL_ (some 8) rfl rfl Try.func43 (by kernel_rfl) rfl #[.slice A0_1 l0_1.length c0_1,.int .i64 a1] rfl mq ?_;(with_reducible refine (laws_szIntSS.calls k _ _ l0_1 a1 t104 _ ?side1 ?side2 A3.out).mono ?_);(case side1=>repeat (first|exact (Kd.C_below HR0_1.out HB.out)|(with_reducible refine Kd.C_alloc ?_ _)|(with_reducible refine Kd.C_drewN ?_ _)|(with_reducible refine Kd.C_drew ?_)));(case side2=>exact HC0_1.out);rintro e w' ⟨rfl,⟨nd,rfl⟩⟩;refine ⟨_,rfl,?_⟩))
  go_ret
  exact ⟨by first|rfl|(simp [errW_none,errW_some] <;> rfl)|(simp [*,errW_none,errW_some] <;> rfl),by repeat (first|(with_reducible first|exact HB.out|apply below_alloc|apply pw_below_drewN|apply below_drew1|refine below_set ?_ GE103.out)|exact HB.out)⟩


/-! ### laws_toGame: function 13 -/
def laws_toGame.f (k:Nat) (a0_0:Int) (l0_1:List (List Int)):Option (Int × (List (List Int))):=(laws_toIntSS.f k l0_1).bind fun t245=>(some (a0_0,t245))
theorem laws_toGame.mono:∀ a0 a1 k,LeO (laws_toGame.f k a0 a1) (laws_toGame.f (k + 1) a0 a1):=by
 intro a0 a1 k;unfold laws_toGame.f
 repeat' with_reducible first|exact laws_toIntSS.mono _ _|exact LeO.refl _|exact LeO.none _|refine LeO.ite ?_ ?_|refine LeO.bind ?_ (fun _=>?_)
set_option maxHeartbeats 8000000 in
set_option maxRecDepth 100000 in
theorem laws_toGame.calls (k:Nat) (a0_0:Int) (A0_1:Option Addr) (c0_1:Nat) (l0_1:List (List Int)) (r1:Int) (r2:List (List Int)) (w:World) (hr0_1:Kd.C (Kd.slice 3 (Kd.int .i64)) w A0_1 l0_1.length l0_1) (hc0_1:l0_1.length ≤ c0_1) (h:laws_toGame.f k a0_0 l0_1 = some (r1,r2)) :
  Calls Try.prog 13 #[.agg #[.int .i64 a0_0,.slice A0_1 l0_1.length c0_1]] w fun e w'=>∃ v1_:Value,e = .returned (.agg #[.int .i64 r1,v1_]) ∧ Kd.S (Kd.slice 3 (Kd.int .i64)) 40 w' w.heap.size (fun _=>True) v1_ r2 ∧ Below w.heap.size w w':=by
 have hu24:=Try.underlying24;have hu28:=Try.underlying28;have HR0_1:=Aside0.mk hr0_1;have HC0_1:=Aside0.mk hc0_1;clear hr0_1 hc0_1;have HB:=Aside0.mk (Below.refl w.heap.size w);have H:((laws_toIntSS.f k l0_1).bind fun t245=>(some (a0_0,t245))) = some (r1,r2):=h;clear h;replace H:=Option.bind_eq_some_iff.mp H;obtain ⟨t245,A20,H⟩:=H;replace H:(some (a0_0,t245)) = some (r1,r2):=H;have A2:=Aside0.mk A20;clear A20;simp only [Option.some.injEq,Prod.mk.injEq] at H;obtain ⟨rfl,rfl⟩:=H;go_enter Try.func13,Try.ntmps13;go_wp2_with (first|((with_reducible refine gate_dst (N:=1) rfl ?_);refine box_event ?hg (N:=1) ?hd (cs:=#[.int .i64 a0_0,.slice A0_1 l0_1.length c0_1]) (t:=24) ?hr ?_;(case hd=>rfl);(case hg=>rfl);(case hr=>first|(go_simp;done)|(go_simp;rfl));intro gb242 hg w3 hbox hb;have n0_:=Aside0.mk (below_step bw hb);have n1_:=Aside0.mk (hbox);have n2_:=Aside0.mk ((by rw [hg];exact (below_size bw):w.heap.size ≤ gb242));have n3_:=Aside0.mk ((by rw [hg];exact (below_size bw):w.heap.size ≤ gb242));clear HB;have HB:=n0_;have BK242:=n1_;have GW242:=n2_;have GE242:=n3_;clear n0_ n1_ n2_ n3_;clear hb hbox hg)|((with_reducible refine gate_dst (N:=2) rfl ?_);refine box_event ?hg (N:=2) ?hd (cs:=#[.int .i64 0,.slice none 0 0]) (t:=28) ?hr ?_;(case hd=>rfl);(case hg=>rfl);(case hr=>first|(go_simp;done)|(go_simp;rfl));intro gb243 hg w4 hbox hb;have n0_:=Aside0.mk (blk_below (g:=gb242) (o:=.cells #[.int .i64 a0_0,.slice A0_1 l0_1.length c0_1] 24 (0,0)) bk hb);have n1_:=Aside0.mk (below_step bw hb);have n2_:=Aside0.mk (hbox);have n3_:=Aside0.mk ((by rw [hg];exact (below_size bw):w.heap.size ≤ gb243));have n4_:=Aside0.mk ((by rw [hg];exact (below_size bw):w.heap.size ≤ gb243));have n5_:=Aside0.mk ((by rw [hg];exact Nat.ne_of_lt (blk_lt (g:=gb242) (o:=.cells #[.int .i64 a0_0,.slice A0_1 l0_1.length c0_1] 24 (0,0)) bk):gb242 ≠ gb243));have n6_:=Aside0.mk ((by rw [hg];exact Nat.ne_of_gt (blk_lt (g:=gb242) (o:=.cells #[.int .i64 a0_0,.slice A0_1 l0_1.length c0_1] 24 (0,0)) bk):gb243 ≠ gb242));clear BK242;clear HB;have BK242:=n0_;have HB:=n1_;have BK243:=n2_;have GW243:=n3_;have GE243:=n4_;have NB242_243:=n5_;have NB243_242:=n6_;clear n0_ n1_ n2_ n3_ n4_ n5_ n6_;clear hb hbox hg)|((with_reducible refine gate_dst (N:=3) rfl ?_);refine box_event ?hg (N:=3) ?hd (cs:=#[.int .i64 0,.slice none 0 0]) (t:=28) ?hr ?_;(case hd=>rfl);(case hg=>rfl);(case hr=>first|(go_simp;done)|(go_simp;rfl));intro gb244 hg w5 hbox hb;have n0_:=Aside0.mk (blk_below (g:=gb242) (o:=.cells #[.int .i64 a0_0,.slice A0_1 l0_1.length c0_1] 24 (0,0)) bk hb);have n1_:=Aside0.mk (blk_below (g:=gb243) (o:=.cells #[.int .i64 0,.slice none 0 0] 28 (0,0)) bk hb);have n2_:=Aside0.mk (below_step bw hb);have n3_:=Aside0.mk (hbox);have n4_:=Aside0.mk ((by rw [hg];exact (below_size bw):w.heap.size ≤ gb244));have n5_:=Aside0.mk ((by rw [hg];exact (below_size bw):w.heap.size ≤ gb244));have n6_:=Aside0.mk ((by rw [hg];exact Nat.ne_of_lt (blk_lt (g:=gb242) (o:=.cells #[.int .i64 a0_0,.slice A0_1 l0_1.length c0_1] 24 (0,0)) bk):gb242 ≠ gb244));have n7_:=Aside0.mk ((by rw [hg];exact Nat.ne_of_gt (blk_lt (g:=gb242) (o:=.cells #[.int .i64 a0_0,.slice A0_1 l0_1.length c0_1] 24 (0,0)) bk):gb244 ≠ gb242));have n8_:=Aside0.mk ((by rw [hg];exact Nat.ne_of_lt (blk_lt (g:=gb243) (o:=.cells #[.int .i64 0,.slice none 0 0] 28 (0,0)) bk):gb243 ≠ gb244));have n9_:=Aside0.mk ((by rw [hg];exact Nat.ne_of_gt (blk_lt (g:=gb243) (o:=.cells #[.int .i64 0,.slice none 0 0] 28 (0,0)) bk):gb244 ≠ gb243));clear BK242;clear BK243;clear HB;have BK242:=n0_;have BK243:=n1_;have HB:=n2_;have BK244:=n3_;have GW244:=n4_;have GE244:=n5_;have NB242_244:=n6_;have NB244_242:=n7_;have NB243_244:=n8_;have NB244_243:=n9_;clear n0_ n1_ n2_ n3_ n4_ n5_ n6_ n7_ n8_ n9_;clear hb hbox hg;have hnb6:=NB242_243.out;have hnc6:=NB243_242.out;have hnb7:=NB242_244.out;have hnc7:=NB244_242.out;have hcz8_0:w5.cell? ⟨gb242,0,none⟩ = some (.int .i64 a0_0):=(blk_cell BK242.out 0).trans rfl;have hcz8_1:w5.cell? ⟨gb242,1,none⟩ = some (.slice A0_1 l0_1.length c0_1):=(blk_cell BK242.out 1).trans rfl;have hfz8_0:=blk_frozen BK242.out 0;have hfz8_1:=blk_frozen BK242.out 1;have hnb9:=NB244_243.out;have hnc9:=NB243_244.out;have hcz10_0:w5.cell? ⟨gb244,0,none⟩ = some (.int .i64 0):=(blk_cell BK244.out 0).trans rfl;have hcz10_1:w5.cell? ⟨gb244,1,none⟩ = some (.slice none 0 0):=(blk_cell BK244.out 1).trans rfl;have hfz10_0:=blk_frozen BK244.out 0;have hfz10_1:=blk_frozen BK244.out 1)|((with_reducible refine gate_callee (f:=47) rfl ?_);refine goesL_ (some 9) rfl rfl Try.func47 (by kernel_rfl) rfl #[.slice A0_1 l0_1.length c0_1] rfl mq ?_;(with_reducible refine (laws_toIntSS.calls k _ _ l0_1 t245 _ ?side1 ?side2 A2.out).mono ?_);(case side1=>exact Kd.C_below HR0_1.out bw);(case side2=>exact HC0_1.out);rintro e w11 ⟨v246,rfl,ho0,hb⟩;refine ⟨_,rfl,?_⟩;have n0_:=Aside0.mk (Kd.S_lower ho0 (below_size bw));have n1_:=Aside0.mk (blk_below (g:=gb242) (o:=.cells #[.int .i64 a0_0,.slice A0_1 l0_1.length c0_1] 24 (0,0)) (by (with_reducible repeat (first|refine blk_drewN ?_ _|refine blk_drew ?_|refine blk_alloc ?_ _));refine blk_far ?_ NB242_244.out _;(with_reducible repeat (first|refine blk_drewN ?_ _|refine blk_drew ?_|refine blk_alloc ?_ _));exact BK242.out) hb);have n2_:=Aside0.mk (blk_below (g:=gb243) (o:=.cells #[.int .i64 0,.slice none 0 0] 28 (0,0)) (by (with_reducible repeat (first|refine blk_drewN ?_ _|refine blk_drew ?_|refine blk_alloc ?_ _));refine blk_far ?_ NB243_244.out _;(with_reducible repeat (first|refine blk_drewN ?_ _|refine blk_drew ?_|refine blk_alloc ?_ _));exact BK243.out) hb);have n3_:=Aside0.mk (blk_below (g:=gb244) (o:=.cells #[.int .i64 a0_0,.slice none 0 0] 28 (0,0)) (by (with_reducible repeat (first|refine blk_drewN ?_ _|refine blk_drew ?_|refine blk_alloc ?_ _));refine blk_put (cs:=#[.int .i64 0,.slice none 0 0]) ?_ 0 _ rfl;(with_reducible repeat (first|refine blk_drewN ?_ _|refine blk_drew ?_|refine blk_alloc ?_ _));exact BK244.out) hb);have n4_:=Aside0.mk (below_step bw hb);clear BK242;clear BK243;clear BK244;clear HB;have HO247:=n0_;have BK242:=n1_;have BK243:=n2_;have BK244:=n3_;have HB:=n4_;clear n0_ n1_ n2_ n3_ n4_;(try clear hb);(try clear hb2);(try clear hk);(try clear hi);(try clear ho0);obtain ⟨Ao12,co12,eo12⟩:=Kd.S_slice HO247.out;subst eo12;have hcz13_0:w11.cell? ⟨gb244,0,none⟩ = some (.int .i64 a0_0):=(blk_cell BK244.out 0).trans rfl;have hcz13_1:w11.cell? ⟨gb244,1,none⟩ = some (.slice none 0 0):=(blk_cell BK244.out 1).trans rfl;have hfz13_0:=blk_frozen BK244.out 0;have hfz13_1:=blk_frozen BK244.out 1;have hcz14_0:w11.cell? ⟨gb243,0,none⟩ = some (.int .i64 0):=(blk_cell BK243.out 0).trans rfl;have hcz14_1:w11.cell? ⟨gb243,1,none⟩ = some (.slice none 0 0):=(blk_cell BK243.out 1).trans rfl;have hfz14_0:=blk_frozen BK243.out 0;have hfz14_1:=blk_frozen BK243.out 1))
 refine bodyPost_ret (results_cell_row rfl _ _ gb243 28 #[.int .i64 a0_0,.slice Ao12 t245.length co12] (0,0) _ rfl (by (with_reducible repeat (first|refine blk_drewN ?_ _|refine blk_drew ?_|refine blk_alloc ?_ _));refine blk_put (cs:=#[.int .i64 a0_0,.slice none 0 0]) ?_ 1 _ rfl;(with_reducible repeat (first|refine blk_drewN ?_ _|refine blk_drew ?_|refine blk_alloc ?_ _));refine blk_put (cs:=#[.int .i64 0,.slice none 0 0]) ?_ 0 _ rfl;(with_reducible repeat (first|refine blk_drewN ?_ _|refine blk_drew ?_|refine blk_alloc ?_ _));refine blk_far ?_ NB243_244.out _;(with_reducible repeat (first|refine blk_drewN ?_ _|refine blk_drew ?_|refine blk_alloc ?_ _));exact BK243.out) Try.underlying28 rfl (by kernel_rfl)) rfl ?_;exact ⟨_,by first|rfl|(simp [errW_none,errW_some] <;> rfl)|(simp [*,errW_none,errW_some] <;> rfl),by (with_reducible repeat (first|apply Kd.S_alloc|apply Kd.S_drewN|apply Kd.S_drew));exact Kd.S_mono (Kd.S_far (p:=⟨gb243,1,none⟩) (Kd.S_far (p:=⟨gb243,0,none⟩) (Kd.S_far (p:=⟨gb244,1,none⟩) (Kd.S_types (Kd.S_types HO247.out BK244.out (by decide)) BK243.out (by decide)) (fun _ hk=>hk.1.2) (.slice Ao12 t245.length co12)) (fun _ hk=>hk.2) (.int .i64 a0_0)) (fun _ hk=>hk.2) (.slice Ao12 t245.length co12)) (fun _ hk=>trivial),by repeat (first|(with_reducible first|exact HB.out|apply below_alloc|apply pw_below_drewN|apply below_drew1|refine below_set ?_ GE242.out|refine below_set ?_ GE243.out|refine below_set ?_ GE244.out)|exact HB.out)⟩

end Go.Proofs.Ytokelcedamegbaa.P
