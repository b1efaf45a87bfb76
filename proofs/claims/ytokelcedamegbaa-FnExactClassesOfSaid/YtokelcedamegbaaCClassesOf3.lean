/- Part 3 of the texts below the law FnExactClassesOf. Printed by this session's driver over the kit's printer, but for the hand contracts and the plain laws. -/
import Derived.Test.YtokelcedamegbaaCClassesOf1
import Derived.Test.YtokelcedamegbaaCClassesOf2
set_option linter.unusedVariables false
set_option linter.unusedSimpArgs false
namespace Go.Proofs.Ytokelcedamegbaa.P
open Go.RowKit Go.Proofs.YtokelcedamegbaaW.PrintWords Go.Proofs.YtokelcedamegbaaW.PrintLast Go.Proofs.YtokelcedamegbaaW.PrintMore
attribute [local go_sem] max2_int min2_int max_two min_two max_three min_three max_four min_four   -- for this text's walks alone
set_option linter.unusedVariables false
set_option linter.unusedSimpArgs false

/-! ### impl_IsGame: function 91 -/
mutual
def impl_IsGame.j0:Nat → Bool → Int → List (List Int) → Option (Bool)
 | 0,_,_,_=>none
 | k + 1,x24,x301000,x301001=>if x24 = true then (some false) else (impl_IsGame.l0 k x301001 (x301001.length:Int) 0 x301000 x301001)
def impl_IsGame.l0:Nat → List (List Int) → Int → Int → Int → List (List Int) → Option (Bool)
 | 0,_,_,_,_,_=>none
 | k + 1,x26,x27,x28,x301000,x301001=>if x28 < x27 then (if 0 ≤ x28 then (if x28 < (x26.length:Int) then (if x28 > 0 then (if 0 ≤ (wrap64 (x28 - 1)) then (if (wrap64 (x28 - 1)) < (x301001.length:Int) then ((slices_Compare_int_int.f k (rd_LI x301001 (wrap64 (x28 - 1))) (rd_LI x26 x28)).bind fun t305=>(impl_IsGame.j2 k x28 (rd_LI x26 x28) x26 x27 x28 (decide (t305 ≥ 0)) x301000 x301001)) else (none)) else (none)) else (impl_IsGame.j2 k x28 (rd_LI x26 x28) x26 x27 x28 false x301000 x301001)) else (none)) else (none)) else (some true)
def impl_IsGame.j2:Nat → Int → List Int → List (List Int) → Int → Int → Bool → Int → List (List Int) → Option (Bool)
 | 0,_,_,_,_,_,_,_,_=>none
 | k + 1,x3,x4,x26,x27,x28,x45,x301000,x301001=>if x45 = true then (some false) else (impl_IsGame.l1 k x3 x4 x26 x27 x28 x301001 (x301001.length:Int) 0 x301000 x301001)
def impl_IsGame.l1:Nat → Int → List Int → List (List Int) → Int → Int → List (List Int) → Int → Int → Int → List (List Int) → Option (Bool)
 | 0,_,_,_,_,_,_,_,_,_,_=>none
 | k + 1,x3,x4,x26,x27,x28,x47,x48,x49,x301000,x301001=>if x49 < x48 then (if 0 ≤ x49 then (if x49 < (x47.length:Int) then (if x49 = x3 then (impl_IsGame.l1 k x3 x4 x26 x27 x28 x47 x48 (wrap64 (x49 + 1)) x301000 x301001) else ((impl_maskOf.f k x4).bind fun t307=>((impl_maskOf.f k (rd_LI x47 x49)).bind fun t308=>((impl_maskOf.f k (rd_LI x47 x49)).bind fun t309=>(if (Go.bits .and .i64 t307 t308) = t309 then (some false) else (impl_IsGame.l1 k x3 x4 x26 x27 x28 x47 x48 (wrap64 (x49 + 1)) x301000 x301001)))))) else (none)) else (none)) else (impl_IsGame.l0 k x26 x27 (wrap64 (x28 + 1)) x301000 x301001)
end
def impl_IsGame.f (k:Nat) (a0_0:Int) (l0_1:List (List Int)):Option (Bool):=(impl_within.f a0_0 1 9).bind fun t301=>(if t301 = true then (if (l0_1.length:Int) = 0 then (impl_IsGame.j0 k true a0_0 l0_1) else ((impl_areSets.f k l0_1 a0_0).bind fun t302=>(impl_IsGame.j0 k (!t302) a0_0 l0_1))) else (impl_IsGame.j0 k true a0_0 l0_1))
theorem impl_IsGame.mono_l:∀ k,(∀ y0 y1 y2,LeO (impl_IsGame.j0 k y0 y1 y2) (impl_IsGame.j0 (k + 1) y0 y1 y2)) ∧ (∀ y0 y1 y2 y3 y4,LeO (impl_IsGame.l0 k y0 y1 y2 y3 y4) (impl_IsGame.l0 (k + 1) y0 y1 y2 y3 y4)) ∧ (∀ y0 y1 y2 y3 y4 y5 y6 y7,LeO (impl_IsGame.j2 k y0 y1 y2 y3 y4 y5 y6 y7) (impl_IsGame.j2 (k + 1) y0 y1 y2 y3 y4 y5 y6 y7)) ∧ (∀ y0 y1 y2 y3 y4 y5 y6 y7 y8 y9,LeO (impl_IsGame.l1 k y0 y1 y2 y3 y4 y5 y6 y7 y8 y9) (impl_IsGame.l1 (k + 1) y0 y1 y2 y3 y4 y5 y6 y7 y8 y9))
 | 0=>⟨fun _ _ _ r h=>by simp [impl_IsGame.j0] at h,fun _ _ _ _ _ r h=>by simp [impl_IsGame.l0] at h,fun _ _ _ _ _ _ _ _ r h=>by simp [impl_IsGame.j2] at h,fun _ _ _ _ _ _ _ _ _ _ r h=>by simp [impl_IsGame.l1] at h⟩
 | k + 1=>by
  obtain ⟨ih0,ih1,ih2,ih3⟩:=impl_IsGame.mono_l k;refine ⟨?_,?_,?_,?_⟩
  ·intro y0 y1 y2;unfold impl_IsGame.j0
   repeat' with_reducible first|exact ih0 _ _ _|exact ih1 _ _ _ _ _|exact ih2 _ _ _ _ _ _ _ _|exact ih3 _ _ _ _ _ _ _ _ _ _|exact impl_areSets.mono _ _ _|exact impl_maskOf.mono _ _|exact slices_Compare_int_int.mono _ _ _|exact LeO.refl _|exact LeO.none _|refine LeO.ite ?_ ?_|refine LeO.bind ?_ (fun _=>?_)
  ·intro y0 y1 y2 y3 y4;unfold impl_IsGame.l0
   repeat' with_reducible first|exact ih0 _ _ _|exact ih1 _ _ _ _ _|exact ih2 _ _ _ _ _ _ _ _|exact ih3 _ _ _ _ _ _ _ _ _ _|exact impl_areSets.mono _ _ _|exact impl_maskOf.mono _ _|exact slices_Compare_int_int.mono _ _ _|exact LeO.refl _|exact LeO.none _|refine LeO.ite ?_ ?_|refine LeO.bind ?_ (fun _=>?_)
  ·intro y0 y1 y2 y3 y4 y5 y6 y7;unfold impl_IsGame.j2
   repeat' with_reducible first|exact ih0 _ _ _|exact ih1 _ _ _ _ _|exact ih2 _ _ _ _ _ _ _ _|exact ih3 _ _ _ _ _ _ _ _ _ _|exact impl_areSets.mono _ _ _|exact impl_maskOf.mono _ _|exact slices_Compare_int_int.mono _ _ _|exact LeO.refl _|exact LeO.none _|refine LeO.ite ?_ ?_|refine LeO.bind ?_ (fun _=>?_)
  ·intro y0 y1 y2 y3 y4 y5 y6 y7 y8 y9;unfold impl_IsGame.l1
   repeat' with_reducible first|exact ih0 _ _ _|exact ih1 _ _ _ _ _|exact ih2 _ _ _ _ _ _ _ _|exact ih3 _ _ _ _ _ _ _ _ _ _|exact impl_areSets.mono _ _ _|exact impl_maskOf.mono _ _|exact slices_Compare_int_int.mono _ _ _|exact LeO.refl _|exact LeO.none _|refine LeO.ite ?_ ?_|refine LeO.bind ?_ (fun _=>?_)
theorem impl_IsGame.mono:∀ a0 a1 k,LeO (impl_IsGame.f k a0 a1) (impl_IsGame.f (k + 1) a0 a1):=by
 intro a0 a1 k;obtain ⟨ih0,ih1,ih2,ih3⟩:=impl_IsGame.mono_l k;unfold impl_IsGame.f
 repeat' with_reducible first|exact ih0 _ _ _|exact ih1 _ _ _ _ _|exact ih2 _ _ _ _ _ _ _ _|exact ih3 _ _ _ _ _ _ _ _ _ _|exact impl_areSets.mono _ _ _|exact impl_maskOf.mono _ _|exact slices_Compare_int_int.mono _ _ _|exact LeO.refl _|exact LeO.none _|refine LeO.ite ?_ ?_|refine LeO.bind ?_ (fun _=>?_)
set_option maxHeartbeats 8000000 in
set_option maxRecDepth 100000 in
theorem impl_IsGame.calls (k:Nat) (a0_0:Int) (A0_1:Option Addr) (c0_1:Nat) (l0_1:List (List Int)) (r:Bool) (w:World) (hr0_1:Kd.C (Kd.slice 3 (Kd.int .i64)) w A0_1 l0_1.length l0_1) (hc0_1:l0_1.length ≤ c0_1) (h:impl_IsGame.f k a0_0 l0_1 = some r) :
  Calls Try.prog 91 #[.agg #[.int .i64 a0_0,.slice A0_1 l0_1.length c0_1]] w fun e w'=>e = .returned (.bool r) ∧ Below w.heap.size w w':=by
 have hu28:=Try.underlying28;have HR0_1:=Aside0.mk hr0_1;have HC0_1:=Aside0.mk hc0_1;clear hr0_1 hc0_1;have HB:=Aside0.mk (Below.refl w.heap.size w);have H:((impl_within.f a0_0 1 9).bind fun t301=>(if t301 = true then (if (l0_1.length:Int) = 0 then (impl_IsGame.j0 k true a0_0 l0_1) else ((impl_areSets.f k l0_1 a0_0).bind fun t302=>(impl_IsGame.j0 k (!t302) a0_0 l0_1))) else (impl_IsGame.j0 k true a0_0 l0_1))) = some r:=h;clear h;have HC2:=Aside0.mk H;clear H;go_enter Try.func91,Try.ntmps91;go_upto_region 1 with (first|((with_reducible refine gate_dst (N:=1) rfl ?_);(try (refine gate_guard (by rfl) ?_;dsimp only));refine box_event ?hg (N:=1) ?hd (cs:=#[.int .i64 a0_0,.slice A0_1 l0_1.length c0_1]) (t:=28) ?hr ?_;(case hd=>rfl);(case hg=>rfl);(case hr=>first|(go_simp;done)|(go_simp;rfl));intro gb300 hg w3 hbox hb;have n0_:=Aside0.mk (below_step bw hb);have n1_:=Aside0.mk (hbox);have n2_:=Aside0.mk ((by rw [hg];exact (below_size bw):w.heap.size ≤ gb300));have n3_:=Aside0.mk ((by rw [hg];exact (below_size bw):w.heap.size ≤ gb300));clear HB;have HB:=n0_;have BK300:=n1_;have GW300:=n2_;have GE300:=n3_;clear n0_ n1_ n2_ n3_;clear hb hbox hg))
 (try simp only [Act.put,sA,sZ,sS])
 go_cut [24] (fun v24 wc=>∃ (kq:Nat) (x24_1:Bool),v24 = .bool x24_1 ∧ Aside0 (impl_IsGame.j0 kq x24_1 a0_0 l0_1 = some r) ∧ Aside0 (kq ≤ k) ∧ Aside0 (wc.heap[gb300]? = some (.cells #[.int .i64 a0_0,(.slice A0_1 l0_1.length c0_1)] 28 (0,0))) ∧ Aside0 (Below w.heap.size w wc))
 case first =>
  have H:=HC2.out;clear HC2;replace H:=Option.bind_eq_some_iff.mp H;obtain ⟨t301,A40,H⟩:=H;replace H:(if t301 = true then (if (l0_1.length:Int) = 0 then (impl_IsGame.j0 k true a0_0 l0_1) else ((impl_areSets.f k l0_1 a0_0).bind fun t302=>(impl_IsGame.j0 k (!t302) a0_0 l0_1))) else (impl_IsGame.j0 k true a0_0 l0_1)) = some r:=H;have A4:=Aside0.mk A40;clear A40;by_cases c5:t301 = true
  ·subst c5;have H1:(if (l0_1.length:Int) = 0 then (impl_IsGame.j0 k true a0_0 l0_1) else ((impl_areSets.f k l0_1 a0_0).bind fun t302=>(impl_IsGame.j0 k (!t302) a0_0 l0_1))) = some r:=by rw [if_pos rfl] at H;exact H
   clear H;have H:=H1;clear H1;by_cases c6:(l0_1.length:Int) = 0
   ·rw [if_pos c6] at H;have c6b0:((l0_1.length:Int) == 0) = true:=beq_iff_eq.mpr c6;have c6b1:((l0_1.length:Int) != 0) = false:=bne_eq_false_iff_eq.mpr c6;clear c6;(first|rw [c6b0]|(simp only [i64_w,i32_w];rw [c6b0])|skip)
    have H':=Aside0.mk H;clear H;have hcz7_0:w3.cell? ⟨gb300,0,none⟩ = some (.int .i64 a0_0):=(blk_cell BK300.out 0).trans rfl;have hcz7_1:w3.cell? ⟨gb300,1,none⟩ = some (.slice A0_1 l0_1.length c0_1):=(blk_cell BK300.out 1).trans rfl;have hfz7_0:=blk_frozen BK300.out 0;have hfz7_1:=blk_frozen BK300.out 1;go_wp2_with (first|((with_reducible refine gate_callee (f:=69) rfl ?_);refine goesL_ (some 9) rfl rfl Try.func69 (by kernel_rfl) rfl #[.int .i64 a0_0,.int .i64 1,.int .i64 9] rfl mq ?_;(with_reducible refine (impl_within.calls a0_0 1 9 true _ A4.out).mono ?_);rintro e w' ⟨rfl,⟨nd,rfl⟩⟩;refine ⟨_,rfl,?_⟩))
    go_meet
    case rel=>exact ⟨_,(true),(by first|rfl|(simp;done)|(simp [*];done)),H',⟨by first|omega|exact Nat.le_refl _⟩,⟨by (with_reducible repeat (first|refine blk_drewN ?_ _|refine blk_drew ?_|refine blk_alloc ?_ _));exact BK300.out⟩,⟨by repeat (first|(with_reducible first|exact HB.out|apply below_alloc|apply pw_below_drewN|apply below_drew1|refine below_set ?_ GE300.out)|exact HB.out)⟩⟩
   ·rw [if_neg c6] at H;have c6b0:((l0_1.length:Int) == 0) = false:=beq_eq_false_iff_ne.mpr c6;have c6b1:((l0_1.length:Int) != 0) = true:=bne_iff_ne.mpr c6;have c6b2:¬ (l0_1 = []):=fun h_=>c6 (by rw [h_];rfl)
    (first|rw [c6b0]|(simp only [i64_w,i32_w];rw [c6b0])|skip)
    replace H:=Option.bind_eq_some_iff.mp H;obtain ⟨t302,A80,H⟩:=H;replace H:(impl_IsGame.j0 k (!t302) a0_0 l0_1) = some r:=H;have A8:=Aside0.mk A80;clear A80;have H':=Aside0.mk H;clear H;have hcz9_0:w3.cell? ⟨gb300,0,none⟩ = some (.int .i64 a0_0):=(blk_cell BK300.out 0).trans rfl;have hcz9_1:w3.cell? ⟨gb300,1,none⟩ = some (.slice A0_1 l0_1.length c0_1):=(blk_cell BK300.out 1).trans rfl;have hfz9_0:=blk_frozen BK300.out 0;have hfz9_1:=blk_frozen BK300.out 1;go_wp2_with (first|((with_reducible refine gate_callee (f:=69) rfl ?_);refine goesL_ (some 9) rfl rfl Try.func69 (by kernel_rfl) rfl #[.int .i64 a0_0,.int .i64 1,.int .i64 9] rfl mq ?_;(with_reducible refine (impl_within.calls a0_0 1 9 true _ A4.out).mono ?_);rintro e w' ⟨rfl,⟨nd,rfl⟩⟩;refine ⟨_,rfl,?_⟩)|(go_at_call 127;(with_reducible refine (impl_areSets.calls k _ _ l0_1 a0_0 t302 _ ?side1 ?side2 A8.out).mono ?_);(case side1=>repeat (first|exact (Kd.C_below HR0_1.out bw)|(with_reducible refine Kd.C_alloc ?_ _)|(with_reducible refine Kd.C_drewN ?_ _)|(with_reducible refine Kd.C_drew ?_)));(case side2=>exact HC0_1.out);rintro e w10 ⟨rfl,hb⟩;have n0_:=Aside0.mk (blk_below (g:=gb300) (o:=.cells #[.int .i64 a0_0,.slice A0_1 l0_1.length c0_1] 28 (0,0)) bk hb);have n1_:=Aside0.mk (below_step bw hb);clear BK300;clear HB;have BK300:=n0_;have HB:=n1_;clear n0_ n1_;(try clear hb);(try clear hb2);(try clear hk);(try clear hi)))
    go_meet
    case rel=>exact ⟨_,(!t302),(by first|rfl|(simp;done)|(simp [*];done)),H',⟨by first|omega|exact Nat.le_refl _⟩,⟨by (with_reducible repeat (first|refine blk_drewN ?_ _|refine blk_drew ?_|refine blk_alloc ?_ _));exact BK300.out⟩,⟨by repeat (first|(with_reducible first|exact HB.out|apply below_alloc|apply pw_below_drewN|apply below_drew1|refine below_set ?_ GE300.out)|exact HB.out)⟩⟩
  ·replace c5:=Bool.eq_false_iff.mpr c5;subst c5;have H1:(impl_IsGame.j0 k true a0_0 l0_1) = some r:=by rw [if_neg (show ¬ (false = true) by decide)] at H;exact H
   clear H;have H:=H1;clear H1;have H':=Aside0.mk H;clear H;have hcz11_0:w3.cell? ⟨gb300,0,none⟩ = some (.int .i64 a0_0):=(blk_cell BK300.out 0).trans rfl;have hcz11_1:w3.cell? ⟨gb300,1,none⟩ = some (.slice A0_1 l0_1.length c0_1):=(blk_cell BK300.out 1).trans rfl;have hfz11_0:=blk_frozen BK300.out 0;have hfz11_1:=blk_frozen BK300.out 1;go_wp2_with (first|((with_reducible refine gate_callee (f:=69) rfl ?_);refine goesL_ (some 9) rfl rfl Try.func69 (by kernel_rfl) rfl #[.int .i64 a0_0,.int .i64 1,.int .i64 9] rfl mq ?_;(with_reducible refine (impl_within.calls a0_0 1 9 false _ A4.out).mono ?_);rintro e w' ⟨rfl,⟨nd,rfl⟩⟩;refine ⟨_,rfl,?_⟩))
   go_meet
   case rel=>exact ⟨_,(true),(by first|rfl|(simp;done)|(simp [*];done)),H',⟨by first|omega|exact Nat.le_refl _⟩,⟨by (with_reducible repeat (first|refine blk_drewN ?_ _|refine blk_drew ?_|refine blk_alloc ?_ _));exact BK300.out⟩,⟨by repeat (first|(with_reducible first|exact HB.out|apply below_alloc|apply pw_below_drewN|apply below_drew1|refine below_set ?_ GE300.out)|exact HB.out)⟩⟩
 case rest =>
  clear HC2
  try clear p2
  try clear c5
  try clear c6
  try clear c6b0
  try clear c6b1
  try clear c6b2
  try clear c9
  try clear hcz11_0
  try clear hcz11_1
  try clear hcz7_0
  try clear hcz7_1
  try clear hcz9_0
  try clear hcz9_1
  try clear hfz11_0
  try clear hfz11_1
  try clear hfz7_0
  try clear hfz7_1
  try clear hfz9_0
  try clear hfz9_1
  obtain ⟨kq,x24_1,rfl,HA,HJ1,BK300,HB⟩:=hcut
  cases kq with
  | zero=>exact absurd HA.out (by simp [impl_IsGame.j0])
  | succ kj1 =>
   have H:=HA.out;clear HA;simp only [impl_IsGame.j0] at H;by_cases c12:x24_1 = true
   ·subst c12;have H1:(some false) = some r:=by rw [if_pos rfl] at H;exact H
    clear H;have H:=H1;clear H1;obtain rfl:=Option.some.inj H;go_wp2
    go_ret
    exact ⟨by first|rfl|(simp [errW_none,errW_some] <;> rfl)|(simp [*,errW_none,errW_some] <;> rfl),by repeat (first|(with_reducible first|exact HB.out|apply below_alloc|apply pw_below_drewN|apply below_drew1|refine below_set ?_ GE300.out)|exact HB.out)⟩
   ·replace c12:=Bool.eq_false_iff.mpr c12;subst c12;have H1:(impl_IsGame.l0 kj1 l0_1 (l0_1.length:Int) 0 a0_0 l0_1) = some r:=by rw [if_neg (show ¬ (false = true) by decide)] at H;exact H
    clear H;have H:=H1;clear H1;have H':=Aside0.mk H;clear H;have hcz13_0:wc.cell? ⟨gb300,0,none⟩ = some (.int .i64 a0_0):=(blk_cell BK300.out 0).trans rfl;have hcz13_1:wc.cell? ⟨gb300,1,none⟩ = some (.slice A0_1 l0_1.length c0_1):=(blk_cell BK300.out 1).trans rfl;have hfz13_0:=blk_frozen BK300.out 0;have hfz13_1:=blk_frozen BK300.out 1;go_wp2
    go_loopg [28] kj1 (fun kq v28 w'=>∃ (x28_2:Int),v28 = .int .i64 x28_2 ∧ Aside0 (impl_IsGame.l0 kq l0_1 (l0_1.length:Int) x28_2 a0_0 l0_1 = some r) ∧ Aside0 (kq ≤ kj1) ∧ Aside0 (w'.heap[gb300]? = some (.cells #[.int .i64 a0_0,(.slice A0_1 l0_1.length c0_1)] 28 (0,0))) ∧ Aside0 (Below w.heap.size w w'))
    case atStart=>exact ⟨(0),(by first|rfl|(simp;done)|(simp [*];done)),H',⟨Nat.le_refl _⟩,⟨by (with_reducible repeat (first|refine blk_drewN ?_ _|refine blk_drew ?_|refine blk_alloc ?_ _));exact BK300.out⟩,⟨by repeat (first|(with_reducible first|exact HB.out|apply below_alloc|apply pw_below_drewN|apply below_drew1|refine below_set ?_ GE300.out)|exact HB.out)⟩⟩
    case round =>
     clear H'
     try clear c1
     try clear p2
     try clear c5
     try clear c6
     try clear c6b0
     try clear c6b1
     try clear c6b2
     try clear c9
     try clear c12
     try clear hcz11_0
     try clear hcz11_1
     try clear hcz13_0
     try clear hcz13_1
     try clear hcz7_0
     try clear hcz7_1
     try clear hcz9_0
     try clear hcz9_1
     try clear hfz11_0
     try clear hfz11_1
     try clear hfz13_0
     try clear hfz13_1
     try clear hfz7_0
     try clear hfz7_1
     try clear hfz9_0
     try clear hfz9_1
     try clear p2
     obtain ⟨x28_2,rfl,HA,HK2,BK300,HB⟩:=hrel
     cases gk with
     | zero=>exact absurd HA.out (by simp [impl_IsGame.l0])
     | succ k2 =>
      have H:=HA.out;clear HA;simp only [impl_IsGame.l0] at H;by_cases c14:x28_2 < (l0_1.length:Int)
      ·rw [if_pos c14] at H;have c14b0:decide (x28_2 < (l0_1.length:Int)) = true:=decide_eq_true c14;clear c14;by_cases c15:0 ≤ x28_2
       ·rw [if_pos c15] at H;have c15b0:decide (0 ≤ x28_2) = true:=decide_eq_true c15;clear c15;by_cases c16:x28_2 < (l0_1.length:Int)
        ·rw [if_pos c16] at H;have c16b0:decide (x28_2 < (l0_1.length:Int)) = true:=decide_eq_true c16;clear c16;have HC17:=Aside0.mk H;clear H;have p303:0 ≤ (x28_2:Int):=of_decide_eq_true ab;have q303:x28_2 < (l0_1.length:Int):=of_decide_eq_true ab;obtain ⟨ad303,A303_0,c303_0,e303,hx303_0,hl303_0,hi303_0⟩:=at_LI HR0_1.out x28_2 p303 q303;cases e303
         replace hx303_0:=(HB.out.cell (World.block_lt_of_cell? w _ hx303_0)).trans hx303_0;have HR303_0:=Aside0.mk hi303_0;have HC303_0:=Aside0.mk hl303_0;clear hi303_0 hl303_0;replace p303:=eq_true p303;replace q303:=eq_true q303;go_upto_region 6 with (fail)
         go_cut [45] (fun v45 wc=>∃ (kq:Nat) (x45_16:Bool),v45 = .bool x45_16 ∧ Aside0 (impl_IsGame.j2 kq x28_2 (rd_LI l0_1 x28_2) l0_1 (l0_1.length:Int) x28_2 x45_16 a0_0 l0_1 = some r) ∧ Aside0 (kq ≤ k2) ∧ Aside0 (wc.heap[gb300]? = some (.cells #[.int .i64 a0_0,(.slice (some ad303) l0_1.length c0_1)] 28 (0,0))) ∧ Aside0 (Below w.heap.size w wc))
         case first =>
          have H:=HC17.out;clear HC17;by_cases c18:x28_2 > 0
          ·rw [if_pos c18] at H;have c18b0:decide (0 < x28_2) = true:=decide_eq_true c18;clear c18;(first|rw [c18b0]|(simp only [i64_w,i32_w];rw [c18b0])|skip)
           obtain ⟨ji19,hji19⟩:∃ j_:Int,(wrap64 (x28_2 - 1)) = j_:=⟨_,rfl⟩;replace H:(if 0 ≤ (ji19) then (if (ji19) < (l0_1.length:Int) then ((slices_Compare_int_int.f k2 (rd_LI l0_1 (ji19)) (rd_LI l0_1 x28_2)).bind fun t305=>(impl_IsGame.j2 k2 x28_2 (rd_LI l0_1 x28_2) l0_1 (l0_1.length:Int) x28_2 (decide (t305 ≥ 0)) a0_0 l0_1)) else (none)) else (none)) = some r:=by first|(rw [hji19] at H;exact H)|(simp only [hji19] at H ⊢;exact H)
           have hji19w:(IntKind.i64.wrap (x28_2 - 1)) = ji19:=(i64_w _).trans hji19;by_cases c20:0 ≤ (ji19)
           ·rw [if_pos c20] at H;have c20b0:decide (0 ≤ (ji19)) = true:=decide_eq_true c20;clear c20;by_cases c21:(ji19) < (l0_1.length:Int)
            ·rw [if_pos c21] at H;have c21b0:decide ((ji19) < (l0_1.length:Int)) = true:=decide_eq_true c21;clear c21;replace H:=Option.bind_eq_some_iff.mp H;obtain ⟨t305,A220,H⟩:=H;replace H:(impl_IsGame.j2 k2 x28_2 (rd_LI l0_1 x28_2) l0_1 (l0_1.length:Int) x28_2 (decide (t305 ≥ 0)) a0_0 l0_1) = some r:=H;have A22:=Aside0.mk A220;clear A220;have H':=Aside0.mk H;clear H;have hcz23_0:wr.cell? ⟨gb300,0,none⟩ = some (.int .i64 a0_0):=(blk_cell BK300.out 0).trans rfl;have hcz23_1:wr.cell? ⟨gb300,1,none⟩ = some (.slice (some ad303) l0_1.length c0_1):=(blk_cell BK300.out 1).trans rfl;have hfz23_0:=blk_frozen BK300.out 0;have hfz23_1:=blk_frozen BK300.out 1;have p304:0 ≤ ((ji19):Int):=of_decide_eq_true ab;have q304:(ji19) < (l0_1.length:Int):=of_decide_eq_true ab;obtain ⟨ad304,A304_0,c304_0,e304,hx304_0,hl304_0,hi304_0⟩:=at_LI HR0_1.out (ji19) p304 q304;obtain rfl:ad303 = ad304:=(by injection e304);replace hx304_0:=(HB.out.cell (World.block_lt_of_cell? w _ hx304_0)).trans hx304_0;have HR304_0:=Aside0.mk hi304_0;have HC304_0:=Aside0.mk hl304_0;clear hi304_0 hl304_0;replace p304:=eq_true p304;replace q304:=eq_true q304;go_wp2_with (first|(go_at_call 128;(with_reducible refine (slices_Compare_int_int.calls k2 _ _ (rd_LI l0_1 (ji19)) _ _ (rd_LI l0_1 x28_2) t305 _ ?side1 ?side2 ?side3 ?side4 A22.out).mono ?_);(case side1=>repeat (first|exact (Kd.C_below HR304_0.out HB.out)|(with_reducible refine Kd.C_alloc ?_ _)|(with_reducible refine Kd.C_drewN ?_ _)|(with_reducible refine Kd.C_drew ?_)));(case side2=>exact HC304_0.out);(case side3=>repeat (first|exact (Kd.C_below HR303_0.out HB.out)|(with_reducible refine Kd.C_alloc ?_ _)|(with_reducible refine Kd.C_drewN ?_ _)|(with_reducible refine Kd.C_drew ?_)));(case side4=>exact HC303_0.out);rintro e w' ⟨rfl,⟨nd,rfl⟩⟩))
             go_meet
             case rel=>exact ⟨_,(decide (t305 ≥ 0)),(by first|rfl|(simp;done)|(simp [*];done)),H',⟨by have:=HJ1.out;have:=HK2.out;first|omega|exact Nat.le_refl _⟩,⟨by (with_reducible repeat (first|refine blk_drewN ?_ _|refine blk_drew ?_|refine blk_alloc ?_ _));exact BK300.out⟩,⟨by repeat (first|(with_reducible first|exact HB.out|apply below_alloc|apply pw_below_drewN|apply below_drew1|refine below_set ?_ GE300.out)|exact HB.out)⟩⟩
            ·rw [if_neg c21] at H;exact absurd H (by simp)
           ·rw [if_neg c20] at H;exact absurd H (by simp)
          ·rw [if_neg c18] at H;have c18b0:decide (0 < x28_2) = false:=decide_eq_false c18;clear c18;(first|rw [c18b0]|(simp only [i64_w,i32_w];rw [c18b0])|skip)
           have H':=Aside0.mk H;clear H;go_wp2
           go_meet
           case rel=>exact ⟨_,(false),(by first|rfl|(simp;done)|(simp [*];done)),H',⟨by have:=HJ1.out;have:=HK2.out;first|omega|exact Nat.le_refl _⟩,⟨by (with_reducible repeat (first|refine blk_drewN ?_ _|refine blk_drew ?_|refine blk_alloc ?_ _));exact BK300.out⟩,⟨by repeat (first|(with_reducible first|exact HB.out|apply below_alloc|apply pw_below_drewN|apply below_drew1|refine below_set ?_ GE300.out)|exact HB.out)⟩⟩
         case rest =>
          clear HC17
          try clear c1
          try clear c2
          try clear p2
          try clear c3
          try clear p3
          try clear q3
          try clear hx3
          try clear c5
          try clear c6
          try clear c6b0
          try clear c6b1
          try clear c6b2
          try clear p6
          try clear c9
          try clear c12
          try clear c14
          try clear c14b0
          try clear c15
          try clear c15b0
          try clear c16
          try clear c16b0
          try clear c18
          try clear c18b0
          try clear c20
          try clear c20b0
          try clear c21
          try clear c21b0
          try clear hcz11_0
          try clear hcz11_1
          try clear hcz13_0
          try clear hcz13_1
          try clear hcz23_0
          try clear hcz23_1
          try clear hcz7_0
          try clear hcz7_1
          try clear hcz9_0
          try clear hcz9_1
          try clear hfz11_0
          try clear hfz11_1
          try clear hfz13_0
          try clear hfz13_1
          try clear hfz23_0
          try clear hfz23_1
          try clear hfz7_0
          try clear hfz7_1
          try clear hfz9_0
          try clear hfz9_1
          try clear hx303_0
          try clear hx304_0
          try clear p2
          try clear p303
          try clear p304
          try clear q303
          try clear q304
          obtain ⟨kq,x45_16,rfl,HA,HJ16,BK300,HB⟩:=hcut
          cases kq with
          | zero=>exact absurd HA.out (by simp [impl_IsGame.j2])
          | succ kj16 =>
           have H:=HA.out;clear HA;simp only [impl_IsGame.j2] at H;by_cases c24:x45_16 = true
           ·subst c24;have H1:(some false) = some r:=by rw [if_pos rfl] at H;exact H
            clear H;have H:=H1;clear H1;obtain rfl:=Option.some.inj H;go_wp2
            go_ret
            exact ⟨by first|rfl|(simp [errW_none,errW_some] <;> rfl)|(simp [*,errW_none,errW_some] <;> rfl),by repeat (first|(with_reducible first|exact HB.out|apply below_alloc|apply pw_below_drewN|apply below_drew1|refine below_set ?_ GE300.out)|exact HB.out)⟩
           ·replace c24:=Bool.eq_false_iff.mpr c24;subst c24;have H1:(impl_IsGame.l1 kj16 x28_2 (rd_LI l0_1 x28_2) l0_1 (l0_1.length:Int) x28_2 l0_1 (l0_1.length:Int) 0 a0_0 l0_1) = some r:=by rw [if_neg (show ¬ (false = true) by decide)] at H;exact H
            clear H;have H:=H1;clear H1;have H':=Aside0.mk H;clear H;have hcz25_0:wc.cell? ⟨gb300,0,none⟩ = some (.int .i64 a0_0):=(blk_cell BK300.out 0).trans rfl;have hcz25_1:wc.cell? ⟨gb300,1,none⟩ = some (.slice (some ad303) l0_1.length c0_1):=(blk_cell BK300.out 1).trans rfl;have hfz25_0:=blk_frozen BK300.out 0;have hfz25_1:=blk_frozen BK300.out 1;go_wp2
            go_loopg [49] kj16 (fun kq v49 w'=>∃ (x49_4:Int),v49 = .int .i64 x49_4 ∧ Aside0 (impl_IsGame.l1 kq x28_2 (rd_LI l0_1 x28_2) l0_1 (l0_1.length:Int) x28_2 l0_1 (l0_1.length:Int) x49_4 a0_0 l0_1 = some r) ∧ Aside0 (kq ≤ kj16) ∧ Aside0 (w'.heap[gb300]? = some (.cells #[.int .i64 a0_0,(.slice (some ad303) l0_1.length c0_1)] 28 (0,0))) ∧ Aside0 (Below w.heap.size w w'))
            case atStart=>exact ⟨(0),(by first|rfl|(simp;done)|(simp [*];done)),H',⟨Nat.le_refl _⟩,⟨by (with_reducible repeat (first|refine blk_drewN ?_ _|refine blk_drew ?_|refine blk_alloc ?_ _));exact BK300.out⟩,⟨by repeat (first|(with_reducible first|exact HB.out|apply below_alloc|apply pw_below_drewN|apply below_drew1|refine below_set ?_ GE300.out)|exact HB.out)⟩⟩
            case round =>
             clear H'
             try clear c1
             try clear c2
             try clear p2
             try clear c3
             try clear p3
             try clear q3
             try clear hx3
             try clear c5
             try clear c6
             try clear c6b0
             try clear c6b1
             try clear c6b2
             try clear p6
             try clear c9
             try clear c12
             try clear c14
             try clear c14b0
             try clear c15
             try clear c15b0
             try clear c16
             try clear c16b0
             try clear c18
             try clear c18b0
             try clear c20
             try clear c20b0
             try clear c21
             try clear c21b0
             try clear c24
             try clear hcz11_0
             try clear hcz11_1
             try clear hcz13_0
             try clear hcz13_1
             try clear hcz23_0
             try clear hcz23_1
             try clear hcz25_0
             try clear hcz25_1
             try clear hcz7_0
             try clear hcz7_1
             try clear hcz9_0
             try clear hcz9_1
             try clear hfz11_0
             try clear hfz11_1
             try clear hfz13_0
             try clear hfz13_1
             try clear hfz23_0
             try clear hfz23_1
             try clear hfz25_0
             try clear hfz25_1
             try clear hfz7_0
             try clear hfz7_1
             try clear hfz9_0
             try clear hfz9_1
             try clear hx303_0
             try clear hx304_0
             try clear p2
             try clear p3
             try clear p303
             try clear p304
             try clear p6
             try clear q3
             try clear q303
             try clear q304
             obtain ⟨x49_4,rfl,HA,HK4,BK300,HB⟩:=hrel
             cases gk with
             | zero=>exact absurd HA.out (by simp [impl_IsGame.l1])
             | succ k4 =>
              have H:=HA.out;clear HA;simp only [impl_IsGame.l1] at H;by_cases c26:x49_4 < (l0_1.length:Int)
              ·rw [if_pos c26] at H;have c26b0:decide (x49_4 < (l0_1.length:Int)) = true:=decide_eq_true c26;clear c26;by_cases c27:0 ≤ x49_4
               ·rw [if_pos c27] at H;have c27b0:decide (0 ≤ x49_4) = true:=decide_eq_true c27;clear c27;by_cases c28:x49_4 < (l0_1.length:Int)
                ·rw [if_pos c28] at H;have c28b0:decide (x49_4 < (l0_1.length:Int)) = true:=decide_eq_true c28;clear c28;by_cases c29:x49_4 = x28_2
                 ·rw [if_pos c29] at H;have c29b0:(x49_4 == x28_2) = true:=beq_iff_eq.mpr c29;have c29b1:(x49_4 != x28_2) = false:=bne_eq_false_iff_eq.mpr c29;clear c29;have H':=Aside0.mk H;clear H;have p306:0 ≤ (x49_4:Int):=of_decide_eq_true ab;have q306:x49_4 < (l0_1.length:Int):=of_decide_eq_true ab;obtain ⟨ad306,A306_0,c306_0,e306,hx306_0,hl306_0,hi306_0⟩:=at_LI HR0_1.out x49_4 p306 q306;obtain rfl:ad303 = ad306:=(by injection e306);replace hx306_0:=(HB.out.cell (World.block_lt_of_cell? w _ hx306_0)).trans hx306_0;have HR306_0:=Aside0.mk hi306_0;have HC306_0:=Aside0.mk hl306_0;clear hi306_0 hl306_0;replace p306:=eq_true p306;replace q306:=eq_true q306;go_wp2
                  go_roundg k4
                  case measure=>have:=HJ1.out;have:=HK2.out;have:=HJ16.out;have:=HK4.out;omega
                  case rel=>exact ⟨(wrap64 (x49_4 + 1)),(by first|rfl|(simp;done)|(simp [*];done)),H',⟨by have:=HJ1.out;have:=HK2.out;have:=HJ16.out;have:=HK4.out;omega⟩,⟨by (with_reducible repeat (first|refine blk_drewN ?_ _|refine blk_drew ?_|refine blk_alloc ?_ _));exact BK300.out⟩,⟨by repeat (first|(with_reducible first|exact HB.out|apply below_alloc|apply pw_below_drewN|apply below_drew1|refine below_set ?_ GE300.out)|exact HB.out)⟩⟩
                 ·rw [if_neg c29] at H;have c29b0:(x49_4 == x28_2) = false:=beq_eq_false_iff_ne.mpr c29;have c29b1:(x49_4 != x28_2) = true:=bne_iff_ne.mpr c29;replace H:=Option.bind_eq_some_iff.mp H;obtain ⟨t307,A300,H⟩:=H;replace H:((impl_maskOf.f k4 (rd_LI l0_1 x49_4)).bind fun t308=>((impl_maskOf.f k4 (rd_LI l0_1 x49_4)).bind fun t309=>(if (Go.bits .and .i64 t307 t308) = t309 then (some false) else (impl_IsGame.l1 k4 x28_2 (rd_LI l0_1 x28_2) l0_1 (l0_1.length:Int) x28_2 l0_1 (l0_1.length:Int) (wrap64 (x49_4 + 1)) a0_0 l0_1)))) = some r:=H;have A30:=Aside0.mk A300;clear A300;replace H:=Option.bind_eq_some_iff.mp H;obtain ⟨t308,A310,H⟩:=H;replace H:((impl_maskOf.f k4 (rd_LI l0_1 x49_4)).bind fun t309=>(if (Go.bits .and .i64 t307 t308) = t309 then (some false) else (impl_IsGame.l1 k4 x28_2 (rd_LI l0_1 x28_2) l0_1 (l0_1.length:Int) x28_2 l0_1 (l0_1.length:Int) (wrap64 (x49_4 + 1)) a0_0 l0_1))) = some r:=H;have A31:=Aside0.mk A310;clear A310;replace H:=Option.bind_eq_some_iff.mp H;obtain ⟨t309,A320,H⟩:=H;replace H:(if (Go.bits .and .i64 t307 t308) = t309 then (some false) else (impl_IsGame.l1 k4 x28_2 (rd_LI l0_1 x28_2) l0_1 (l0_1.length:Int) x28_2 l0_1 (l0_1.length:Int) (wrap64 (x49_4 + 1)) a0_0 l0_1)) = some r:=H;have A32:=Aside0.mk A320;clear A320;obtain rfl:t308 = t309:=Option.some.inj (A31.out.symm.trans A32.out);by_cases c33:(Go.bits .and .i64 t307 t308) = t308
                  ·rw [if_pos c33] at H;have c33b0:((Go.bits .and .i64 t307 t308) == t308) = true:=beq_iff_eq.mpr c33;have c33b1:((Go.bits .and .i64 t307 t308) != t308) = false:=bne_eq_false_iff_eq.mpr c33;clear c33;obtain rfl:=Option.some.inj H;have p306:0 ≤ (x49_4:Int):=of_decide_eq_true ab;have q306:x49_4 < (l0_1.length:Int):=of_decide_eq_true ab;obtain ⟨ad306,A306_0,c306_0,e306,hx306_0,hl306_0,hi306_0⟩:=at_LI HR0_1.out x49_4 p306 q306;obtain rfl:ad303 = ad306:=(by injection e306);replace hx306_0:=(HB.out.cell (World.block_lt_of_cell? w _ hx306_0)).trans hx306_0;have HR306_0:=Aside0.mk hi306_0;have HC306_0:=Aside0.mk hl306_0;clear hi306_0 hl306_0;replace p306:=eq_true p306;replace q306:=eq_true q306;go_wp2_with (first|(go_at_call 129;(with_reducible refine (impl_maskOf.calls k4 _ _ (rd_LI l0_1 x28_2) t307 _ ?side1 ?side2 A30.out).mono ?_);(case side1=>repeat (first|exact (Kd.C_below HR303_0.out HB.out)|(with_reducible refine Kd.C_alloc ?_ _)|(with_reducible refine Kd.C_drewN ?_ _)|(with_reducible refine Kd.C_drew ?_)));(case side2=>exact HC303_0.out);rintro e w' ⟨rfl,⟨nd,rfl⟩⟩)|(go_at_call 129;(with_reducible refine (impl_maskOf.calls k4 _ _ (rd_LI l0_1 x49_4) t308 _ ?side1 ?side2 A31.out).mono ?_);(case side1=>repeat (first|exact (Kd.C_below HR306_0.out bw)|(with_reducible refine Kd.C_alloc ?_ _)|(with_reducible refine Kd.C_drewN ?_ _)|(with_reducible refine Kd.C_drew ?_)));(case side2=>exact HC306_0.out);rintro e w' ⟨rfl,⟨nd,rfl⟩⟩)|(go_at_call 129;(with_reducible refine (impl_maskOf.calls k4 _ _ (rd_LI l0_1 x49_4) t308 _ ?side1 ?side2 A32.out).mono ?_);(case side1=>repeat (first|exact (Kd.C_below HR306_0.out bw)|(with_reducible refine Kd.C_alloc ?_ _)|(with_reducible refine Kd.C_drewN ?_ _)|(with_reducible refine Kd.C_drew ?_)));(case side2=>exact HC306_0.out);rintro e w' ⟨rfl,⟨nd,rfl⟩⟩))
                   go_ret
                   exact ⟨by first|rfl|(simp [errW_none,errW_some] <;> rfl)|(simp [*,errW_none,errW_some] <;> rfl),by repeat (first|(with_reducible first|exact HB.out|apply below_alloc|apply pw_below_drewN|apply below_drew1|refine below_set ?_ GE300.out)|exact HB.out)⟩
                  ·rw [if_neg c33] at H;have c33b0:((Go.bits .and .i64 t307 t308) == t308) = false:=beq_eq_false_iff_ne.mpr c33;have c33b1:((Go.bits .and .i64 t307 t308) != t308) = true:=bne_iff_ne.mpr c33;have H':=Aside0.mk H;clear H;have p306:0 ≤ (x49_4:Int):=of_decide_eq_true ab;have q306:x49_4 < (l0_1.length:Int):=of_decide_eq_true ab;obtain ⟨ad306,A306_0,c306_0,e306,hx306_0,hl306_0,hi306_0⟩:=at_LI HR0_1.out x49_4 p306 q306;obtain rfl:ad303 = ad306:=(by injection e306);replace hx306_0:=(HB.out.cell (World.block_lt_of_cell? w _ hx306_0)).trans hx306_0;have HR306_0:=Aside0.mk hi306_0;have HC306_0:=Aside0.mk hl306_0;clear hi306_0 hl306_0;replace p306:=eq_true p306;replace q306:=eq_true q306;go_wp2_with (first|(go_at_call 129;(with_reducible refine (impl_maskOf.calls k4 _ _ (rd_LI l0_1 x28_2) t307 _ ?side1 ?side2 A30.out).mono ?_);(case side1=>repeat (first|exact (Kd.C_below HR303_0.out HB.out)|(with_reducible refine Kd.C_alloc ?_ _)|(with_reducible refine Kd.C_drewN ?_ _)|(with_reducible refine Kd.C_drew ?_)));(case side2=>exact HC303_0.out);rintro e w' ⟨rfl,⟨nd,rfl⟩⟩)|(go_at_call 129;(with_reducible refine (impl_maskOf.calls k4 _ _ (rd_LI l0_1 x49_4) t308 _ ?side1 ?side2 A31.out).mono ?_);(case side1=>repeat (first|exact (Kd.C_below HR306_0.out bw)|(with_reducible refine Kd.C_alloc ?_ _)|(with_reducible refine Kd.C_drewN ?_ _)|(with_reducible refine Kd.C_drew ?_)));(case side2=>exact HC306_0.out);rintro e w' ⟨rfl,⟨nd,rfl⟩⟩)|(go_at_call 129;(with_reducible refine (impl_maskOf.calls k4 _ _ (rd_LI l0_1 x49_4) t308 _ ?side1 ?side2 A32.out).mono ?_);(case side1=>repeat (first|exact (Kd.C_below HR306_0.out bw)|(with_reducible refine Kd.C_alloc ?_ _)|(with_reducible refine Kd.C_drewN ?_ _)|(with_reducible refine Kd.C_drew ?_)));(case side2=>exact HC306_0.out);rintro e w' ⟨rfl,⟨nd,rfl⟩⟩))
                   go_roundg k4
                   case measure=>have:=HJ1.out;have:=HK2.out;have:=HJ16.out;have:=HK4.out;omega
                   case rel=>exact ⟨(wrap64 (x49_4 + 1)),(by first|rfl|(simp;done)|(simp [*];done)),H',⟨by have:=HJ1.out;have:=HK2.out;have:=HJ16.out;have:=HK4.out;omega⟩,⟨by (with_reducible repeat (first|refine blk_drewN ?_ _|refine blk_drew ?_|refine blk_alloc ?_ _));exact BK300.out⟩,⟨by repeat (first|(with_reducible first|exact HB.out|apply below_alloc|apply pw_below_drewN|apply below_drew1|refine below_set ?_ GE300.out)|exact HB.out)⟩⟩
                ·rw [if_neg c28] at H;exact absurd H (by simp)
               ·rw [if_neg c27] at H;exact absurd H (by simp)
              ·rw [if_neg c26] at H;have c26b0:decide (x49_4 < (l0_1.length:Int)) = false:=decide_eq_false c26;clear c26;have H':=Aside0.mk H;clear H;go_wp2
               go_roundg k4
               case measure=>have:=HJ1.out;have:=HK2.out;have:=HJ16.out;have:=HK4.out;omega
               case rel=>exact ⟨(wrap64 (x28_2 + 1)),(by first|rfl|(simp;done)|(simp [*];done)),H',⟨by have:=HJ1.out;have:=HK2.out;have:=HJ16.out;have:=HK4.out;omega⟩,⟨by (with_reducible repeat (first|refine blk_drewN ?_ _|refine blk_drew ?_|refine blk_alloc ?_ _));exact BK300.out⟩,⟨by repeat (first|(with_reducible first|exact HB.out|apply below_alloc|apply pw_below_drewN|apply below_drew1|refine below_set ?_ GE300.out)|exact HB.out)⟩⟩
        ·rw [if_neg c16] at H;exact absurd H (by simp)
       ·rw [if_neg c15] at H;exact absurd H (by simp)
      ·rw [if_neg c14] at H;have c14b0:decide (x28_2 < (l0_1.length:Int)) = false:=decide_eq_false c14;clear c14;obtain rfl:=Option.some.inj H;go_wp2
       go_ret
       exact ⟨by first|rfl|(simp [errW_none,errW_some] <;> rfl)|(simp [*,errW_none,errW_some] <;> rfl),by repeat (first|(with_reducible first|exact HB.out|apply below_alloc|apply pw_below_drewN|apply below_drew1|refine below_set ?_ GE300.out)|exact HB.out)⟩


/-! ### impl_votes_isComplete: function 92 -/
mutual
def impl_votes_isComplete.l0:Nat → Int → Int → Int → List Bool → Option (Bool)
 | 0,_,_,_,_=>none
 | k + 1,x6,x7,x316000,x316001=>if x7 < x6 then (impl_votes_isComplete.l1 k x7 x6 x7 x7 0 x316000 x316001) else (some true)
def impl_votes_isComplete.l1:Nat → Int → Int → Int → Int → Int → Int → List Bool → Option (Bool)
 | 0,_,_,_,_,_,_,_=>none
 | k + 1,x3,x6,x7,x10,x11,x316000,x316001=>if x11 < x10 then ((impl_votes_isWorth.f k x316000 x316001 x3 x11).bind fun t316=>(if t316 = true then (impl_votes_isComplete.l1 k x3 x6 x7 x10 (wrap64 (x11 + 1)) x316000 x316001) else ((impl_votes_isWorth.f k x316000 x316001 x11 x3).bind fun t317=>(if t317 = true then (impl_votes_isComplete.l1 k x3 x6 x7 x10 (wrap64 (x11 + 1)) x316000 x316001) else (some false))))) else (impl_votes_isComplete.l0 k x6 (wrap64 (x7 + 1)) x316000 x316001)
end
def impl_votes_isComplete.f (k:Nat) (a0_0:Int) (l0_1:List Bool):Option (Bool):=impl_votes_isComplete.l0 k a0_0 0 a0_0 l0_1
theorem impl_votes_isComplete.mono_l:∀ k,(∀ y0 y1 y2 y3,LeO (impl_votes_isComplete.l0 k y0 y1 y2 y3) (impl_votes_isComplete.l0 (k + 1) y0 y1 y2 y3)) ∧ (∀ y0 y1 y2 y3 y4 y5 y6,LeO (impl_votes_isComplete.l1 k y0 y1 y2 y3 y4 y5 y6) (impl_votes_isComplete.l1 (k + 1) y0 y1 y2 y3 y4 y5 y6))
 | 0=>⟨fun _ _ _ _ r h=>by simp [impl_votes_isComplete.l0] at h,fun _ _ _ _ _ _ _ r h=>by simp [impl_votes_isComplete.l1] at h⟩
 | k + 1=>by
  obtain ⟨ih0,ih1⟩:=impl_votes_isComplete.mono_l k;refine ⟨?_,?_⟩
  ·intro y0 y1 y2 y3;unfold impl_votes_isComplete.l0
   repeat' with_reducible first|exact ih0 _ _ _ _|exact ih1 _ _ _ _ _ _ _|exact impl_votes_isWorth.mono _ _ _ _ _|exact LeO.refl _|exact LeO.none _|refine LeO.ite ?_ ?_|refine LeO.bind ?_ (fun _=>?_)
  ·intro y0 y1 y2 y3 y4 y5 y6;unfold impl_votes_isComplete.l1
   repeat' with_reducible first|exact ih0 _ _ _ _|exact ih1 _ _ _ _ _ _ _|exact impl_votes_isWorth.mono _ _ _ _ _|exact LeO.refl _|exact LeO.none _|refine LeO.ite ?_ ?_|refine LeO.bind ?_ (fun _=>?_)
theorem impl_votes_isComplete.mono:∀ a0 a1 k,LeO (impl_votes_isComplete.f k a0 a1) (impl_votes_isComplete.f (k + 1) a0 a1):=by
 intro a0 a1 k;obtain ⟨ih0,ih1⟩:=impl_votes_isComplete.mono_l k;unfold impl_votes_isComplete.f
 repeat' with_reducible first|exact ih0 _ _ _ _|exact ih1 _ _ _ _ _ _ _|exact impl_votes_isWorth.mono _ _ _ _ _|exact LeO.refl _|exact LeO.none _|refine LeO.ite ?_ ?_|refine LeO.bind ?_ (fun _=>?_)
set_option maxHeartbeats 8000000 in
set_option maxRecDepth 100000 in
theorem impl_votes_isComplete.calls (k:Nat) (a0_0:Int) (A0_1:Option Addr) (c0_1:Nat) (l0_1:List Bool) (r:Bool) (w:World) (hr0_1:Kd.C Kd.bool w A0_1 l0_1.length l0_1) (hc0_1:l0_1.length ≤ c0_1) (h:impl_votes_isComplete.f k a0_0 l0_1 = some r) :
  Calls Try.prog 92 #[.agg #[.int .i64 a0_0,.slice A0_1 l0_1.length c0_1]] w fun e w'=>e = .returned (.bool r) ∧ Below w.heap.size w w':=by
 have hu68:=Try.underlying68;have HR0_1:=Aside0.mk hr0_1;have HC0_1:=Aside0.mk hc0_1;clear hr0_1 hc0_1;have HB:=Aside0.mk (Below.refl w.heap.size w);have H:(impl_votes_isComplete.l0 k a0_0 0 a0_0 l0_1) = some r:=h;clear h;have H':=Aside0.mk H;clear H;go_enter Try.func92,Try.ntmps92;go_wp2_with (first|((with_reducible refine gate_dst (N:=1) rfl ?_);refine box_event ?hg (N:=1) ?hd (cs:=#[.int .i64 a0_0,.slice A0_1 l0_1.length c0_1]) (t:=68) ?hr ?_;(case hd=>rfl);(case hg=>rfl);(case hr=>first|(go_simp;done)|(go_simp;rfl));intro gb315 hg w2 hbox hb;have n0_:=Aside0.mk (below_step bw hb);have n1_:=Aside0.mk (hbox);have n2_:=Aside0.mk ((by rw [hg];exact (below_size bw):w.heap.size ≤ gb315));have n3_:=Aside0.mk ((by rw [hg];exact (below_size bw):w.heap.size ≤ gb315));clear HB;have HB:=n0_;have BK315:=n1_;have GW315:=n2_;have GE315:=n3_;clear n0_ n1_ n2_ n3_;clear hb hbox hg;have hcz3_0:w2.cell? ⟨gb315,0,none⟩ = some (.int .i64 a0_0):=(blk_cell BK315.out 0).trans rfl;have hcz3_1:w2.cell? ⟨gb315,1,none⟩ = some (.slice A0_1 l0_1.length c0_1):=(blk_cell BK315.out 1).trans rfl;have hfz3_0:=blk_frozen BK315.out 0;have hfz3_1:=blk_frozen BK315.out 1))
 go_loopg [7] k (fun kq v7 w'=>∃ (x7_1:Int),v7 = .int .i64 x7_1 ∧ Aside0 (impl_votes_isComplete.l0 kq a0_0 x7_1 a0_0 l0_1 = some r) ∧ Aside0 (kq ≤ k) ∧ Aside0 (w'.heap[gb315]? = some (.cells #[.int .i64 a0_0,(.slice A0_1 l0_1.length c0_1)] 68 (0,0))) ∧ Aside0 (Below w.heap.size w w'))
 case atStart=>exact ⟨(0),(by first|rfl|(simp;done)|(simp [*];done)),H',⟨Nat.le_refl _⟩,⟨by (with_reducible repeat (first|refine blk_drewN ?_ _|refine blk_drew ?_|refine blk_alloc ?_ _));exact BK315.out⟩,⟨by repeat (first|(with_reducible first|exact HB.out|apply below_alloc|apply pw_below_drewN|apply below_drew1|refine below_set ?_ GE315.out)|exact HB.out)⟩⟩
 case round =>
  clear H'
  try clear p2
  try clear hcz3_0
  try clear hcz3_1
  try clear hfz3_0
  try clear hfz3_1
  obtain ⟨x7_1,rfl,HA,HK1,BK315,HB⟩:=hrel
  cases gk with
  | zero=>exact absurd HA.out (by simp [impl_votes_isComplete.l0])
  | succ k1 =>
   have H:=HA.out;clear HA;simp only [impl_votes_isComplete.l0] at H;by_cases c4:x7_1 < a0_0
   ·rw [if_pos c4] at H;have c4b0:decide (x7_1 < a0_0) = true:=decide_eq_true c4;clear c4;have H':=Aside0.mk H;clear H;go_wp2
    go_loopg [11] k1 (fun kq v11 w'=>∃ (x11_2:Int),v11 = .int .i64 x11_2 ∧ Aside0 (impl_votes_isComplete.l1 kq x7_1 a0_0 x7_1 x7_1 x11_2 a0_0 l0_1 = some r) ∧ Aside0 (kq ≤ k1) ∧ Aside0 (w'.heap[gb315]? = some (.cells #[.int .i64 a0_0,(.slice A0_1 l0_1.length c0_1)] 68 (0,0))) ∧ Aside0 (Below w.heap.size w w'))
    case atStart=>exact ⟨(0),(by first|rfl|(simp;done)|(simp [*];done)),H',⟨Nat.le_refl _⟩,⟨by (with_reducible repeat (first|refine blk_drewN ?_ _|refine blk_drew ?_|refine blk_alloc ?_ _));exact BK315.out⟩,⟨by repeat (first|(with_reducible first|exact HB.out|apply below_alloc|apply pw_below_drewN|apply below_drew1|refine below_set ?_ GE315.out)|exact HB.out)⟩⟩
    case round =>
     clear H'
     try clear p2
     try clear c4
     try clear c4b0
     try clear hcz3_0
     try clear hcz3_1
     try clear hfz3_0
     try clear hfz3_1
     try clear p2
     obtain ⟨x11_2,rfl,HA,HK2,BK315,HB⟩:=hrel
     cases gk with
     | zero=>exact absurd HA.out (by simp [impl_votes_isComplete.l1])
     | succ k2 =>
      have H:=HA.out;clear HA;simp only [impl_votes_isComplete.l1] at H;by_cases c5:x11_2 < x7_1
      ·rw [if_pos c5] at H;have c5b0:decide (x11_2 < x7_1) = true:=decide_eq_true c5;clear c5;replace H:=Option.bind_eq_some_iff.mp H;obtain ⟨t316,A60,H⟩:=H;replace H:(if t316 = true then (impl_votes_isComplete.l1 k2 x7_1 a0_0 x7_1 x7_1 (wrap64 (x11_2 + 1)) a0_0 l0_1) else ((impl_votes_isWorth.f k2 a0_0 l0_1 x11_2 x7_1).bind fun t317=>(if t317 = true then (impl_votes_isComplete.l1 k2 x7_1 a0_0 x7_1 x7_1 (wrap64 (x11_2 + 1)) a0_0 l0_1) else (some false)))) = some r:=H;have A6:=Aside0.mk A60;clear A60;by_cases c7:t316 = true
       ·subst c7;have H1:(impl_votes_isComplete.l1 k2 x7_1 a0_0 x7_1 x7_1 (wrap64 (x11_2 + 1)) a0_0 l0_1) = some r:=by rw [if_pos rfl] at H;exact H
        clear H;have H:=H1;clear H1;have H':=Aside0.mk H;clear H;have hcz8_0:wr.cell? ⟨gb315,0,none⟩ = some (.int .i64 a0_0):=(blk_cell BK315.out 0).trans rfl;have hcz8_1:wr.cell? ⟨gb315,1,none⟩ = some (.slice A0_1 l0_1.length c0_1):=(blk_cell BK315.out 1).trans rfl;have hfz8_0:=blk_frozen BK315.out 0;have hfz8_1:=blk_frozen BK315.out 1;go_wp2_with (first|((with_reducible refine gate_callee (f:=98) rfl ?_);refine goesL_ (some 17) rfl rfl Try.func98 (by kernel_rfl) rfl #[.agg #[.int .i64 a0_0,.slice A0_1 l0_1.length c0_1],.int .i64 x7_1,.int .i64 x11_2] rfl mq ?_;(with_reducible refine (impl_votes_isWorth.calls k2 a0_0 _ _ l0_1 x7_1 x11_2 true _ ?side1 ?side2 A6.out).mono ?_);(case side1=>repeat (first|exact (Kd.C_below HR0_1.out HB.out)|(with_reducible refine Kd.C_alloc ?_ _)|(with_reducible refine Kd.C_drewN ?_ _)|(with_reducible refine Kd.C_drew ?_)));(case side2=>exact HC0_1.out);rintro e w9 ⟨rfl,hb⟩;refine ⟨_,rfl,?_⟩;have n0_:=Aside0.mk (blk_below (g:=gb315) (o:=.cells #[.int .i64 a0_0,.slice A0_1 l0_1.length c0_1] 68 (0,0)) bk hb);have n1_:=Aside0.mk (below_step bw hb);clear BK315;clear HB;have BK315:=n0_;have HB:=n1_;clear n0_ n1_;(try clear hb);(try clear hb2);(try clear hk);(try clear hi)))
        go_roundg k2
        case measure=>have:=HK1.out;have:=HK2.out;omega
        case rel=>exact ⟨(wrap64 (x11_2 + 1)),(by first|rfl|(simp;done)|(simp [*];done)),H',⟨by have:=HK1.out;have:=HK2.out;omega⟩,⟨by (with_reducible repeat (first|refine blk_drewN ?_ _|refine blk_drew ?_|refine blk_alloc ?_ _));exact BK315.out⟩,⟨by repeat (first|(with_reducible first|exact HB.out|apply below_alloc|apply pw_below_drewN|apply below_drew1|refine below_set ?_ GE315.out)|exact HB.out)⟩⟩
       ·replace c7:=Bool.eq_false_iff.mpr c7;subst c7;have H1:((impl_votes_isWorth.f k2 a0_0 l0_1 x11_2 x7_1).bind fun t317=>(if t317 = true then (impl_votes_isComplete.l1 k2 x7_1 a0_0 x7_1 x7_1 (wrap64 (x11_2 + 1)) a0_0 l0_1) else (some false))) = some r:=by rw [if_neg (show ¬ (false = true) by decide)] at H;exact H
        clear H;have H:=H1;clear H1;replace H:=Option.bind_eq_some_iff.mp H;obtain ⟨t317,A100,H⟩:=H;replace H:(if t317 = true then (impl_votes_isComplete.l1 k2 x7_1 a0_0 x7_1 x7_1 (wrap64 (x11_2 + 1)) a0_0 l0_1) else (some false)) = some r:=H;have A10:=Aside0.mk A100;clear A100;by_cases c11:t317 = true
        ·subst c11;have H1:(impl_votes_isComplete.l1 k2 x7_1 a0_0 x7_1 x7_1 (wrap64 (x11_2 + 1)) a0_0 l0_1) = some r:=by rw [if_pos rfl] at H;exact H
         clear H;have H:=H1;clear H1;have H':=Aside0.mk H;clear H;have hcz12_0:wr.cell? ⟨gb315,0,none⟩ = some (.int .i64 a0_0):=(blk_cell BK315.out 0).trans rfl;have hcz12_1:wr.cell? ⟨gb315,1,none⟩ = some (.slice A0_1 l0_1.length c0_1):=(blk_cell BK315.out 1).trans rfl;have hfz12_0:=blk_frozen BK315.out 0;have hfz12_1:=blk_frozen BK315.out 1;go_wp2_with (first|((with_reducible refine gate_callee (f:=98) rfl ?_);refine goesL_ (some 17) rfl rfl Try.func98 (by kernel_rfl) rfl #[.agg #[.int .i64 a0_0,.slice A0_1 l0_1.length c0_1],.int .i64 x7_1,.int .i64 x11_2] rfl mq ?_;(with_reducible refine (impl_votes_isWorth.calls k2 a0_0 _ _ l0_1 x7_1 x11_2 false _ ?side1 ?side2 A6.out).mono ?_);(case side1=>repeat (first|exact (Kd.C_below HR0_1.out HB.out)|(with_reducible refine Kd.C_alloc ?_ _)|(with_reducible refine Kd.C_drewN ?_ _)|(with_reducible refine Kd.C_drew ?_)));(case side2=>exact HC0_1.out);rintro e w13 ⟨rfl,hb⟩;refine ⟨_,rfl,?_⟩;have n0_:=Aside0.mk (blk_below (g:=gb315) (o:=.cells #[.int .i64 a0_0,.slice A0_1 l0_1.length c0_1] 68 (0,0)) bk hb);have n1_:=Aside0.mk (below_step bw hb);clear BK315;clear HB;have BK315:=n0_;have HB:=n1_;clear n0_ n1_;(try clear hb);(try clear hb2);(try clear hk);(try clear hi);have hcz14_0:w13.cell? ⟨gb315,0,none⟩ = some (.int .i64 a0_0):=(blk_cell BK315.out 0).trans rfl;have hcz14_1:w13.cell? ⟨gb315,1,none⟩ = some (.slice A0_1 l0_1.length c0_1):=(blk_cell BK315.out 1).trans rfl;have hfz14_0:=blk_frozen BK315.out 0;have hfz14_1:=blk_frozen BK315.out 1)|(go_at_call 98;(with_reducible refine (impl_votes_isWorth.calls k2 a0_0 _ _ l0_1 x11_2 x7_1 true _ ?side1 ?side2 A10.out).mono ?_);(case side1=>repeat (first|exact (Kd.C_below HR0_1.out HB.out)|(with_reducible refine Kd.C_alloc ?_ _)|(with_reducible refine Kd.C_drewN ?_ _)|(with_reducible refine Kd.C_drew ?_)));(case side2=>exact HC0_1.out);rintro e w15 ⟨rfl,hb⟩;have n0_:=Aside0.mk (blk_below (g:=gb315) (o:=.cells #[.int .i64 a0_0,.slice A0_1 l0_1.length c0_1] 68 (0,0)) bk hb);have n1_:=Aside0.mk (below_step bw hb);clear BK315;clear HB;have BK315:=n0_;have HB:=n1_;clear n0_ n1_;(try clear hb);(try clear hb2);(try clear hk);(try clear hi)))
         go_roundg k2
         case measure=>have:=HK1.out;have:=HK2.out;omega
         case rel=>exact ⟨(wrap64 (x11_2 + 1)),(by first|rfl|(simp;done)|(simp [*];done)),H',⟨by have:=HK1.out;have:=HK2.out;omega⟩,⟨by (with_reducible repeat (first|refine blk_drewN ?_ _|refine blk_drew ?_|refine blk_alloc ?_ _));exact BK315.out⟩,⟨by repeat (first|(with_reducible first|exact HB.out|apply below_alloc|apply pw_below_drewN|apply below_drew1|refine below_set ?_ GE315.out)|exact HB.out)⟩⟩
        ·replace c11:=Bool.eq_false_iff.mpr c11;subst c11;have H1:(some false) = some r:=by rw [if_neg (show ¬ (false = true) by decide)] at H;exact H
         clear H;have H:=H1;clear H1;obtain rfl:=Option.some.inj H;have hcz16_0:wr.cell? ⟨gb315,0,none⟩ = some (.int .i64 a0_0):=(blk_cell BK315.out 0).trans rfl;have hcz16_1:wr.cell? ⟨gb315,1,none⟩ = some (.slice A0_1 l0_1.length c0_1):=(blk_cell BK315.out 1).trans rfl;have hfz16_0:=blk_frozen BK315.out 0;have hfz16_1:=blk_frozen BK315.out 1;go_wp2_with (first|((with_reducible refine gate_callee (f:=98) rfl ?_);refine goesL_ (some 17) rfl rfl Try.func98 (by kernel_rfl) rfl #[.agg #[.int .i64 a0_0,.slice A0_1 l0_1.length c0_1],.int .i64 x7_1,.int .i64 x11_2] rfl mq ?_;(with_reducible refine (impl_votes_isWorth.calls k2 a0_0 _ _ l0_1 x7_1 x11_2 false _ ?side1 ?side2 A6.out).mono ?_);(case side1=>repeat (first|exact (Kd.C_below HR0_1.out HB.out)|(with_reducible refine Kd.C_alloc ?_ _)|(with_reducible refine Kd.C_drewN ?_ _)|(with_reducible refine Kd.C_drew ?_)));(case side2=>exact HC0_1.out);rintro e w17 ⟨rfl,hb⟩;refine ⟨_,rfl,?_⟩;have n0_:=Aside0.mk (blk_below (g:=gb315) (o:=.cells #[.int .i64 a0_0,.slice A0_1 l0_1.length c0_1] 68 (0,0)) bk hb);have n1_:=Aside0.mk (below_step bw hb);clear BK315;clear HB;have BK315:=n0_;have HB:=n1_;clear n0_ n1_;(try clear hb);(try clear hb2);(try clear hk);(try clear hi);have hcz18_0:w17.cell? ⟨gb315,0,none⟩ = some (.int .i64 a0_0):=(blk_cell BK315.out 0).trans rfl;have hcz18_1:w17.cell? ⟨gb315,1,none⟩ = some (.slice A0_1 l0_1.length c0_1):=(blk_cell BK315.out 1).trans rfl;have hfz18_0:=blk_frozen BK315.out 0;have hfz18_1:=blk_frozen BK315.out 1)|(go_at_call 98;(with_reducible refine (impl_votes_isWorth.calls k2 a0_0 _ _ l0_1 x11_2 x7_1 false _ ?side1 ?side2 A10.out).mono ?_);(case side1=>repeat (first|exact (Kd.C_below HR0_1.out HB.out)|(with_reducible refine Kd.C_alloc ?_ _)|(with_reducible refine Kd.C_drewN ?_ _)|(with_reducible refine Kd.C_drew ?_)));(case side2=>exact HC0_1.out);rintro e w19 ⟨rfl,hb⟩;have n0_:=Aside0.mk (blk_below (g:=gb315) (o:=.cells #[.int .i64 a0_0,.slice A0_1 l0_1.length c0_1] 68 (0,0)) bk hb);have n1_:=Aside0.mk (below_step bw hb);clear BK315;clear HB;have BK315:=n0_;have HB:=n1_;clear n0_ n1_;(try clear hb);(try clear hb2);(try clear hk);(try clear hi)))
         go_ret
         exact ⟨by first|rfl|(simp [errW_none,errW_some] <;> rfl)|(simp [*,errW_none,errW_some] <;> rfl),by repeat (first|(with_reducible first|exact HB.out|apply below_alloc|apply pw_below_drewN|apply below_drew1|refine below_set ?_ GE315.out)|exact HB.out)⟩
      ·rw [if_neg c5] at H;have c5b0:decide (x11_2 < x7_1) = false:=decide_eq_false c5;clear c5;have H':=Aside0.mk H;clear H;go_wp2
       go_roundg k2
       case measure=>have:=HK1.out;have:=HK2.out;omega
       case rel=>exact ⟨(wrap64 (x7_1 + 1)),(by first|rfl|(simp;done)|(simp [*];done)),H',⟨by have:=HK1.out;have:=HK2.out;omega⟩,⟨by (with_reducible repeat (first|refine blk_drewN ?_ _|refine blk_drew ?_|refine blk_alloc ?_ _));exact BK315.out⟩,⟨by repeat (first|(with_reducible first|exact HB.out|apply below_alloc|apply pw_below_drewN|apply below_drew1|refine below_set ?_ GE315.out)|exact HB.out)⟩⟩
   ·rw [if_neg c4] at H;have c4b0:decide (x7_1 < a0_0) = false:=decide_eq_false c4;clear c4;obtain rfl:=Option.some.inj H;go_wp2
    go_ret
    exact ⟨by first|rfl|(simp [errW_none,errW_some] <;> rfl)|(simp [*,errW_none,errW_some] <;> rfl),by repeat (first|(with_reducible first|exact HB.out|apply below_alloc|apply pw_below_drewN|apply below_drew1|refine below_set ?_ GE315.out)|exact HB.out)⟩


/-! ### impl_members: function 93 -/
def impl_members.l0:Nat → (Int → Option (Bool)) → List Int → Int → Int → Option (List Int)
 | 0,_,_,_,_=>none
 | k + 1,x1,x5,x8,x9=>if x9 < x8 then ((x1 x9).bind fun t321=>(if t321 = true then (if x5.length < 17592186044416 then (impl_members.l0 k x1 (x5 ++ [x9]) x8 (wrap64 (x9 + 1))) else (none)) else (impl_members.l0 k x1 x5 x8 (wrap64 (x9 + 1))))) else (some x5)
def impl_members.f (k:Nat) (a0:Int) (a1:(Int → Option (Bool))):Option (List Int):=impl_members.l0 k a1 (([]:List Int)) a0 0
theorem impl_members.mono_l:∀ k,(∀ y0 y1 y2 y3,LeO (impl_members.l0 k y0 y1 y2 y3) (impl_members.l0 (k + 1) y0 y1 y2 y3))
 | 0=>fun _ _ _ _ r h=>by simp [impl_members.l0] at h
 | k + 1=>by
  have ih0:=impl_members.mono_l k
  ·intro y0 y1 y2 y3;unfold impl_members.l0
   repeat' with_reducible first|exact ih0 _ _ _ _|exact LeO.refl _|exact LeO.none _|refine LeO.ite ?_ ?_|refine LeO.bind ?_ (fun _=>?_)
theorem impl_members.mono:∀ a0 a1 k,LeO (impl_members.f k a0 a1) (impl_members.f (k + 1) a0 a1):=by
 intro a0 a1 k;have ih0:=impl_members.mono_l k;unfold impl_members.f
 repeat' with_reducible first|exact ih0 _ _ _ _|exact LeO.refl _|exact LeO.none _|refine LeO.ite ?_ ?_|refine LeO.bind ?_ (fun _=>?_)
theorem impl_members.monop_l {p_ q_:(Int → Option (Bool))} (h_:∀ x0_,LeO (p_ x0_) (q_ x0_)):∀ k,(∀ y1 y2 y3,LeO (impl_members.l0 k p_ y1 y2 y3) (impl_members.l0 k q_ y1 y2 y3))
 | 0=>fun _ _ _ r hz=>by simp [impl_members.l0] at hz
 | k + 1=>by
  have ih0:=impl_members.monop_l h_ k
  ·intro y0 y1 y2;unfold impl_members.l0
   repeat' with_reducible first|exact ih0 _ _ _|exact h_ _|exact LeO.refl _|refine LeO.ite ?_ ?_|refine LeO.bind ?_ (fun _=>?_)
theorem impl_members.mono_p {p_ q_:(Int → Option (Bool))} (h_:∀ x0_,LeO (p_ x0_) (q_ x0_)):∀ a0 k,LeO (impl_members.f k a0 p_) (impl_members.f k a0 q_):=by
 intro a0 k;have ih0:=impl_members.monop_l h_ k;unfold impl_members.f
 repeat' with_reducible first|exact ih0 _ _ _|exact h_ _|exact LeO.refl _|refine LeO.ite ?_ ?_|refine LeO.bind ?_ (fun _=>?_)
set_option maxHeartbeats 8000000 in
set_option maxRecDepth 100000 in
theorem impl_members.calls (k:Nat) (a0:Int) (a1:(Int → Option (Bool))) (g1_:Nat) (lb1_:Array Value) (eg1_:∀ (args:Array Value) (w:World),(callFunc g1_ args).run Try.prog w = .ok (.enter g1_ args) w) (r:List Int) (w:World) (hp1:∀ (W:World) (b0_:Int) (r0_:Bool),a1 b0_ = some r0_ → Below w.heap.size w W → Calls Try.prog g1_ (#[.int .i64 b0_] ++ lb1_) W fun e w'=>e = .returned (.bool r0_) ∧ Below W.heap.size W w') (h:impl_members.f k a0 a1 = some r) :
  Calls Try.prog 93 #[.int .i64 a0,.func (.func g1_) #[] lb1_] w fun e w'=>∃ v0_:Value,e = .returned (v0_) ∧ Kd.R (Kd.int .i64) 3 w' w.heap.size (fun _=>True) v0_ r ∧ Below w.heap.size w w':=by
 have HP1:=Aside0.mk hp1;clear hp1;have HB:=Aside0.mk (Below.refl w.heap.size w);have H:(impl_members.l0 k a1 (([]:List Int)) a0 0) = some r:=h;clear h;obtain ⟨y318,hy318⟩:∃ y_:List Int,y_ = (([]:List Int)):=⟨_,rfl⟩;replace H:(impl_members.l0 k a1 y318 a0 0) = some r:=by first|(rw [hy318];with_reducible exact H)|(have H2_:=(Option.bind_some _ _).symm.trans H;rw [hy318];with_reducible exact H2_)|(have H2_:=(Option.bind_some _ _).symm.trans H;with_reducible exact H2_)|with_reducible exact H|(rw [hy318];exact H)|exact H
 have Ny318:=Aside0.mk hy318;clear hy318;have H':=Aside0.mk H;clear H;go_enter Try.func93,Try.ntmps93;go_wp2_with (first|((with_reducible refine gate_dst (N:=7) rfl ?_);refine Kd.R_lit (Kd.int .i64) _ 3 ?hg (N:=7) ?hd (xs:=([]:List Int)) (inner:=[]) (ok:=fun _=>True) (okp:=fun _=>True) ?hr ?hp (fun _ hk=>hk) trivial (Below.refl _ _) (Nat.le_refl _) (by simp) ?_;(case hd=>rfl);(case hg=>rfl);(case hr=>first|(go_simp;done)|(go_simp;rfl));(case hp=>exact (Reps.none _ _));intro v319 w3 ho4 hb hg_ hnew_;clear hg_ hnew_;(first|rw [← Ny318.out] at ho4|(simp only [Int.reduceToNat] at ho4;rw [← Ny318.out] at ho4));have n0_:=Aside0.mk (Kd.R_lower ho4 (below_size bw));have n1_:=Aside0.mk (below_step bw hb);clear HB;have HO320:=n0_;have HB:=n1_;clear n0_ n1_;clear hb ho4))
 go_loopg [5,9] k (fun kq v5 v9 w'=>∃ (x5_1:List Int) (x9_1:Int),v9 = .int .i64 x9_1 ∧ Aside0 (impl_members.l0 kq a1 x5_1 a0 x9_1 = some r) ∧ Aside0 (kq ≤ k) ∧ Aside0 (Kd.R (Kd.int .i64) 3 w' w.heap.size (fun _=>True) v5 x5_1) ∧ Aside0 (Below w.heap.size w w'))
 case atStart=>exact ⟨(y318),(0),(by first|rfl|(simp;done)|(simp [*];done)),H',⟨Nat.le_refl _⟩,⟨by (with_reducible repeat (first|apply Kd.R_alloc|apply Kd.R_drewN|apply Kd.R_drew));exact HO320.out⟩,⟨by repeat (first|(with_reducible first|exact HB.out|apply below_alloc|apply pw_below_drewN|apply below_drew1)|exact HB.out)⟩⟩
 case round =>
  clear H'
  try clear p1
  try clear p2
  obtain ⟨x5_1,x9_1,rfl,HA,HK1,HO_5,HB⟩:=hrel
  cases gk with
  | zero=>exact absurd HA.out (by simp [impl_members.l0])
  | succ k1 =>
   have H:=HA.out;clear HA;simp only [impl_members.l0] at H;by_cases c5:x9_1 < a0
   ·rw [if_pos c5] at H;have c5b0:decide (x9_1 < a0) = true:=decide_eq_true c5;clear c5;replace H:=Option.bind_eq_some_iff.mp H;obtain ⟨t321,A60,H⟩:=H;replace H:(if t321 = true then (if x5_1.length < 17592186044416 then (impl_members.l0 k1 a1 (x5_1 ++ [x9_1]) a0 (wrap64 (x9_1 + 1))) else (none)) else (impl_members.l0 k1 a1 x5_1 a0 (wrap64 (x9_1 + 1)))) = some r:=H;have A6:=Aside0.mk A60;clear A60;by_cases c7:t321 = true
    ·subst c7;have H1:(if x5_1.length < 17592186044416 then (impl_members.l0 k1 a1 (x5_1 ++ [x9_1]) a0 (wrap64 (x9_1 + 1))) else (none)) = some r:=by rw [if_pos rfl] at H;exact H
     clear H;have H:=H1;clear H1;by_cases c8:x5_1.length < 17592186044416
     ·rw [if_pos c8] at H;have LMc8:=Aside0.mk c8;clear c8;obtain ⟨y322,hy322⟩:∃ y_:List Int,y_ = (x5_1 ++ [x9_1]):=⟨_,rfl⟩;replace H:(impl_members.l0 k1 a1 y322 a0 (wrap64 (x9_1 + 1))) = some r:=by first|(rw [hy322];with_reducible exact H)|(have H2_:=(Option.bind_some _ _).symm.trans H;rw [hy322];with_reducible exact H2_)|(have H2_:=(Option.bind_some _ _).symm.trans H;with_reducible exact H2_)|with_reducible exact H|(rw [hy322];exact H)|exact H
      have Ny322:=Aside0.mk hy322;clear hy322;have H':=Aside0.mk H;clear H;go_wp2_with (first|((with_reducible refine gate_fn (t:=12) rfl ?_);refine goesFL_ (some 14) rfl rfl eg1_ #[.int .i64 x9_1] rfl rfl mq ?_;(with_reducible refine (HP1.out _ x9_1 true A6.out ?side1).mono ?_);(case side1=>repeat (first|(with_reducible first|exact HB.out|apply below_alloc|apply pw_below_drewN|apply below_drew1)|exact HB.out));rintro e w9 ⟨rfl,hb⟩;refine ⟨_,rfl,?_⟩;have n0_:=Aside0.mk (Kd.R_below (by (with_reducible repeat (first|apply Kd.R_alloc|apply Kd.R_drewN|apply Kd.R_drew));exact HO_5.out) hb);have n1_:=Aside0.mk (below_step bw hb);clear HO_5;clear HB;have HO_5:=n0_;have HB:=n1_;clear n0_ n1_;(try clear hb);(try clear hb2);(try clear hk);(try clear hi))|((with_reducible refine gate_builtin (b:=.append) (xs:=#[.tmp 15,.tmp 17]) rfl ?_);at_builtin;refine Kd.R_append (Kd.int .i64) (w0:=w) w.heap.size rfl (.tmp 15) (.tmp 17) 40 3 (.int .i64 0) 8 rfl Try.underlying40 info3 rfl (by decide) (by omega) u5 x5_1 x9_1 [.int .i64 x9_1] (fun _=>True) (fun _=>False) rfl rfl ?aP (fun _ hk=>hk.elim) ?aF ?aO ?aB ?aS ?aL ?_;(case aP=>exact rfl);(case aB=>exact bw);(case aF=>exact (fun _ _=>trivial));(case aO=>exact (by (with_reducible repeat (first|apply Kd.R_alloc|apply Kd.R_drewN|apply Kd.R_drew));exact HO_5.out));(case aS=>exact (below_size bw));(case aL=>have:=LMc8.out;omega);intro v323 w10 ho hb hg hat;rw [← Ny322.out] at ho;have n0_:=Aside0.mk (hb);have n1_:=Aside0.mk (ho);clear HB;clear HO_5;have HB:=n0_;have HO324:=n1_;clear n0_ n1_;clear ho hb hg hat))
      go_roundg k1
      case measure=>have:=HK1.out;omega
      case rel=>exact ⟨(y322),(wrap64 (x9_1 + 1)),(by first|rfl|(simp;done)|(simp [*];done)),H',⟨by have:=HK1.out;omega⟩,⟨by (with_reducible repeat (first|apply Kd.R_alloc|apply Kd.R_drewN|apply Kd.R_drew));exact HO324.out⟩,⟨by repeat (first|(with_reducible first|exact HB.out|apply below_alloc|apply pw_below_drewN|apply below_drew1)|exact HB.out)⟩⟩
     ·rw [if_neg c8] at H;exact absurd H (by simp)
    ·replace c7:=Bool.eq_false_iff.mpr c7;subst c7;have H1:(impl_members.l0 k1 a1 x5_1 a0 (wrap64 (x9_1 + 1))) = some r:=by rw [if_neg (show ¬ (false = true) by decide)] at H;exact H
     clear H;have H:=H1;clear H1;have H':=Aside0.mk H;clear H;go_wp2_with (first|((with_reducible refine gate_fn (t:=12) rfl ?_);refine goesFL_ (some 14) rfl rfl eg1_ #[.int .i64 x9_1] rfl rfl mq ?_;(with_reducible refine (HP1.out _ x9_1 false A6.out ?side1).mono ?_);(case side1=>repeat (first|(with_reducible first|exact HB.out|apply below_alloc|apply pw_below_drewN|apply below_drew1)|exact HB.out));rintro e w11 ⟨rfl,hb⟩;refine ⟨_,rfl,?_⟩;have n0_:=Aside0.mk (Kd.R_below (by (with_reducible repeat (first|apply Kd.R_alloc|apply Kd.R_drewN|apply Kd.R_drew));exact HO_5.out) hb);have n1_:=Aside0.mk (below_step bw hb);clear HO_5;clear HB;have HO_5:=n0_;have HB:=n1_;clear n0_ n1_;(try clear hb);(try clear hb2);(try clear hk);(try clear hi)))
     go_roundg k1
     case measure=>have:=HK1.out;omega
     case rel=>exact ⟨(x5_1),(wrap64 (x9_1 + 1)),(by first|rfl|(simp;done)|(simp [*];done)),H',⟨by have:=HK1.out;omega⟩,⟨by (with_reducible repeat (first|apply Kd.R_alloc|apply Kd.R_drewN|apply Kd.R_drew));exact HO_5.out⟩,⟨by repeat (first|(with_reducible first|exact HB.out|apply below_alloc|apply pw_below_drewN|apply below_drew1)|exact HB.out)⟩⟩
   ·rw [if_neg c5] at H;have c5b0:decide (x9_1 < a0) = false:=decide_eq_false c5;clear c5;obtain rfl:=Option.some.inj H;go_wp2
    go_ret
    exact ⟨_,by first|rfl|(simp [errW_none,errW_some] <;> rfl)|(simp [*,errW_none,errW_some] <;> rfl),by (with_reducible repeat (first|apply Kd.R_alloc|apply Kd.R_drewN|apply Kd.R_drew));exact HO_5.out,by repeat (first|(with_reducible first|exact HB.out|apply below_alloc|apply pw_below_drewN|apply below_drew1)|exact HB.out)⟩


/-! ### impl_OrderOfWorth_1: function 94 -/
def impl_OrderOfWorth_1.f (a0:Int):Option (Bool):=some true
set_option maxHeartbeats 8000000 in
set_option maxRecDepth 100000 in
theorem impl_OrderOfWorth_1.calls (a0:Int) (r:Bool) (w:World) (h:impl_OrderOfWorth_1.f a0 = some r) :
  Calls Try.prog 94 #[.int .i64 a0] w fun e w'=>e = .returned (.bool r) ∧ Drawn0 w w':=by
 have H:(some true) = some r:=h;clear h;obtain rfl:=Option.some.inj H;go_enter Try.func94,Try.ntmps94;go_wp2
 go_ret
 exact ⟨by first|rfl|(simp;done)|(simp [*];done),by repeat (first|exact Drawn0.refl _|apply Drawn0.step)⟩
theorem impl_OrderOfWorth_1.enters:∀ (args:Array Value) (w:World),(callFunc 94 args).run Try.prog w = .ok (.enter 94 args) w:=enters_of Try.func94 (by kernel_rfl) rfl


/-! ### slices_insertionSortCmpFunc_int: function 156 -/
mutual
def slices_insertionSortCmpFunc_int.l0:Nat → List Int → Int → Int → (Int → Int → Option (Int)) → Int → Option (List Int)
 | 0,_,_,_,_,_=>none
 | k + 1,x0,x1,x2,x3,x8=>if x8 < x2 then (slices_insertionSortCmpFunc_int.l1 k x0 x1 x2 x3 x8 x8) else (some x0)
def slices_insertionSortCmpFunc_int.l1:Nat → List Int → Int → Int → (Int → Int → Option (Int)) → Int → Int → Option (List Int)
 | 0,_,_,_,_,_,_=>none
 | k + 1,x0,x1,x2,x3,x8,x9=>if x9 > x1 then (if 0 ≤ x9 then (if x9 < (x0.length:Int) then (if 0 ≤ (wrap64 (x9 - 1)) then (if (wrap64 (x9 - 1)) < (x0.length:Int) then ((x3 (rd x0 x9) (rd x0 (wrap64 (x9 - 1)))).bind fun t327=>(if t327 < 0 then (slices_insertionSortCmpFunc_int.l1 k ((x0.set (x9:Int).toNat (rd x0 (wrap64 (x9 - 1)))).set ((wrap64 (x9 - 1)):Int).toNat (rd x0 x9)) x1 x2 x3 x8 (wrap64 (x9 - 1))) else (slices_insertionSortCmpFunc_int.l0 k x0 x1 x2 x3 (wrap64 (x8 + 1))))) else (none)) else (none)) else (none)) else (none)) else (slices_insertionSortCmpFunc_int.l0 k x0 x1 x2 x3 (wrap64 (x8 + 1)))
end
def slices_insertionSortCmpFunc_int.f (k:Nat) (l0:List Int) (a1:Int) (a2:Int) (a3:(Int → Int → Option (Int))):Option (List Int):=slices_insertionSortCmpFunc_int.l0 k l0 a1 a2 a3 (wrap64 (a1 + 1))
theorem slices_insertionSortCmpFunc_int.mono_l:∀ k,(∀ y0 y1 y2 y3 y4,LeO (slices_insertionSortCmpFunc_int.l0 k y0 y1 y2 y3 y4) (slices_insertionSortCmpFunc_int.l0 (k + 1) y0 y1 y2 y3 y4)) ∧ (∀ y0 y1 y2 y3 y4 y5,LeO (slices_insertionSortCmpFunc_int.l1 k y0 y1 y2 y3 y4 y5) (slices_insertionSortCmpFunc_int.l1 (k + 1) y0 y1 y2 y3 y4 y5))
 | 0=>⟨fun _ _ _ _ _ r h=>by simp [slices_insertionSortCmpFunc_int.l0] at h,fun _ _ _ _ _ _ r h=>by simp [slices_insertionSortCmpFunc_int.l1] at h⟩
 | k + 1=>by
  obtain ⟨ih0,ih1⟩:=slices_insertionSortCmpFunc_int.mono_l k;refine ⟨?_,?_⟩
  ·intro y0 y1 y2 y3 y4;unfold slices_insertionSortCmpFunc_int.l0
   repeat' with_reducible first|exact ih0 _ _ _ _ _|exact ih1 _ _ _ _ _ _|exact LeO.refl _|exact LeO.none _|refine LeO.ite ?_ ?_|refine LeO.bind ?_ (fun _=>?_)
  ·intro y0 y1 y2 y3 y4 y5;unfold slices_insertionSortCmpFunc_int.l1
   repeat' with_reducible first|exact ih0 _ _ _ _ _|exact ih1 _ _ _ _ _ _|exact LeO.refl _|exact LeO.none _|refine LeO.ite ?_ ?_|refine LeO.bind ?_ (fun _=>?_)
theorem slices_insertionSortCmpFunc_int.mono:∀ a0 a1 a2 a3 k,LeO (slices_insertionSortCmpFunc_int.f k a0 a1 a2 a3) (slices_insertionSortCmpFunc_int.f (k + 1) a0 a1 a2 a3):=by
 intro a0 a1 a2 a3 k;obtain ⟨ih0,ih1⟩:=slices_insertionSortCmpFunc_int.mono_l k;unfold slices_insertionSortCmpFunc_int.f
 repeat' with_reducible first|exact ih0 _ _ _ _ _|exact ih1 _ _ _ _ _ _|exact LeO.refl _|exact LeO.none _|refine LeO.ite ?_ ?_|refine LeO.bind ?_ (fun _=>?_)
theorem slices_insertionSortCmpFunc_int.monop_l {p_ q_:(Int → Int → Option (Int))} (h_:∀ x0_ x1_,LeO (p_ x0_ x1_) (q_ x0_ x1_)):∀ k,(∀ y0 y1 y2 y4,LeO (slices_insertionSortCmpFunc_int.l0 k y0 y1 y2 p_ y4) (slices_insertionSortCmpFunc_int.l0 k y0 y1 y2 q_ y4)) ∧ (∀ y0 y1 y2 y4 y5,LeO (slices_insertionSortCmpFunc_int.l1 k y0 y1 y2 p_ y4 y5) (slices_insertionSortCmpFunc_int.l1 k y0 y1 y2 q_ y4 y5))
 | 0=>⟨fun _ _ _ _ r hz=>by simp [slices_insertionSortCmpFunc_int.l0] at hz,fun _ _ _ _ _ r hz=>by simp [slices_insertionSortCmpFunc_int.l1] at hz⟩
 | k + 1=>by
  obtain ⟨ih0,ih1⟩:=slices_insertionSortCmpFunc_int.monop_l h_ k;refine ⟨?_,?_⟩
  ·intro y0 y1 y2 y3;unfold slices_insertionSortCmpFunc_int.l0
   repeat' with_reducible first|exact ih0 _ _ _ _|exact ih1 _ _ _ _ _|exact h_ _ _|exact LeO.refl _|refine LeO.ite ?_ ?_|refine LeO.bind ?_ (fun _=>?_)
  ·intro y0 y1 y2 y3 y4;unfold slices_insertionSortCmpFunc_int.l1
   repeat' with_reducible first|exact ih0 _ _ _ _|exact ih1 _ _ _ _ _|exact h_ _ _|exact LeO.refl _|refine LeO.ite ?_ ?_|refine LeO.bind ?_ (fun _=>?_)
theorem slices_insertionSortCmpFunc_int.mono_p {p_ q_:(Int → Int → Option (Int))} (h_:∀ x0_ x1_,LeO (p_ x0_ x1_) (q_ x0_ x1_)):∀ a0 a1 a2 k,LeO (slices_insertionSortCmpFunc_int.f k a0 a1 a2 p_) (slices_insertionSortCmpFunc_int.f k a0 a1 a2 q_):=by
 intro a0 a1 a2 k;obtain ⟨ih0,ih1⟩:=slices_insertionSortCmpFunc_int.monop_l h_ k;unfold slices_insertionSortCmpFunc_int.f
 repeat' with_reducible first|exact ih0 _ _ _ _|exact ih1 _ _ _ _ _|exact h_ _ _|exact LeO.refl _|refine LeO.ite ?_ ?_|refine LeO.bind ?_ (fun _=>?_)
def slices_insertionSortCmpFunc_int.T4:Bool × List (List Nat × List Nat):=(true,[([],[]),([],[]),([0,1],[0,1]),([2],[2]),([3],[3]),([3],[3]),([3],[3]),([5,6,3],[3,5,6]),([7,3],[3,7]),([3],[3]),([3],[3]),([10,3],[3,10]),([9,11,3],[3,9,11]),([12,3],[3,12]),([4,8,13,3,3],[3,4,8,13]),([14,3],[3,14]),([3,15],[3,15])])
def slices_insertionSortCmpFunc_int.B4:List Nat:=[0,0,3,7,15,15,15,111,239,15,15,1039,3599,7695,16383,32767,65535]
theorem slices_insertionSortCmpFunc_int.tab4:rtab .any (opsOf Try.f156 4) = slices_insertionSortCmpFunc_int.T4:=by kernel_rfl
theorem slices_insertionSortCmpFunc_int.bits4:waitsOk slices_insertionSortCmpFunc_int.T4.2 slices_insertionSortCmpFunc_int.B4 = true:=by kernel_rfl
def slices_insertionSortCmpFunc_int.T6:Bool × List (List Nat × List Nat):=(true,[([],[]),([],[]),([],[]),([],[]),([3],[3]),([],[]),([],[]),([6],[6]),([5,7],[5,7]),([8],[8]),([],[]),([],[]),([10,11],[10,11]),([12],[12]),([0,1,0,1,5,6,7,8,9,13],[0,1]),([14,9,0,1,5,6,7,8,9,13],[9,14]),([2,4,0,1,2,3,4,5,6,7,8,9,10,11,12,13,14,15],[2,4]),([16,13,15,0,1,2,3,4,5,6,7,8,9,10,11,12,13,14,15],[13,16])])
def slices_insertionSortCmpFunc_int.B6:List Nat:=[0,0,0,0,8,0,0,64,224,480,0,0,3072,7168,16355,32739,65535,131071]
theorem slices_insertionSortCmpFunc_int.tab6:rtab .any (opsOf Try.f156 6) = slices_insertionSortCmpFunc_int.T6:=by kernel_rfl
theorem slices_insertionSortCmpFunc_int.bits6:waitsOk slices_insertionSortCmpFunc_int.T6.2 slices_insertionSortCmpFunc_int.B6 = true:=by kernel_rfl
set_option maxHeartbeats 8000000 in
set_option maxRecDepth 100000 in
theorem slices_insertionSortCmpFunc_int.calls (k:Nat) (P0_:Nat → Prop) (u9000_:Value) (l0:List Int) (a1:Int) (a2:Int) (a3:(Int → Int → Option (Int))) (g3_:Nat) (lb3_:Array Value) (eg3_:∀ (args:Array Value) (w:World),(callFunc g3_ args).run Try.prog w = .ok (.enter g3_ args) w) (r:List Int) (w0 w:World) (hB:Below w0.heap.size w0 w) (ho0:Kd.R (Kd.int .i64) 3 w w0.heap.size P0_ u9000_ l0) (hp3:∀ (W:World) (b0_:Int) (b1_:Int) (r0_:Int),a3 b0_ b1_ = some r0_ → Kept w W (fun k_=>P0_ k_) → Calls Try.prog g3_ (#[.int .i64 b0_,.int .i64 b1_] ++ lb3_) W fun e w'=>e = .returned (.int .i64 r0_) ∧ Below W.heap.size W w') (h:slices_insertionSortCmpFunc_int.f k l0 a1 a2 a3 = some r) :
  Calls Try.prog 156 #[u9000_,.int .i64 a1,.int .i64 a2,.func (.func g3_) #[] lb3_] w fun e w'=>e = .returned (.tuple #[]) ∧ Kd.R (Kd.int .i64) 3 w' w0.heap.size (fun k_=>(P0_ k_ ∨ w.heap.size ≤ k_)) u9000_ r ∧ Below w0.heap.size w0 w' ∧ Kept w w' (fun k_=>P0_ k_):=by
 have HO0:=Aside0.mk (show Kd.R (Kd.int .i64) 3 w w0.heap.size (fun k_=>(P0_ k_ ∨ w.heap.size ≤ k_)) u9000_ l0 from Kd.R_mono ho0 (fun k_ hk=>(.inl hk)));have HP3:=Aside0.mk hp3;clear hp3;have HK:=Aside0.mk (Kept.refl w (fun k_=>P0_ k_));have HW0:=Aside0.mk hB.size;have HB:=Aside0.mk hB;clear hB;have H:(slices_insertionSortCmpFunc_int.l0 k l0 a1 a2 a3 (wrap64 (a1 + 1))) = some r:=h;clear h;have H':=Aside0.mk H;clear H;go_enter Try.func156,Try.ntmps156;go_wp2
 go_loopg [8] k (fun kq v8 w'=>∃ (x0_1:List Int) (x8_1:Int),v8 = .int .i64 x8_1 ∧ Aside0 (slices_insertionSortCmpFunc_int.l0 kq x0_1 a1 a2 a3 x8_1 = some r) ∧ Aside0 (kq ≤ k) ∧ Aside0 (Kd.R (Kd.int .i64) 3 w' w0.heap.size (fun k_=>(P0_ k_ ∨ w.heap.size ≤ k_)) u9000_ x0_1) ∧ Aside0 (Kept w w' (fun k_=>P0_ k_)) ∧ Aside0 (Below w0.heap.size w0 w'))
 case atStart=>exact ⟨(l0),(wrap64 (a1 + 1)),(by first|rfl|(simp;done)|(simp [*];done)),H',⟨Nat.le_refl _⟩,⟨by (with_reducible repeat (first|apply Kd.R_alloc|apply Kd.R_drewN|apply Kd.R_drew));exact HO0.out⟩,⟨by repeat (first|(with_reducible first|exact HK.out|apply Kept.alloc|apply Kept.drewN|apply Kept.drew)|exact HK.out)⟩,⟨by repeat (first|(with_reducible first|exact HB.out|apply below_alloc|apply pw_below_drewN|apply below_drew1)|exact HB.out)⟩⟩
 case round =>
  clear H'
  try clear c1
  try clear p2
  try clear p3
  obtain ⟨x0_1,x8_1,rfl,HA,HK1,HO_0,HK,HB⟩:=hrel
  cases gk with
  | zero=>exact absurd HA.out (by simp [slices_insertionSortCmpFunc_int.l0])
  | succ k1 =>
   have H:=HA.out;clear HA;simp only [slices_insertionSortCmpFunc_int.l0] at H;by_cases c5:x8_1 < a2
   ·rw [if_pos c5] at H;have c5b0:decide (x8_1 < a2) = true:=decide_eq_true c5;clear c5;have H':=Aside0.mk H;clear H;go_wp2
    go_loopg [9] k1 (fun kq v9 w'=>∃ (x0_2:List Int) (x9_2:Int),v9 = .int .i64 x9_2 ∧ Aside0 (slices_insertionSortCmpFunc_int.l1 kq x0_2 a1 a2 a3 x8_1 x9_2 = some r) ∧ Aside0 (kq ≤ k1) ∧ Aside0 (Kd.R (Kd.int .i64) 3 w' w0.heap.size (fun k_=>(P0_ k_ ∨ w.heap.size ≤ k_)) u9000_ x0_2) ∧ Aside0 (Kept w w' (fun k_=>P0_ k_)) ∧ Aside0 (Below w0.heap.size w0 w'))
    case atStart=>exact ⟨(x0_1),(x8_1),(by first|rfl|(simp;done)|(simp [*];done)),H',⟨Nat.le_refl _⟩,⟨by (with_reducible repeat (first|apply Kd.R_alloc|apply Kd.R_drewN|apply Kd.R_drew));exact HO_0.out⟩,⟨by repeat (first|(with_reducible first|exact HK.out|apply Kept.alloc|apply Kept.drewN|apply Kept.drew)|exact HK.out)⟩,⟨by repeat (first|(with_reducible first|exact HB.out|apply below_alloc|apply pw_below_drewN|apply below_drew1)|exact HB.out)⟩⟩
    case round =>
     clear H'
     try clear c1
     try clear p2
     try clear p3
     try clear c5
     try clear c5b0
     try clear p2
     try clear p3
     obtain ⟨x0_2,x9_2,rfl,HA,HK2,HO_0,HK,HB⟩:=hrel
     cases gk with
     | zero=>exact absurd HA.out (by simp [slices_insertionSortCmpFunc_int.l1])
     | succ k2 =>
      have H:=HA.out;clear HA;simp only [slices_insertionSortCmpFunc_int.l1] at H;by_cases c6:x9_2 > a1
      ·rw [if_pos c6] at H;have c6b0:decide (a1 < x9_2) = true:=decide_eq_true c6;clear c6;by_cases c7:0 ≤ x9_2
       ·rw [if_pos c7] at H;have c7b0:decide (0 ≤ x9_2) = true:=decide_eq_true c7;clear c7;by_cases c8:x9_2 < (x0_2.length:Int)
        ·rw [if_pos c8] at H;have c8b0:decide (x9_2 < (x0_2.length:Int)) = true:=decide_eq_true c8;clear c8;obtain ⟨ji9,hji9⟩:∃ j_:Int,(wrap64 (x9_2 - 1)) = j_:=⟨_,rfl⟩;replace H:(if 0 ≤ (ji9) then (if (ji9) < (x0_2.length:Int) then ((a3 (rd x0_2 x9_2) (rd x0_2 (ji9))).bind fun t327=>(if t327 < 0 then (slices_insertionSortCmpFunc_int.l1 k2 ((x0_2.set (x9_2:Int).toNat (rd x0_2 (ji9))).set ((ji9):Int).toNat (rd x0_2 x9_2)) a1 a2 a3 x8_1 ji9) else (slices_insertionSortCmpFunc_int.l0 k2 x0_2 a1 a2 a3 (wrap64 (x8_1 + 1))))) else (none)) else (none)) = some r:=by first|(rw [hji9] at H;exact H)|(simp only [hji9] at H ⊢;exact H)
         have hji9w:(IntKind.i64.wrap (x9_2 - 1)) = ji9:=(i64_w _).trans hji9;by_cases c10:0 ≤ (ji9)
         ·rw [if_pos c10] at H;have c10b0:decide (0 ≤ (ji9)) = true:=decide_eq_true c10;clear c10;by_cases c11:(ji9) < (x0_2.length:Int)
          ·rw [if_pos c11] at H;have c11b0:decide ((ji9) < (x0_2.length:Int)) = true:=decide_eq_true c11;clear c11;replace H:=Option.bind_eq_some_iff.mp H;obtain ⟨t327,A120,H⟩:=H;replace H:(if t327 < 0 then (slices_insertionSortCmpFunc_int.l1 k2 ((x0_2.set (x9_2:Int).toNat (rd x0_2 (ji9))).set ((ji9):Int).toNat (rd x0_2 x9_2)) a1 a2 a3 x8_1 ji9) else (slices_insertionSortCmpFunc_int.l0 k2 x0_2 a1 a2 a3 (wrap64 (x8_1 + 1)))) = some r:=H;have A12:=Aside0.mk A120;clear A120;by_cases c13:t327 < 0
           ·rw [if_pos c13] at H;have c13b0:decide (t327 < 0) = true:=decide_eq_true c13;clear c13;obtain ⟨y330,hy330⟩:∃ y_:List Int,y_ = (x0_2.set (x9_2:Int).toNat (rd x0_2 (ji9))):=⟨_,rfl⟩;replace H:(slices_insertionSortCmpFunc_int.l1 k2 (y330.set ((ji9):Int).toNat (rd x0_2 x9_2)) a1 a2 a3 x8_1 ji9) = some r:=by first|(rw [hy330];with_reducible exact H)|(have H2_:=(Option.bind_some _ _).symm.trans H;rw [hy330];with_reducible exact H2_)|(have H2_:=(Option.bind_some _ _).symm.trans H;with_reducible exact H2_)|with_reducible exact H|(rw [hy330];exact H)|exact H
            have Ny330:=Aside0.mk hy330;clear hy330;obtain ⟨y331,hy331⟩:∃ y_:List Int,y_ = (y330.set ((ji9):Int).toNat (rd x0_2 x9_2)):=⟨_,rfl⟩;replace H:(slices_insertionSortCmpFunc_int.l1 k2 y331 a1 a2 a3 x8_1 ji9) = some r:=by first|(rw [hy331];with_reducible exact H)|(have H2_:=(Option.bind_some _ _).symm.trans H;rw [hy331];with_reducible exact H2_)|(have H2_:=(Option.bind_some _ _).symm.trans H;with_reducible exact H2_)|with_reducible exact H|(rw [hy331];exact H)|exact H
            have Ny331:=Aside0.mk hy331;clear hy331;have H':=Aside0.mk H;clear H
            try go_wp2
            have n0_:=Aside0.mk (Kd.R_drew HO_0.out);have n1_:=Aside0.mk (Kept.drew HK.out);have n2_:=Aside0.mk (below_drew1 HB.out);clear HO_0;clear HK;clear HB;have HO_0:=n0_;have HK:=n1_;have HB:=n2_;clear n0_ n1_ n2_;obtain ⟨Ao17,co17,eo17⟩:=Kd.R_slice HO_0.out;(first|subst eo17|(injection eo17 with f1_ f2_ f3_;have f4_:=f1_.symm;have f5_:=f3_.symm;clear f1_ f2_ f3_;subst f4_;subst f5_))
            have p325:0 ≤ (x9_2:Int):=of_decide_eq_true ab;have q325:x9_2 < (x0_2.length:Int):=of_decide_eq_true ab;obtain ⟨ad325,e325,hx325_0⟩:=Kd.at_int (Kd.R_reads' HO_0.out).2.2 x9_2 p325 q325;cases e325
            replace p325:=eq_true p325;replace q325:=eq_true q325;have p326:0 ≤ ((ji9):Int):=of_decide_eq_true ab;have q326:(ji9) < (x0_2.length:Int):=of_decide_eq_true ab;obtain ⟨ad326,e326,hx326_0⟩:=Kd.at_int (Kd.R_reads' HO_0.out).2.2 (ji9) p326 q326;obtain rfl:ad325 = ad326:=(by injection e326);replace p326:=eq_true p326;replace q326:=eq_true q326;refine start_ (n:=17) (S:=fun w'=>w'.cell? (ad325.add (x9_2).toNat) = some (.int .i64 (rd x0_2 x9_2)) ∧ w'.cell? (ad325.add ((ji9)).toNat) = some (.int .i64 (rd x0_2 (ji9)))) (ds:=[]) #[false,false,false,false,false,false,false,false,false,false,false,false,false,false,false,false,false] (by kernel_rfl) rfl rfl ⟨hx325_0,hx326_0⟩ (fun hHeld=>?_);refine with_tabW slices_insertionSortCmpFunc_int.tab4 slices_insertionSortCmpFunc_int.bits4 (fun HT_ HW_=>?_)
            generalize wr.drew = w16 at HO_0 HK HB hx325_0 hx326_0 hHeld ⊢
            refine pure_ (i:=0) (N:=some 18) (v:=?_) (a':=?_) #[true,false,false,false,false,false,false,false,false,false,false,false,false,false,false,false,false] rfl rfl (any_of HT_.out (by kernel_rfl)) (fun _ _ _ h=>h) (Or.inl ⟨by rfl,?_⟩) ?_ ?_;rotate_left
            ·intro w';go_simp
             with_reducible rfl
            rotate_left
            ·simp only [Act.put,sA,sZ,sS,i64_w,i32_w];rfl
            refine pure_ (i:=1) (N:=some 19) (v:=?_) (a':=?_) #[true,true,false,false,false,false,false,false,false,false,false,false,false,false,false,false,false] rfl rfl (any_of HT_.out (by kernel_rfl)) (fun _ _ _ h=>h) (Or.inl ⟨by rfl,?_⟩) ?_ ?_;rotate_left
            ·intro w';go_simp
             with_reducible rfl
            rotate_left
            ·simp only [Act.put,sA,sZ,sS,i64_w,i32_w];rfl
            refine pure_ (i:=2) (N:=some 20) (v:=?_) (a':=?_) #[true,true,true,false,false,false,false,false,false,false,false,false,false,false,false,false,false] rfl rfl (any_of HT_.out (by kernel_rfl)) (fun _ _ _ h=>h) (Or.inl ⟨by rfl,?_⟩) ?_ ?_;rotate_left
            ·intro w';go_simp
             with_reducible rfl
            rotate_left
            ·simp only [Act.put,sA,sZ,sS,i64_w,i32_w];rfl
            refine pure_ (i:=3) (N:=some 21) (v:=?_) (a':=?_) #[true,true,true,true,false,false,false,false,false,false,false,false,false,false,false,false,false] rfl rfl (any_of HT_.out (by kernel_rfl)) (fun _ _ _ h=>h) (Or.inl ⟨by rfl,?_⟩) ?_ ?_;rotate_left
            ·intro w';go_simp
             with_reducible rfl
            rotate_left
            ·simp only [Act.put,sA,sZ,sS,i64_w,i32_w];rfl
            refine pure_ (i:=4) (N:=some 22) (v:=?_) (a':=?_) #[true,true,true,true,true,false,false,false,false,false,false,false,false,false,false,false,false] rfl rfl (any_of HT_.out (by kernel_rfl)) (fun _ _ _ h=>h) (Or.inl ⟨by rfl,?_⟩) ?_ ?_;rotate_left
            ·intro w';go_simp
             with_reducible rfl
            rotate_left
            ·simp only [Act.put,sA,sZ,sS,i64_w,i32_w];rfl
            refine pure_ (i:=5) (N:=some 23) (v:=?_) (a':=?_) #[true,true,true,true,true,true,false,false,false,false,false,false,false,false,false,false,false] rfl rfl (any_of HT_.out (by kernel_rfl)) (fun _ _ _ h=>h) (Or.inl ⟨by rfl,?_⟩) ?_ ?_;rotate_left
            ·intro w';go_simp
             with_reducible rfl
            rotate_left
            ·simp only [Act.put,sA,sZ,sS,i64_w,i32_w];rfl
            refine pure_ (i:=6) (N:=some 24) (v:=?_) (a':=?_) #[true,true,true,true,true,true,true,false,false,false,false,false,false,false,false,false,false] rfl rfl (any_of HT_.out (by kernel_rfl)) (fun _ _ _ h=>h) (Or.inl ⟨by rfl,?_⟩) ?_ ?_;rotate_left
            ·intro w';go_simp
             with_reducible rfl
            rotate_left
            ·simp only [Act.put,sA,sZ,sS,i64_w,i32_w];rfl
            refine pure_ (i:=7) (N:=some 25) (v:=?_) (a':=?_) #[true,true,true,true,true,true,true,true,false,false,false,false,false,false,false,false,false] rfl rfl (any_of HT_.out (by kernel_rfl)) (fun _ _ _ h=>h) (Or.inl ⟨by rfl,?_⟩) ?_ ?_;rotate_left
            ·intro w';go_simp
             with_reducible rfl
            rotate_left
            ·simp only [Act.put,sA,sZ,sS,i64_w,i32_w];rfl
            refine pure_ (i:=9) (N:=some 27) (v:=?_) (a':=?_) #[true,true,true,true,true,true,true,true,false,true,false,false,false,false,false,false,false] rfl rfl (any_of HT_.out (by kernel_rfl)) (fun _ _ _ h=>h) (Or.inl ⟨by rfl,?_⟩) ?_ ?_;rotate_left
            ·intro w';go_simp
             with_reducible rfl
            rotate_left
            ·simp only [Act.put,sA,sZ,sS,i64_w,i32_w];rfl
            refine pure_ (i:=10) (N:=some 28) (v:=?_) (a':=?_) #[true,true,true,true,true,true,true,true,false,true,true,false,false,false,false,false,false] rfl rfl (any_of HT_.out (by kernel_rfl)) (fun _ _ _ h=>h) (Or.inl ⟨by rfl,?_⟩) ?_ ?_;rotate_left
            ·intro w';go_simp
             with_reducible rfl
            rotate_left
            ·simp only [Act.put,sA,sZ,sS,i64_w,i32_w];rfl
            refine pure_ (i:=11) (N:=some 29) (v:=?_) (a':=?_) #[true,true,true,true,true,true,true,true,false,true,true,true,false,false,false,false,false] rfl rfl (any_of HT_.out (by kernel_rfl)) (fun _ _ _ h=>h) (Or.inl ⟨by rfl,?_⟩) ?_ ?_;rotate_left
            ·intro w';go_simp
             with_reducible rfl
            rotate_left
            ·simp only [Act.put,sA,sZ,sS,i64_w,i32_w];rfl
            refine pure_ (i:=12) (N:=some 30) (v:=?_) (a':=?_) #[true,true,true,true,true,true,true,true,false,true,true,true,true,false,false,false,false] rfl rfl (any_of HT_.out (by kernel_rfl)) (fun _ _ _ h=>h) (Or.inl ⟨by rfl,?_⟩) ?_ ?_;rotate_left
            ·intro w';go_simp
             with_reducible rfl
            rotate_left
            ·simp only [Act.put,sA,sZ,sS,i64_w,i32_w];rfl
            refine take_ (i:=8) (N:=some 26) (v:=?_) (a':=?_) #[true,true,true,true,true,true,true,true,true,true,true,true,true,false,false,false,false] rfl rfl (take_ofW HT_.out HW_.out (by kernel_rfl)) (fun _ _ _ h=>h) (Or.inl ⟨by rfl,?_⟩) hHeld ?_ ?_;rotate_left
            ·rintro w' ⟨s0,s1⟩
             go_simp
             with_reducible rfl
            rotate_left
            ·simp only [Act.put,sA,sZ,sS,i64_w,i32_w];rfl
            refine take_ (i:=13) (N:=some 31) (v:=?_) (a':=?_) #[true,true,true,true,true,true,true,true,true,true,true,true,true,true,false,false,false] rfl rfl (take_ofW HT_.out HW_.out (by kernel_rfl)) (fun _ _ _ h=>h) (Or.inl ⟨by rfl,?_⟩) hHeld ?_ ?_;rotate_left
            ·rintro w' ⟨s0,s1⟩
             go_simp
             with_reducible rfl
            rotate_left
            ·simp only [Act.put,sA,sZ,sS,i64_w,i32_w];rfl
            refine one_ (i:=14) (N:=some 32) #[true,true,true,true,true,true,true,true,true,true,true,true,true,true,true,false,false] rfl rfl (one_of HT_.out (by kernel_rfl)) (by decide) (fun K hK=>?_);refine goesFr_ eg3_ #[.int .i64 (rd x0_2 x9_2),.int .i64 (rd x0_2 (ji9))] (by rfl) rfl rfl (by rfl) (by (try simp only [List.map_toArray,List.map_cons,List.map_nil]);first|done|(simp only [hji9];rfl)|rfl|(simp only [List.length_drop,List.length_take];rfl)) ?_
            with_reducible refine (HP3.out _ (rd x0_2 x9_2) (rd x0_2 (ji9)) t327 A12.out ?side1).mono ?_
            (case side1=>repeat (first|(with_reducible first|exact HK.out|apply Kept.alloc|apply Kept.drewN|apply Kept.drew)|exact HK.out))
            rintro e w18 ⟨rfl,hb⟩
            have HS0_:=(hb.cell (World.block_lt_of_cell? _ _ (hHeld.1))).trans (hHeld.1);have HS1_:=(hb.cell (World.block_lt_of_cell? _ _ (hHeld.2))).trans (hHeld.2);refine ⟨_,rfl,?_⟩;have n0_:=Aside0.mk (Kd.R_below (by (with_reducible repeat (first|apply Kd.R_alloc|apply Kd.R_drewN|apply Kd.R_drew));exact HO_0.out) hb);have n1_:=Aside0.mk (Kept.below (S:=(fun k_=>P0_ k_)) (by repeat (first|(with_reducible first|exact HK.out|apply Kept.alloc|apply Kept.drewN|apply Kept.drew)|exact HK.out)) hb);have n2_:=Aside0.mk (below_step bw hb);clear HO_0;clear HK;clear HB;have HO_0:=n0_;have HK:=n1_;have HB:=n2_;clear n0_ n1_ n2_;(try clear hb)
            (try clear hb2)
            (try clear hk)
            (try clear hi)
            refine hK.out _ _ ⟨HS0_,HS1_⟩ (fun hHeld=>?_);clear hK K;refine norm_ (a':=?_) ?_ ?_;rotate_left
            ·show Act.put _ (some 32) _ = _;simp only [Act.put,sA,sZ,sS,i64_w,i32_w];rfl
            refine pure_ (i:=15) (N:=some 33) (v:=?_) (a':=?_) #[true,true,true,true,true,true,true,true,true,true,true,true,true,true,true,true,false] rfl rfl (any_of HT_.out (by kernel_rfl)) (fun _ _ _ h=>h) (Or.inl ⟨by rfl,?_⟩) ?_ ?_;rotate_left
            ·intro w';go_simp
             with_reducible rfl
            rotate_left
            ·simp only [Act.put,sA,sZ,sS,i64_w,i32_w];rfl
            refine pure_ (i:=16) (N:=some 34) (v:=?_) (a':=?_) #[true,true,true,true,true,true,true,true,true,true,true,true,true,true,true,true,true] rfl rfl (any_of HT_.out (by kernel_rfl)) (fun _ _ _ h=>h) (Or.inl ⟨by rfl,?_⟩) ?_ ?_;rotate_left
            ·intro w';go_simp
             with_reducible rfl
            rotate_left
            ·simp only [Act.put,sA,sZ,sS,i64_w,i32_w];rfl
            refine done_ (done_of HT_.out (by kernel_rfl)) ?_
            try go_wp2
            have n0_:=Aside0.mk (Kd.R_drew HO_0.out);have n1_:=Aside0.mk (Kept.drew HK.out);have n2_:=Aside0.mk (below_drew1 HB.out);clear HO_0;clear HK;clear HB;have HO_0:=n0_;have HK:=n1_;have HB:=n2_;clear n0_ n1_ n2_;have p328:0 ≤ ((ji9):Int):=of_decide_eq_true ab;have q328:(ji9) < (x0_2.length:Int):=of_decide_eq_true ab;obtain ⟨ad328,e328,hx328_0⟩:=Kd.at_int (Kd.R_reads' HO_0.out).2.2 (ji9) p328 q328;obtain rfl:ad325 = ad328:=(by injection e328);replace p328:=eq_true p328;replace q328:=eq_true q328;have p329:0 ≤ (x9_2:Int):=of_decide_eq_true ab;have q329:x9_2 < (x0_2.length:Int):=of_decide_eq_true ab;obtain ⟨ad329,e329,hx329_0⟩:=Kd.at_int (Kd.R_reads' HO_0.out).2.2 x9_2 p329 q329;obtain rfl:ad325 = ad329:=(by injection e329);replace p329:=eq_true p329;replace q329:=eq_true q329;have p14:0 ≤ (x9_2:Int):=of_decide_eq_true ab;have q14:(x9_2:Int) < ((x0_2.length:Int):Int):=of_decide_eq_true ab;obtain ⟨go14,co14,eo14,gb14,gl14,cl14,HG14⟩:=Kd.R_form HO_0.out (by omega);(first|cases eo14|(injection eo14 with ea_ en_ ec_;(first|subst ea_|(injection ea_ with ea_;subst ea_));subst ec_;clear en_))
            have GB14:=Aside0.mk gb14;have GG14:=Aside0.mk HG14;clear gb14 gl14 HG14;have HMgo14:=Aside0.mk (show (P0_ go14 ∨ w.heap.size ≤ go14) from (HO_0.out.1 _ rfl));(first|simp only [add_plain] at hx325_0|skip)
            (first|simp only [add_plain] at hx326_0|skip)
            (first|simp only [add_plain] at hx328_0|skip)
            (first|simp only [add_plain] at hx329_0|skip)
            obtain ⟨hx14_0,hf14_0⟩:=Kd.R_celln 0 HO_0.out (x9_2:Int) p14 q14;replace p14:=eq_true p14;replace q14:=eq_true q14;have HP20:=Kd.R_putn HO_0.out (x9_2:Int) (rd x0_2 (ji9));rw [← Ny330.out] at HP20;have HQ20:=Aside0.mk HP20;clear HP20;have p15:0 ≤ ((ji9):Int):=of_decide_eq_true ab;have q15:((ji9):Int) < ((x0_2.length:Int):Int):=of_decide_eq_true ab;obtain ⟨hx15_0,hf15_0⟩:=Kd.R_celln 0 HQ20.out ((ji9):Int) p15 q15;replace p15:=eq_true p15;replace q15:=eq_true q15;have HP21:=Kd.R_putn HQ20.out ((ji9):Int) (rd x0_2 x9_2);rw [← Ny331.out] at HP21;have HQ21:=Aside0.mk HP21;clear HP21;refine start_ (n:=18) (S:=fun w'=>w'.cell? ⟨go14,((ji9)).toNat,none⟩ = some (.int .i64 (rd x0_2 (ji9))) ∧ w'.cell? ⟨go14,(x9_2).toNat,none⟩ = some (.int .i64 (rd x0_2 x9_2))) (ds:=[15,17]) #[false,false,false,false,false,false,false,false,false,false,false,false,false,false,false,false,false,false] (by kernel_rfl) rfl rfl ⟨hx328_0,hx329_0⟩ (fun hHeld=>?_);refine with_tabW slices_insertionSortCmpFunc_int.tab6 slices_insertionSortCmpFunc_int.bits6 (fun HT_ HW_=>?_)
            generalize w18.drew = w19 at HO_0 HK HB GG14 HQ20 HQ21 hf14_0 hf15_0 hx14_0 hx15_0 hx325_0 hx326_0 hx328_0 hx329_0 hHeld ⊢
            refine pure_ (i:=0) (N:=some 37) (v:=?_) (a':=?_) #[true,false,false,false,false,false,false,false,false,false,false,false,false,false,false,false,false,false] rfl rfl (any_of HT_.out (by kernel_rfl)) (fun _ _ _ h=>h) (Or.inl ⟨by rfl,?_⟩) ?_ ?_;rotate_left
            ·intro w';go_simp
             with_reducible rfl
            rotate_left
            ·simp only [Act.put,sA,sZ,sS,i64_w,i32_w];rfl
            refine pure_ (i:=1) (N:=some 38) (v:=?_) (a':=?_) #[true,true,false,false,false,false,false,false,false,false,false,false,false,false,false,false,false,false] rfl rfl (any_of HT_.out (by kernel_rfl)) (fun _ _ _ h=>h) (Or.inl ⟨by rfl,?_⟩) ?_ ?_;rotate_left
            ·intro w';go_simp
             with_reducible rfl
            rotate_left
            ·simp only [Act.put,sA,sZ,sS,i64_w,i32_w];rfl
            refine pure_ (i:=2) (N:=some 39) (v:=?_) (a':=?_) #[true,true,true,false,false,false,false,false,false,false,false,false,false,false,false,false,false,false] rfl rfl (any_of HT_.out (by kernel_rfl)) (fun _ _ _ h=>h) (Or.inl ⟨by rfl,?_⟩) ?_ ?_;rotate_left
            ·intro w';go_simp
             with_reducible rfl
            rotate_left
            ·simp only [Act.put,sA,sZ,sS,i64_w,i32_w];rfl
            refine pure_ (i:=3) (N:=some 40) (v:=?_) (a':=?_) #[true,true,true,true,false,false,false,false,false,false,false,false,false,false,false,false,false,false] rfl rfl (any_of HT_.out (by kernel_rfl)) (fun _ _ _ h=>h) (Or.inl ⟨by rfl,?_⟩) ?_ ?_;rotate_left
            ·intro w';go_simp
             with_reducible rfl
            rotate_left
            ·simp only [Act.put,sA,sZ,sS,i64_w,i32_w];rfl
            refine pure_ (i:=4) (N:=some 41) (v:=?_) (a':=?_) #[true,true,true,true,true,false,false,false,false,false,false,false,false,false,false,false,false,false] rfl rfl (any_of HT_.out (by kernel_rfl)) (fun _ _ _ h=>h) (Or.inl ⟨by rfl,?_⟩) ?_ ?_;rotate_left
            ·intro w';go_simp
             with_reducible rfl
            rotate_left
            ·simp only [Act.put,sA,sZ,sS,i64_w,i32_w];rfl
            refine pure_ (i:=5) (N:=some 42) (v:=?_) (a':=?_) #[true,true,true,true,true,true,false,false,false,false,false,false,false,false,false,false,false,false] rfl rfl (any_of HT_.out (by kernel_rfl)) (fun _ _ _ h=>h) (Or.inl ⟨by rfl,?_⟩) ?_ ?_;rotate_left
            ·intro w';go_simp
             with_reducible rfl
            rotate_left
            ·simp only [Act.put,sA,sZ,sS,i64_w,i32_w];rfl
            refine pure_ (i:=6) (N:=some 43) (v:=?_) (a':=?_) #[true,true,true,true,true,true,true,false,false,false,false,false,false,false,false,false,false,false] rfl rfl (any_of HT_.out (by kernel_rfl)) (fun _ _ _ h=>h) (Or.inl ⟨by rfl,?_⟩) ?_ ?_;rotate_left
            ·intro w';go_simp
             with_reducible rfl
            rotate_left
            ·simp only [Act.put,sA,sZ,sS,i64_w,i32_w];rfl
            refine pure_ (i:=7) (N:=some 44) (v:=?_) (a':=?_) #[true,true,true,true,true,true,true,true,false,false,false,false,false,false,false,false,false,false] rfl rfl (any_of HT_.out (by kernel_rfl)) (fun _ _ _ h=>h) (Or.inl ⟨by rfl,?_⟩) ?_ ?_;rotate_left
            ·intro w';go_simp
             with_reducible rfl
            rotate_left
            ·simp only [Act.put,sA,sZ,sS,i64_w,i32_w];rfl
            refine pure_ (i:=8) (N:=some 45) (v:=?_) (a':=?_) #[true,true,true,true,true,true,true,true,true,false,false,false,false,false,false,false,false,false] rfl rfl (any_of HT_.out (by kernel_rfl)) (fun _ _ _ h=>h) (Or.inl ⟨by rfl,?_⟩) ?_ ?_;rotate_left
            ·intro w';go_simp
             with_reducible rfl
            rotate_left
            ·simp only [Act.put,sA,sZ,sS,i64_w,i32_w];rfl
            refine pure_ (i:=10) (N:=some 47) (v:=?_) (a':=?_) #[true,true,true,true,true,true,true,true,true,false,true,false,false,false,false,false,false,false] rfl rfl (any_of HT_.out (by kernel_rfl)) (fun _ _ _ h=>h) (Or.inl ⟨by rfl,?_⟩) ?_ ?_;rotate_left
            ·intro w';go_simp
             with_reducible rfl
            rotate_left
            ·simp only [Act.put,sA,sZ,sS,i64_w,i32_w];rfl
            refine pure_ (i:=11) (N:=some 48) (v:=?_) (a':=?_) #[true,true,true,true,true,true,true,true,true,false,true,true,false,false,false,false,false,false] rfl rfl (any_of HT_.out (by kernel_rfl)) (fun _ _ _ h=>h) (Or.inl ⟨by rfl,?_⟩) ?_ ?_;rotate_left
            ·intro w';go_simp
             with_reducible rfl
            rotate_left
            ·simp only [Act.put,sA,sZ,sS,i64_w,i32_w];rfl
            refine pure_ (i:=12) (N:=some 49) (v:=?_) (a':=?_) #[true,true,true,true,true,true,true,true,true,false,true,true,true,false,false,false,false,false] rfl rfl (any_of HT_.out (by kernel_rfl)) (fun _ _ _ h=>h) (Or.inl ⟨by rfl,?_⟩) ?_ ?_;rotate_left
            ·intro w';go_simp
             with_reducible rfl
            rotate_left
            ·simp only [Act.put,sA,sZ,sS,i64_w,i32_w];rfl
            refine take_ (i:=9) (N:=some 46) (v:=?_) (a':=?_) #[true,true,true,true,true,true,true,true,true,true,true,true,true,false,false,false,false,false] rfl rfl (take_ofW HT_.out HW_.out (by kernel_rfl)) (fun _ _ _ h=>h) (Or.inl ⟨by rfl,?_⟩) hHeld ?_ ?_;rotate_left
            ·rintro w' ⟨s0,s1⟩
             go_simp
             with_reducible rfl
            rotate_left
            ·simp only [Act.put,sA,sZ,sS,i64_w,i32_w];rfl
            refine take_ (i:=13) (N:=some 50) (v:=?_) (a':=?_) #[true,true,true,true,true,true,true,true,true,true,true,true,true,true,false,false,false,false] rfl rfl (take_ofW HT_.out HW_.out (by kernel_rfl)) (fun _ _ _ h=>h) (Or.inl ⟨by rfl,?_⟩) hHeld ?_ ?_;rotate_left
            ·rintro w' ⟨s0,s1⟩
             go_simp
             with_reducible rfl
            rotate_left
            ·simp only [Act.put,sA,sZ,sS,i64_w,i32_w];rfl
            refine pure_ (i:=14) (N:=some 51) (v:=?_) (a':=?_) #[true,true,true,true,true,true,true,true,true,true,true,true,true,true,true,false,false,false] rfl rfl (any_of HT_.out (by kernel_rfl)) (fun _ _ _ h=>h) (Or.inl ⟨by rfl,?_⟩) ?_ ?_;rotate_left
            ·intro w';go_simp
             with_reducible rfl
            rotate_left
            ·simp only [Act.put,sA,sZ,sS,i64_w,i32_w];rfl
            refine last_ (i:=15) (N:=none) #[true,true,true,true,true,true,true,true,true,true,true,true,true,true,true,true,false,false] rfl rfl (one_of HT_.out (by kernel_rfl)) (by decide) (fun K hK=>?_);refine skip_ (w1:=?_) (by rfl) rfl ?_ ?_;rotate_left
            ·go_simp
             rfl
            refine hK.out _ _ ?_;clear hK K;refine pure_ (i:=16) (N:=some 52) (v:=?_) (a':=?_) #[true,true,true,true,true,true,true,true,true,true,true,true,true,true,true,true,true,false] rfl rfl (any_of HT_.out (by kernel_rfl)) (fun _ _ _ h=>h) (Or.inl ⟨by rfl,?_⟩) ?_ ?_;rotate_left
            ·intro w';go_simp
             with_reducible rfl
            rotate_left
            ·simp only [Act.put,sA,sZ,sS,i64_w,i32_w];rfl
            refine last_ (i:=17) (N:=none) #[true,true,true,true,true,true,true,true,true,true,true,true,true,true,true,true,true,true] rfl rfl (one_of HT_.out (by kernel_rfl)) (by decide) (fun K hK=>?_);refine skip_ (w1:=?_) (by rfl) rfl ?_ ?_;rotate_left
            ·go_simp
             rfl
            refine hK.out _ _ ?_;clear hK K;refine done_ (done_of HT_.out (by kernel_rfl)) ?_
            try go_wp2
            go_roundg k2
            case measure=>have:=HK1.out;have:=HK2.out;omega
            case rel=>exact ⟨(y331),(ji9),(by first|rfl|(simp;done)|(simp only [← hji9] <;> (first|rfl|simp))|(simp [*];done)),H',⟨by have:=HK1.out;have:=HK2.out;omega⟩,⟨by (with_reducible repeat (first|apply Kd.R_alloc|apply Kd.R_drewN|apply Kd.R_drew));exact HQ21.out⟩,⟨by repeat (first|(with_reducible first|exact HK.out|apply Kept.alloc|apply Kept.drewN|apply Kept.drew|refine Kept.setCell ?_ HMgo14.out _|refine Kept.setCell ?_ HMgo14.out _)|exact HK.out)⟩,⟨by repeat (first|(with_reducible first|exact HB.out|apply below_alloc|apply pw_below_drewN|apply below_drew1|refine below_set ?_ GB14.out|refine below_set ?_ GB14.out)|exact HB.out)⟩⟩
           ·rw [if_neg c13] at H;have c13b0:decide (t327 < 0) = false:=decide_eq_false c13;clear c13;have H':=Aside0.mk H;clear H
            try go_wp2
            have n0_:=Aside0.mk (Kd.R_drew HO_0.out);have n1_:=Aside0.mk (Kept.drew HK.out);have n2_:=Aside0.mk (below_drew1 HB.out);clear HO_0;clear HK;clear HB;have HO_0:=n0_;have HK:=n1_;have HB:=n2_;clear n0_ n1_ n2_;obtain ⟨Ao23,co23,eo23⟩:=Kd.R_slice HO_0.out;(first|subst eo23|(injection eo23 with f1_ f2_ f3_;have f4_:=f1_.symm;have f5_:=f3_.symm;clear f1_ f2_ f3_;subst f4_;subst f5_))
            have p325:0 ≤ (x9_2:Int):=of_decide_eq_true ab;have q325:x9_2 < (x0_2.length:Int):=of_decide_eq_true ab;obtain ⟨ad325,e325,hx325_0⟩:=Kd.at_int (Kd.R_reads' HO_0.out).2.2 x9_2 p325 q325;cases e325
            replace p325:=eq_true p325;replace q325:=eq_true q325;have p326:0 ≤ ((ji9):Int):=of_decide_eq_true ab;have q326:(ji9) < (x0_2.length:Int):=of_decide_eq_true ab;obtain ⟨ad326,e326,hx326_0⟩:=Kd.at_int (Kd.R_reads' HO_0.out).2.2 (ji9) p326 q326;obtain rfl:ad325 = ad326:=(by injection e326);replace p326:=eq_true p326;replace q326:=eq_true q326;refine start_ (n:=17) (S:=fun w'=>w'.cell? (ad325.add (x9_2).toNat) = some (.int .i64 (rd x0_2 x9_2)) ∧ w'.cell? (ad325.add ((ji9)).toNat) = some (.int .i64 (rd x0_2 (ji9)))) (ds:=[]) #[false,false,false,false,false,false,false,false,false,false,false,false,false,false,false,false,false] (by kernel_rfl) rfl rfl ⟨hx325_0,hx326_0⟩ (fun hHeld=>?_);refine with_tabW slices_insertionSortCmpFunc_int.tab4 slices_insertionSortCmpFunc_int.bits4 (fun HT_ HW_=>?_)
            generalize wr.drew = w22 at HO_0 HK HB hx325_0 hx326_0 hHeld ⊢
            refine pure_ (i:=0) (N:=some 18) (v:=?_) (a':=?_) #[true,false,false,false,false,false,false,false,false,false,false,false,false,false,false,false,false] rfl rfl (any_of HT_.out (by kernel_rfl)) (fun _ _ _ h=>h) (Or.inl ⟨by rfl,?_⟩) ?_ ?_;rotate_left
            ·intro w';go_simp
             with_reducible rfl
            rotate_left
            ·simp only [Act.put,sA,sZ,sS,i64_w,i32_w];rfl
            refine pure_ (i:=1) (N:=some 19) (v:=?_) (a':=?_) #[true,true,false,false,false,false,false,false,false,false,false,false,false,false,false,false,false] rfl rfl (any_of HT_.out (by kernel_rfl)) (fun _ _ _ h=>h) (Or.inl ⟨by rfl,?_⟩) ?_ ?_;rotate_left
            ·intro w';go_simp
             with_reducible rfl
            rotate_left
            ·simp only [Act.put,sA,sZ,sS,i64_w,i32_w];rfl
            refine pure_ (i:=2) (N:=some 20) (v:=?_) (a':=?_) #[true,true,true,false,false,false,false,false,false,false,false,false,false,false,false,false,false] rfl rfl (any_of HT_.out (by kernel_rfl)) (fun _ _ _ h=>h) (Or.inl ⟨by rfl,?_⟩) ?_ ?_;rotate_left
            ·intro w';go_simp
             with_reducible rfl
            rotate_left
            ·simp only [Act.put,sA,sZ,sS,i64_w,i32_w];rfl
            refine pure_ (i:=3) (N:=some 21) (v:=?_) (a':=?_) #[true,true,true,true,false,false,false,false,false,false,false,false,false,false,false,false,false] rfl rfl (any_of HT_.out (by kernel_rfl)) (fun _ _ _ h=>h) (Or.inl ⟨by rfl,?_⟩) ?_ ?_;rotate_left
            ·intro w';go_simp
             with_reducible rfl
            rotate_left
            ·simp only [Act.put,sA,sZ,sS,i64_w,i32_w];rfl
            refine pure_ (i:=4) (N:=some 22) (v:=?_) (a':=?_) #[true,true,true,true,true,false,false,false,false,false,false,false,false,false,false,false,false] rfl rfl (any_of HT_.out (by kernel_rfl)) (fun _ _ _ h=>h) (Or.inl ⟨by rfl,?_⟩) ?_ ?_;rotate_left
            ·intro w';go_simp
             with_reducible rfl
            rotate_left
            ·simp only [Act.put,sA,sZ,sS,i64_w,i32_w];rfl
            refine pure_ (i:=5) (N:=some 23) (v:=?_) (a':=?_) #[true,true,true,true,true,true,false,false,false,false,false,false,false,false,false,false,false] rfl rfl (any_of HT_.out (by kernel_rfl)) (fun _ _ _ h=>h) (Or.inl ⟨by rfl,?_⟩) ?_ ?_;rotate_left
            ·intro w';go_simp
             with_reducible rfl
            rotate_left
            ·simp only [Act.put,sA,sZ,sS,i64_w,i32_w];rfl
            refine pure_ (i:=6) (N:=some 24) (v:=?_) (a':=?_) #[true,true,true,true,true,true,true,false,false,false,false,false,false,false,false,false,false] rfl rfl (any_of HT_.out (by kernel_rfl)) (fun _ _ _ h=>h) (Or.inl ⟨by rfl,?_⟩) ?_ ?_;rotate_left
            ·intro w';go_simp
             with_reducible rfl
            rotate_left
            ·simp only [Act.put,sA,sZ,sS,i64_w,i32_w];rfl
            refine pure_ (i:=7) (N:=some 25) (v:=?_) (a':=?_) #[true,true,true,true,true,true,true,true,false,false,false,false,false,false,false,false,false] rfl rfl (any_of HT_.out (by kernel_rfl)) (fun _ _ _ h=>h) (Or.inl ⟨by rfl,?_⟩) ?_ ?_;rotate_left
            ·intro w';go_simp
             with_reducible rfl
            rotate_left
            ·simp only [Act.put,sA,sZ,sS,i64_w,i32_w];rfl
            refine pure_ (i:=9) (N:=some 27) (v:=?_) (a':=?_) #[true,true,true,true,true,true,true,true,false,true,false,false,false,false,false,false,false] rfl rfl (any_of HT_.out (by kernel_rfl)) (fun _ _ _ h=>h) (Or.inl ⟨by rfl,?_⟩) ?_ ?_;rotate_left
            ·intro w';go_simp
             with_reducible rfl
            rotate_left
            ·simp only [Act.put,sA,sZ,sS,i64_w,i32_w];rfl
            refine pure_ (i:=10) (N:=some 28) (v:=?_) (a':=?_) #[true,true,true,true,true,true,true,true,false,true,true,false,false,false,false,false,false] rfl rfl (any_of HT_.out (by kernel_rfl)) (fun _ _ _ h=>h) (Or.inl ⟨by rfl,?_⟩) ?_ ?_;rotate_left
            ·intro w';go_simp
             with_reducible rfl
            rotate_left
            ·simp only [Act.put,sA,sZ,sS,i64_w,i32_w];rfl
            refine pure_ (i:=11) (N:=some 29) (v:=?_) (a':=?_) #[true,true,true,true,true,true,true,true,false,true,true,true,false,false,false,false,false] rfl rfl (any_of HT_.out (by kernel_rfl)) (fun _ _ _ h=>h) (Or.inl ⟨by rfl,?_⟩) ?_ ?_;rotate_left
            ·intro w';go_simp
             with_reducible rfl
            rotate_left
            ·simp only [Act.put,sA,sZ,sS,i64_w,i32_w];rfl
            refine pure_ (i:=12) (N:=some 30) (v:=?_) (a':=?_) #[true,true,true,true,true,true,true,true,false,true,true,true,true,false,false,false,false] rfl rfl (any_of HT_.out (by kernel_rfl)) (fun _ _ _ h=>h) (Or.inl ⟨by rfl,?_⟩) ?_ ?_;rotate_left
            ·intro w';go_simp
             with_reducible rfl
            rotate_left
            ·simp only [Act.put,sA,sZ,sS,i64_w,i32_w];rfl
            refine take_ (i:=8) (N:=some 26) (v:=?_) (a':=?_) #[true,true,true,true,true,true,true,true,true,true,true,true,true,false,false,false,false] rfl rfl (take_ofW HT_.out HW_.out (by kernel_rfl)) (fun _ _ _ h=>h) (Or.inl ⟨by rfl,?_⟩) hHeld ?_ ?_;rotate_left
            ·rintro w' ⟨s0,s1⟩
             go_simp
             with_reducible rfl
            rotate_left
            ·simp only [Act.put,sA,sZ,sS,i64_w,i32_w];rfl
            refine take_ (i:=13) (N:=some 31) (v:=?_) (a':=?_) #[true,true,true,true,true,true,true,true,true,true,true,true,true,true,false,false,false] rfl rfl (take_ofW HT_.out HW_.out (by kernel_rfl)) (fun _ _ _ h=>h) (Or.inl ⟨by rfl,?_⟩) hHeld ?_ ?_;rotate_left
            ·rintro w' ⟨s0,s1⟩
             go_simp
             with_reducible rfl
            rotate_left
            ·simp only [Act.put,sA,sZ,sS,i64_w,i32_w];rfl
            refine one_ (i:=14) (N:=some 32) #[true,true,true,true,true,true,true,true,true,true,true,true,true,true,true,false,false] rfl rfl (one_of HT_.out (by kernel_rfl)) (by decide) (fun K hK=>?_);refine goesFr_ eg3_ #[.int .i64 (rd x0_2 x9_2),.int .i64 (rd x0_2 (ji9))] (by rfl) rfl rfl (by rfl) (by (try simp only [List.map_toArray,List.map_cons,List.map_nil]);first|done|(simp only [hji9];rfl)|rfl|(simp only [List.length_drop,List.length_take];rfl)) ?_
            with_reducible refine (HP3.out _ (rd x0_2 x9_2) (rd x0_2 (ji9)) t327 A12.out ?side1).mono ?_
            (case side1=>repeat (first|(with_reducible first|exact HK.out|apply Kept.alloc|apply Kept.drewN|apply Kept.drew)|exact HK.out))
            rintro e w24 ⟨rfl,hb⟩
            have HS0_:=(hb.cell (World.block_lt_of_cell? _ _ (hHeld.1))).trans (hHeld.1);have HS1_:=(hb.cell (World.block_lt_of_cell? _ _ (hHeld.2))).trans (hHeld.2);refine ⟨_,rfl,?_⟩;have n0_:=Aside0.mk (Kd.R_below (by (with_reducible repeat (first|apply Kd.R_alloc|apply Kd.R_drewN|apply Kd.R_drew));exact HO_0.out) hb);have n1_:=Aside0.mk (Kept.below (S:=(fun k_=>P0_ k_)) (by repeat (first|(with_reducible first|exact HK.out|apply Kept.alloc|apply Kept.drewN|apply Kept.drew)|exact HK.out)) hb);have n2_:=Aside0.mk (below_step bw hb);clear HO_0;clear HK;clear HB;have HO_0:=n0_;have HK:=n1_;have HB:=n2_;clear n0_ n1_ n2_;(try clear hb)
            (try clear hb2)
            (try clear hk)
            (try clear hi)
            refine hK.out _ _ ⟨HS0_,HS1_⟩ (fun hHeld=>?_);clear hK K;refine norm_ (a':=?_) ?_ ?_;rotate_left
            ·show Act.put _ (some 32) _ = _;simp only [Act.put,sA,sZ,sS,i64_w,i32_w];rfl
            refine pure_ (i:=15) (N:=some 33) (v:=?_) (a':=?_) #[true,true,true,true,true,true,true,true,true,true,true,true,true,true,true,true,false] rfl rfl (any_of HT_.out (by kernel_rfl)) (fun _ _ _ h=>h) (Or.inl ⟨by rfl,?_⟩) ?_ ?_;rotate_left
            ·intro w';go_simp
             with_reducible rfl
            rotate_left
            ·simp only [Act.put,sA,sZ,sS,i64_w,i32_w];rfl
            refine pure_ (i:=16) (N:=some 34) (v:=?_) (a':=?_) #[true,true,true,true,true,true,true,true,true,true,true,true,true,true,true,true,true] rfl rfl (any_of HT_.out (by kernel_rfl)) (fun _ _ _ h=>h) (Or.inl ⟨by rfl,?_⟩) ?_ ?_;rotate_left
            ·intro w';go_simp
             with_reducible rfl
            rotate_left
            ·simp only [Act.put,sA,sZ,sS,i64_w,i32_w];rfl
            refine done_ (done_of HT_.out (by kernel_rfl)) ?_
            try go_wp2
            go_roundg k2
            case measure=>have:=HK1.out;have:=HK2.out;omega
            case rel=>exact ⟨(x0_2),(wrap64 (x8_1 + 1)),(by first|rfl|(simp;done)|(simp [*];done)),H',⟨by have:=HK1.out;have:=HK2.out;omega⟩,⟨by (with_reducible repeat (first|apply Kd.R_alloc|apply Kd.R_drewN|apply Kd.R_drew));exact HO_0.out⟩,⟨by repeat (first|(with_reducible first|exact HK.out|apply Kept.alloc|apply Kept.drewN|apply Kept.drew)|exact HK.out)⟩,⟨by repeat (first|(with_reducible first|exact HB.out|apply below_alloc|apply pw_below_drewN|apply below_drew1)|exact HB.out)⟩⟩
          ·rw [if_neg c11] at H;exact absurd H (by simp)
         ·rw [if_neg c10] at H;exact absurd H (by simp)
        ·rw [if_neg c8] at H;exact absurd H (by simp)
       ·rw [if_neg c7] at H;exact absurd H (by simp)
      ·rw [if_neg c6] at H;have c6b0:decide (a1 < x9_2) = false:=decide_eq_false c6;clear c6;have H':=Aside0.mk H;clear H
       try go_wp2
       have n0_:=Aside0.mk (Kd.R_drew HO_0.out);have n1_:=Aside0.mk (Kept.drew HK.out);have n2_:=Aside0.mk (below_drew1 HB.out);clear HO_0;clear HK;clear HB;have HO_0:=n0_;have HK:=n1_;have HB:=n2_;clear n0_ n1_ n2_;refine start_ (n:=17) (S:=fun w'=>True) (ds:=[]) #[false,false,false,false,false,false,false,false,false,false,false,false,false,false,false,false,false] (by kernel_rfl) rfl rfl trivial (fun hHeld=>?_);refine with_tabW slices_insertionSortCmpFunc_int.tab4 slices_insertionSortCmpFunc_int.bits4 (fun HT_ HW_=>?_)
       generalize wr.drew = w25 at HO_0 HK HB hHeld ⊢
       refine pure_ (i:=0) (N:=some 18) (v:=?_) (a':=?_) #[true,false,false,false,false,false,false,false,false,false,false,false,false,false,false,false,false] rfl rfl (any_of HT_.out (by kernel_rfl)) (fun _ _ _ h=>h) (Or.inl ⟨by rfl,?_⟩) ?_ ?_;rotate_left
       ·intro w';go_simp
        with_reducible rfl
       rotate_left
       ·simp only [Act.put,sA,sZ,sS,i64_w,i32_w];rfl
       refine pure_ (i:=1) (N:=some 19) (v:=?_) (a':=?_) #[true,true,false,false,false,false,false,false,false,false,false,false,false,false,false,false,false] rfl rfl (any_of HT_.out (by kernel_rfl)) (fun _ _ _ h=>h) (Or.inl ⟨by rfl,?_⟩) ?_ ?_;rotate_left
       ·intro w';go_simp
        with_reducible rfl
       rotate_left
       ·simp only [Act.put,sA,sZ,sS,i64_w,i32_w];rfl
       refine pure_ (i:=2) (N:=some 20) (v:=?_) (a':=?_) #[true,true,true,false,false,false,false,false,false,false,false,false,false,false,false,false,false] rfl rfl (any_of HT_.out (by kernel_rfl)) (fun _ _ _ h=>h) (Or.inl ⟨by rfl,?_⟩) ?_ ?_;rotate_left
       ·intro w';go_simp
        with_reducible rfl
       rotate_left
       ·simp only [Act.put,sA,sZ,sS,i64_w,i32_w];rfl
       refine pure_ (i:=3) (N:=some 21) (v:=?_) (a':=?_) #[true,true,true,true,false,false,false,false,false,false,false,false,false,false,false,false,false] rfl rfl (any_of HT_.out (by kernel_rfl)) (fun _ _ _ h=>h) (Or.inl ⟨by rfl,?_⟩) ?_ ?_;rotate_left
       ·intro w';go_simp
        with_reducible rfl
       rotate_left
       ·simp only [Act.put,sA,sZ,sS,i64_w,i32_w];rfl
       refine pure_ (i:=4) (N:=some 22) (v:=undef) (a':=?_) #[true,true,true,true,true,false,false,false,false,false,false,false,false,false,false,false,false] rfl rfl (any_of HT_.out (by kernel_rfl)) (fun _ _ _ h=>h) (Or.inr ⟨by rfl,rfl⟩) ?_ ?_;rotate_left
       ·simp only [Act.put,sA,sZ,sS,i64_w,i32_w];rfl
       refine pure_ (i:=5) (N:=some 23) (v:=undef) (a':=?_) #[true,true,true,true,true,true,false,false,false,false,false,false,false,false,false,false,false] rfl rfl (any_of HT_.out (by kernel_rfl)) (fun _ _ _ h=>h) (Or.inr ⟨by rfl,rfl⟩) ?_ ?_;rotate_left
       ·simp only [Act.put,sA,sZ,sS,i64_w,i32_w];rfl
       refine pure_ (i:=6) (N:=some 24) (v:=undef) (a':=?_) #[true,true,true,true,true,true,true,false,false,false,false,false,false,false,false,false,false] rfl rfl (any_of HT_.out (by kernel_rfl)) (fun _ _ _ h=>h) (Or.inr ⟨by rfl,rfl⟩) ?_ ?_;rotate_left
       ·simp only [Act.put,sA,sZ,sS,i64_w,i32_w];rfl
       refine pure_ (i:=7) (N:=some 25) (v:=undef) (a':=?_) #[true,true,true,true,true,true,true,true,false,false,false,false,false,false,false,false,false] rfl rfl (any_of HT_.out (by kernel_rfl)) (fun _ _ _ h=>h) (Or.inr ⟨by rfl,rfl⟩) ?_ ?_;rotate_left
       ·simp only [Act.put,sA,sZ,sS,i64_w,i32_w];rfl
       refine pure_ (i:=8) (N:=some 26) (v:=undef) (a':=?_) #[true,true,true,true,true,true,true,true,true,false,false,false,false,false,false,false,false] rfl rfl (any_of HT_.out (by kernel_rfl)) (fun _ _ _ h=>h) (Or.inr ⟨by rfl,rfl⟩) ?_ ?_;rotate_left
       ·simp only [Act.put,sA,sZ,sS,i64_w,i32_w];rfl
       refine pure_ (i:=9) (N:=some 27) (v:=undef) (a':=?_) #[true,true,true,true,true,true,true,true,true,true,false,false,false,false,false,false,false] rfl rfl (any_of HT_.out (by kernel_rfl)) (fun _ _ _ h=>h) (Or.inr ⟨by rfl,rfl⟩) ?_ ?_;rotate_left
       ·simp only [Act.put,sA,sZ,sS,i64_w,i32_w];rfl
       refine pure_ (i:=10) (N:=some 28) (v:=undef) (a':=?_) #[true,true,true,true,true,true,true,true,true,true,true,false,false,false,false,false,false] rfl rfl (any_of HT_.out (by kernel_rfl)) (fun _ _ _ h=>h) (Or.inr ⟨by rfl,rfl⟩) ?_ ?_;rotate_left
       ·simp only [Act.put,sA,sZ,sS,i64_w,i32_w];rfl
       refine pure_ (i:=11) (N:=some 29) (v:=undef) (a':=?_) #[true,true,true,true,true,true,true,true,true,true,true,true,false,false,false,false,false] rfl rfl (any_of HT_.out (by kernel_rfl)) (fun _ _ _ h=>h) (Or.inr ⟨by rfl,rfl⟩) ?_ ?_;rotate_left
       ·simp only [Act.put,sA,sZ,sS,i64_w,i32_w];rfl
       refine pure_ (i:=12) (N:=some 30) (v:=undef) (a':=?_) #[true,true,true,true,true,true,true,true,true,true,true,true,true,false,false,false,false] rfl rfl (any_of HT_.out (by kernel_rfl)) (fun _ _ _ h=>h) (Or.inr ⟨by rfl,rfl⟩) ?_ ?_;rotate_left
       ·simp only [Act.put,sA,sZ,sS,i64_w,i32_w];rfl
       refine pure_ (i:=13) (N:=some 31) (v:=undef) (a':=?_) #[true,true,true,true,true,true,true,true,true,true,true,true,true,true,false,false,false] rfl rfl (any_of HT_.out (by kernel_rfl)) (fun _ _ _ h=>h) (Or.inr ⟨by rfl,rfl⟩) ?_ ?_;rotate_left
       ·simp only [Act.put,sA,sZ,sS,i64_w,i32_w];rfl
       refine pure_ (i:=14) (N:=some 32) (v:=undef) (a':=?_) #[true,true,true,true,true,true,true,true,true,true,true,true,true,true,true,false,false] rfl rfl (any_of HT_.out (by kernel_rfl)) (fun _ _ _ h=>h) (Or.inr ⟨by rfl,rfl⟩) ?_ ?_;rotate_left
       ·simp only [Act.put,sA,sZ,sS,i64_w,i32_w];rfl
       refine pure_ (i:=15) (N:=some 33) (v:=undef) (a':=?_) #[true,true,true,true,true,true,true,true,true,true,true,true,true,true,true,true,false] rfl rfl (any_of HT_.out (by kernel_rfl)) (fun _ _ _ h=>h) (Or.inr ⟨by rfl,rfl⟩) ?_ ?_;rotate_left
       ·simp only [Act.put,sA,sZ,sS,i64_w,i32_w];rfl
       refine pure_ (i:=16) (N:=some 34) (v:=?_) (a':=?_) #[true,true,true,true,true,true,true,true,true,true,true,true,true,true,true,true,true] rfl rfl (any_of HT_.out (by kernel_rfl)) (fun _ _ _ h=>h) (Or.inl ⟨by rfl,?_⟩) ?_ ?_;rotate_left
       ·intro w';go_simp
        with_reducible rfl
       rotate_left
       ·simp only [Act.put,sA,sZ,sS,i64_w,i32_w];rfl
       refine done_ (done_of HT_.out (by kernel_rfl)) ?_
       try go_wp2
       go_roundg k2
       case measure=>have:=HK1.out;have:=HK2.out;omega
       case rel=>exact ⟨(x0_2),(wrap64 (x8_1 + 1)),(by first|rfl|(simp;done)|(simp [*];done)),H',⟨by have:=HK1.out;have:=HK2.out;omega⟩,⟨by (with_reducible repeat (first|apply Kd.R_alloc|apply Kd.R_drewN|apply Kd.R_drew));exact HO_0.out⟩,⟨by repeat (first|(with_reducible first|exact HK.out|apply Kept.alloc|apply Kept.drewN|apply Kept.drew)|exact HK.out)⟩,⟨by repeat (first|(with_reducible first|exact HB.out|apply below_alloc|apply pw_below_drewN|apply below_drew1)|exact HB.out)⟩⟩
   ·rw [if_neg c5] at H;have c5b0:decide (x8_1 < a2) = false:=decide_eq_false c5;clear c5;obtain rfl:=Option.some.inj H;go_wp2
    first|go_end0|((try simp only [Exit.inBlock,Exit.then]);refine bodyPost_ret (results_none rfl _ _ _) rfl ?_)
    exact ⟨by first|rfl|(simp [errW_none,errW_some] <;> rfl)|(simp [*,errW_none,errW_some] <;> rfl),by (with_reducible repeat (first|apply Kd.R_alloc|apply Kd.R_drewN|apply Kd.R_drew));exact HO_0.out,by repeat (first|(with_reducible first|exact HB.out|apply below_alloc|apply pw_below_drewN|apply below_drew1)|exact HB.out),by repeat (first|(with_reducible first|exact HK.out|apply Kept.alloc|apply Kept.drewN|apply Kept.drew)|exact HK.out)⟩


/-! ### slices_symMergeCmpFunc_int: function 157 -/
-- OWN 0 0
/-- Merging is asked of rows of 20 elements and more alone: nothing is said of it. -/
def slices_symMergeCmpFunc_int.f (l0 : List Int) (a1 : Int) (a2 : Int) (a3 : Int) (a4 : (Int → Int → Option (Int))) : Option (List Int) := none
theorem slices_symMergeCmpFunc_int.calls (P0_ : Nat → Prop) (u9000_ : Value) (l0 : List Int) (a1 : Int) (a2 : Int) (a3 : Int) (a4 : (Int → Int → Option (Int))) (g4_ : Nat) (lb4_ : Array Value) (eg4_ : ∀ (args : Array Value) (w : World), (callFunc g4_ args).run Try.prog w = .ok (.enter g4_ args) w) (r : List Int) (w0 w : World) (hB : Below w0.heap.size w0 w) (ho0 : Kd.R (Kd.int .i64) 3 w w0.heap.size P0_ u9000_ l0) (hp4 : ∀ (W : World) (b0_ : Int) (b1_ : Int) (r0_ : Int), a4 b0_ b1_ = some r0_ → Kept w W (fun k_ => P0_ k_) → Calls Try.prog g4_ (#[.int .i64 b0_, .int .i64 b1_] ++ lb4_) W fun e w' => e = .returned (.int .i64 r0_) ∧ Below W.heap.size W w') (h : slices_symMergeCmpFunc_int.f l0 a1 a2 a3 a4 = some r) :
    Calls Try.prog 157 #[u9000_, .int .i64 a1, .int .i64 a2, .int .i64 a3, .func (.func g4_) #[] lb4_] w fun e w' => e = .returned (.tuple #[]) ∧ Kd.R (Kd.int .i64) 3 w' w0.heap.size (fun k_ => (P0_ k_ ∨ w.heap.size ≤ k_)) u9000_ r ∧ Below w0.heap.size w0 w' ∧ Kept w w' (fun k_ => P0_ k_) := by
  exact absurd h (by simp [slices_symMergeCmpFunc_int.f])


/-! ### slices_stableCmpFunc_int: function 130 -/
mutual
def slices_stableCmpFunc_int.l0:Nat → List Int → Int → (Int → Int → Option (Int)) → Int → Int → Int → Option (List Int)
 | 0,_,_,_,_,_,_=>none
 | k + 1,x0,x1,x2,x6,x7,x8=>if x8 ≤ x1 then ((slices_insertionSortCmpFunc_int.f k x0 x7 x8 x2).bind fun t339=>(slices_stableCmpFunc_int.l0 k t339 x1 x2 x6 x8 (wrap64 (x8 + x6)))) else ((slices_insertionSortCmpFunc_int.f k x0 x7 x1 x2).bind fun t340=>(slices_stableCmpFunc_int.l1 k t340 x1 x2 x6))
def slices_stableCmpFunc_int.l1:Nat → List Int → Int → (Int → Int → Option (Int)) → Int → Option (List Int)
 | 0,_,_,_,_=>none
 | k + 1,x0,x1,x2,x6=>if x6 < x1 then (slices_stableCmpFunc_int.l2 k x0 x1 x2 x6 0 (wrap64 (2 * x6))) else (some x0)
def slices_stableCmpFunc_int.l2:Nat → List Int → Int → (Int → Int → Option (Int)) → Int → Int → Int → Option (List Int)
 | 0,_,_,_,_,_,_=>none
 | k + 1,x0,x1,x2,x6,x7,x8=>if x8 ≤ x1 then ((slices_symMergeCmpFunc_int.f x0 x7 (wrap64 (x7 + x6)) x8 x2).bind fun t341=>(slices_stableCmpFunc_int.l2 k t341 x1 x2 x6 x8 (wrap64 (x8 + (wrap64 (2 * x6)))))) else (if (wrap64 (x7 + x6)) < x1 then ((slices_symMergeCmpFunc_int.f x0 x7 (wrap64 (x7 + x6)) x1 x2).bind fun t342=>(slices_stableCmpFunc_int.l1 k t342 x1 x2 (wrap64 (x6 * 2)))) else (slices_stableCmpFunc_int.l1 k x0 x1 x2 (wrap64 (x6 * 2))))
end
def slices_stableCmpFunc_int.f (k:Nat) (l0:List Int) (a1:Int) (a2:(Int → Int → Option (Int))):Option (List Int):=slices_stableCmpFunc_int.l0 k l0 a1 a2 20 0 20
theorem slices_stableCmpFunc_int.mono_l:∀ k,(∀ y0 y1 y2 y3 y4 y5,LeO (slices_stableCmpFunc_int.l0 k y0 y1 y2 y3 y4 y5) (slices_stableCmpFunc_int.l0 (k + 1) y0 y1 y2 y3 y4 y5)) ∧ (∀ y0 y1 y2 y3,LeO (slices_stableCmpFunc_int.l1 k y0 y1 y2 y3) (slices_stableCmpFunc_int.l1 (k + 1) y0 y1 y2 y3)) ∧ (∀ y0 y1 y2 y3 y4 y5,LeO (slices_stableCmpFunc_int.l2 k y0 y1 y2 y3 y4 y5) (slices_stableCmpFunc_int.l2 (k + 1) y0 y1 y2 y3 y4 y5))
 | 0=>⟨fun _ _ _ _ _ _ r h=>by simp [slices_stableCmpFunc_int.l0] at h,fun _ _ _ _ r h=>by simp [slices_stableCmpFunc_int.l1] at h,fun _ _ _ _ _ _ r h=>by simp [slices_stableCmpFunc_int.l2] at h⟩
 | k + 1=>by
  obtain ⟨ih0,ih1,ih2⟩:=slices_stableCmpFunc_int.mono_l k;refine ⟨?_,?_,?_⟩
  ·intro y0 y1 y2 y3 y4 y5;unfold slices_stableCmpFunc_int.l0
   repeat' first
   | (with_reducible exact ih0 _ _ _ _ _ _)
   | (with_reducible exact ih1 _ _ _ _)
   | (with_reducible exact ih2 _ _ _ _ _ _)
   | (with_reducible exact slices_insertionSortCmpFunc_int.mono _ _ _ _ _)
   | (with_reducible exact LeO.refl _)
   | (with_reducible exact LeO.none _)
   | (with_reducible refine LeO.trans (slices_insertionSortCmpFunc_int.mono _ _ _ _ _) (slices_insertionSortCmpFunc_int.mono_p (fun _ _=>?_) _ _ _ _))
   | (with_reducible refine LeO.ite ?_ ?_)
   | (with_reducible refine LeO.bind ?_ (fun _=>?_))
   | exact ih0 _ _ _ _ _ _
   | exact ih1 _ _ _ _
   | exact ih2 _ _ _ _ _ _
   | exact slices_insertionSortCmpFunc_int.mono _ _ _ _ _
   | exact LeO.none _
   | refine LeO.ite ?_ ?_
   | refine LeO.bind ?_ (fun _=>?_)
  ·intro y0 y1 y2 y3;unfold slices_stableCmpFunc_int.l1
   repeat' first
   | (with_reducible exact ih0 _ _ _ _ _ _)
   | (with_reducible exact ih1 _ _ _ _)
   | (with_reducible exact ih2 _ _ _ _ _ _)
   | (with_reducible exact slices_insertionSortCmpFunc_int.mono _ _ _ _ _)
   | (with_reducible exact LeO.refl _)
   | (with_reducible exact LeO.none _)
   | (with_reducible refine LeO.trans (slices_insertionSortCmpFunc_int.mono _ _ _ _ _) (slices_insertionSortCmpFunc_int.mono_p (fun _ _=>?_) _ _ _ _))
   | (with_reducible refine LeO.ite ?_ ?_)
   | (with_reducible refine LeO.bind ?_ (fun _=>?_))
   | exact ih0 _ _ _ _ _ _
   | exact ih1 _ _ _ _
   | exact ih2 _ _ _ _ _ _
   | exact slices_insertionSortCmpFunc_int.mono _ _ _ _ _
   | exact LeO.none _
   | refine LeO.ite ?_ ?_
   | refine LeO.bind ?_ (fun _=>?_)
  ·intro y0 y1 y2 y3 y4 y5;unfold slices_stableCmpFunc_int.l2
   repeat' first
   | (with_reducible exact ih0 _ _ _ _ _ _)
   | (with_reducible exact ih1 _ _ _ _)
   | (with_reducible exact ih2 _ _ _ _ _ _)
   | (with_reducible exact slices_insertionSortCmpFunc_int.mono _ _ _ _ _)
   | (with_reducible exact LeO.refl _)
   | (with_reducible exact LeO.none _)
   | (with_reducible refine LeO.trans (slices_insertionSortCmpFunc_int.mono _ _ _ _ _) (slices_insertionSortCmpFunc_int.mono_p (fun _ _=>?_) _ _ _ _))
   | (with_reducible refine LeO.ite ?_ ?_)
   | (with_reducible refine LeO.bind ?_ (fun _=>?_))
   | exact ih0 _ _ _ _ _ _
   | exact ih1 _ _ _ _
   | exact ih2 _ _ _ _ _ _
   | exact slices_insertionSortCmpFunc_int.mono _ _ _ _ _
   | exact LeO.none _
   | refine LeO.ite ?_ ?_
   | refine LeO.bind ?_ (fun _=>?_)
theorem slices_stableCmpFunc_int.mono:∀ a0 a1 a2 k,LeO (slices_stableCmpFunc_int.f k a0 a1 a2) (slices_stableCmpFunc_int.f (k + 1) a0 a1 a2):=by
 intro a0 a1 a2 k;obtain ⟨ih0,ih1,ih2⟩:=slices_stableCmpFunc_int.mono_l k;unfold slices_stableCmpFunc_int.f
 repeat' first
   | (with_reducible exact ih0 _ _ _ _ _ _)
   | (with_reducible exact ih1 _ _ _ _)
   | (with_reducible exact ih2 _ _ _ _ _ _)
   | (with_reducible exact slices_insertionSortCmpFunc_int.mono _ _ _ _ _)
   | (with_reducible exact LeO.refl _)
   | (with_reducible exact LeO.none _)
   | (with_reducible refine LeO.trans (slices_insertionSortCmpFunc_int.mono _ _ _ _ _) (slices_insertionSortCmpFunc_int.mono_p (fun _ _=>?_) _ _ _ _))
   | (with_reducible refine LeO.ite ?_ ?_)
   | (with_reducible refine LeO.bind ?_ (fun _=>?_))
   | exact ih0 _ _ _ _ _ _
   | exact ih1 _ _ _ _
   | exact ih2 _ _ _ _ _ _
   | exact slices_insertionSortCmpFunc_int.mono _ _ _ _ _
   | exact LeO.none _
   | refine LeO.ite ?_ ?_
   | refine LeO.bind ?_ (fun _=>?_)
theorem slices_stableCmpFunc_int.monop_l {p_ q_:(Int → Int → Option (Int))} (h_:∀ x0_ x1_,LeO (p_ x0_ x1_) (q_ x0_ x1_)):∀ k,(∀ y0 y1 y3 y4 y5,LeO (slices_stableCmpFunc_int.l0 k y0 y1 p_ y3 y4 y5) (slices_stableCmpFunc_int.l0 k y0 y1 q_ y3 y4 y5)) ∧ (∀ y0 y1 y3,LeO (slices_stableCmpFunc_int.l1 k y0 y1 p_ y3) (slices_stableCmpFunc_int.l1 k y0 y1 q_ y3)) ∧ (∀ y0 y1 y3 y4 y5,LeO (slices_stableCmpFunc_int.l2 k y0 y1 p_ y3 y4 y5) (slices_stableCmpFunc_int.l2 k y0 y1 q_ y3 y4 y5))
 | 0=>⟨fun _ _ _ _ _ r hz=>by simp [slices_stableCmpFunc_int.l0] at hz,fun _ _ _ r hz=>by simp [slices_stableCmpFunc_int.l1] at hz,fun _ _ _ _ _ r hz=>by simp [slices_stableCmpFunc_int.l2] at hz⟩
 | k + 1=>by
  obtain ⟨ih0,ih1,ih2⟩:=slices_stableCmpFunc_int.monop_l h_ k;refine ⟨?_,?_,?_⟩
  ·intro y0 y1 y2 y3 y4;unfold slices_stableCmpFunc_int.l0
   repeat' first
   | (with_reducible exact ih0 _ _ _ _ _)
   | (with_reducible exact ih1 _ _ _)
   | (with_reducible exact ih2 _ _ _ _ _)
   | (with_reducible exact h_ _ _)
   | (with_reducible refine slices_insertionSortCmpFunc_int.mono_p (fun _ _=>?_) _ _ _ _)
   | (with_reducible refine slices_insertionSortCmpFunc_int.mono_p (fun _ _=>?_) _ _ _ _)
   | (with_reducible exact LeO.refl _)
   | (with_reducible refine LeO.ite ?_ ?_)
   | (with_reducible refine LeO.bind ?_ (fun _=>?_))
   | exact ih0 _ _ _ _ _
   | exact ih1 _ _ _
   | exact ih2 _ _ _ _ _
   | exact h_ _ _
   | exact LeO.refl _
   | refine LeO.ite ?_ ?_
   | refine LeO.bind ?_ (fun _=>?_)
  ·intro y0 y1 y2;unfold slices_stableCmpFunc_int.l1
   repeat' first
   | (with_reducible exact ih0 _ _ _ _ _)
   | (with_reducible exact ih1 _ _ _)
   | (with_reducible exact ih2 _ _ _ _ _)
   | (with_reducible exact h_ _ _)
   | (with_reducible refine slices_insertionSortCmpFunc_int.mono_p (fun _ _=>?_) _ _ _ _)
   | (with_reducible refine slices_insertionSortCmpFunc_int.mono_p (fun _ _=>?_) _ _ _ _)
   | (with_reducible exact LeO.refl _)
   | (with_reducible refine LeO.ite ?_ ?_)
   | (with_reducible refine LeO.bind ?_ (fun _=>?_))
   | exact ih0 _ _ _ _ _
   | exact ih1 _ _ _
   | exact ih2 _ _ _ _ _
   | exact h_ _ _
   | exact LeO.refl _
   | refine LeO.ite ?_ ?_
   | refine LeO.bind ?_ (fun _=>?_)
  ·intro y0 y1 y2 y3 y4;unfold slices_stableCmpFunc_int.l2
   repeat' first
   | (with_reducible exact ih0 _ _ _ _ _)
   | (with_reducible exact ih1 _ _ _)
   | (with_reducible exact ih2 _ _ _ _ _)
   | (with_reducible exact h_ _ _)
   | (with_reducible refine slices_insertionSortCmpFunc_int.mono_p (fun _ _=>?_) _ _ _ _)
   | (with_reducible refine slices_insertionSortCmpFunc_int.mono_p (fun _ _=>?_) _ _ _ _)
   | (with_reducible exact LeO.refl _)
   | (with_reducible refine LeO.ite ?_ ?_)
   | (with_reducible refine LeO.bind ?_ (fun _=>?_))
   | exact ih0 _ _ _ _ _
   | exact ih1 _ _ _
   | exact ih2 _ _ _ _ _
   | exact h_ _ _
   | exact LeO.refl _
   | refine LeO.ite ?_ ?_
   | refine LeO.bind ?_ (fun _=>?_)
theorem slices_stableCmpFunc_int.mono_p {p_ q_:(Int → Int → Option (Int))} (h_:∀ x0_ x1_,LeO (p_ x0_ x1_) (q_ x0_ x1_)):∀ a0 a1 k,LeO (slices_stableCmpFunc_int.f k a0 a1 p_) (slices_stableCmpFunc_int.f k a0 a1 q_):=by
 intro a0 a1 k;obtain ⟨ih0,ih1,ih2⟩:=slices_stableCmpFunc_int.monop_l h_ k;unfold slices_stableCmpFunc_int.f
 repeat' first
   | (with_reducible exact ih0 _ _ _ _ _)
   | (with_reducible exact ih1 _ _ _)
   | (with_reducible exact ih2 _ _ _ _ _)
   | (with_reducible exact h_ _ _)
   | (with_reducible refine slices_insertionSortCmpFunc_int.mono_p (fun _ _=>?_) _ _ _ _)
   | (with_reducible refine slices_insertionSortCmpFunc_int.mono_p (fun _ _=>?_) _ _ _ _)
   | (with_reducible exact LeO.refl _)
   | (with_reducible refine LeO.ite ?_ ?_)
   | (with_reducible refine LeO.bind ?_ (fun _=>?_))
   | exact ih0 _ _ _ _ _
   | exact ih1 _ _ _
   | exact ih2 _ _ _ _ _
   | exact h_ _ _
   | exact LeO.refl _
   | refine LeO.ite ?_ ?_
   | refine LeO.bind ?_ (fun _=>?_)
set_option maxHeartbeats 8000000 in
set_option maxRecDepth 100000 in
theorem slices_stableCmpFunc_int.calls (k:Nat) (P0_:Nat → Prop) (u9000_:Value) (l0:List Int) (a1:Int) (a2:(Int → Int → Option (Int))) (g2_:Nat) (lb2_:Array Value) (eg2_:∀ (args:Array Value) (w:World),(callFunc g2_ args).run Try.prog w = .ok (.enter g2_ args) w) (r:List Int) (w0 w:World) (hB:Below w0.heap.size w0 w) (ho0:Kd.R (Kd.int .i64) 3 w w0.heap.size P0_ u9000_ l0) (hp2:∀ (W:World) (b0_:Int) (b1_:Int) (r0_:Int),a2 b0_ b1_ = some r0_ → Kept w W (fun k_=>P0_ k_) → Calls Try.prog g2_ (#[.int .i64 b0_,.int .i64 b1_] ++ lb2_) W fun e w'=>e = .returned (.int .i64 r0_) ∧ Below W.heap.size W w') (h:slices_stableCmpFunc_int.f k l0 a1 a2 = some r) :
  Calls Try.prog 130 #[u9000_,.int .i64 a1,.func (.func g2_) #[] lb2_] w fun e w'=>e = .returned (.tuple #[]) ∧ Kd.R (Kd.int .i64) 3 w' w0.heap.size (fun k_=>(P0_ k_ ∨ w.heap.size ≤ k_)) u9000_ r ∧ Below w0.heap.size w0 w' ∧ Kept w w' (fun k_=>P0_ k_):=by
 have HO0:=Aside0.mk (show Kd.R (Kd.int .i64) 3 w w0.heap.size (fun k_=>(P0_ k_ ∨ w.heap.size ≤ k_)) u9000_ l0 from Kd.R_mono ho0 (fun k_ hk=>(.inl hk)));have HP2:=Aside0.mk hp2;clear hp2;have HK:=Aside0.mk (Kept.refl w (fun k_=>P0_ k_));have HW0:=Aside0.mk hB.size;have HB:=Aside0.mk hB;clear hB;have H:(slices_stableCmpFunc_int.l0 k l0 a1 a2 20 0 20) = some r:=h;clear h;have H':=Aside0.mk H;clear H;go_enter Try.func130,Try.ntmps130;go_wp2
 (try simp only [Act.put,List.setIfInBounds_toArray,List.set_cons_succ,List.set_cons_zero])
 go_loopg [7,8] k (fun kq v7 v8 w'=>∃ (x0_1:List Int) (x7_1:Int) (x8_1:Int),v7 = .int .i64 x7_1 ∧ v8 = .int .i64 x8_1 ∧ Aside0 (slices_stableCmpFunc_int.l0 kq x0_1 a1 a2 20 x7_1 x8_1 = some r) ∧ Aside0 (kq ≤ k) ∧ Aside0 (Kd.R (Kd.int .i64) 3 w' w0.heap.size (fun k_=>(P0_ k_ ∨ w.heap.size ≤ k_)) u9000_ x0_1) ∧ Aside0 (Kept w w' (fun k_=>P0_ k_)) ∧ Aside0 (Below w0.heap.size w0 w'))
 case atStart=>exact ⟨(l0),(0),(20),(by first|rfl|(simp;done)|(simp [*];done)),(by first|rfl|(simp;done)|(simp [*];done)),H',⟨Nat.le_refl _⟩,⟨by (with_reducible repeat (first|apply Kd.R_alloc|apply Kd.R_drewN|apply Kd.R_drew));exact HO0.out⟩,⟨by repeat (first|(with_reducible first|exact HK.out|apply Kept.alloc|apply Kept.drewN|apply Kept.drew)|exact HK.out)⟩,⟨by repeat (first|(with_reducible first|exact HB.out|apply below_alloc|apply pw_below_drewN|apply below_drew1)|exact HB.out)⟩⟩
 case round =>
  clear H'
  try clear c1
  try clear p2
  obtain ⟨x0_1,x7_1,x8_1,rfl,rfl,HA,HK1,HO_0,HK,HB⟩:=hrel
  cases gk with
  | zero=>exact absurd HA.out (by simp [slices_stableCmpFunc_int.l0])
  | succ k1 =>
   have H:=HA.out;clear HA;simp only [slices_stableCmpFunc_int.l0] at H;by_cases c4:x8_1 ≤ a1
   ·rw [if_pos c4] at H;have c4b0:decide (x8_1 ≤ a1) = true:=decide_eq_true c4;clear c4;replace H:=Option.bind_eq_some_iff.mp H;obtain ⟨t339,A50,H⟩:=H;replace H:(slices_stableCmpFunc_int.l0 k1 t339 a1 a2 20 x8_1 (wrap64 (x8_1 + 20))) = some r:=H;have A5:=Aside0.mk A50;clear A50;have H':=Aside0.mk H;clear H;obtain ⟨Ao6,co6,eo6⟩:=Kd.R_slice HO_0.out;subst eo6;go_wp2_with (first|((with_reducible refine gate_callee (f:=156) rfl ?_);refine goesL_ (some 18) rfl rfl Try.func156 (by kernel_rfl) rfl #[.slice Ao6 x0_1.length co6,.int .i64 x7_1,.int .i64 x8_1,.func (.func g2_) #[] lb2_] rfl mq ?_;(with_reducible refine (slices_insertionSortCmpFunc_int.calls k1 (fun k_=>some k_ = (.slice Ao6 x0_1.length co6:Value).ownBlock) (.slice Ao6 x0_1.length co6) x0_1 x7_1 x8_1 a2 g2_ lb2_ eg2_ t339 w0 _ ?side1 ?side2 ?side3 A5.out).mono ?_);(case side1=>repeat (first|(with_reducible first|exact HB.out|apply below_alloc|apply pw_below_drewN|apply below_drew1)|exact HB.out));(case side2=>exact Kd.R_tight rfl HO_0.out);(case side3=>exact (fun W_ a0_ a1_ r0_ hx_ hb_ =>HP2.out W_ a0_ a1_ r0_ hx_ (Kept.then_ (S:=(fun k_=>P0_ k_)) (by repeat (first|(with_reducible first|exact HK.out|apply Kept.alloc|apply Kept.drewN|apply Kept.drew)|exact HK.out)) hb_ (fun k_ hs_=>(fun e_=>(HO_0.out.1 k_ e_.symm)) hs_)) ));rintro e w7 ⟨rfl,hy0,hb,hkp⟩;refine ⟨_,rfl,?_⟩;have n0_:=Aside0.mk (Kd.R_reok rfl hy0 (fun k_ e_=>HO_0.out.1 k_ e_));have n1_:=Aside0.mk (Kept.then_ (S:=(fun k_=>P0_ k_)) (by repeat (first|(with_reducible first|exact HK.out|apply Kept.alloc|apply Kept.drewN|apply Kept.drew)|exact HK.out)) hkp (fun k_ hs_=>(fun e_=>(HO_0.out.1 k_ e_.symm)) hs_));have n2_:=Aside0.mk (hb);clear HO_0;clear HK;clear HB;have HO_0:=n0_;have HK:=n1_;have HB:=n2_;clear n0_ n1_ n2_;(try clear hb);(try clear hkp);(try clear hy0)))
    go_roundg k1
    case measure=>have:=HK1.out;omega
    case rel=>exact ⟨(t339),(x8_1),(wrap64 (x8_1 + 20)),(by first|rfl|(simp;done)|(simp [*];done)),(by first|rfl|(simp;done)|(simp [*];done)),H',⟨by have:=HK1.out;omega⟩,⟨by (with_reducible repeat (first|apply Kd.R_alloc|apply Kd.R_drewN|apply Kd.R_drew));exact HO_0.out⟩,⟨by repeat (first|(with_reducible first|exact HK.out|apply Kept.alloc|apply Kept.drewN|apply Kept.drew)|exact HK.out)⟩,⟨by repeat (first|(with_reducible first|exact HB.out|apply below_alloc|apply pw_below_drewN|apply below_drew1)|exact HB.out)⟩⟩
   ·rw [if_neg c4] at H;have c4b0:decide (x8_1 ≤ a1) = false:=decide_eq_false c4;clear c4;replace H:=Option.bind_eq_some_iff.mp H;obtain ⟨t340,A80,H⟩:=H;replace H:(slices_stableCmpFunc_int.l1 k1 t340 a1 a2 20) = some r:=H;have A8:=Aside0.mk A80;clear A80;have H':=Aside0.mk H;clear H;obtain ⟨Ao9,co9,eo9⟩:=Kd.R_slice HO_0.out;subst eo9;go_wp2_with (first|((with_reducible refine gate_callee (f:=156) rfl ?_);refine goesL_ (some 27) rfl rfl Try.func156 (by kernel_rfl) rfl #[.slice Ao9 x0_1.length co9,.int .i64 x7_1,.int .i64 a1,.func (.func g2_) #[] lb2_] rfl mq ?_;(with_reducible refine (slices_insertionSortCmpFunc_int.calls k1 (fun k_=>some k_ = (.slice Ao9 x0_1.length co9:Value).ownBlock) (.slice Ao9 x0_1.length co9) x0_1 x7_1 a1 a2 g2_ lb2_ eg2_ t340 w0 _ ?side1 ?side2 ?side3 A8.out).mono ?_);(case side1=>repeat (first|(with_reducible first|exact HB.out|apply below_alloc|apply pw_below_drewN|apply below_drew1)|exact HB.out));(case side2=>exact Kd.R_tight rfl HO_0.out);(case side3=>exact (fun W_ a0_ a1_ r0_ hx_ hb_ =>HP2.out W_ a0_ a1_ r0_ hx_ (Kept.then_ (S:=(fun k_=>P0_ k_)) (by repeat (first|(with_reducible first|exact HK.out|apply Kept.alloc|apply Kept.drewN|apply Kept.drew)|exact HK.out)) hb_ (fun k_ hs_=>(fun e_=>(HO_0.out.1 k_ e_.symm)) hs_)) ));rintro e w10 ⟨rfl,hy0,hb,hkp⟩;refine ⟨_,rfl,?_⟩;have n0_:=Aside0.mk (Kd.R_reok rfl hy0 (fun k_ e_=>HO_0.out.1 k_ e_));have n1_:=Aside0.mk (Kept.then_ (S:=(fun k_=>P0_ k_)) (by repeat (first|(with_reducible first|exact HK.out|apply Kept.alloc|apply Kept.drewN|apply Kept.drew)|exact HK.out)) hkp (fun k_ hs_=>(fun e_=>(HO_0.out.1 k_ e_.symm)) hs_));have n2_:=Aside0.mk (hb);clear HO_0;clear HK;clear HB;have HO_0:=n0_;have HK:=n1_;have HB:=n2_;clear n0_ n1_ n2_;(try clear hb);(try clear hkp);(try clear hy0)))
    (try simp only [Act.put,List.setIfInBounds_toArray,List.set_cons_succ,List.set_cons_zero])
    go_loopg [6] k1 (fun kq v6 w'=>∃ (x0_2:List Int) (x6_2:Int),v6 = .int .i64 x6_2 ∧ Aside0 (slices_stableCmpFunc_int.l1 kq x0_2 a1 a2 x6_2 = some r) ∧ Aside0 (kq ≤ k1) ∧ Aside0 (Kd.R (Kd.int .i64) 3 w' w0.heap.size (fun k_=>(P0_ k_ ∨ w.heap.size ≤ k_)) (.slice Ao9 x0_1.length co9) x0_2) ∧ Aside0 (Kept w w' (fun k_=>P0_ k_)) ∧ Aside0 (Below w0.heap.size w0 w'))
    case atStart=>exact ⟨(t340),(20),(by first|rfl|(simp;done)|(simp [*];done)),H',⟨Nat.le_refl _⟩,⟨by (with_reducible repeat (first|apply Kd.R_alloc|apply Kd.R_drewN|apply Kd.R_drew));exact HO_0.out⟩,⟨by repeat (first|(with_reducible first|exact HK.out|apply Kept.alloc|apply Kept.drewN|apply Kept.drew)|exact HK.out)⟩,⟨by repeat (first|(with_reducible first|exact HB.out|apply below_alloc|apply pw_below_drewN|apply below_drew1)|exact HB.out)⟩⟩
    case round =>
     clear H'
     try clear c1
     try clear p2
     try clear c4
     try clear c4b0
     try clear p6
     try clear p2
     obtain ⟨x0_2,x6_2,rfl,HA,HK2,HO_0,HK,HB⟩:=hrel;have hl0_2:=(Kd.R_reads' HO_0.out).1;rw [hl0_2] at HO_0;(try simp only [hl0_2])
     cases gk with
     | zero=>exact absurd HA.out (by simp [slices_stableCmpFunc_int.l1])
     | succ k2 =>
      have H:=HA.out;clear HA;simp only [slices_stableCmpFunc_int.l1] at H;by_cases c11:x6_2 < a1
      ·rw [if_pos c11] at H;have c11b0:decide (x6_2 < a1) = true:=decide_eq_true c11;clear c11;have H':=Aside0.mk H;clear H;go_wp2
       (try simp only [Act.put,List.setIfInBounds_toArray,List.set_cons_succ,List.set_cons_zero])
       go_loopg [7,8] k2 (fun kq v7 v8 w'=>∃ (x0_3:List Int) (x7_3:Int) (x8_3:Int),v7 = .int .i64 x7_3 ∧ v8 = .int .i64 x8_3 ∧ Aside0 (slices_stableCmpFunc_int.l2 kq x0_3 a1 a2 x6_2 x7_3 x8_3 = some r) ∧ Aside0 (kq ≤ k2) ∧ Aside0 (Kd.R (Kd.int .i64) 3 w' w0.heap.size (fun k_=>(P0_ k_ ∨ w.heap.size ≤ k_)) (.slice Ao9 x0_2.length co9) x0_3) ∧ Aside0 (Kept w w' (fun k_=>P0_ k_)) ∧ Aside0 (Below w0.heap.size w0 w'))
       case atStart=>exact ⟨(x0_2),(0),(wrap64 (2 * x6_2)),(by first|rfl|(simp;done)|(simp [*];done)),(by first|rfl|(simp;done)|(simp [*];done)),H',⟨Nat.le_refl _⟩,⟨by (try simp only [hl0_2]);(with_reducible repeat (first|apply Kd.R_alloc|apply Kd.R_drewN|apply Kd.R_drew));exact HO_0.out⟩,⟨by repeat (first|(with_reducible first|exact HK.out|apply Kept.alloc|apply Kept.drewN|apply Kept.drew)|exact HK.out)⟩,⟨by repeat (first|(with_reducible first|exact HB.out|apply below_alloc|apply pw_below_drewN|apply below_drew1)|exact HB.out)⟩⟩
       case round =>
        clear H'
        try clear c1
        try clear p2
        try clear c4
        try clear c4b0
        try clear p6
        try clear c11
        try clear c11b0
        try clear p2
        try clear p6
        obtain ⟨x0_3,x7_3,x8_3,rfl,rfl,HA,HK3,HO_0,HK,HB⟩:=hrel;have hl0_3:=(Kd.R_reads' HO_0.out).1;rw [hl0_3] at HO_0;(try simp only [hl0_3])
        cases gk with
        | zero=>exact absurd HA.out (by simp [slices_stableCmpFunc_int.l2])
        | succ k3 =>
         have H:=HA.out;clear HA;simp only [slices_stableCmpFunc_int.l2] at H;by_cases c12:x8_3 ≤ a1
         ·rw [if_pos c12] at H;have c12b0:decide (x8_3 ≤ a1) = true:=decide_eq_true c12;clear c12;replace H:=Option.bind_eq_some_iff.mp H;obtain ⟨t341,A130,H⟩:=H;replace H:(slices_stableCmpFunc_int.l2 k3 t341 a1 a2 x6_2 x8_3 (wrap64 (x8_3 + (wrap64 (2 * x6_2))))) = some r:=H;have A13:=Aside0.mk A130;clear A130;have H':=Aside0.mk H;clear H;go_wp2_with (first|((with_reducible refine gate_callee (f:=157) rfl ?_);refine goesL_ (some 43) rfl rfl Try.func157 (by kernel_rfl) rfl #[.slice Ao9 x0_3.length co9,.int .i64 x7_3,.int .i64 (wrap64 (x7_3 + x6_2)),.int .i64 x8_3,.func (.func g2_) #[] lb2_] rfl mq ?_;(with_reducible refine (slices_symMergeCmpFunc_int.calls (fun k_=>some k_ = (.slice Ao9 x0_3.length co9:Value).ownBlock) (.slice Ao9 x0_3.length co9) x0_3 x7_3 (wrap64 (x7_3 + x6_2)) x8_3 a2 g2_ lb2_ eg2_ t341 w0 _ ?side1 ?side2 ?side3 A13.out).mono ?_);(case side1=>repeat (first|(with_reducible first|exact HB.out|apply below_alloc|apply pw_below_drewN|apply below_drew1)|exact HB.out));(case side2=>exact Kd.R_tight rfl HO_0.out);(case side3=>exact (fun W_ a0_ a1_ r0_ hx_ hb_ =>HP2.out W_ a0_ a1_ r0_ hx_ (Kept.then_ (S:=(fun k_=>P0_ k_)) (by repeat (first|(with_reducible first|exact HK.out|apply Kept.alloc|apply Kept.drewN|apply Kept.drew)|exact HK.out)) hb_ (fun k_ hs_=>(fun e_=>(HO_0.out.1 k_ e_.symm)) hs_)) ));rintro e w14 ⟨rfl,hy0,hb,hkp⟩;refine ⟨_,rfl,?_⟩;have n0_:=Aside0.mk (Kd.R_reok rfl hy0 (fun k_ e_=>HO_0.out.1 k_ e_));have n1_:=Aside0.mk (Kept.then_ (S:=(fun k_=>P0_ k_)) (by repeat (first|(with_reducible first|exact HK.out|apply Kept.alloc|apply Kept.drewN|apply Kept.drew)|exact HK.out)) hkp (fun k_ hs_=>(fun e_=>(HO_0.out.1 k_ e_.symm)) hs_));have n2_:=Aside0.mk (hb);clear HO_0;clear HK;clear HB;have HO_0:=n0_;have HK:=n1_;have HB:=n2_;clear n0_ n1_ n2_;(try clear hb);(try clear hkp);(try clear hy0)))
          (try simp only [← hl0_3])
          go_roundg k3
          case measure=>have:=HK1.out;have:=HK2.out;have:=HK3.out;omega
          case rel=>exact ⟨(t341),(x8_3),(wrap64 (x8_3 + (wrap64 (2 * x6_2)))),(by first|rfl|(simp;done)|(simp [*];done)),(by first|rfl|(simp;done)|(simp [*];done)),H',⟨by have:=HK1.out;have:=HK2.out;have:=HK3.out;omega⟩,⟨by (try simp only [hl0_2]);(try simp only [hl0_3]);(with_reducible repeat (first|apply Kd.R_alloc|apply Kd.R_drewN|apply Kd.R_drew));exact HO_0.out⟩,⟨by repeat (first|(with_reducible first|exact HK.out|apply Kept.alloc|apply Kept.drewN|apply Kept.drew)|exact HK.out)⟩,⟨by repeat (first|(with_reducible first|exact HB.out|apply below_alloc|apply pw_below_drewN|apply below_drew1)|exact HB.out)⟩⟩
         ·rw [if_neg c12] at H;have c12b0:decide (x8_3 ≤ a1) = false:=decide_eq_false c12;clear c12;by_cases c15:(wrap64 (x7_3 + x6_2)) < a1
          ·rw [if_pos c15] at H;have c15b0:decide ((wrap64 (x7_3 + x6_2)) < a1) = true:=decide_eq_true c15;clear c15;replace H:=Option.bind_eq_some_iff.mp H;obtain ⟨t342,A160,H⟩:=H;replace H:(slices_stableCmpFunc_int.l1 k3 t342 a1 a2 (wrap64 (x6_2 * 2))) = some r:=H;have A16:=Aside0.mk A160;clear A160;have H':=Aside0.mk H;clear H;go_wp2_with (first|((with_reducible refine gate_callee (f:=157) rfl ?_);refine goesL_ (some 60) rfl rfl Try.func157 (by kernel_rfl) rfl #[.slice Ao9 x0_3.length co9,.int .i64 x7_3,.int .i64 (wrap64 (x7_3 + x6_2)),.int .i64 a1,.func (.func g2_) #[] lb2_] rfl mq ?_;(with_reducible refine (slices_symMergeCmpFunc_int.calls (fun k_=>some k_ = (.slice Ao9 x0_3.length co9:Value).ownBlock) (.slice Ao9 x0_3.length co9) x0_3 x7_3 (wrap64 (x7_3 + x6_2)) a1 a2 g2_ lb2_ eg2_ t342 w0 _ ?side1 ?side2 ?side3 A16.out).mono ?_);(case side1=>repeat (first|(with_reducible first|exact HB.out|apply below_alloc|apply pw_below_drewN|apply below_drew1)|exact HB.out));(case side2=>exact Kd.R_tight rfl HO_0.out);(case side3=>exact (fun W_ a0_ a1_ r0_ hx_ hb_ =>HP2.out W_ a0_ a1_ r0_ hx_ (Kept.then_ (S:=(fun k_=>P0_ k_)) (by repeat (first|(with_reducible first|exact HK.out|apply Kept.alloc|apply Kept.drewN|apply Kept.drew)|exact HK.out)) hb_ (fun k_ hs_=>(fun e_=>(HO_0.out.1 k_ e_.symm)) hs_)) ));rintro e w17 ⟨rfl,hy0,hb,hkp⟩;refine ⟨_,rfl,?_⟩;have n0_:=Aside0.mk (Kd.R_reok rfl hy0 (fun k_ e_=>HO_0.out.1 k_ e_));have n1_:=Aside0.mk (Kept.then_ (S:=(fun k_=>P0_ k_)) (by repeat (first|(with_reducible first|exact HK.out|apply Kept.alloc|apply Kept.drewN|apply Kept.drew)|exact HK.out)) hkp (fun k_ hs_=>(fun e_=>(HO_0.out.1 k_ e_.symm)) hs_));have n2_:=Aside0.mk (hb);clear HO_0;clear HK;clear HB;have HO_0:=n0_;have HK:=n1_;have HB:=n2_;clear n0_ n1_ n2_;(try clear hb);(try clear hkp);(try clear hy0)))
           (try simp only [← hl0_2,← hl0_3])
           go_roundg k3
           case measure=>have:=HK1.out;have:=HK2.out;have:=HK3.out;omega
           case rel=>exact ⟨(t342),(wrap64 (x6_2 * 2)),(by first|rfl|(simp;done)|(simp [*];done)),H',⟨by have:=HK1.out;have:=HK2.out;have:=HK3.out;omega⟩,⟨by (try simp only [hl0_2]);(try simp only [hl0_3]);(with_reducible repeat (first|apply Kd.R_alloc|apply Kd.R_drewN|apply Kd.R_drew));exact HO_0.out⟩,⟨by repeat (first|(with_reducible first|exact HK.out|apply Kept.alloc|apply Kept.drewN|apply Kept.drew)|exact HK.out)⟩,⟨by repeat (first|(with_reducible first|exact HB.out|apply below_alloc|apply pw_below_drewN|apply below_drew1)|exact HB.out)⟩⟩
          ·rw [if_neg c15] at H;have c15b0:decide ((wrap64 (x7_3 + x6_2)) < a1) = false:=decide_eq_false c15;clear c15;have H':=Aside0.mk H;clear H;go_wp2
           (try simp only [← hl0_2,← hl0_3])
           go_roundg k3
           case measure=>have:=HK1.out;have:=HK2.out;have:=HK3.out;omega
           case rel=>exact ⟨(x0_3),(wrap64 (x6_2 * 2)),(by first|rfl|(simp;done)|(simp [*];done)),H',⟨by have:=HK1.out;have:=HK2.out;have:=HK3.out;omega⟩,⟨by (try simp only [hl0_2]);(try simp only [hl0_3]);(with_reducible repeat (first|apply Kd.R_alloc|apply Kd.R_drewN|apply Kd.R_drew));exact HO_0.out⟩,⟨by repeat (first|(with_reducible first|exact HK.out|apply Kept.alloc|apply Kept.drewN|apply Kept.drew)|exact HK.out)⟩,⟨by repeat (first|(with_reducible first|exact HB.out|apply below_alloc|apply pw_below_drewN|apply below_drew1)|exact HB.out)⟩⟩
      ·rw [if_neg c11] at H;have c11b0:decide (x6_2 < a1) = false:=decide_eq_false c11;clear c11;obtain rfl:=Option.some.inj H;go_wp2
       first|go_end0|((try simp only [Exit.inBlock,Exit.then]);refine bodyPost_ret (results_none rfl _ _ _) rfl ?_)
       exact ⟨by first|rfl|(simp [errW_none,errW_some] <;> rfl)|(simp [*,errW_none,errW_some] <;> rfl),(by first|exact (by (with_reducible repeat (first|apply Kd.R_alloc|apply Kd.R_drewN|apply Kd.R_drew));exact HO_0.out)|(simp only [hl0_2];exact (by (with_reducible repeat (first|apply Kd.R_alloc|apply Kd.R_drewN|apply Kd.R_drew));exact HO_0.out))),by repeat (first|(with_reducible first|exact HB.out|apply below_alloc|apply pw_below_drewN|apply below_drew1)|exact HB.out),by repeat (first|(with_reducible first|exact HK.out|apply Kept.alloc|apply Kept.drewN|apply Kept.drew)|exact HK.out)⟩


/-! ### slices_SortStableFunc_int_int: function 95 -/
def slices_SortStableFunc_int_int.f (k:Nat) (l0:List Int) (a1:(Int → Int → Option (Int))):Option (List Int):=(slices_stableCmpFunc_int.f k l0 (l0.length:Int) a1).bind fun t343=>(some t343)
theorem slices_SortStableFunc_int_int.mono:∀ a0 a1 k,LeO (slices_SortStableFunc_int_int.f k a0 a1) (slices_SortStableFunc_int_int.f (k + 1) a0 a1):=by
 intro a0 a1 k;unfold slices_SortStableFunc_int_int.f
 repeat' with_reducible first|exact slices_stableCmpFunc_int.mono _ _ _ _|exact LeO.refl _|exact LeO.none _|refine LeO.trans (slices_stableCmpFunc_int.mono _ _ _ _) (slices_stableCmpFunc_int.mono_p (fun _ _=>?_) _ _ _)|refine LeO.ite ?_ ?_|refine LeO.bind ?_ (fun _=>?_)
theorem slices_SortStableFunc_int_int.mono_p {p_ q_:(Int → Int → Option (Int))} (h_:∀ x0_ x1_,LeO (p_ x0_ x1_) (q_ x0_ x1_)):∀ a0 k,LeO (slices_SortStableFunc_int_int.f k a0 p_) (slices_SortStableFunc_int_int.f k a0 q_):=by
 intro a0 k;unfold slices_SortStableFunc_int_int.f
 repeat' with_reducible first|exact h_ _ _|refine slices_stableCmpFunc_int.mono_p (fun _ _=>?_) _ _ _|exact LeO.refl _|refine LeO.ite ?_ ?_|refine LeO.bind ?_ (fun _=>?_)
set_option maxHeartbeats 8000000 in
set_option maxRecDepth 100000 in
theorem slices_SortStableFunc_int_int.calls (k:Nat) (P0_:Nat → Prop) (u9000_:Value) (l0:List Int) (a1:(Int → Int → Option (Int))) (g1_:Nat) (lb1_:Array Value) (eg1_:∀ (args:Array Value) (w:World),(callFunc g1_ args).run Try.prog w = .ok (.enter g1_ args) w) (r:List Int) (w0 w:World) (hB:Below w0.heap.size w0 w) (ho0:Kd.R (Kd.int .i64) 3 w w0.heap.size P0_ u9000_ l0) (hp1:∀ (W:World) (b0_:Int) (b1_:Int) (r0_:Int),a1 b0_ b1_ = some r0_ → Kept w W (fun k_=>P0_ k_) → Calls Try.prog g1_ (#[.int .i64 b0_,.int .i64 b1_] ++ lb1_) W fun e w'=>e = .returned (.int .i64 r0_) ∧ Below W.heap.size W w') (h:slices_SortStableFunc_int_int.f k l0 a1 = some r) :
  Calls Try.prog 95 #[u9000_,.func (.func g1_) #[] lb1_] w fun e w'=>e = .returned (.tuple #[]) ∧ Kd.R (Kd.int .i64) 3 w' w0.heap.size (fun k_=>(P0_ k_ ∨ w.heap.size ≤ k_)) u9000_ r ∧ Below w0.heap.size w0 w' ∧ Kept w w' (fun k_=>P0_ k_):=by
 have HO0:=Aside0.mk (show Kd.R (Kd.int .i64) 3 w w0.heap.size (fun k_=>(P0_ k_ ∨ w.heap.size ≤ k_)) u9000_ l0 from Kd.R_mono ho0 (fun k_ hk=>(.inl hk)));have HP1:=Aside0.mk hp1;clear hp1;have HK:=Aside0.mk (Kept.refl w (fun k_=>P0_ k_));have HW0:=Aside0.mk hB.size;have HB:=Aside0.mk hB;clear hB;have H:((slices_stableCmpFunc_int.f k l0 (l0.length:Int) a1).bind fun t343=>(some t343)) = some r:=h;clear h;replace H:=Option.bind_eq_some_iff.mp H;obtain ⟨t343,A30,H⟩:=H;replace H:(some t343) = some r:=H;have A3:=Aside0.mk A30;clear A30;obtain rfl:=Option.some.inj H;obtain ⟨Ao4,co4,eo4⟩:=Kd.R_slice HO0.out;subst eo4;go_enter Try.func95,Try.ntmps95;go_wp2_with (first|((with_reducible refine gate_callee (f:=130) rfl ?_);refine goesL_ (some 8) rfl rfl Try.func130 (by kernel_rfl) rfl #[.slice Ao4 l0.length co4,.int .i64 (l0.length:Int),.func (.func g1_) #[] lb1_] rfl mq ?_;(with_reducible refine (slices_stableCmpFunc_int.calls k (fun k_=>some k_ = (.slice Ao4 l0.length co4:Value).ownBlock) (.slice Ao4 l0.length co4) l0 (l0.length:Int) a1 g1_ lb1_ eg1_ t343 w0 _ ?side1 ?side2 ?side3 A3.out).mono ?_);(case side1=>repeat (first|(with_reducible first|exact HB.out|apply below_alloc|apply pw_below_drewN|apply below_drew1)|exact HB.out));(case side2=>exact Kd.R_tight rfl HO0.out);(case side3=>exact (fun W_ a0_ a1_ r0_ hx_ hb_ =>HP1.out W_ a0_ a1_ r0_ hx_ (Kept.then_ (S:=(fun k_=>P0_ k_)) (by repeat (first|(with_reducible first|exact HK.out|apply Kept.alloc|apply Kept.drewN|apply Kept.drew)|exact HK.out)) hb_ (fun k_ hs_=>(fun e_=>(HO0.out.1 k_ e_.symm)) hs_)) ));rintro e w5 ⟨rfl,hy0,hb,hkp⟩;refine ⟨_,rfl,?_⟩;have n0_:=Aside0.mk (Kd.R_reok rfl hy0 (fun k_ e_=>HO0.out.1 k_ e_));have n1_:=Aside0.mk (Kept.then_ (S:=(fun k_=>P0_ k_)) (by repeat (first|(with_reducible first|exact HK.out|apply Kept.alloc|apply Kept.drewN|apply Kept.drew)|exact HK.out)) hkp (fun k_ hs_=>(fun e_=>(HO0.out.1 k_ e_.symm)) hs_));have n2_:=Aside0.mk (hb);clear HO0;clear HK;clear HB;have HO0:=n0_;have HK:=n1_;have HB:=n2_;clear n0_ n1_ n2_;(try clear hb);(try clear hkp);(try clear hy0)))
 first|go_end0|((try simp only [Exit.inBlock,Exit.then]);refine bodyPost_ret (results_none rfl _ _ _) rfl ?_)
 exact ⟨by first|rfl|(simp [errW_none,errW_some] <;> rfl)|(simp [*,errW_none,errW_some] <;> rfl),by (with_reducible repeat (first|apply Kd.R_alloc|apply Kd.R_drewN|apply Kd.R_drew));exact HO0.out,by repeat (first|(with_reducible first|exact HB.out|apply below_alloc|apply pw_below_drewN|apply below_drew1)|exact HB.out),by repeat (first|(with_reducible first|exact HK.out|apply Kept.alloc|apply Kept.drewN|apply Kept.drew)|exact HK.out)⟩


/-! ### impl_OrderOfWorth_2: function 96 -/
def impl_OrderOfWorth_2.f (k:Nat) (a0:Int) (a1:Int) (a2_0:Int) (l2_1:List Bool):Option (Int):=(impl_votes_isGreater.f k a2_0 l2_1 a0 a1).bind fun t347=>(if t347 = true then (some (-1)) else ((impl_votes_isGreater.f k a2_0 l2_1 a1 a0).bind fun t348=>(if t348 = true then (some 1) else (some 0))))
theorem impl_OrderOfWorth_2.mono:∀ a0 a1 a2 a3 k,LeO (impl_OrderOfWorth_2.f k a0 a1 a2 a3) (impl_OrderOfWorth_2.f (k + 1) a0 a1 a2 a3):=by
 intro a0 a1 a2 a3 k;unfold impl_OrderOfWorth_2.f
 repeat' with_reducible first|exact impl_votes_isGreater.mono _ _ _ _ _|exact LeO.refl _|exact LeO.none _|refine LeO.ite ?_ ?_|refine LeO.bind ?_ (fun _=>?_)
set_option maxHeartbeats 8000000 in
set_option maxRecDepth 100000 in
theorem impl_OrderOfWorth_2.calls (k:Nat) (a0:Int) (a1:Int) (gc2:Nat) (a2_0:Int) (A2_1:Option Addr) (c2_1:Nat) (l2_1:List Bool) (r:Int) (w:World) (hr2_1:Kd.C Kd.bool w A2_1 l2_1.length l2_1) (hc2_1:l2_1.length ≤ c2_1) (hb2:w.heap[gc2]? = some (.cells #[.int .i64 a2_0,.slice A2_1 l2_1.length c2_1] 68 (0,0))) (h:impl_OrderOfWorth_2.f k a0 a1 a2_0 l2_1 = some r) :
  Calls Try.prog 96 #[.int .i64 a0,.int .i64 a1,.pointer (some ⟨gc2,0,none⟩)] w fun e w'=>e = .returned (.int .i64 r) ∧ Below w.heap.size w w':=by
 have hu68:=Try.underlying68;have HR2_1:=Aside0.mk hr2_1;have HC2_1:=Aside0.mk hc2_1;clear hr2_1 hc2_1;have BK2:=Aside0.mk hb2;clear hb2;have HB:=Aside0.mk (Below.refl w.heap.size w);have H:((impl_votes_isGreater.f k a2_0 l2_1 a0 a1).bind fun t347=>(if t347 = true then (some (-1)) else ((impl_votes_isGreater.f k a2_0 l2_1 a1 a0).bind fun t348=>(if t348 = true then (some 1) else (some 0))))) = some r:=h;clear h;replace H:=Option.bind_eq_some_iff.mp H;obtain ⟨t347,A40,H⟩:=H;replace H:(if t347 = true then (some (-1)) else ((impl_votes_isGreater.f k a2_0 l2_1 a1 a0).bind fun t348=>(if t348 = true then (some 1) else (some 0)))) = some r:=H;have A4:=Aside0.mk A40;clear A40;by_cases c5:t347 = true
 ·subst c5;have H1:(some (-1)) = some r:=by rw [if_pos rfl] at H;exact H
  clear H;have H:=H1;clear H1;obtain rfl:=Option.some.inj H;have hcz6_0:w.cell? ⟨gc2,0,none⟩ = some (.int .i64 a2_0):=(blk_cell BK2.out 0).trans rfl;have hcz6_1:w.cell? ⟨gc2,1,none⟩ = some (.slice A2_1 l2_1.length c2_1):=(blk_cell BK2.out 1).trans rfl;have hfz6_0:=blk_frozen BK2.out 0;have hfz6_1:=blk_frozen BK2.out 1;go_enter Try.func96,Try.ntmps96;go_wp2_with (first|((with_reducible refine gate_callee (f:=50) rfl ?_);refine goesL_ (some 10) rfl rfl Try.func50 (by kernel_rfl) rfl #[.agg #[.int .i64 a2_0,.slice A2_1 l2_1.length c2_1],.int .i64 a0,.int .i64 a1] rfl mq ?_;(with_reducible refine (impl_votes_isGreater.calls k a2_0 _ _ l2_1 a0 a1 true _ ?side1 ?side2 A4.out).mono ?_);(case side1=>repeat (first|exact HR2_1.out|(with_reducible refine Kd.C_alloc ?_ _)|(with_reducible refine Kd.C_drewN ?_ _)|(with_reducible refine Kd.C_drew ?_)));(case side2=>exact HC2_1.out);rintro e w7 ⟨rfl,hb⟩;refine ⟨_,rfl,?_⟩;have n0_:=Aside0.mk (blk_below (g:=gc2) (o:=.cells #[.int .i64 a2_0,.slice A2_1 l2_1.length c2_1] 68 (0,0)) bk hb);have n1_:=Aside0.mk (below_step bw hb);clear BK2;clear HB;have BK2:=n0_;have HB:=n1_;clear n0_ n1_;(try clear hb);(try clear hb2);(try clear hk);(try clear hi)))
  go_ret
  exact ⟨by first|rfl|(simp [errW_none,errW_some] <;> rfl)|(simp [*,errW_none,errW_some] <;> rfl),by repeat (first|(with_reducible first|exact HB.out|apply below_alloc|apply pw_below_drewN|apply below_drew1|refine below_set ?_ GE2.out)|exact HB.out)⟩
 ·replace c5:=Bool.eq_false_iff.mpr c5;subst c5;have H1:((impl_votes_isGreater.f k a2_0 l2_1 a1 a0).bind fun t348=>(if t348 = true then (some 1) else (some 0))) = some r:=by rw [if_neg (show ¬ (false = true) by decide)] at H;exact H
  clear H;have H:=H1;clear H1;replace H:=Option.bind_eq_some_iff.mp H;obtain ⟨t348,A80,H⟩:=H;replace H:(if t348 = true then (some 1) else (some 0)) = some r:=H;have A8:=Aside0.mk A80;clear A80;by_cases c9:t348 = true
  ·subst c9;have H1:(some 1) = some r:=by rw [if_pos rfl] at H;exact H
   clear H;have H:=H1;clear H1;obtain rfl:=Option.some.inj H;have hcz10_0:w.cell? ⟨gc2,0,none⟩ = some (.int .i64 a2_0):=(blk_cell BK2.out 0).trans rfl;have hcz10_1:w.cell? ⟨gc2,1,none⟩ = some (.slice A2_1 l2_1.length c2_1):=(blk_cell BK2.out 1).trans rfl;have hfz10_0:=blk_frozen BK2.out 0;have hfz10_1:=blk_frozen BK2.out 1;go_enter Try.func96,Try.ntmps96;go_wp2_with (first|((with_reducible refine gate_callee (f:=50) rfl ?_);refine goesL_ (some 10) rfl rfl Try.func50 (by kernel_rfl) rfl #[.agg #[.int .i64 a2_0,.slice A2_1 l2_1.length c2_1],.int .i64 a0,.int .i64 a1] rfl mq ?_;(with_reducible refine (impl_votes_isGreater.calls k a2_0 _ _ l2_1 a0 a1 false _ ?side1 ?side2 A4.out).mono ?_);(case side1=>repeat (first|exact HR2_1.out|(with_reducible refine Kd.C_alloc ?_ _)|(with_reducible refine Kd.C_drewN ?_ _)|(with_reducible refine Kd.C_drew ?_)));(case side2=>exact HC2_1.out);rintro e w11 ⟨rfl,hb⟩;refine ⟨_,rfl,?_⟩;have n0_:=Aside0.mk (blk_below (g:=gc2) (o:=.cells #[.int .i64 a2_0,.slice A2_1 l2_1.length c2_1] 68 (0,0)) bk hb);have n1_:=Aside0.mk (below_step bw hb);clear BK2;clear HB;have BK2:=n0_;have HB:=n1_;clear n0_ n1_;(try clear hb);(try clear hb2);(try clear hk);(try clear hi);have hcz12_0:w11.cell? ⟨gc2,0,none⟩ = some (.int .i64 a2_0):=(blk_cell BK2.out 0).trans rfl;have hcz12_1:w11.cell? ⟨gc2,1,none⟩ = some (.slice A2_1 l2_1.length c2_1):=(blk_cell BK2.out 1).trans rfl;have hfz12_0:=blk_frozen BK2.out 0;have hfz12_1:=blk_frozen BK2.out 1)|((with_reducible refine gate_callee (f:=50) rfl ?_);refine goesL_ (some 15) rfl rfl Try.func50 (by kernel_rfl) rfl #[.agg #[.int .i64 a2_0,.slice A2_1 l2_1.length c2_1],.int .i64 a1,.int .i64 a0] rfl mq ?_;(with_reducible refine (impl_votes_isGreater.calls k a2_0 _ _ l2_1 a1 a0 true _ ?side1 ?side2 A8.out).mono ?_);(case side1=>repeat (first|exact (Kd.C_below HR2_1.out HB.out)|(with_reducible refine Kd.C_alloc ?_ _)|(with_reducible refine Kd.C_drewN ?_ _)|(with_reducible refine Kd.C_drew ?_)));(case side2=>exact HC2_1.out);rintro e w13 ⟨rfl,hb⟩;refine ⟨_,rfl,?_⟩;have n0_:=Aside0.mk (blk_below (g:=gc2) (o:=.cells #[.int .i64 a2_0,.slice A2_1 l2_1.length c2_1] 68 (0,0)) bk hb);have n1_:=Aside0.mk (below_step bw hb);clear BK2;clear HB;have BK2:=n0_;have HB:=n1_;clear n0_ n1_;(try clear hb);(try clear hb2);(try clear hk);(try clear hi)))
   go_ret
   exact ⟨by first|rfl|(simp [errW_none,errW_some] <;> rfl)|(simp [*,errW_none,errW_some] <;> rfl),by repeat (first|(with_reducible first|exact HB.out|apply below_alloc|apply pw_below_drewN|apply below_drew1|refine below_set ?_ GE2.out)|exact HB.out)⟩
  ·replace c9:=Bool.eq_false_iff.mpr c9;subst c9;have H1:(some 0) = some r:=by rw [if_neg (show ¬ (false = true) by decide)] at H;exact H
   clear H;have H:=H1;clear H1;obtain rfl:=Option.some.inj H;have hcz14_0:w.cell? ⟨gc2,0,none⟩ = some (.int .i64 a2_0):=(blk_cell BK2.out 0).trans rfl;have hcz14_1:w.cell? ⟨gc2,1,none⟩ = some (.slice A2_1 l2_1.length c2_1):=(blk_cell BK2.out 1).trans rfl;have hfz14_0:=blk_frozen BK2.out 0;have hfz14_1:=blk_frozen BK2.out 1;go_enter Try.func96,Try.ntmps96;go_wp2_with (first|((with_reducible refine gate_callee (f:=50) rfl ?_);refine goesL_ (some 10) rfl rfl Try.func50 (by kernel_rfl) rfl #[.agg #[.int .i64 a2_0,.slice A2_1 l2_1.length c2_1],.int .i64 a0,.int .i64 a1] rfl mq ?_;(with_reducible refine (impl_votes_isGreater.calls k a2_0 _ _ l2_1 a0 a1 false _ ?side1 ?side2 A4.out).mono ?_);(case side1=>repeat (first|exact HR2_1.out|(with_reducible refine Kd.C_alloc ?_ _)|(with_reducible refine Kd.C_drewN ?_ _)|(with_reducible refine Kd.C_drew ?_)));(case side2=>exact HC2_1.out);rintro e w15 ⟨rfl,hb⟩;refine ⟨_,rfl,?_⟩;have n0_:=Aside0.mk (blk_below (g:=gc2) (o:=.cells #[.int .i64 a2_0,.slice A2_1 l2_1.length c2_1] 68 (0,0)) bk hb);have n1_:=Aside0.mk (below_step bw hb);clear BK2;clear HB;have BK2:=n0_;have HB:=n1_;clear n0_ n1_;(try clear hb);(try clear hb2);(try clear hk);(try clear hi);have hcz16_0:w15.cell? ⟨gc2,0,none⟩ = some (.int .i64 a2_0):=(blk_cell BK2.out 0).trans rfl;have hcz16_1:w15.cell? ⟨gc2,1,none⟩ = some (.slice A2_1 l2_1.length c2_1):=(blk_cell BK2.out 1).trans rfl;have hfz16_0:=blk_frozen BK2.out 0;have hfz16_1:=blk_frozen BK2.out 1)|((with_reducible refine gate_callee (f:=50) rfl ?_);refine goesL_ (some 15) rfl rfl Try.func50 (by kernel_rfl) rfl #[.agg #[.int .i64 a2_0,.slice A2_1 l2_1.length c2_1],.int .i64 a1,.int .i64 a0] rfl mq ?_;(with_reducible refine (impl_votes_isGreater.calls k a2_0 _ _ l2_1 a1 a0 false _ ?side1 ?side2 A8.out).mono ?_);(case side1=>repeat (first|exact (Kd.C_below HR2_1.out HB.out)|(with_reducible refine Kd.C_alloc ?_ _)|(with_reducible refine Kd.C_drewN ?_ _)|(with_reducible refine Kd.C_drew ?_)));(case side2=>exact HC2_1.out);rintro e w17 ⟨rfl,hb⟩;refine ⟨_,rfl,?_⟩;have n0_:=Aside0.mk (blk_below (g:=gc2) (o:=.cells #[.int .i64 a2_0,.slice A2_1 l2_1.length c2_1] 68 (0,0)) bk hb);have n1_:=Aside0.mk (below_step bw hb);clear BK2;clear HB;have BK2:=n0_;have HB:=n1_;clear n0_ n1_;(try clear hb);(try clear hb2);(try clear hk);(try clear hi)))
   go_ret
   exact ⟨by first|rfl|(simp [errW_none,errW_some] <;> rfl)|(simp [*,errW_none,errW_some] <;> rfl),by repeat (first|(with_reducible first|exact HB.out|apply below_alloc|apply pw_below_drewN|apply below_drew1|refine below_set ?_ GE2.out)|exact HB.out)⟩
theorem impl_OrderOfWorth_2.enters:∀ (args:Array Value) (w:World),(callFunc 96 args).run Try.prog w = .ok (.enter 96 args) w:=enters_of Try.func96 (by kernel_rfl) rfl


/-! ### impl_OrderOfWorth: function 48 -/
def impl_OrderOfWorth.f (k:Nat) (a0_0:Int) (l0_1:List (List Int)):Option (List Int × Bool):=(impl_IsGame.f k a0_0 l0_1).bind fun t350=>(if t350 = true then ((impl_Game_votes.f k a0_0 l0_1).bind fun bt351=>((impl_votes_isComplete.f k bt351.1 bt351.2).bind fun t356=>(if t356 = true then ((impl_members.f k bt351.1 (fun y0_=>impl_OrderOfWorth_1.f y0_)).bind fun t357=>((slices_SortStableFunc_int_int.f k t357 (fun y0_ y1_=>impl_OrderOfWorth_2.f k y0_ y1_ bt351.1 bt351.2)).bind fun t360=>(some (t360,true)))) else (some (([]:List Int),false))))) else (some (([]:List Int),false)))
theorem impl_OrderOfWorth.mono:∀ a0 a1 k,LeO (impl_OrderOfWorth.f k a0 a1) (impl_OrderOfWorth.f (k + 1) a0 a1):=by
 intro a0 a1 k;unfold impl_OrderOfWorth.f
 repeat' with_reducible first|exact impl_Game_votes.mono _ _ _|exact impl_IsGame.mono _ _ _|exact impl_OrderOfWorth_2.mono _ _ _ _ _|exact impl_members.mono _ _ _|exact impl_votes_isComplete.mono _ _ _|exact slices_SortStableFunc_int_int.mono _ _ _|exact LeO.refl _|exact LeO.none _|refine LeO.trans (impl_members.mono _ _ _) (impl_members.mono_p (fun _=>?_) _ _)|refine LeO.trans (slices_SortStableFunc_int_int.mono _ _ _) (slices_SortStableFunc_int_int.mono_p (fun _ _=>?_) _ _)|refine LeO.ite ?_ ?_|refine LeO.bind ?_ (fun _=>?_)
set_option maxHeartbeats 8000000 in
set_option maxRecDepth 100000 in
theorem impl_OrderOfWorth.calls (k:Nat) (a0_0:Int) (A0_1:Option Addr) (c0_1:Nat) (l0_1:List (List Int)) (r1:List Int) (r2:Bool) (w:World) (hr0_1:Kd.C (Kd.slice 3 (Kd.int .i64)) w A0_1 l0_1.length l0_1) (hc0_1:l0_1.length ≤ c0_1) (h:impl_OrderOfWorth.f k a0_0 l0_1 = some (r1,r2)) :
  Calls Try.prog 48 #[.agg #[.int .i64 a0_0,.slice A0_1 l0_1.length c0_1]] w fun e w'=>∃ v0_:Value,e = .returned (.tuple #[v0_,.bool r2]) ∧ Kd.R (Kd.int .i64) 3 w' w.heap.size (fun _=>True) v0_ r1 ∧ Below w.heap.size w w':=by
 have hmf:∀ (fn:Fn) (first cap:Array Value) (w:World),(Instr.makeFunc fn first cap).run Try.prog w = .ok (.func fn first cap) w:=fun _ _ _ _=>rfl
 have hu28:=Try.underlying28;have hu68:=Try.underlying68;have HR0_1:=Aside0.mk hr0_1;have HC0_1:=Aside0.mk hc0_1;clear hr0_1 hc0_1;have HB:=Aside0.mk (Below.refl w.heap.size w);have H:((impl_IsGame.f k a0_0 l0_1).bind fun t350=>(if t350 = true then ((impl_Game_votes.f k a0_0 l0_1).bind fun bt351=>((impl_votes_isComplete.f k bt351.1 bt351.2).bind fun t356=>(if t356 = true then ((impl_members.f k bt351.1 (fun y0_=>impl_OrderOfWorth_1.f y0_)).bind fun t357=>((slices_SortStableFunc_int_int.f k t357 (fun y0_ y1_=>impl_OrderOfWorth_2.f k y0_ y1_ bt351.1 bt351.2)).bind fun t360=>(some (t360,true)))) else (some (([]:List Int),false))))) else (some (([]:List Int),false)))) = some (r1,r2):=h;clear h;replace H:=Option.bind_eq_some_iff.mp H;obtain ⟨t350,A20,H⟩:=H;replace H:(if t350 = true then ((impl_Game_votes.f k a0_0 l0_1).bind fun bt351=>((impl_votes_isComplete.f k bt351.1 bt351.2).bind fun t356=>(if t356 = true then ((impl_members.f k bt351.1 (fun y0_=>impl_OrderOfWorth_1.f y0_)).bind fun t357=>((slices_SortStableFunc_int_int.f k t357 (fun y0_ y1_=>impl_OrderOfWorth_2.f k y0_ y1_ bt351.1 bt351.2)).bind fun t360=>(some (t360,true)))) else (some (([]:List Int),false))))) else (some (([]:List Int),false))) = some (r1,r2):=H;have A2:=Aside0.mk A20;clear A20;by_cases c3:t350 = true
 ·subst c3;have H1:((impl_Game_votes.f k a0_0 l0_1).bind fun bt351=>((impl_votes_isComplete.f k bt351.1 bt351.2).bind fun t356=>(if t356 = true then ((impl_members.f k bt351.1 (fun y0_=>impl_OrderOfWorth_1.f y0_)).bind fun t357=>((slices_SortStableFunc_int_int.f k t357 (fun y0_ y1_=>impl_OrderOfWorth_2.f k y0_ y1_ bt351.1 bt351.2)).bind fun t360=>(some (t360,true)))) else (some (([]:List Int),false))))) = some (r1,r2):=by rw [if_pos rfl] at H;exact H
  clear H;have H:=H1;clear H1;replace H:=Option.bind_eq_some_iff.mp H;obtain ⟨⟨t351,t352⟩,A40,H⟩:=H;replace H:((impl_votes_isComplete.f k t351 t352).bind fun t356=>(if t356 = true then ((impl_members.f k t351 (fun y0_=>impl_OrderOfWorth_1.f y0_)).bind fun t357=>((slices_SortStableFunc_int_int.f k t357 (fun y0_ y1_=>impl_OrderOfWorth_2.f k y0_ y1_ t351 t352)).bind fun t360=>(some (t360,true)))) else (some (([]:List Int),false)))) = some (r1,r2):=H;have A4:=Aside0.mk A40;clear A40;replace H:=Option.bind_eq_some_iff.mp H;obtain ⟨t356,A50,H⟩:=H;replace H:(if t356 = true then ((impl_members.f k t351 (fun y0_=>impl_OrderOfWorth_1.f y0_)).bind fun t357=>((slices_SortStableFunc_int_int.f k t357 (fun y0_ y1_=>impl_OrderOfWorth_2.f k y0_ y1_ t351 t352)).bind fun t360=>(some (t360,true)))) else (some (([]:List Int),false))) = some (r1,r2):=H;have A5:=Aside0.mk A50;clear A50;by_cases c6:t356 = true
  ·subst c6;have H1:((impl_members.f k t351 (fun y0_=>impl_OrderOfWorth_1.f y0_)).bind fun t357=>((slices_SortStableFunc_int_int.f k t357 (fun y0_ y1_=>impl_OrderOfWorth_2.f k y0_ y1_ t351 t352)).bind fun t360=>(some (t360,true)))) = some (r1,r2):=by rw [if_pos rfl] at H;exact H
   clear H;have H:=H1;clear H1;replace H:=Option.bind_eq_some_iff.mp H;obtain ⟨t357,A70,H⟩:=H;replace H:((slices_SortStableFunc_int_int.f k t357 (fun y0_ y1_=>impl_OrderOfWorth_2.f k y0_ y1_ t351 t352)).bind fun t360=>(some (t360,true))) = some (r1,r2):=H;have A7:=Aside0.mk A70;clear A70;replace H:=Option.bind_eq_some_iff.mp H;obtain ⟨t360,A80,H⟩:=H;replace H:(some (t360,true)) = some (r1,r2):=H;have A8:=Aside0.mk A80;clear A80;simp only [Option.some.injEq,Prod.mk.injEq] at H;obtain ⟨rfl,rfl⟩:=H;go_enter Try.func48,Try.ntmps48;go_wp2_with (first|((with_reducible refine gate_dst (N:=1) rfl ?_);refine box_event ?hg (N:=1) ?hd (cs:=#[.int .i64 a0_0,.slice A0_1 l0_1.length c0_1]) (t:=28) ?hr ?_;(case hd=>rfl);(case hg=>rfl);(case hr=>first|(go_simp;done)|(go_simp;rfl));intro gb349 hg w9 hbox hb;have n0_:=Aside0.mk (below_step bw hb);have n1_:=Aside0.mk (hbox);have n2_:=Aside0.mk ((by rw [hg];exact (below_size bw):w.heap.size ≤ gb349));have n3_:=Aside0.mk ((by rw [hg];exact (below_size bw):w.heap.size ≤ gb349));clear HB;have HB:=n0_;have BK349:=n1_;have GW349:=n2_;have GE349:=n3_;clear n0_ n1_ n2_ n3_;clear hb hbox hg;have hcz10_0:w9.cell? ⟨gb349,0,none⟩ = some (.int .i64 a0_0):=(blk_cell BK349.out 0).trans rfl;have hcz10_1:w9.cell? ⟨gb349,1,none⟩ = some (.slice A0_1 l0_1.length c0_1):=(blk_cell BK349.out 1).trans rfl;have hfz10_0:=blk_frozen BK349.out 0;have hfz10_1:=blk_frozen BK349.out 1)|((with_reducible refine gate_callee (f:=91) rfl ?_);refine goesL_ (some 7) rfl rfl Try.func91 (by kernel_rfl) rfl #[.agg #[.int .i64 a0_0,.slice A0_1 l0_1.length c0_1]] rfl mq ?_;(with_reducible refine (impl_IsGame.calls k a0_0 _ _ l0_1 true _ ?side1 ?side2 A2.out).mono ?_);(case side1=>repeat (first|exact (Kd.C_below HR0_1.out HB.out)|(with_reducible refine Kd.C_alloc ?_ _)|(with_reducible refine Kd.C_drewN ?_ _)|(with_reducible refine Kd.C_drew ?_)));(case side2=>exact HC0_1.out);rintro e w11 ⟨rfl,hb⟩;refine ⟨_,rfl,?_⟩;have n0_:=Aside0.mk (blk_below (g:=gb349) (o:=.cells #[.int .i64 a0_0,.slice A0_1 l0_1.length c0_1] 28 (0,0)) bk hb);have n1_:=Aside0.mk (below_step bw hb);clear BK349;clear HB;have BK349:=n0_;have HB:=n1_;clear n0_ n1_;(try clear hb);(try clear hb2);(try clear hk);(try clear hi);have hcz12_0:w11.cell? ⟨gb349,0,none⟩ = some (.int .i64 a0_0):=(blk_cell BK349.out 0).trans rfl;have hcz12_1:w11.cell? ⟨gb349,1,none⟩ = some (.slice A0_1 l0_1.length c0_1):=(blk_cell BK349.out 1).trans rfl;have hfz12_0:=blk_frozen BK349.out 0;have hfz12_1:=blk_frozen BK349.out 1)|((with_reducible refine gate_callee (f:=49) rfl ?_);refine goesL_ (some 10) rfl rfl Try.func49 (by kernel_rfl) rfl #[.agg #[.int .i64 a0_0,.slice A0_1 l0_1.length c0_1]] rfl mq ?_;(with_reducible refine (impl_Game_votes.calls k a0_0 _ _ l0_1 t351 t352 _ ?side1 ?side2 A4.out).mono ?_);(case side1=>repeat (first|exact (Kd.C_below HR0_1.out HB.out)|(with_reducible refine Kd.C_alloc ?_ _)|(with_reducible refine Kd.C_drewN ?_ _)|(with_reducible refine Kd.C_drew ?_)));(case side2=>exact HC0_1.out);rintro e w13 ⟨v353,rfl,ho0,hb⟩;refine ⟨_,rfl,?_⟩;have n0_:=Aside0.mk (Kd.R_lower ho0 (below_size bw));have n1_:=Aside0.mk (blk_below (g:=gb349) (o:=.cells #[.int .i64 a0_0,.slice A0_1 l0_1.length c0_1] 28 (0,0)) bk hb);have n2_:=Aside0.mk (below_step bw hb);clear BK349;clear HB;have HO354:=n0_;have BK349:=n1_;have HB:=n2_;clear n0_ n1_ n2_;(try clear hb);(try clear hb2);(try clear hk);(try clear hi);(try clear ho0))|((with_reducible refine gate_dst (N:=4) rfl ?_);refine box_event ?hg (N:=4) ?hd (cs:=#[.int .i64 0,.slice none 0 0]) (t:=68) ?hr ?_;(case hd=>rfl);(case hg=>rfl);(case hr=>first|(go_simp;done)|(go_simp;rfl));intro gb355 hg w14 hbox hb;have n0_:=Aside0.mk (Kd.R_below (by (with_reducible repeat (first|apply Kd.R_alloc|apply Kd.R_drewN|apply Kd.R_drew));exact HO354.out) hb);have n1_:=Aside0.mk (blk_below (g:=gb349) (o:=.cells #[.int .i64 a0_0,.slice A0_1 l0_1.length c0_1] 28 (0,0)) bk hb);have n2_:=Aside0.mk (below_step bw hb);have n3_:=Aside0.mk (hbox);have n4_:=Aside0.mk ((by rw [hg];exact (below_size bw):w.heap.size ≤ gb355));have n5_:=Aside0.mk ((by rw [hg];exact (below_size bw):w.heap.size ≤ gb355));have n6_:=Aside0.mk ((by rw [hg];exact Nat.ne_of_lt (blk_lt (g:=gb349) (o:=.cells #[.int .i64 a0_0,.slice A0_1 l0_1.length c0_1] 28 (0,0)) bk):gb349 ≠ gb355));have n7_:=Aside0.mk ((by rw [hg];exact Nat.ne_of_gt (blk_lt (g:=gb349) (o:=.cells #[.int .i64 a0_0,.slice A0_1 l0_1.length c0_1] 28 (0,0)) bk):gb355 ≠ gb349));clear HO354;clear BK349;clear HB;have HO354:=n0_;have BK349:=n1_;have HB:=n2_;have BK355:=n3_;have GW355:=n4_;have GE355:=n5_;have NB349_355:=n6_;have NB355_349:=n7_;clear n0_ n1_ n2_ n3_ n4_ n5_ n6_ n7_;clear hb hbox hg;have hnb15:=NB355_349.out;have hnc15:=NB349_355.out;have hcz16_0:w14.cell? ⟨gb355,0,none⟩ = some (.int .i64 0):=(blk_cell BK355.out 0).trans rfl;have hcz16_1:w14.cell? ⟨gb355,1,none⟩ = some (.slice none 0 0):=(blk_cell BK355.out 1).trans rfl;have hfz16_0:=blk_frozen BK355.out 0;have hfz16_1:=blk_frozen BK355.out 1;obtain ⟨Ao17,co17,eo17⟩:=Kd.R_slice HO354.out;subst eo17)|((with_reducible refine gate_callee (f:=92) rfl ?_);refine goesL_ (some 12) rfl rfl Try.func92 (by kernel_rfl) rfl #[.agg #[.int .i64 t351,.slice Ao17 t352.length co17]] rfl mq ?_;(with_reducible refine (impl_votes_isComplete.calls k t351 _ _ t352 true _ ?side1 ?side2 A5.out).mono ?_);(case side1=>refine (Kd.R_reads' (e:=4) (base:=w.heap.size) (ok:=fun k_=>True) (n:=t352.length) (c:=co17) ?_).2.2;exact (by (with_reducible repeat (first|apply Kd.R_alloc|apply Kd.R_drewN|apply Kd.R_drew));exact (Kd.R_mono (Kd.R_far (p:=⟨gb355,1,none⟩) (Kd.R_far (p:=⟨gb355,0,none⟩) (Kd.R_types HO354.out BK355.out (by decide)) (fun _ hk=>hk.2) (.int .i64 t351)) (fun _ hk=>hk.2) (.slice Ao17 t352.length co17)) (fun _ h_=>h_.1))));(case side2=>exact (Kd.R_reads' HO354.out).2.1);rintro e w18 ⟨rfl,hb⟩;refine ⟨_,rfl,?_⟩;have n0_:=Aside0.mk (Kd.R_below (by (with_reducible repeat (first|apply Kd.R_alloc|apply Kd.R_drewN|apply Kd.R_drew));exact (Kd.R_mono (Kd.R_far (p:=⟨gb355,1,none⟩) (Kd.R_far (p:=⟨gb355,0,none⟩) (Kd.R_types HO354.out BK355.out (by decide)) (fun _ hk=>hk.2) (.int .i64 t351)) (fun _ hk=>hk.2) (.slice Ao17 t352.length co17)) (fun _ h_=>h_.1))) hb);have n1_:=Aside0.mk (blk_below (g:=gb349) (o:=.cells #[.int .i64 a0_0,.slice A0_1 l0_1.length c0_1] 28 (0,0)) (by (with_reducible repeat (first|refine blk_drewN ?_ _|refine blk_drew ?_|refine blk_alloc ?_ _));refine blk_far ?_ NB349_355.out _;(with_reducible repeat (first|refine blk_drewN ?_ _|refine blk_drew ?_|refine blk_alloc ?_ _));refine blk_far ?_ NB349_355.out _;(with_reducible repeat (first|refine blk_drewN ?_ _|refine blk_drew ?_|refine blk_alloc ?_ _));exact BK349.out) hb);have n2_:=Aside0.mk (blk_below (g:=gb355) (o:=.cells #[.int .i64 t351,.slice Ao17 t352.length co17] 68 (0,0)) (by (with_reducible repeat (first|refine blk_drewN ?_ _|refine blk_drew ?_|refine blk_alloc ?_ _));refine blk_put (cs:=#[.int .i64 t351,.slice none 0 0]) ?_ 1 _ rfl;(with_reducible repeat (first|refine blk_drewN ?_ _|refine blk_drew ?_|refine blk_alloc ?_ _));refine blk_put (cs:=#[.int .i64 0,.slice none 0 0]) ?_ 0 _ rfl;(with_reducible repeat (first|refine blk_drewN ?_ _|refine blk_drew ?_|refine blk_alloc ?_ _));exact BK355.out) hb);have n3_:=Aside0.mk (below_step bw hb);clear HO354;clear BK349;clear BK355;clear HB;have HO354:=n0_;have BK349:=n1_;have BK355:=n2_;have HB:=n3_;clear n0_ n1_ n2_ n3_;(try clear hb);(try clear hb2);(try clear hk);(try clear hi);have hcz19_0:w18.cell? ⟨gb355,0,none⟩ = some (.int .i64 t351):=(blk_cell BK355.out 0).trans rfl;have hcz19_1:w18.cell? ⟨gb355,1,none⟩ = some (.slice Ao17 t352.length co17):=(blk_cell BK355.out 1).trans rfl;have hfz19_0:=blk_frozen BK355.out 0;have hfz19_1:=blk_frozen BK355.out 1)|((with_reducible refine gate_callee (f:=93) rfl ?_);refine goesL_ (some 16) rfl rfl Try.func93 (by kernel_rfl) rfl #[.int .i64 t351,.func (.func 94) #[] #[]] rfl mq ?_;(with_reducible refine (impl_members.calls k t351 (fun y0_=>impl_OrderOfWorth_1.f y0_) 94 #[] impl_OrderOfWorth_1.enters t357 _ ?side1 A7.out).mono ?_);(case side1=>exact (fun W_ a0_ r0_ hx_ hb_ =>(impl_OrderOfWorth_1.calls a0_  r0_ W_   hx_).mono (fun _ _ h_=>⟨h_.1,h_.2.below⟩)));rintro e w20 ⟨v358,rfl,ho0,hb⟩;refine ⟨_,rfl,?_⟩;have n0_:=Aside0.mk (Kd.R_below (by (with_reducible repeat (first|apply Kd.R_alloc|apply Kd.R_drewN|apply Kd.R_drew));exact HO354.out) hb);have n1_:=Aside0.mk (Kd.R_lower ho0 (below_size bw));have n2_:=Aside0.mk (blk_below (g:=gb349) (o:=.cells #[.int .i64 a0_0,.slice A0_1 l0_1.length c0_1] 28 (0,0)) bk hb);have n3_:=Aside0.mk (blk_below (g:=gb355) (o:=.cells #[.int .i64 t351,.slice Ao17 t352.length co17] 68 (0,0)) bk hb);have n4_:=Aside0.mk (below_step bw hb);clear HO354;clear BK349;clear BK355;clear HB;have HO354:=n0_;have HO359:=n1_;have BK349:=n2_;have BK355:=n3_;have HB:=n4_;clear n0_ n1_ n2_ n3_ n4_;(try clear hb);(try clear hb2);(try clear hk);(try clear hi);(try clear ho0);obtain ⟨Ao21,co21,eo21⟩:=Kd.R_slice HO359.out;subst eo21)|((with_reducible refine gate_callee (f:=95) rfl ?_);refine goesL_ (some 19) rfl rfl Try.func95 (by kernel_rfl) rfl #[.slice Ao21 t357.length co21,.func (.func 96) #[] #[.pointer (some ⟨gb355,0,none⟩)]] rfl mq ?_;(with_reducible refine (slices_SortStableFunc_int_int.calls k (fun k_=>some k_ = (.slice Ao21 t357.length co21:Value).ownBlock) (.slice Ao21 t357.length co21) t357 (fun y0_ y1_=>impl_OrderOfWorth_2.f k y0_ y1_ t351 t352) 96 #[.pointer (some ⟨gb355,0,none⟩)] impl_OrderOfWorth_2.enters t360 w _ ?side1 ?side2 ?side3 A8.out).mono ?_);(case side1=>repeat (first|(with_reducible first|exact HB.out|apply below_alloc|apply pw_below_drewN|apply below_drew1|refine below_set ?_ GE349.out|refine below_set ?_ GE355.out)|exact HB.out));(case side2=>exact Kd.R_tight rfl HO359.out);(case side3=>exact (fun W_ a0_ a1_ r0_ hx_ hb_ =>(impl_OrderOfWorth_2.calls k a0_ a1_ gb355 t351 _ _ t352 r0_ W_  ((Kd.C_kept_own ((Kd.R_apart' HO354.out (Kd.R_typed HO359.out) (by decide))) (fun k_ hk_ hs_=>(hk_.2) hs_)) W_ hb_) (by exact (Kd.R_reads' HO354.out).2.1) (blk_kept bk hb_ (fun hs_=>(fun e_=>(Kd.R_ne HO359.out BK355.out (by decide)) e_) hs_)) hx_).mono (fun _ _ h_=>h_)));rintro e w22 ⟨rfl,hy0,hb,hkp⟩;refine ⟨_,rfl,?_⟩;have n0_:=Aside0.mk (blk_kept bk hkp (fun hs_=>(fun e_=>(Kd.R_ne HO359.out BK349.out (by decide)) e_) hs_));have n1_:=Aside0.mk (Kd.R_mono (ok':=fun k_=>True) (Kd.R_keptB ((Kd.R_apart' HO354.out (Kd.R_typed HO359.out) (by decide))) hkp (fun k_ hk_ hs_=>(hk_.2) hs_)) (fun k_ hk_=>trivial));have n2_:=Aside0.mk (blk_kept bk hkp (fun hs_=>(fun e_=>(Kd.R_ne HO359.out BK355.out (by decide)) e_) hs_));have n3_:=Aside0.mk (Kd.R_reok rfl hy0 (fun k_ e_=>HO359.out.1 k_ e_));have n4_:=Aside0.mk (hb);clear BK349;clear HO354;clear BK355;clear HO359;clear HB;have BK349:=n0_;have HO354:=n1_;have BK355:=n2_;have HO359:=n3_;have HB:=n4_;clear n0_ n1_ n2_ n3_ n4_;(try clear hb);(try clear hkp);(try clear hy0)))
   go_ret2
   exact ⟨_,by first|rfl|(simp [errW_none,errW_some] <;> rfl)|(simp [*,errW_none,errW_some] <;> rfl),by (with_reducible repeat (first|apply Kd.R_alloc|apply Kd.R_drewN|apply Kd.R_drew));exact HO359.out,by repeat (first|(with_reducible first|exact HB.out|apply below_alloc|apply pw_below_drewN|apply below_drew1|refine below_set ?_ GE349.out|refine below_set ?_ GE355.out)|exact HB.out)⟩
  ·replace c6:=Bool.eq_false_iff.mpr c6;subst c6;have H1:(some (([]:List Int),false)) = some (r1,r2):=by rw [if_neg (show ¬ (false = true) by decide)] at H;exact H
   clear H;have H:=H1;clear H1;simp only [Option.some.injEq,Prod.mk.injEq] at H;obtain ⟨rfl,rfl⟩:=H;go_enter Try.func48,Try.ntmps48;go_wp2_with (first|((with_reducible refine gate_dst (N:=1) rfl ?_);refine box_event ?hg (N:=1) ?hd (cs:=#[.int .i64 a0_0,.slice A0_1 l0_1.length c0_1]) (t:=28) ?hr ?_;(case hd=>rfl);(case hg=>rfl);(case hr=>first|(go_simp;done)|(go_simp;rfl));intro gb349 hg w23 hbox hb;have n0_:=Aside0.mk (below_step bw hb);have n1_:=Aside0.mk (hbox);have n2_:=Aside0.mk ((by rw [hg];exact (below_size bw):w.heap.size ≤ gb349));have n3_:=Aside0.mk ((by rw [hg];exact (below_size bw):w.heap.size ≤ gb349));clear HB;have HB:=n0_;have BK349:=n1_;have GW349:=n2_;have GE349:=n3_;clear n0_ n1_ n2_ n3_;clear hb hbox hg;have hcz24_0:w23.cell? ⟨gb349,0,none⟩ = some (.int .i64 a0_0):=(blk_cell BK349.out 0).trans rfl;have hcz24_1:w23.cell? ⟨gb349,1,none⟩ = some (.slice A0_1 l0_1.length c0_1):=(blk_cell BK349.out 1).trans rfl;have hfz24_0:=blk_frozen BK349.out 0;have hfz24_1:=blk_frozen BK349.out 1)|((with_reducible refine gate_callee (f:=91) rfl ?_);refine goesL_ (some 7) rfl rfl Try.func91 (by kernel_rfl) rfl #[.agg #[.int .i64 a0_0,.slice A0_1 l0_1.length c0_1]] rfl mq ?_;(with_reducible refine (impl_IsGame.calls k a0_0 _ _ l0_1 true _ ?side1 ?side2 A2.out).mono ?_);(case side1=>repeat (first|exact (Kd.C_below HR0_1.out HB.out)|(with_reducible refine Kd.C_alloc ?_ _)|(with_reducible refine Kd.C_drewN ?_ _)|(with_reducible refine Kd.C_drew ?_)));(case side2=>exact HC0_1.out);rintro e w25 ⟨rfl,hb⟩;refine ⟨_,rfl,?_⟩;have n0_:=Aside0.mk (blk_below (g:=gb349) (o:=.cells #[.int .i64 a0_0,.slice A0_1 l0_1.length c0_1] 28 (0,0)) bk hb);have n1_:=Aside0.mk (below_step bw hb);clear BK349;clear HB;have BK349:=n0_;have HB:=n1_;clear n0_ n1_;(try clear hb);(try clear hb2);(try clear hk);(try clear hi);have hcz26_0:w25.cell? ⟨gb349,0,none⟩ = some (.int .i64 a0_0):=(blk_cell BK349.out 0).trans rfl;have hcz26_1:w25.cell? ⟨gb349,1,none⟩ = some (.slice A0_1 l0_1.length c0_1):=(blk_cell BK349.out 1).trans rfl;have hfz26_0:=blk_frozen BK349.out 0;have hfz26_1:=blk_frozen BK349.out 1)|((with_reducible refine gate_callee (f:=49) rfl ?_);refine goesL_ (some 10) rfl rfl Try.func49 (by kernel_rfl) rfl #[.agg #[.int .i64 a0_0,.slice A0_1 l0_1.length c0_1]] rfl mq ?_;(with_reducible refine (impl_Game_votes.calls k a0_0 _ _ l0_1 t351 t352 _ ?side1 ?side2 A4.out).mono ?_);(case side1=>repeat (first|exact (Kd.C_below HR0_1.out HB.out)|(with_reducible refine Kd.C_alloc ?_ _)|(with_reducible refine Kd.C_drewN ?_ _)|(with_reducible refine Kd.C_drew ?_)));(case side2=>exact HC0_1.out);rintro e w27 ⟨v353,rfl,ho0,hb⟩;refine ⟨_,rfl,?_⟩;have n0_:=Aside0.mk (Kd.R_lower ho0 (below_size bw));have n1_:=Aside0.mk (blk_below (g:=gb349) (o:=.cells #[.int .i64 a0_0,.slice A0_1 l0_1.length c0_1] 28 (0,0)) bk hb);have n2_:=Aside0.mk (below_step bw hb);clear BK349;clear HB;have HO354:=n0_;have BK349:=n1_;have HB:=n2_;clear n0_ n1_ n2_;(try clear hb);(try clear hb2);(try clear hk);(try clear hi);(try clear ho0))|((with_reducible refine gate_dst (N:=4) rfl ?_);refine box_event ?hg (N:=4) ?hd (cs:=#[.int .i64 0,.slice none 0 0]) (t:=68) ?hr ?_;(case hd=>rfl);(case hg=>rfl);(case hr=>first|(go_simp;done)|(go_simp;rfl));intro gb355 hg w28 hbox hb;have n0_:=Aside0.mk (Kd.R_below (by (with_reducible repeat (first|apply Kd.R_alloc|apply Kd.R_drewN|apply Kd.R_drew));exact HO354.out) hb);have n1_:=Aside0.mk (blk_below (g:=gb349) (o:=.cells #[.int .i64 a0_0,.slice A0_1 l0_1.length c0_1] 28 (0,0)) bk hb);have n2_:=Aside0.mk (below_step bw hb);have n3_:=Aside0.mk (hbox);have n4_:=Aside0.mk ((by rw [hg];exact (below_size bw):w.heap.size ≤ gb355));have n5_:=Aside0.mk ((by rw [hg];exact (below_size bw):w.heap.size ≤ gb355));have n6_:=Aside0.mk ((by rw [hg];exact Nat.ne_of_lt (blk_lt (g:=gb349) (o:=.cells #[.int .i64 a0_0,.slice A0_1 l0_1.length c0_1] 28 (0,0)) bk):gb349 ≠ gb355));have n7_:=Aside0.mk ((by rw [hg];exact Nat.ne_of_gt (blk_lt (g:=gb349) (o:=.cells #[.int .i64 a0_0,.slice A0_1 l0_1.length c0_1] 28 (0,0)) bk):gb355 ≠ gb349));clear HO354;clear BK349;clear HB;have HO354:=n0_;have BK349:=n1_;have HB:=n2_;have BK355:=n3_;have GW355:=n4_;have GE355:=n5_;have NB349_355:=n6_;have NB355_349:=n7_;clear n0_ n1_ n2_ n3_ n4_ n5_ n6_ n7_;clear hb hbox hg;have hnb29:=NB355_349.out;have hnc29:=NB349_355.out;have hcz30_0:w28.cell? ⟨gb355,0,none⟩ = some (.int .i64 0):=(blk_cell BK355.out 0).trans rfl;have hcz30_1:w28.cell? ⟨gb355,1,none⟩ = some (.slice none 0 0):=(blk_cell BK355.out 1).trans rfl;have hfz30_0:=blk_frozen BK355.out 0;have hfz30_1:=blk_frozen BK355.out 1;obtain ⟨Ao31,co31,eo31⟩:=Kd.R_slice HO354.out;subst eo31)|((with_reducible refine gate_callee (f:=92) rfl ?_);refine goesL_ (some 12) rfl rfl Try.func92 (by kernel_rfl) rfl #[.agg #[.int .i64 t351,.slice Ao31 t352.length co31]] rfl mq ?_;(with_reducible refine (impl_votes_isComplete.calls k t351 _ _ t352 false _ ?side1 ?side2 A5.out).mono ?_);(case side1=>refine (Kd.R_reads' (e:=4) (base:=w.heap.size) (ok:=fun k_=>True) (n:=t352.length) (c:=co31) ?_).2.2;exact (by (with_reducible repeat (first|apply Kd.R_alloc|apply Kd.R_drewN|apply Kd.R_drew));exact (Kd.R_mono (Kd.R_far (p:=⟨gb355,1,none⟩) (Kd.R_far (p:=⟨gb355,0,none⟩) (Kd.R_types HO354.out BK355.out (by decide)) (fun _ hk=>hk.2) (.int .i64 t351)) (fun _ hk=>hk.2) (.slice Ao31 t352.length co31)) (fun _ h_=>h_.1))));(case side2=>exact (Kd.R_reads' HO354.out).2.1);rintro e w32 ⟨rfl,hb⟩;refine ⟨_,rfl,?_⟩;have n0_:=Aside0.mk (Kd.R_below (by (with_reducible repeat (first|apply Kd.R_alloc|apply Kd.R_drewN|apply Kd.R_drew));exact (Kd.R_mono (Kd.R_far (p:=⟨gb355,1,none⟩) (Kd.R_far (p:=⟨gb355,0,none⟩) (Kd.R_types HO354.out BK355.out (by decide)) (fun _ hk=>hk.2) (.int .i64 t351)) (fun _ hk=>hk.2) (.slice Ao31 t352.length co31)) (fun _ h_=>h_.1))) hb);have n1_:=Aside0.mk (blk_below (g:=gb349) (o:=.cells #[.int .i64 a0_0,.slice A0_1 l0_1.length c0_1] 28 (0,0)) (by (with_reducible repeat (first|refine blk_drewN ?_ _|refine blk_drew ?_|refine blk_alloc ?_ _));refine blk_far ?_ NB349_355.out _;(with_reducible repeat (first|refine blk_drewN ?_ _|refine blk_drew ?_|refine blk_alloc ?_ _));refine blk_far ?_ NB349_355.out _;(with_reducible repeat (first|refine blk_drewN ?_ _|refine blk_drew ?_|refine blk_alloc ?_ _));exact BK349.out) hb);have n2_:=Aside0.mk (blk_below (g:=gb355) (o:=.cells #[.int .i64 t351,.slice Ao31 t352.length co31] 68 (0,0)) (by (with_reducible repeat (first|refine blk_drewN ?_ _|refine blk_drew ?_|refine blk_alloc ?_ _));refine blk_put (cs:=#[.int .i64 t351,.slice none 0 0]) ?_ 1 _ rfl;(with_reducible repeat (first|refine blk_drewN ?_ _|refine blk_drew ?_|refine blk_alloc ?_ _));refine blk_put (cs:=#[.int .i64 0,.slice none 0 0]) ?_ 0 _ rfl;(with_reducible repeat (first|refine blk_drewN ?_ _|refine blk_drew ?_|refine blk_alloc ?_ _));exact BK355.out) hb);have n3_:=Aside0.mk (below_step bw hb);clear HO354;clear BK349;clear BK355;clear HB;have HO354:=n0_;have BK349:=n1_;have BK355:=n2_;have HB:=n3_;clear n0_ n1_ n2_ n3_;(try clear hb);(try clear hb2);(try clear hk);(try clear hi)))
   go_ret2
   exact ⟨_,by first|rfl|(simp [errW_none,errW_some] <;> rfl)|(simp [*,errW_none,errW_some] <;> rfl),by first|exact Kd.R_nil _ _ _ _ _|exact Kd.N_nil _ _ _ _ _|exact Kd.V_nil _ _ _ _ _|exact Kd.Q_nil _ _ _ _ _|exact Kd.S_nil _ _ _ _ _,by repeat (first|(with_reducible first|exact HB.out|apply below_alloc|apply pw_below_drewN|apply below_drew1|refine below_set ?_ GE349.out|refine below_set ?_ GE355.out)|exact HB.out)⟩
 ·replace c3:=Bool.eq_false_iff.mpr c3;subst c3;have H1:(some (([]:List Int),false)) = some (r1,r2):=by rw [if_neg (show ¬ (false = true) by decide)] at H;exact H
  clear H;have H:=H1;clear H1;simp only [Option.some.injEq,Prod.mk.injEq] at H;obtain ⟨rfl,rfl⟩:=H;go_enter Try.func48,Try.ntmps48;go_wp2_with (first|((with_reducible refine gate_dst (N:=1) rfl ?_);refine box_event ?hg (N:=1) ?hd (cs:=#[.int .i64 a0_0,.slice A0_1 l0_1.length c0_1]) (t:=28) ?hr ?_;(case hd=>rfl);(case hg=>rfl);(case hr=>first|(go_simp;done)|(go_simp;rfl));intro gb349 hg w33 hbox hb;have n0_:=Aside0.mk (below_step bw hb);have n1_:=Aside0.mk (hbox);have n2_:=Aside0.mk ((by rw [hg];exact (below_size bw):w.heap.size ≤ gb349));have n3_:=Aside0.mk ((by rw [hg];exact (below_size bw):w.heap.size ≤ gb349));clear HB;have HB:=n0_;have BK349:=n1_;have GW349:=n2_;have GE349:=n3_;clear n0_ n1_ n2_ n3_;clear hb hbox hg;have hcz34_0:w33.cell? ⟨gb349,0,none⟩ = some (.int .i64 a0_0):=(blk_cell BK349.out 0).trans rfl;have hcz34_1:w33.cell? ⟨gb349,1,none⟩ = some (.slice A0_1 l0_1.length c0_1):=(blk_cell BK349.out 1).trans rfl;have hfz34_0:=blk_frozen BK349.out 0;have hfz34_1:=blk_frozen BK349.out 1)|((with_reducible refine gate_callee (f:=91) rfl ?_);refine goesL_ (some 7) rfl rfl Try.func91 (by kernel_rfl) rfl #[.agg #[.int .i64 a0_0,.slice A0_1 l0_1.length c0_1]] rfl mq ?_;(with_reducible refine (impl_IsGame.calls k a0_0 _ _ l0_1 false _ ?side1 ?side2 A2.out).mono ?_);(case side1=>repeat (first|exact (Kd.C_below HR0_1.out HB.out)|(with_reducible refine Kd.C_alloc ?_ _)|(with_reducible refine Kd.C_drewN ?_ _)|(with_reducible refine Kd.C_drew ?_)));(case side2=>exact HC0_1.out);rintro e w35 ⟨rfl,hb⟩;refine ⟨_,rfl,?_⟩;have n0_:=Aside0.mk (blk_below (g:=gb349) (o:=.cells #[.int .i64 a0_0,.slice A0_1 l0_1.length c0_1] 28 (0,0)) bk hb);have n1_:=Aside0.mk (below_step bw hb);clear BK349;clear HB;have BK349:=n0_;have HB:=n1_;clear n0_ n1_;(try clear hb);(try clear hb2);(try clear hk);(try clear hi)))
  go_ret2
  exact ⟨_,by first|rfl|(simp [errW_none,errW_some] <;> rfl)|(simp [*,errW_none,errW_some] <;> rfl),by first|exact Kd.R_nil _ _ _ _ _|exact Kd.N_nil _ _ _ _ _|exact Kd.V_nil _ _ _ _ _|exact Kd.Q_nil _ _ _ _ _|exact Kd.S_nil _ _ _ _ _,by repeat (first|(with_reducible first|exact HB.out|apply below_alloc|apply pw_below_drewN|apply below_drew1|refine below_set ?_ GE349.out)|exact HB.out)⟩


/-! ### impl_ClassesOf: function 14 -/
def impl_ClassesOf.l0:Nat → List Int → List (List Int) → List Int → Int → Int → Int → List Bool → Option ((List (List Int)) × Bool)
 | 0,_,_,_,_,_,_,_=>none
 | k + 1,x4,x7,x20,x21,x22,x371000,x371001=>if x22 < x21 then (if 0 ≤ x22 then (if x22 < (x20.length:Int) then (if x22 = 0 then (if x7.length < 5864062014805 then ((some (x7 ++ [(([]:List Int))]:List (List Int))).bind fun y378=>(if 0 ≤ (wrap64 ((y378.length:Int) - 1)) then (if (wrap64 ((y378.length:Int) - 1)) < (y378.length:Int) then (if (rd_LI y378 (wrap64 ((y378.length:Int) - 1))).length < 17592186044416 then (impl_ClassesOf.l0 k x4 (y378.set ((wrap64 ((y378.length:Int) - 1)):Int).toNat ((rd_LI y378 (wrap64 ((y378.length:Int) - 1))) ++ [rd x20 x22])) x20 x21 (wrap64 (x22 + 1)) x371000 x371001) else (none)) else (none)) else (none))) else (none)) else (if 0 ≤ (wrap64 (x22 - 1)) then (if (wrap64 (x22 - 1)) < (x4.length:Int) then ((impl_votes_isGreater.f k x371000 x371001 (rd x4 (wrap64 (x22 - 1))) (rd x20 x22)).bind fun t387=>(if t387 = true then (if x7.length < 5864062014805 then ((some (x7 ++ [(([]:List Int))]:List (List Int))).bind fun y391=>(if 0 ≤ (wrap64 ((y391.length:Int) - 1)) then (if (wrap64 ((y391.length:Int) - 1)) < (y391.length:Int) then (if (rd_LI y391 (wrap64 ((y391.length:Int) - 1))).length < 17592186044416 then (impl_ClassesOf.l0 k x4 (y391.set ((wrap64 ((y391.length:Int) - 1)):Int).toNat ((rd_LI y391 (wrap64 ((y391.length:Int) - 1))) ++ [rd x20 x22])) x20 x21 (wrap64 (x22 + 1)) x371000 x371001) else (none)) else (none)) else (none))) else (none)) else (if 0 ≤ (wrap64 ((x7.length:Int) - 1)) then (if (wrap64 ((x7.length:Int) - 1)) < (x7.length:Int) then (if (rd_LI x7 (wrap64 ((x7.length:Int) - 1))).length < 17592186044416 then (impl_ClassesOf.l0 k x4 (x7.set ((wrap64 ((x7.length:Int) - 1)):Int).toNat ((rd_LI x7 (wrap64 ((x7.length:Int) - 1))) ++ [rd x20 x22])) x20 x21 (wrap64 (x22 + 1)) x371000 x371001) else (none)) else (none)) else (none)))) else (none)) else (none))) else (none)) else (none)) else (some (x7,true))
def impl_ClassesOf.f (k:Nat) (a0_0:Int) (l0_1:List (List Int)):Option ((List (List Int)) × Bool):=(impl_OrderOfWorth.f k a0_0 l0_1).bind fun bt362=>(if bt362.2 = true then ((impl_Game_votes.f k a0_0 l0_1).bind fun bt366=>(impl_ClassesOf.l0 k bt362.1 (([]:List (List Int))) bt362.1 (bt362.1.length:Int) 0 bt366.1 bt366.2)) else (some (([]:List (List Int)),false)))
theorem impl_ClassesOf.mono_l:∀ k,(∀ y0 y1 y2 y3 y4 y5 y6,LeO (impl_ClassesOf.l0 k y0 y1 y2 y3 y4 y5 y6) (impl_ClassesOf.l0 (k + 1) y0 y1 y2 y3 y4 y5 y6))
 | 0=>fun _ _ _ _ _ _ _ r h=>by simp [impl_ClassesOf.l0] at h
 | k + 1=>by
  have ih0:=impl_ClassesOf.mono_l k
  ·intro y0 y1 y2 y3 y4 y5 y6;unfold impl_ClassesOf.l0
   repeat' with_reducible first|exact ih0 _ _ _ _ _ _ _|exact impl_Game_votes.mono _ _ _|exact impl_OrderOfWorth.mono _ _ _|exact impl_votes_isGreater.mono _ _ _ _ _|exact LeO.refl _|exact LeO.none _|refine LeO.ite ?_ ?_|refine LeO.bind ?_ (fun _=>?_)
theorem impl_ClassesOf.mono:∀ a0 a1 k,LeO (impl_ClassesOf.f k a0 a1) (impl_ClassesOf.f (k + 1) a0 a1):=by
 intro a0 a1 k;have ih0:=impl_ClassesOf.mono_l k;unfold impl_ClassesOf.f
 repeat' with_reducible first|exact ih0 _ _ _ _ _ _ _|exact impl_Game_votes.mono _ _ _|exact impl_OrderOfWorth.mono _ _ _|exact impl_votes_isGreater.mono _ _ _ _ _|exact LeO.refl _|exact LeO.none _|refine LeO.ite ?_ ?_|refine LeO.bind ?_ (fun _=>?_)
def impl_ClassesOf.T9:Bool × List (List Nat × List Nat):=(true,[([],[]),([0],[0]),([1],[1]),([2],[2]),([2],[2]),([2],[2]),([5,2],[2,5]),([4,6,2],[2,4,6]),([7,2],[2,7]),([2],[2]),([3,8,9,2,2],[2,3,8,9]),([2,10],[2,10])])
def impl_ClassesOf.B9:List Nat:=[0,1,3,7,7,7,39,119,247,7,1023,2047]
theorem impl_ClassesOf.tab9:rtab .any (opsOf Try.f14 9) = impl_ClassesOf.T9:=by kernel_rfl
theorem impl_ClassesOf.bits9:waitsOk impl_ClassesOf.T9.2 impl_ClassesOf.B9 = true:=by kernel_rfl
set_option maxHeartbeats 8000000 in
set_option maxRecDepth 100000 in
theorem impl_ClassesOf.calls (k:Nat) (a0_0:Int) (A0_1:Option Addr) (c0_1:Nat) (l0_1:List (List Int)) (r1:List (List Int)) (r2:Bool) (w:World) (hr0_1:Kd.C (Kd.slice 3 (Kd.int .i64)) w A0_1 l0_1.length l0_1) (hc0_1:l0_1.length ≤ c0_1) (h:impl_ClassesOf.f k a0_0 l0_1 = some (r1,r2)) :
  Calls Try.prog 14 #[.agg #[.int .i64 a0_0,.slice A0_1 l0_1.length c0_1]] w fun e w'=>∃ v0_:Value,e = .returned (.tuple #[v0_,.bool r2]) ∧ Kd.S (Kd.slice 3 (Kd.int .i64)) 40 w' w.heap.size (fun _=>True) v0_ r1 ∧ Below w.heap.size w w':=by
 have hu28:=Try.underlying28;have hu68:=Try.underlying68;have HR0_1:=Aside0.mk hr0_1;have HC0_1:=Aside0.mk hc0_1;clear hr0_1 hc0_1;have HB:=Aside0.mk (Below.refl w.heap.size w);have H:((impl_OrderOfWorth.f k a0_0 l0_1).bind fun bt362=>(if bt362.2 = true then ((impl_Game_votes.f k a0_0 l0_1).bind fun bt366=>(impl_ClassesOf.l0 k bt362.1 (([]:List (List Int))) bt362.1 (bt362.1.length:Int) 0 bt366.1 bt366.2)) else (some (([]:List (List Int)),false)))) = some (r1,r2):=h;clear h;replace H:=Option.bind_eq_some_iff.mp H;obtain ⟨⟨t362,t365⟩,A20,H⟩:=H;replace H:(if t365 = true then ((impl_Game_votes.f k a0_0 l0_1).bind fun bt366=>(impl_ClassesOf.l0 k t362 (([]:List (List Int))) t362 (t362.length:Int) 0 bt366.1 bt366.2)) else (some (([]:List (List Int)),false))) = some (r1,r2):=H;have A2:=Aside0.mk A20;clear A20;by_cases c3:t365 = true
 ·subst c3;have H1:((impl_Game_votes.f k a0_0 l0_1).bind fun bt366=>(impl_ClassesOf.l0 k t362 (([]:List (List Int))) t362 (t362.length:Int) 0 bt366.1 bt366.2)) = some (r1,r2):=by rw [if_pos rfl] at H;exact H
  clear H;have H:=H1;clear H1;replace H:=Option.bind_eq_some_iff.mp H;obtain ⟨⟨t366,t367⟩,A40,H⟩:=H;replace H:(impl_ClassesOf.l0 k t362 (([]:List (List Int))) t362 (t362.length:Int) 0 t366 t367) = some (r1,r2):=H;have A4:=Aside0.mk A40;clear A40;obtain ⟨y371,hy371⟩:∃ y_:List (List Int),y_ = (([]:List (List Int))):=⟨_,rfl⟩;replace H:(impl_ClassesOf.l0 k t362 y371 t362 (t362.length:Int) 0 t366 t367) = some (r1,r2):=by first|(rw [hy371];with_reducible exact H)|(have H2_:=(Option.bind_some _ _).symm.trans H;rw [hy371];with_reducible exact H2_)|(have H2_:=(Option.bind_some _ _).symm.trans H;with_reducible exact H2_)|with_reducible exact H|(rw [hy371];exact H)|exact H
  have Ny371:=Aside0.mk hy371;clear hy371;have H':=Aside0.mk H;clear H;go_enter Try.func14,Try.ntmps14;go_wp2_with (first|((with_reducible refine gate_dst (N:=1) rfl ?_);refine box_event ?hg (N:=1) ?hd (cs:=#[.int .i64 a0_0,.slice A0_1 l0_1.length c0_1]) (t:=28) ?hr ?_;(case hd=>rfl);(case hg=>rfl);(case hr=>first|(go_simp;done)|(go_simp;rfl));intro gb361 hg w5 hbox hb;have n0_:=Aside0.mk (below_step bw hb);have n1_:=Aside0.mk (hbox);have n2_:=Aside0.mk ((by rw [hg];exact (below_size bw):w.heap.size ≤ gb361));have n3_:=Aside0.mk ((by rw [hg];exact (below_size bw):w.heap.size ≤ gb361));clear HB;have HB:=n0_;have BK361:=n1_;have GW361:=n2_;have GE361:=n3_;clear n0_ n1_ n2_ n3_;clear hb hbox hg;have hcz6_0:w5.cell? ⟨gb361,0,none⟩ = some (.int .i64 a0_0):=(blk_cell BK361.out 0).trans rfl;have hcz6_1:w5.cell? ⟨gb361,1,none⟩ = some (.slice A0_1 l0_1.length c0_1):=(blk_cell BK361.out 1).trans rfl;have hfz6_0:=blk_frozen BK361.out 0;have hfz6_1:=blk_frozen BK361.out 1)|((with_reducible refine gate_callee (f:=48) rfl ?_);refine goesL_ (some 12) rfl rfl Try.func48 (by kernel_rfl) rfl #[.agg #[.int .i64 a0_0,.slice A0_1 l0_1.length c0_1]] rfl mq ?_;(with_reducible refine (impl_OrderOfWorth.calls k a0_0 _ _ l0_1 t362 true _ ?side1 ?side2 A2.out).mono ?_);(case side1=>repeat (first|exact (Kd.C_below HR0_1.out HB.out)|(with_reducible refine Kd.C_alloc ?_ _)|(with_reducible refine Kd.C_drewN ?_ _)|(with_reducible refine Kd.C_drew ?_)));(case side2=>exact HC0_1.out);rintro e w7 ⟨v363,rfl,ho0,hb⟩;refine ⟨_,rfl,?_⟩;have n0_:=Aside0.mk (Kd.R_lower ho0 (below_size bw));have n1_:=Aside0.mk (blk_below (g:=gb361) (o:=.cells #[.int .i64 a0_0,.slice A0_1 l0_1.length c0_1] 28 (0,0)) bk hb);have n2_:=Aside0.mk (below_step bw hb);clear BK361;clear HB;have HO364:=n0_;have BK361:=n1_;have HB:=n2_;clear n0_ n1_ n2_;(try clear hb);(try clear hb2);(try clear hk);(try clear hi);(try clear ho0);have hcz8_0:w7.cell? ⟨gb361,0,none⟩ = some (.int .i64 a0_0):=(blk_cell BK361.out 0).trans rfl;have hcz8_1:w7.cell? ⟨gb361,1,none⟩ = some (.slice A0_1 l0_1.length c0_1):=(blk_cell BK361.out 1).trans rfl;have hfz8_0:=blk_frozen BK361.out 0;have hfz8_1:=blk_frozen BK361.out 1)|((with_reducible refine gate_callee (f:=49) rfl ?_);refine goesL_ (some 18) rfl rfl Try.func49 (by kernel_rfl) rfl #[.agg #[.int .i64 a0_0,.slice A0_1 l0_1.length c0_1]] rfl mq ?_;(with_reducible refine (impl_Game_votes.calls k a0_0 _ _ l0_1 t366 t367 _ ?side1 ?side2 A4.out).mono ?_);(case side1=>repeat (first|exact (Kd.C_below HR0_1.out HB.out)|(with_reducible refine Kd.C_alloc ?_ _)|(with_reducible refine Kd.C_drewN ?_ _)|(with_reducible refine Kd.C_drew ?_)));(case side2=>exact HC0_1.out);rintro e w9 ⟨v368,rfl,ho0,hb⟩;refine ⟨_,rfl,?_⟩;have n0_:=Aside0.mk (Kd.R_below (by (with_reducible repeat (first|apply Kd.R_alloc|apply Kd.R_drewN|apply Kd.R_drew));exact HO364.out) hb);have n1_:=Aside0.mk (Kd.R_lower ho0 (below_size bw));have n2_:=Aside0.mk (blk_below (g:=gb361) (o:=.cells #[.int .i64 a0_0,.slice A0_1 l0_1.length c0_1] 28 (0,0)) bk hb);have n3_:=Aside0.mk (below_step bw hb);clear HO364;clear BK361;clear HB;have HO364:=n0_;have HO369:=n1_;have BK361:=n2_;have HB:=n3_;clear n0_ n1_ n2_ n3_;(try clear hb);(try clear hb2);(try clear hk);(try clear hi);(try clear ho0))|((with_reducible refine gate_dst (N:=6) rfl ?_);refine box_event ?hg (N:=6) ?hd (cs:=#[.int .i64 0,.slice none 0 0]) (t:=68) ?hr ?_;(case hd=>rfl);(case hg=>rfl);(case hr=>first|(go_simp;done)|(go_simp;rfl));intro gb370 hg w10 hbox hb;have n0_:=Aside0.mk (Kd.R_below (by (with_reducible repeat (first|apply Kd.R_alloc|apply Kd.R_drewN|apply Kd.R_drew));exact HO364.out) hb);have n1_:=Aside0.mk (Kd.R_below (by (with_reducible repeat (first|apply Kd.R_alloc|apply Kd.R_drewN|apply Kd.R_drew));exact HO369.out) hb);have n2_:=Aside0.mk (blk_below (g:=gb361) (o:=.cells #[.int .i64 a0_0,.slice A0_1 l0_1.length c0_1] 28 (0,0)) bk hb);have n3_:=Aside0.mk (below_step bw hb);have n4_:=Aside0.mk (hbox);have n5_:=Aside0.mk ((by rw [hg];exact (below_size bw):w.heap.size ≤ gb370));have n6_:=Aside0.mk ((by rw [hg];exact (below_size bw):w.heap.size ≤ gb370));have n7_:=Aside0.mk ((by rw [hg];exact Nat.ne_of_lt (blk_lt (g:=gb361) (o:=.cells #[.int .i64 a0_0,.slice A0_1 l0_1.length c0_1] 28 (0,0)) bk):gb361 ≠ gb370));have n8_:=Aside0.mk ((by rw [hg];exact Nat.ne_of_gt (blk_lt (g:=gb361) (o:=.cells #[.int .i64 a0_0,.slice A0_1 l0_1.length c0_1] 28 (0,0)) bk):gb370 ≠ gb361));clear HO364;clear HO369;clear BK361;clear HB;have HO364:=n0_;have HO369:=n1_;have BK361:=n2_;have HB:=n3_;have BK370:=n4_;have GW370:=n5_;have GE370:=n6_;have NB361_370:=n7_;have NB370_361:=n8_;clear n0_ n1_ n2_ n3_ n4_ n5_ n6_ n7_ n8_;clear hb hbox hg;have hnb11:=NB370_361.out;have hnc11:=NB361_370.out;have hcz12_0:w10.cell? ⟨gb370,0,none⟩ = some (.int .i64 0):=(blk_cell BK370.out 0).trans rfl;have hcz12_1:w10.cell? ⟨gb370,1,none⟩ = some (.slice none 0 0):=(blk_cell BK370.out 1).trans rfl;have hfz12_0:=blk_frozen BK370.out 0;have hfz12_1:=blk_frozen BK370.out 1;obtain ⟨Ao13,co13,eo13⟩:=Kd.R_slice HO369.out;subst eo13)|((with_reducible refine gate_dst (N:=19) rfl ?_);refine Kd.S_lit (Kd.slice 3 (Kd.int .i64)) _ 40 ?hg (N:=19) ?hd (xs:=([]:List (List Int))) (inner:=[]) (ok:=fun _=>True) (okp:=fun _=>True) ?hr ?hp (fun _ hk=>hk) trivial (Below.refl _ _) (Nat.le_refl _) (by simp) ?_;(case hd=>rfl);(case hg=>rfl);(case hr=>first|(go_simp;done)|(go_simp;rfl));(case hp=>exact (Reps.none _ _));intro v372 w14 ho15 hb hg_ hnew_;clear hg_ hnew_;(first|rw [← Ny371.out] at ho15|(simp only [Int.reduceToNat] at ho15;rw [← Ny371.out] at ho15));have n0_:=Aside0.mk (Kd.R_below (by (with_reducible repeat (first|apply Kd.R_alloc|apply Kd.R_drewN|apply Kd.R_drew));exact (Kd.R_mono (Kd.R_far (p:=⟨gb370,1,none⟩) (Kd.R_far (p:=⟨gb370,0,none⟩) (Kd.R_types HO364.out BK370.out (by decide)) (fun _ hk=>hk.2) (.int .i64 t366)) (fun _ hk=>hk.2) (.slice Ao13 t367.length co13)) (fun _ h_=>h_.1))) hb);have n1_:=Aside0.mk (Kd.R_below (by (with_reducible repeat (first|apply Kd.R_alloc|apply Kd.R_drewN|apply Kd.R_drew));exact (Kd.R_mono (Kd.R_far (p:=⟨gb370,1,none⟩) (Kd.R_far (p:=⟨gb370,0,none⟩) (Kd.R_types HO369.out BK370.out (by decide)) (fun _ hk=>hk.2) (.int .i64 t366)) (fun _ hk=>hk.2) (.slice Ao13 t367.length co13)) (fun _ h_=>h_.1))) hb);have n2_:=Aside0.mk (Kd.S_lower (Kd.S_new' ho15 (Kd.R_lt (by (with_reducible repeat (first|apply Kd.R_alloc|apply Kd.R_drewN|apply Kd.R_drew));exact (Kd.R_mono (Kd.R_far (p:=⟨gb370,1,none⟩) (Kd.R_far (p:=⟨gb370,0,none⟩) (Kd.R_types HO364.out BK370.out (by decide)) (fun _ hk=>hk.2) (.int .i64 t366)) (fun _ hk=>hk.2) (.slice Ao13 t367.length co13)) (fun _ h_=>h_.1))))) (below_size bw));have n3_:=Aside0.mk (blk_below (g:=gb361) (o:=.cells #[.int .i64 a0_0,.slice A0_1 l0_1.length c0_1] 28 (0,0)) (by (with_reducible repeat (first|refine blk_drewN ?_ _|refine blk_drew ?_|refine blk_alloc ?_ _));refine blk_far ?_ NB361_370.out _;(with_reducible repeat (first|refine blk_drewN ?_ _|refine blk_drew ?_|refine blk_alloc ?_ _));refine blk_far ?_ NB361_370.out _;(with_reducible repeat (first|refine blk_drewN ?_ _|refine blk_drew ?_|refine blk_alloc ?_ _));exact BK361.out) hb);have n4_:=Aside0.mk (blk_below (g:=gb370) (o:=.cells #[.int .i64 t366,.slice Ao13 t367.length co13] 68 (0,0)) (by (with_reducible repeat (first|refine blk_drewN ?_ _|refine blk_drew ?_|refine blk_alloc ?_ _));refine blk_put (cs:=#[.int .i64 t366,.slice none 0 0]) ?_ 1 _ rfl;(with_reducible repeat (first|refine blk_drewN ?_ _|refine blk_drew ?_|refine blk_alloc ?_ _));refine blk_put (cs:=#[.int .i64 0,.slice none 0 0]) ?_ 0 _ rfl;(with_reducible repeat (first|refine blk_drewN ?_ _|refine blk_drew ?_|refine blk_alloc ?_ _));exact BK370.out) hb);have n5_:=Aside0.mk (below_step bw hb);clear HO364;clear HO369;clear BK361;clear BK370;clear HB;have HO364:=n0_;have HO369:=n1_;have HO373:=n2_;have BK361:=n3_;have BK370:=n4_;have HB:=n5_;clear n0_ n1_ n2_ n3_ n4_ n5_;clear hb ho15;obtain ⟨Ao16,co16,eo16⟩:=Kd.R_slice HO364.out;subst eo16))
  go_loopg [7,22] k (fun kq v7 v22 w'=>∃ (x7_1:List (List Int)) (x22_1:Int),v22 = .int .i64 x22_1 ∧ Aside0 (impl_ClassesOf.l0 kq t362 x7_1 t362 (t362.length:Int) x22_1 t366 t367 = some (r1,r2)) ∧ Aside0 (kq ≤ k) ∧ Aside0 (Kd.R (Kd.int .i64) 3 w' w.heap.size (fun _=>True) (.slice Ao16 t362.length co16) t362) ∧ Aside0 (Kd.S (Kd.slice 3 (Kd.int .i64)) 40 w' w.heap.size (fun k_=>some k_ ≠ ((.slice Ao16 t362.length co16):Value).ownBlock ∧ some k_ ≠ ((.slice Ao16 t362.length co16):Value).ownBlock) v7 x7_1) ∧ Aside0 (Kd.R (Kd.int .i64) 3 w' w.heap.size (fun _=>True) (.slice Ao16 t362.length co16) t362) ∧ Aside0 (Kd.R Kd.bool 4 w' w.heap.size (fun _=>True) (.slice Ao13 t367.length co13) t367) ∧ Aside0 (w'.heap[gb361]? = some (.cells #[.int .i64 a0_0,(.slice A0_1 l0_1.length c0_1)] 28 (0,0))) ∧ Aside0 (w'.heap[gb370]? = some (.cells #[.int .i64 t366,(.slice Ao13 t367.length co13)] 68 (0,0))) ∧ Aside0 (Below w.heap.size w w'))
  case atStart=>exact ⟨(y371),(0),(by first|rfl|(simp;done)|(simp [*];done)),H',⟨Nat.le_refl _⟩,⟨by (with_reducible repeat (first|apply Kd.R_alloc|apply Kd.R_drewN|apply Kd.R_drew));exact HO364.out⟩,⟨by (with_reducible repeat (first|apply Kd.S_alloc|apply Kd.S_drewN|apply Kd.S_drew));exact Kd.S_mono HO373.out (fun _ hk=>⟨hk.2,hk.2⟩)⟩,⟨by (with_reducible repeat (first|apply Kd.R_alloc|apply Kd.R_drewN|apply Kd.R_drew));exact HO364.out⟩,⟨by (with_reducible repeat (first|apply Kd.R_alloc|apply Kd.R_drewN|apply Kd.R_drew));exact HO369.out⟩,⟨by (with_reducible repeat (first|refine blk_drewN ?_ _|refine blk_drew ?_|refine blk_alloc ?_ _));exact BK361.out⟩,⟨by (with_reducible repeat (first|refine blk_drewN ?_ _|refine blk_drew ?_|refine blk_alloc ?_ _));exact BK370.out⟩,⟨by repeat (first|(with_reducible first|exact HB.out|apply below_alloc|apply pw_below_drewN|apply below_drew1|refine below_set ?_ GE361.out|refine below_set ?_ GE370.out)|exact HB.out)⟩⟩
  case round =>
   clear H'
   try clear c1
   try clear p2
   try clear c3
   try clear c4
   try clear c11
   try clear c14
   try clear hcz12_0
   try clear hcz12_1
   try clear hcz6_0
   try clear hcz6_1
   try clear hcz8_0
   try clear hcz8_1
   try clear hfz12_0
   try clear hfz12_1
   try clear hfz6_0
   try clear hfz6_1
   try clear hfz8_0
   try clear hfz8_1
   obtain ⟨x7_1,x22_1,rfl,HA,HK1,HO_4,HO_7,HO_20,HO_371001,BK361,BK370,HB⟩:=hrel
   cases gk with
   | zero=>exact absurd HA.out (by simp [impl_ClassesOf.l0])
   | succ k1 =>
    have H:=HA.out;clear HA;simp only [impl_ClassesOf.l0] at H;by_cases c17:x22_1 < (t362.length:Int)
    ·rw [if_pos c17] at H;have c17b0:decide (x22_1 < (t362.length:Int)) = true:=decide_eq_true c17;clear c17;by_cases c18:0 ≤ x22_1
     ·rw [if_pos c18] at H;have c18b0:decide (0 ≤ x22_1) = true:=decide_eq_true c18;clear c18;by_cases c19:x22_1 < (t362.length:Int)
      ·rw [if_pos c19] at H;have c19b0:decide (x22_1 < (t362.length:Int)) = true:=decide_eq_true c19;clear c19;by_cases c20:x22_1 = 0
       ·rw [if_pos c20] at H;have c20b0:(x22_1 == 0) = true:=beq_iff_eq.mpr c20;have c20b1:(x22_1 != 0) = false:=bne_eq_false_iff_eq.mpr c20;clear c20;obtain ⟨y375,hy375⟩:∃ y_:List Int,y_ = (([]:List Int)):=⟨_,rfl⟩;replace H:(if x7_1.length < 5864062014805 then ((some (x7_1 ++ [y375]:List (List Int))).bind fun y378=>(if 0 ≤ (wrap64 ((y378.length:Int) - 1)) then (if (wrap64 ((y378.length:Int) - 1)) < (y378.length:Int) then (if (rd_LI y378 (wrap64 ((y378.length:Int) - 1))).length < 17592186044416 then (impl_ClassesOf.l0 k1 t362 (y378.set ((wrap64 ((y378.length:Int) - 1)):Int).toNat ((rd_LI y378 (wrap64 ((y378.length:Int) - 1))) ++ [rd t362 x22_1])) t362 (t362.length:Int) (wrap64 (x22_1 + 1)) t366 t367) else (none)) else (none)) else (none))) else (none)) = some (r1,r2):=by first|(rw [hy375];with_reducible exact H)|(have H2_:=(Option.bind_some _ _).symm.trans H;rw [hy375];with_reducible exact H2_)|(have H2_:=(Option.bind_some _ _).symm.trans H;with_reducible exact H2_)|with_reducible exact H|(rw [hy375];exact H)|exact H
        have Ny375:=Aside0.mk hy375;clear hy375;by_cases c21:x7_1.length < 5864062014805
        ·rw [if_pos c21] at H;have LMc21:=Aside0.mk c21;clear c21;obtain ⟨y378,hy378⟩:∃ y_:List (List Int),y_ = (x7_1 ++ [y375]):=⟨_,rfl⟩;replace H:(if 0 ≤ (wrap64 ((y378.length:Int) - 1)) then (if (wrap64 ((y378.length:Int) - 1)) < (y378.length:Int) then (if (rd_LI y378 (wrap64 ((y378.length:Int) - 1))).length < 17592186044416 then (impl_ClassesOf.l0 k1 t362 (y378.set ((wrap64 ((y378.length:Int) - 1)):Int).toNat ((rd_LI y378 (wrap64 ((y378.length:Int) - 1))) ++ [rd t362 x22_1])) t362 (t362.length:Int) (wrap64 (x22_1 + 1)) t366 t367) else (none)) else (none)) else (none)) = some (r1,r2):=by first|(rw [hy378];with_reducible exact H)|(have H2_:=(Option.bind_some _ _).symm.trans H;rw [hy378];with_reducible exact H2_)|(have H2_:=(Option.bind_some _ _).symm.trans H;with_reducible exact H2_)|with_reducible exact H|(rw [hy378];exact H)|exact H
         have Ny378:=Aside0.mk hy378;clear hy378;obtain ⟨ji22,hji22⟩:∃ j_:Int,(wrap64 ((y378.length:Int) - 1)) = j_:=⟨_,rfl⟩;replace H:(if 0 ≤ (ji22) then (if (ji22) < (y378.length:Int) then (if (rd_LI y378 (ji22)).length < 17592186044416 then (impl_ClassesOf.l0 k1 t362 (y378.set ((ji22):Int).toNat ((rd_LI y378 (ji22)) ++ [rd t362 x22_1])) t362 (t362.length:Int) (wrap64 (x22_1 + 1)) t366 t367) else (none)) else (none)) else (none)) = some (r1,r2):=by first|(rw [hji22] at H;exact H)|(simp only [hji22] at H ⊢;exact H)
         have hji22w:(IntKind.i64.wrap ((y378.length:Int) - 1)) = ji22:=(i64_w _).trans hji22;by_cases c23:0 ≤ (ji22)
         ·rw [if_pos c23] at H;have c23b0:decide (0 ≤ (ji22)) = true:=decide_eq_true c23;clear c23;by_cases c24:(ji22) < (y378.length:Int)
          ·rw [if_pos c24] at H;have c24b0:decide ((ji22) < (y378.length:Int)) = true:=decide_eq_true c24;clear c24;by_cases c25:(rd_LI y378 (ji22)).length < 17592186044416
           ·rw [if_pos c25] at H;have LMc25:=Aside0.mk c25;clear c25;obtain ⟨y382,hy382⟩:∃ y_:List Int,y_ = ((rd_LI y378 (ji22)) ++ [rd t362 x22_1]):=⟨_,rfl⟩;replace H:(impl_ClassesOf.l0 k1 t362 (y378.set ((ji22):Int).toNat y382) t362 (t362.length:Int) (wrap64 (x22_1 + 1)) t366 t367) = some (r1,r2):=by first|(rw [hy382];with_reducible exact H)|(have H2_:=(Option.bind_some _ _).symm.trans H;rw [hy382];with_reducible exact H2_)|(have H2_:=(Option.bind_some _ _).symm.trans H;with_reducible exact H2_)|with_reducible exact H|(rw [hy382];exact H)|exact H
            have Ny382:=Aside0.mk hy382;clear hy382;obtain ⟨y385,hy385⟩:∃ y_:List (List Int),y_ = (y378.set ((ji22):Int).toNat y382):=⟨_,rfl⟩;replace H:(impl_ClassesOf.l0 k1 t362 y385 t362 (t362.length:Int) (wrap64 (x22_1 + 1)) t366 t367) = some (r1,r2):=by first|(rw [hy385];with_reducible exact H)|(have H2_:=(Option.bind_some _ _).symm.trans H;rw [hy385];with_reducible exact H2_)|(have H2_:=(Option.bind_some _ _).symm.trans H;with_reducible exact H2_)|with_reducible exact H|(rw [hy385];exact H)|exact H
            have Ny385:=Aside0.mk hy385;clear hy385;have H':=Aside0.mk H;clear H;have p374:0 ≤ (x22_1:Int):=of_decide_eq_true ab;have q374:x22_1 < (t362.length:Int):=of_decide_eq_true ab;obtain ⟨ad374,e374,hx374_0⟩:=Kd.at_int (Kd.R_reads' HO_20.out).2.2 x22_1 p374 q374;cases e374
            replace p374:=eq_true p374;replace q374:=eq_true q374
            try go_wp2
            have n0_:=Aside0.mk (Kd.R_drew HO_4.out);have n1_:=Aside0.mk (Kd.S_drew HO_7.out);have n2_:=Aside0.mk (Kd.R_drew HO_20.out);have n3_:=Aside0.mk (Kd.R_drew HO_371001.out);have n4_:=Aside0.mk (blk_drew BK361.out);have n5_:=Aside0.mk (blk_drew BK370.out);have n6_:=Aside0.mk (below_drew1 HB.out);clear HO_4;clear HO_7;clear HO_20;clear HO_371001;clear BK361;clear BK370;clear HB;have HO_4:=n0_;have HO_7:=n1_;have HO_20:=n2_;have HO_371001:=n3_;have BK361:=n4_;have BK370:=n5_;have HB:=n6_;clear n0_ n1_ n2_ n3_ n4_ n5_ n6_;refine start_ (n:=12) (S:=fun w'=>True) (ds:=[]) #[false,false,false,false,false,false,false,false,false,false,false,false] (by kernel_rfl) rfl rfl trivial (fun hHeld=>?_);refine with_tabW impl_ClassesOf.tab9 impl_ClassesOf.bits9 (fun HT_ HW_=>?_)
            generalize wr.drew = w27 at HO_4 HO_7 HO_20 HO_371001 BK361 BK370 HB hHeld ⊢
            refine pure_ (i:=0) (N:=some 27) (v:=?_) (a':=?_) #[true,false,false,false,false,false,false,false,false,false,false,false] rfl rfl (any_of HT_.out (by kernel_rfl)) (fun _ _ _ h=>h) (Or.inl ⟨by rfl,?_⟩) ?_ ?_;rotate_left
            ·intro w';go_simp
             with_reducible rfl
            rotate_left
            ·simp only [Act.put,sA,sZ,sS,i64_w,i32_w];rfl
            refine pure_ (i:=1) (N:=some 28) (v:=?_) (a':=?_) #[true,true,false,false,false,false,false,false,false,false,false,false] rfl rfl (any_of HT_.out (by kernel_rfl)) (fun _ _ _ h=>h) (Or.inl ⟨by rfl,?_⟩) ?_ ?_;rotate_left
            ·intro w';go_simp
             with_reducible rfl
            rotate_left
            ·simp only [Act.put,sA,sZ,sS,i64_w,i32_w];rfl
            refine pure_ (i:=2) (N:=some 29) (v:=?_) (a':=?_) #[true,true,true,false,false,false,false,false,false,false,false,false] rfl rfl (any_of HT_.out (by kernel_rfl)) (fun _ _ _ h=>h) (Or.inl ⟨by rfl,?_⟩) ?_ ?_;rotate_left
            ·intro w';go_simp
             with_reducible rfl
            rotate_left
            ·simp only [Act.put,sA,sZ,sS,i64_w,i32_w];rfl
            refine pure_ (i:=3) (N:=some 30) (v:=undef) (a':=?_) #[true,true,true,true,false,false,false,false,false,false,false,false] rfl rfl (any_of HT_.out (by kernel_rfl)) (fun _ _ _ h=>h) (Or.inr ⟨by rfl,rfl⟩) ?_ ?_;rotate_left
            ·simp only [Act.put,sA,sZ,sS,i64_w,i32_w];rfl
            refine pure_ (i:=4) (N:=some 31) (v:=undef) (a':=?_) #[true,true,true,true,true,false,false,false,false,false,false,false] rfl rfl (any_of HT_.out (by kernel_rfl)) (fun _ _ _ h=>h) (Or.inr ⟨by rfl,rfl⟩) ?_ ?_;rotate_left
            ·simp only [Act.put,sA,sZ,sS,i64_w,i32_w];rfl
            refine pure_ (i:=5) (N:=some 32) (v:=undef) (a':=?_) #[true,true,true,true,true,true,false,false,false,false,false,false] rfl rfl (any_of HT_.out (by kernel_rfl)) (fun _ _ _ h=>h) (Or.inr ⟨by rfl,rfl⟩) ?_ ?_;rotate_left
            ·simp only [Act.put,sA,sZ,sS,i64_w,i32_w];rfl
            refine pure_ (i:=6) (N:=some 33) (v:=undef) (a':=?_) #[true,true,true,true,true,true,true,false,false,false,false,false] rfl rfl (any_of HT_.out (by kernel_rfl)) (fun _ _ _ h=>h) (Or.inr ⟨by rfl,rfl⟩) ?_ ?_;rotate_left
            ·simp only [Act.put,sA,sZ,sS,i64_w,i32_w];rfl
            refine pure_ (i:=7) (N:=some 34) (v:=undef) (a':=?_) #[true,true,true,true,true,true,true,true,false,false,false,false] rfl rfl (any_of HT_.out (by kernel_rfl)) (fun _ _ _ h=>h) (Or.inr ⟨by rfl,rfl⟩) ?_ ?_;rotate_left
            ·simp only [Act.put,sA,sZ,sS,i64_w,i32_w];rfl
            refine pure_ (i:=8) (N:=some 35) (v:=undef) (a':=?_) #[true,true,true,true,true,true,true,true,true,false,false,false] rfl rfl (any_of HT_.out (by kernel_rfl)) (fun _ _ _ h=>h) (Or.inr ⟨by rfl,rfl⟩) ?_ ?_;rotate_left
            ·simp only [Act.put,sA,sZ,sS,i64_w,i32_w];rfl
            refine pure_ (i:=9) (N:=some 36) (v:=undef) (a':=?_) #[true,true,true,true,true,true,true,true,true,true,false,false] rfl rfl (any_of HT_.out (by kernel_rfl)) (fun _ _ _ h=>h) (Or.inr ⟨by rfl,rfl⟩) ?_ ?_;rotate_left
            ·simp only [Act.put,sA,sZ,sS,i64_w,i32_w];rfl
            refine pure_ (i:=10) (N:=some 37) (v:=undef) (a':=?_) #[true,true,true,true,true,true,true,true,true,true,true,false] rfl rfl (any_of HT_.out (by kernel_rfl)) (fun _ _ _ h=>h) (Or.inr ⟨by rfl,rfl⟩) ?_ ?_;rotate_left
            ·simp only [Act.put,sA,sZ,sS,i64_w,i32_w];rfl
            refine pure_ (i:=11) (N:=some 38) (v:=?_) (a':=?_) #[true,true,true,true,true,true,true,true,true,true,true,true] rfl rfl (any_of HT_.out (by kernel_rfl)) (fun _ _ _ h=>h) (Or.inl ⟨by rfl,?_⟩) ?_ ?_;rotate_left
            ·intro w';go_simp
             with_reducible rfl
            rotate_left
            ·simp only [Act.put,sA,sZ,sS,i64_w,i32_w];rfl
            refine done_ (done_of HT_.out (by kernel_rfl)) ?_
            try go_wp2_with (first|((with_reducible refine gate_dst (N:=40) rfl ?_);refine Kd.R_lit (Kd.int .i64) _ 3 ?hg (N:=40) ?hd (xs:=([]:List Int)) (inner:=[]) (ok:=fun _=>True) (okp:=fun _=>True) ?hr ?hp (fun _ hk=>hk) trivial (Below.refl _ _) (Nat.le_refl _) (by simp) ?_;(case hd=>rfl);(case hg=>rfl);(case hr=>first|(go_simp;done)|(go_simp;rfl));(case hp=>exact (Reps.none _ _));intro v376 w28 ho29 hb hg_ hnew_;clear hg_ hnew_;(first|rw [← Ny375.out] at ho29|(simp only [Int.reduceToNat] at ho29;rw [← Ny375.out] at ho29));have n0_:=Aside0.mk (Kd.R_elder' (by (with_reducible repeat (first|apply Kd.R_alloc|apply Kd.R_drewN|apply Kd.R_drew));exact HO_4.out) (Kd.R_base ho29) hb);have n1_:=Aside0.mk (Kd.S_elder' (by (with_reducible repeat (first|apply Kd.S_alloc|apply Kd.S_drewN|apply Kd.S_drew));exact HO_7.out) (Kd.R_base ho29) hb);have n2_:=Aside0.mk (Kd.R_elder' (by (with_reducible repeat (first|apply Kd.R_alloc|apply Kd.R_drewN|apply Kd.R_drew));exact HO_20.out) (Kd.R_base ho29) hb);have n3_:=Aside0.mk (Kd.R_below (by (with_reducible repeat (first|apply Kd.R_alloc|apply Kd.R_drewN|apply Kd.R_drew));exact HO_371001.out) hb);have n4_:=Aside0.mk (Kd.R_lower (Kd.R_new' (Kd.R_new' ho29 (Kd.R_lt (by (with_reducible repeat (first|apply Kd.R_alloc|apply Kd.R_drewN|apply Kd.R_drew));exact HO_4.out))) (Kd.R_lt (by (with_reducible repeat (first|apply Kd.R_alloc|apply Kd.R_drewN|apply Kd.R_drew));exact HO_20.out))) (below_size bw));have n5_:=Aside0.mk (blk_below (g:=gb361) (o:=.cells #[.int .i64 a0_0,.slice A0_1 l0_1.length c0_1] 28 (0,0)) bk hb);have n6_:=Aside0.mk (blk_below (g:=gb370) (o:=.cells #[.int .i64 t366,.slice Ao13 t367.length co13] 68 (0,0)) bk hb);have n7_:=Aside0.mk (below_step bw hb);clear HO_4;clear HO_7;clear HO_20;clear HO_371001;clear BK361;clear BK370;clear HB;have HO_4:=n0_;have HO_7:=n1_;have HO_20:=n2_;have HO_371001:=n3_;have HO377:=n4_;have BK361:=n5_;have BK370:=n6_;have HB:=n7_;clear n0_ n1_ n2_ n3_ n4_ n5_ n6_ n7_;clear hb ho29;obtain ⟨Ao31,co31,eo31⟩:=Kd.R_slice HO377.out;subst eo31)|((with_reducible refine gate_builtin (b:=.append) (xs:=#[.tmp 39,.tmp 41]) rfl ?_);at_builtin;refine Kd.S_append (Kd.slice 3 (Kd.int .i64)) (w0:=w) w.heap.size rfl (.tmp 39) (.tmp 41) 22 40 (.slice none 0 0) 24 rfl Try.underlying22 info40 rfl (by decide) (by omega) u7 x7_1 y375 [.slice Ao31 y375.length co31] (fun k_=>some k_ ≠ (.slice (some ad374) t362.length co16:Value).ownBlock ∧ some k_ ≠ (.slice (some ad374) t362.length co16:Value).ownBlock) (fun k_=>some k_ = (.slice Ao31 y375.length co31:Value).ownBlock) rfl rfl ?aP (fun k_ hk_=>((Kd.R_mono (ok':=fun k_=>((fun k_=>some k_ ≠ (.slice (some ad374) t362.length co16:Value).ownBlock ∧ some k_ ≠ (.slice (some ad374) t362.length co16:Value).ownBlock)) k_ ∧ some k_ ≠ (u7:Value).ownBlock) (Kd.R_apart' (HO377.out) (Kd.S_typed HO_7.out) (by decide)) (fun k_ hk=>⟨⟨hk.1.1.2,hk.1.2⟩,hk.2⟩))).1 k_ hk_.symm) ?aF ?aO ?aB ?aS ?aL ?_;(case aP=>exact Kd.M_row (Kd.R_mono (Kd.R_tight rfl (Kd.R_mono (ok':=fun k_=>((fun k_=>some k_ ≠ (.slice (some ad374) t362.length co16:Value).ownBlock ∧ some k_ ≠ (.slice (some ad374) t362.length co16:Value).ownBlock)) k_ ∧ some k_ ≠ (u7:Value).ownBlock) (Kd.R_apart' (HO377.out) (Kd.S_typed HO_7.out) (by decide)) (fun k_ hk=>⟨⟨hk.1.1.2,hk.1.2⟩,hk.2⟩))) (fun _ h_=>h_)));(case aB=>exact bw);(case aF=>exact (fun k_ hk=>⟨Kd.fresh' (Kd.R_lt (by (with_reducible repeat (first|apply Kd.R_alloc|apply Kd.R_drewN|apply Kd.R_drew));exact HO_4.out)) k_ hk,Kd.fresh' (Kd.R_lt (by (with_reducible repeat (first|apply Kd.R_alloc|apply Kd.R_drewN|apply Kd.R_drew));exact HO_20.out)) k_ hk⟩));(case aO=>exact (by (with_reducible repeat (first|apply Kd.S_alloc|apply Kd.S_drewN|apply Kd.S_drew));exact Kd.S_mono HO_7.out (fun k_ hk=>⟨⟨hk.1.1,hk.1.2⟩,fun e_=>hk.2 e_⟩)));(case aS=>exact (below_size bw));(case aL=>have:=LMc21.out;omega);intro v379 w30 ho hb hg hat;rw [← Ny378.out] at ho;have n0_:=Aside0.mk (Kd.R_over' (by (with_reducible repeat (first|apply Kd.R_alloc|apply Kd.R_drewN|apply Kd.R_drew));exact HO_4.out) (Kd.S_typed (by (with_reducible repeat (first|apply Kd.S_alloc|apply Kd.S_drewN|apply Kd.S_drew));exact HO_7.out)) (by decide) hg);have n1_:=Aside0.mk (Kd.R_over' (by (with_reducible repeat (first|apply Kd.R_alloc|apply Kd.R_drewN|apply Kd.R_drew));exact HO_20.out) (Kd.S_typed (by (with_reducible repeat (first|apply Kd.S_alloc|apply Kd.S_drewN|apply Kd.S_drew));exact HO_7.out)) (by decide) hg);have n2_:=Aside0.mk (Kd.R_over' (by (with_reducible repeat (first|apply Kd.R_alloc|apply Kd.R_drewN|apply Kd.R_drew));exact HO_371001.out) (Kd.S_typed (by (with_reducible repeat (first|apply Kd.S_alloc|apply Kd.S_drewN|apply Kd.S_drew));exact HO_7.out)) (by decide) hg);have n3_:=Aside0.mk (blk_grown (g:=gb361) (o:=.cells #[.int .i64 a0_0,.slice A0_1 l0_1.length c0_1] 28 (0,0)) bk hg (Kd.S_ne HO_7.out BK361.out (by decide)));have n4_:=Aside0.mk (blk_grown (g:=gb370) (o:=.cells #[.int .i64 t366,.slice Ao13 t367.length co13] 68 (0,0)) bk hg (Kd.S_ne HO_7.out BK370.out (by decide)));have n5_:=Aside0.mk (hb);have n6_:=Aside0.mk (ho);clear HO_4;clear HO_20;clear HO_371001;clear BK361;clear BK370;clear HB;clear HO_7;clear HO377;have HO_4:=n0_;have HO_20:=n1_;have HO_371001:=n2_;have BK361:=n3_;have BK370:=n4_;have HB:=n5_;have HO380:=n6_;clear n0_ n1_ n2_ n3_ n4_ n5_ n6_;clear ho hb hg hat;obtain ⟨Ao32,co32,eo32⟩:=Kd.S_slice HO380.out;subst eo32;have p381:0 ≤ ((ji22):Int):=of_decide_eq_true ab;have q381:(ji22) < (y378.length:Int):=of_decide_eq_true ab;obtain ⟨ad381,A381_0,c381_0,e381,hx381_0,hl381_0,hi381_0⟩:=at_LI (Kd.S_reads' HO380.out).2.2 (ji22) p381 q381;cases e381;obtain ⟨ce381,hce381,hMe381,hcc381⟩:=Kd.S_get HO380.out [] (ji22) p381 (by first|exact q381|exact of_decide_eq_true ab|(have e_:=(Kd.S_reads' HO380.out).1;omega));obtain ⟨ve381_0,rfl,ge381_0⟩:=hMe381;have hv381_0:=hcc381 0 _ rfl;rw [Nat.add_zero,show ((Kd.slice 3 (Kd.int .i64))).sz = 1 from rfl,Nat.mul_one] at hv381_0;replace hv381_0:=Option.some.inj (hv381_0.symm.trans hx381_0);rw [hv381_0] at ge381_0;have HL381_0:=Aside0.mk (show Kd.R (Kd.int .i64) 3 _ _ _ _ (rd_LI y378 (ji22)) from ge381_0);clear hv381_0 ge381_0;have HX381_0:=Aside0.mk hx381_0;clear hcc381 hce381;have HR381_0:=Aside0.mk hi381_0;have HC381_0:=Aside0.mk hl381_0;clear hi381_0 hl381_0;replace p381:=eq_true p381;replace q381:=eq_true q381;obtain ⟨go33,co33,eo33,gb33,gl33,cl33,HG33⟩:=Kd.S_form HO380.out (by have h_:((ji22):Int) < ((y378.length:Int):Int):=of_decide_eq_true ab;have h2_:0 ≤ ((ji22):Int):=(of_decide_eq_true ab);omega);(first|cases eo33|(injection eo33 with ea_ en_ ec_;(first|subst ea_|(injection ea_ with ea_;subst ea_));subst ec_;clear en_));have GB33:=Aside0.mk gb33;have GG33:=Aside0.mk HG33;clear gb33 gl33 HG33;(first|simp only [add_plain] at hx381_0|skip);obtain ⟨oki33,ce33,hcl33,hM33,hcc33,_,_,hH33⟩:=Kd.S_elem HO380.out [] ((ji22):Int) (of_decide_eq_true ab) (by have h_:((ji22):Int) < ((y378.length:Int):Int):=of_decide_eq_true ab;first|exact h_|(have e_:=(Kd.S_reads' HO380.out).1;omega)|simpa using h_);obtain ⟨ve33_0,rfl,ge33_0⟩:=hM33;have hv33:=hcc33 0 _ rfl;have hX33:=HX381_0.out;(try simp only [add_plain] at hX33);(try simp only [Nat.add_zero] at hv33);(try rw [show ((Kd.slice 3 (Kd.int .i64))).sz = 1 from rfl,Nat.mul_one] at hv33);replace hv33:=Option.some.inj (hv33.symm.trans hX33);subst hv33;clear hX33 hcc33 hcl33;have UU33:=Aside0.mk (show Kd.R (Kd.int .i64) 3 _ w.heap.size oki33 (.slice A381_0 (rd_LI y378 (ji22)).length c381_0) (rd_LI y378 (ji22)) from ge33_0);have HH33:=Aside0.mk hH33;have HN33:=Aside0.mk (Kd.S_reads' HO380.out).1;clear hH33 ge33_0)|((with_reducible refine gate_builtin (b:=.append) (xs:=#[.tmp 52,.tmp 54]) rfl ?_);at_builtin;refine Kd.R_append (Kd.int .i64) (w0:=w) w.heap.size rfl (.tmp 52) (.tmp 54) 40 3 (.int .i64 0) 8 rfl Try.underlying40 info3 rfl (by decide) (by omega) (.slice A381_0 (rd_LI y378 (ji22)).length c381_0) (rd_LI y378 (ji22)) (rd t362 x22_1) [.int .i64 (rd t362 x22_1)] (fun k_=>oki33 k_ ∨ ((fun k_=>some k_ ≠ (.slice (some ad374) t362.length co16:Value).ownBlock ∧ some k_ ≠ (.slice (some ad374) t362.length co16:Value).ownBlock)) k_ ∧ w30.heap.size ≤ k_) (fun _=>False) rfl rfl ?aP (fun _ hk=>hk.elim) ?aF ?aO ?aB ?aS ?aL ?_;(case aP=>exact rfl);(case aB=>exact bw);(case aF=>exact (fun k_ hk=>.inr ⟨⟨Kd.fresh' (Kd.R_lt (by (with_reducible repeat (first|apply Kd.R_alloc|apply Kd.R_drewN|apply Kd.R_drew));exact HO_4.out)) k_ hk,Kd.fresh' (Kd.R_lt (by (with_reducible repeat (first|apply Kd.R_alloc|apply Kd.R_drewN|apply Kd.R_drew));exact HO_20.out)) k_ hk⟩,hk⟩));(case aO=>exact (by (with_reducible repeat (first|apply Kd.R_alloc|apply Kd.R_drewN|apply Kd.R_drew));exact Kd.R_mono UU33.out (fun _ hk=>.inl hk)));(case aS=>exact (below_size bw));(case aL=>have:=LMc25.out;omega);intro v383 w34 ho hb hg hat;rw [← Ny382.out] at ho;have n0_:=Aside0.mk (Kd.R_grown2 (by (with_reducible repeat (first|apply Kd.R_alloc|apply Kd.R_drewN|apply Kd.R_drew));exact HO_4.out) rfl hg (fun k_ e_=>(HL381_0.out.1 k_ e_).1.1));have n1_:=Aside0.mk (Kd.R_grown2 (by (with_reducible repeat (first|apply Kd.R_alloc|apply Kd.R_drewN|apply Kd.R_drew));exact HO_20.out) rfl hg (fun k_ e_=>(HL381_0.out.1 k_ e_).1.2));have n2_:=Aside0.mk (Kd.R_over' (v:=(.slice A381_0 (rd_LI y378 (ji22)).length c381_0)) (by (with_reducible repeat (first|apply Kd.R_alloc|apply Kd.R_drewN|apply Kd.R_drew));exact HO_371001.out) (Kd.R_typed HL381_0.out) (by decide) hg);have n3_:=Aside0.mk (blk_grown (g:=gb361) (o:=.cells #[.int .i64 a0_0,.slice A0_1 l0_1.length c0_1] 28 (0,0)) bk hg (Kd.R_ne HL381_0.out BK361.out (by decide)));have n4_:=Aside0.mk (blk_grown (g:=gb370) (o:=.cells #[.int .i64 t366,.slice Ao13 t367.length co13] 68 (0,0)) bk hg (Kd.R_ne HL381_0.out BK370.out (by decide)));have n5_:=Aside0.mk (hb);have n6_:=Aside0.mk (Kd.H_grown (Kd.H_widen (by repeat (first|exact HH33.out|refine Kd.H_alloc ?_ _|refine Kd.H_drewN ?_ _|refine Kd.H_drew ?_))) hg (fun k_ e_=>.inl (UU33.out.1 k_ e_)));have n7_:=Aside0.mk (ho);clear HO_4;clear HO_20;clear HO_371001;clear BK361;clear BK370;clear HB;clear HH33;clear HO380;clear UU33;clear HL381_0;have HO_4:=n0_;have HO_20:=n1_;have HO_371001:=n2_;have BK361:=n3_;have BK370:=n4_;have HB:=n5_;have HH33:=n6_;have HO384:=n7_;clear n0_ n1_ n2_ n3_ n4_ n5_ n6_ n7_;clear ho hb hg hat;have p26:0 ≤ ((ji22):Int):=of_decide_eq_true ab;have q26:((ji22):Int) < ((y378.length:Int):Int):=of_decide_eq_true ab;replace p26:=eq_true p26;replace q26:=eq_true q26;obtain ⟨Ao37,co37,eo37⟩:=Kd.R_slice HO384.out;subst eo37;obtain ⟨_,_,hraw35,_,_,hcc35,_⟩:=Kd.H_raw HH33.out (of_decide_eq_true ab) (by have h_:((ji22):Int) < ((y378.length:Int):Int):=of_decide_eq_true ab;first|exact h_|(have e_:=(HN33.out);omega)|simpa using h_);obtain ⟨_,hfr35⟩:=Kd.H_at HH33.out (of_decide_eq_true ab) (by have h_:((ji22):Int) < ((y378.length:Int):Int):=of_decide_eq_true ab;first|exact h_|(have e_:=(HN33.out);omega)|simpa using h_);have hx35_0:=hcc35 0 _ rfl;have hf35_0:=hfr35 0;(try simp only [Nat.add_zero] at hx35_0 hf35_0);(try rw [show ((Kd.slice 3 (Kd.int .i64))).sz = 1 from rfl,Nat.mul_one] at hx35_0);(try rw [show ((Kd.slice 3 (Kd.int .i64))).sz = 1 from rfl,Nat.mul_one] at hf35_0);have HP35:=Kd.S_seg0 HH33.out (of_decide_eq_true ab) (by have h_:((ji22):Int) < ((y378.length:Int):Int):=of_decide_eq_true ab;first|exact h_|(have e_:=(HN33.out);omega)|simpa using h_) (seg:=[.slice Ao37 y382.length co37]) (j:=0) (show 1 ≤ 1 from by decide) (x':=y382) (Kd.M_row HO384.out) (fun _ hk=>hk);(try simp only [show ((Kd.slice 3 (Kd.int .i64))).sz = 1 from rfl,Nat.mul_one,Nat.add_zero] at HP35);clear hcc35 hfr35)|((with_reducible refine gate_store (t:=40) (p:=56) rfl ?_);refine store_event (t:=40) (p:=56) (v:=?vo_w36) (w1:=(w34.setCell ⟨go33,((ji22):Int).toNat,none⟩ (.slice Ao37 y382.length co37))) ?hg ?ho ?hn ?hr ?_;(case ho=>rfl);(case hg=>rfl);(case hn=>rfl);(case hr=>first|(go_simp;done)|(go_simp;rfl));intro w36 hw;have hg:w34.grownBy w36 (some go33):=(by rw [hw];exact HP35.2);have hp_:Kd.S (Kd.slice 3 (Kd.int .i64)) 40 w36 w.heap.size (fun k_=>some k_ ≠ (.slice (some ad374) t362.length co16:Value).ownBlock ∧ some k_ ≠ (.slice (some ad374) t362.length co16:Value).ownBlock) (.slice (some ⟨go33,0,none⟩) y378.length co32) y385:=(by rw [hw,Ny385.out];exact HP35.1);clear HP35;have n0_:=Aside0.mk (Kd.R_over' (v:=(.slice (some ⟨go33,0,none⟩) y378.length co32)) (by (with_reducible repeat (first|apply Kd.R_alloc|apply Kd.R_drewN|apply Kd.R_drew));exact HO_4.out) (Kd.R_typed hraw35) (by decide) hg);have n1_:=Aside0.mk (Kd.R_over' (v:=(.slice (some ⟨go33,0,none⟩) y378.length co32)) (by (with_reducible repeat (first|apply Kd.R_alloc|apply Kd.R_drewN|apply Kd.R_drew));exact HO_20.out) (Kd.R_typed hraw35) (by decide) hg);have n2_:=Aside0.mk (Kd.R_over' (v:=(.slice (some ⟨go33,0,none⟩) y378.length co32)) (by (with_reducible repeat (first|apply Kd.R_alloc|apply Kd.R_drewN|apply Kd.R_drew));exact HO_371001.out) (Kd.R_typed hraw35) (by decide) hg);have n3_:=Aside0.mk (blk_grown (g:=gb361) (o:=.cells #[.int .i64 a0_0,.slice A0_1 l0_1.length c0_1] 28 (0,0)) bk hg (Kd.R_ne hraw35 BK361.out (by decide)));have n4_:=Aside0.mk (blk_grown (g:=gb370) (o:=.cells #[.int .i64 t366,.slice Ao13 t367.length co13] 68 (0,0)) bk hg (Kd.R_ne hraw35 BK370.out (by decide)));have n5_:=Aside0.mk ((by rw [hw];exact below_set HB.out GB33.out:Below w.heap.size w w36));have n6_:=Aside0.mk (hp_);clear HO_4;clear HO_20;clear HO_371001;clear BK361;clear BK370;clear HB;clear HO384;clear HH33;have HO_4:=n0_;have HO_20:=n1_;have HO_371001:=n2_;have BK361:=n3_;have BK370:=n4_;have HB:=n5_;have HO380:=n6_;clear n0_ n1_ n2_ n3_ n4_ n5_ n6_;clear hg hw hp_ hraw35))
            go_roundg k1
            case measure=>have:=HK1.out;omega
            case rel=>exact ⟨(y385),(wrap64 (x22_1 + 1)),(by first|rfl|(simp;done)|(simp [*];done)),H',⟨by have:=HK1.out;omega⟩,⟨by (with_reducible repeat (first|apply Kd.R_alloc|apply Kd.R_drewN|apply Kd.R_drew));exact Kd.R_mono HO_4.out (fun _ hk=>trivial)⟩,⟨by (with_reducible repeat (first|apply Kd.S_alloc|apply Kd.S_drewN|apply Kd.S_drew));exact HO380.out⟩,⟨by (with_reducible repeat (first|apply Kd.R_alloc|apply Kd.R_drewN|apply Kd.R_drew));exact Kd.R_mono HO_20.out (fun _ hk=>trivial)⟩,⟨by (with_reducible repeat (first|apply Kd.R_alloc|apply Kd.R_drewN|apply Kd.R_drew));exact HO_371001.out⟩,⟨by (with_reducible repeat (first|refine blk_drewN ?_ _|refine blk_drew ?_|refine blk_alloc ?_ _));exact BK361.out⟩,⟨by (with_reducible repeat (first|refine blk_drewN ?_ _|refine blk_drew ?_|refine blk_alloc ?_ _));exact BK370.out⟩,⟨by repeat (first|(with_reducible first|exact HB.out|apply below_alloc|apply pw_below_drewN|apply below_drew1|refine below_set ?_ GE361.out|refine below_set ?_ GE370.out)|exact HB.out)⟩⟩
           ·rw [if_neg c25] at H;exact absurd H (by simp)
          ·rw [if_neg c24] at H;exact absurd H (by simp)
         ·rw [if_neg c23] at H;exact absurd H (by simp)
        ·rw [if_neg c21] at H;exact absurd H (by simp)
       ·rw [if_neg c20] at H;have c20b0:(x22_1 == 0) = false:=beq_eq_false_iff_ne.mpr c20;have c20b1:(x22_1 != 0) = true:=bne_iff_ne.mpr c20;obtain ⟨ji38,hji38⟩:∃ j_:Int,(wrap64 (x22_1 - 1)) = j_:=⟨_,rfl⟩;replace H:(if 0 ≤ (ji38) then (if (ji38) < (t362.length:Int) then ((impl_votes_isGreater.f k1 t366 t367 (rd t362 (ji38)) (rd t362 x22_1)).bind fun t387=>(if t387 = true then (if x7_1.length < 5864062014805 then ((some (x7_1 ++ [(([]:List Int))]:List (List Int))).bind fun y391=>(if 0 ≤ (wrap64 ((y391.length:Int) - 1)) then (if (wrap64 ((y391.length:Int) - 1)) < (y391.length:Int) then (if (rd_LI y391 (wrap64 ((y391.length:Int) - 1))).length < 17592186044416 then (impl_ClassesOf.l0 k1 t362 (y391.set ((wrap64 ((y391.length:Int) - 1)):Int).toNat ((rd_LI y391 (wrap64 ((y391.length:Int) - 1))) ++ [rd t362 x22_1])) t362 (t362.length:Int) (wrap64 (x22_1 + 1)) t366 t367) else (none)) else (none)) else (none))) else (none)) else (if 0 ≤ (wrap64 ((x7_1.length:Int) - 1)) then (if (wrap64 ((x7_1.length:Int) - 1)) < (x7_1.length:Int) then (if (rd_LI x7_1 (wrap64 ((x7_1.length:Int) - 1))).length < 17592186044416 then (impl_ClassesOf.l0 k1 t362 (x7_1.set ((wrap64 ((x7_1.length:Int) - 1)):Int).toNat ((rd_LI x7_1 (wrap64 ((x7_1.length:Int) - 1))) ++ [rd t362 x22_1])) t362 (t362.length:Int) (wrap64 (x22_1 + 1)) t366 t367) else (none)) else (none)) else (none)))) else (none)) else (none)) = some (r1,r2):=by first|(rw [hji38] at H;exact H)|(simp only [hji38] at H ⊢;exact H)
        have hji38w:(IntKind.i64.wrap (x22_1 - 1)) = ji38:=(i64_w _).trans hji38;by_cases c39:0 ≤ (ji38)
        ·rw [if_pos c39] at H;have c39b0:decide (0 ≤ (ji38)) = true:=decide_eq_true c39;clear c39;by_cases c40:(ji38) < (t362.length:Int)
         ·rw [if_pos c40] at H;have c40b0:decide ((ji38) < (t362.length:Int)) = true:=decide_eq_true c40;clear c40;replace H:=Option.bind_eq_some_iff.mp H;obtain ⟨t387,A410,H⟩:=H;replace H:(if t387 = true then (if x7_1.length < 5864062014805 then ((some (x7_1 ++ [(([]:List Int))]:List (List Int))).bind fun y391=>(if 0 ≤ (wrap64 ((y391.length:Int) - 1)) then (if (wrap64 ((y391.length:Int) - 1)) < (y391.length:Int) then (if (rd_LI y391 (wrap64 ((y391.length:Int) - 1))).length < 17592186044416 then (impl_ClassesOf.l0 k1 t362 (y391.set ((wrap64 ((y391.length:Int) - 1)):Int).toNat ((rd_LI y391 (wrap64 ((y391.length:Int) - 1))) ++ [rd t362 x22_1])) t362 (t362.length:Int) (wrap64 (x22_1 + 1)) t366 t367) else (none)) else (none)) else (none))) else (none)) else (if 0 ≤ (wrap64 ((x7_1.length:Int) - 1)) then (if (wrap64 ((x7_1.length:Int) - 1)) < (x7_1.length:Int) then (if (rd_LI x7_1 (wrap64 ((x7_1.length:Int) - 1))).length < 17592186044416 then (impl_ClassesOf.l0 k1 t362 (x7_1.set ((wrap64 ((x7_1.length:Int) - 1)):Int).toNat ((rd_LI x7_1 (wrap64 ((x7_1.length:Int) - 1))) ++ [rd t362 x22_1])) t362 (t362.length:Int) (wrap64 (x22_1 + 1)) t366 t367) else (none)) else (none)) else (none))) = some (r1,r2):=H;have A41:=Aside0.mk A410;clear A410;by_cases c42:t387 = true
          ·subst c42;have H1:(if x7_1.length < 5864062014805 then ((some (x7_1 ++ [(([]:List Int))]:List (List Int))).bind fun y391=>(if 0 ≤ (wrap64 ((y391.length:Int) - 1)) then (if (wrap64 ((y391.length:Int) - 1)) < (y391.length:Int) then (if (rd_LI y391 (wrap64 ((y391.length:Int) - 1))).length < 17592186044416 then (impl_ClassesOf.l0 k1 t362 (y391.set ((wrap64 ((y391.length:Int) - 1)):Int).toNat ((rd_LI y391 (wrap64 ((y391.length:Int) - 1))) ++ [rd t362 x22_1])) t362 (t362.length:Int) (wrap64 (x22_1 + 1)) t366 t367) else (none)) else (none)) else (none))) else (none)) = some (r1,r2):=by rw [if_pos rfl] at H;exact H
           clear H;have H:=H1;clear H1;obtain ⟨y388,hy388⟩:∃ y_:List Int,y_ = (([]:List Int)):=⟨_,rfl⟩;replace H:(if x7_1.length < 5864062014805 then ((some (x7_1 ++ [y388]:List (List Int))).bind fun y391=>(if 0 ≤ (wrap64 ((y391.length:Int) - 1)) then (if (wrap64 ((y391.length:Int) - 1)) < (y391.length:Int) then (if (rd_LI y391 (wrap64 ((y391.length:Int) - 1))).length < 17592186044416 then (impl_ClassesOf.l0 k1 t362 (y391.set ((wrap64 ((y391.length:Int) - 1)):Int).toNat ((rd_LI y391 (wrap64 ((y391.length:Int) - 1))) ++ [rd t362 x22_1])) t362 (t362.length:Int) (wrap64 (x22_1 + 1)) t366 t367) else (none)) else (none)) else (none))) else (none)) = some (r1,r2):=by first|(rw [hy388];with_reducible exact H)|(have H2_:=(Option.bind_some _ _).symm.trans H;rw [hy388];with_reducible exact H2_)|(have H2_:=(Option.bind_some _ _).symm.trans H;with_reducible exact H2_)|with_reducible exact H|(rw [hy388];exact H)|exact H
           have Ny388:=Aside0.mk hy388;clear hy388;by_cases c43:x7_1.length < 5864062014805
           ·rw [if_pos c43] at H;have LMc43:=Aside0.mk c43;clear c43;obtain ⟨y391,hy391⟩:∃ y_:List (List Int),y_ = (x7_1 ++ [y388]):=⟨_,rfl⟩;replace H:(if 0 ≤ (wrap64 ((y391.length:Int) - 1)) then (if (wrap64 ((y391.length:Int) - 1)) < (y391.length:Int) then (if (rd_LI y391 (wrap64 ((y391.length:Int) - 1))).length < 17592186044416 then (impl_ClassesOf.l0 k1 t362 (y391.set ((wrap64 ((y391.length:Int) - 1)):Int).toNat ((rd_LI y391 (wrap64 ((y391.length:Int) - 1))) ++ [rd t362 x22_1])) t362 (t362.length:Int) (wrap64 (x22_1 + 1)) t366 t367) else (none)) else (none)) else (none)) = some (r1,r2):=by first|(rw [hy391];with_reducible exact H)|(have H2_:=(Option.bind_some _ _).symm.trans H;rw [hy391];with_reducible exact H2_)|(have H2_:=(Option.bind_some _ _).symm.trans H;with_reducible exact H2_)|with_reducible exact H|(rw [hy391];exact H)|exact H
            have Ny391:=Aside0.mk hy391;clear hy391;obtain ⟨ji44,hji44⟩:∃ j_:Int,(wrap64 ((y391.length:Int) - 1)) = j_:=⟨_,rfl⟩;replace H:(if 0 ≤ (ji44) then (if (ji44) < (y391.length:Int) then (if (rd_LI y391 (ji44)).length < 17592186044416 then (impl_ClassesOf.l0 k1 t362 (y391.set ((ji44):Int).toNat ((rd_LI y391 (ji44)) ++ [rd t362 x22_1])) t362 (t362.length:Int) (wrap64 (x22_1 + 1)) t366 t367) else (none)) else (none)) else (none)) = some (r1,r2):=by first|(rw [hji44] at H;exact H)|(simp only [hji44] at H ⊢;exact H)
            (try rw [hji44] at A41)
            have hji44w:(IntKind.i64.wrap ((y391.length:Int) - 1)) = ji44:=(i64_w _).trans hji44;by_cases c45:0 ≤ (ji44)
            ·rw [if_pos c45] at H;have c45b0:decide (0 ≤ (ji44)) = true:=decide_eq_true c45;clear c45;by_cases c46:(ji44) < (y391.length:Int)
             ·rw [if_pos c46] at H;have c46b0:decide ((ji44) < (y391.length:Int)) = true:=decide_eq_true c46;clear c46;by_cases c47:(rd_LI y391 (ji44)).length < 17592186044416
              ·rw [if_pos c47] at H;have LMc47:=Aside0.mk c47;clear c47;obtain ⟨y395,hy395⟩:∃ y_:List Int,y_ = ((rd_LI y391 (ji44)) ++ [rd t362 x22_1]):=⟨_,rfl⟩;replace H:(impl_ClassesOf.l0 k1 t362 (y391.set ((ji44):Int).toNat y395) t362 (t362.length:Int) (wrap64 (x22_1 + 1)) t366 t367) = some (r1,r2):=by first|(rw [hy395];with_reducible exact H)|(have H2_:=(Option.bind_some _ _).symm.trans H;rw [hy395];with_reducible exact H2_)|(have H2_:=(Option.bind_some _ _).symm.trans H;with_reducible exact H2_)|with_reducible exact H|(rw [hy395];exact H)|exact H
               have Ny395:=Aside0.mk hy395;clear hy395;obtain ⟨y398,hy398⟩:∃ y_:List (List Int),y_ = (y391.set ((ji44):Int).toNat y395):=⟨_,rfl⟩;replace H:(impl_ClassesOf.l0 k1 t362 y398 t362 (t362.length:Int) (wrap64 (x22_1 + 1)) t366 t367) = some (r1,r2):=by first|(rw [hy398];with_reducible exact H)|(have H2_:=(Option.bind_some _ _).symm.trans H;rw [hy398];with_reducible exact H2_)|(have H2_:=(Option.bind_some _ _).symm.trans H;with_reducible exact H2_)|with_reducible exact H|(rw [hy398];exact H)|exact H
               have Ny398:=Aside0.mk hy398;clear hy398;have H':=Aside0.mk H;clear H;have p374:0 ≤ (x22_1:Int):=of_decide_eq_true ab;have q374:x22_1 < (t362.length:Int):=of_decide_eq_true ab;obtain ⟨ad374,e374,hx374_0⟩:=Kd.at_int (Kd.R_reads' HO_20.out).2.2 x22_1 p374 q374;cases e374
               replace p374:=eq_true p374;replace q374:=eq_true q374
               try go_wp2
               have n0_:=Aside0.mk (Kd.R_drew HO_4.out);have n1_:=Aside0.mk (Kd.S_drew HO_7.out);have n2_:=Aside0.mk (Kd.R_drew HO_20.out);have n3_:=Aside0.mk (Kd.R_drew HO_371001.out);have n4_:=Aside0.mk (blk_drew BK361.out);have n5_:=Aside0.mk (blk_drew BK370.out);have n6_:=Aside0.mk (below_drew1 HB.out);clear HO_4;clear HO_7;clear HO_20;clear HO_371001;clear BK361;clear BK370;clear HB;have HO_4:=n0_;have HO_7:=n1_;have HO_20:=n2_;have HO_371001:=n3_;have BK361:=n4_;have BK370:=n5_;have HB:=n6_;clear n0_ n1_ n2_ n3_ n4_ n5_ n6_;have p386:0 ≤ ((ji38):Int):=of_decide_eq_true ab;have q386:(ji38) < (t362.length:Int):=of_decide_eq_true ab;obtain ⟨ad386,e386,hx386_0⟩:=Kd.at_int (Kd.R_reads' HO_4.out).2.2 (ji38) p386 q386;obtain rfl:ad374 = ad386:=(by injection e386);replace p386:=eq_true p386;replace q386:=eq_true q386;refine start_ (n:=12) (S:=fun w'=>w'.cell? ⟨gb370,0,none⟩ = some (.int .i64 t366) ∧ w'.cell? ⟨gb370,1,none⟩ = some (.slice Ao13 t367.length co13) ∧ w'.cell? (ad374.add ((ji38)).toNat) = some (.int .i64 (rd t362 (ji38)))) (ds:=[]) #[false,false,false,false,false,false,false,false,false,false,false,false] (by kernel_rfl) rfl rfl ⟨(blk_cell BK370.out 0).trans rfl,(blk_cell BK370.out 1).trans rfl,hx386_0⟩ (fun hHeld=>?_);refine with_tabW impl_ClassesOf.tab9 impl_ClassesOf.bits9 (fun HT_ HW_=>?_)
               generalize wr.drew = w49 at HO_4 HO_7 HO_20 HO_371001 BK361 BK370 HB hx386_0 hHeld ⊢
               refine pure_ (i:=0) (N:=some 27) (v:=?_) (a':=?_) #[true,false,false,false,false,false,false,false,false,false,false,false] rfl rfl (any_of HT_.out (by kernel_rfl)) (fun _ _ _ h=>h) (Or.inl ⟨by rfl,?_⟩) ?_ ?_;rotate_left
               ·intro w';go_simp
                with_reducible rfl
               rotate_left
               ·simp only [Act.put,sA,sZ,sS,i64_w,i32_w];rfl
               refine pure_ (i:=1) (N:=some 28) (v:=?_) (a':=?_) #[true,true,false,false,false,false,false,false,false,false,false,false] rfl rfl (any_of HT_.out (by kernel_rfl)) (fun _ _ _ h=>h) (Or.inl ⟨by rfl,?_⟩) ?_ ?_;rotate_left
               ·intro w';go_simp
                with_reducible rfl
               rotate_left
               ·simp only [Act.put,sA,sZ,sS,i64_w,i32_w];rfl
               refine pure_ (i:=2) (N:=some 29) (v:=?_) (a':=?_) #[true,true,true,false,false,false,false,false,false,false,false,false] rfl rfl (any_of HT_.out (by kernel_rfl)) (fun _ _ _ h=>h) (Or.inl ⟨by rfl,?_⟩) ?_ ?_;rotate_left
               ·intro w';go_simp
                with_reducible rfl
               rotate_left
               ·simp only [Act.put,sA,sZ,sS,i64_w,i32_w];rfl
               refine pure_ (i:=4) (N:=some 31) (v:=?_) (a':=?_) #[true,true,true,false,true,false,false,false,false,false,false,false] rfl rfl (any_of HT_.out (by kernel_rfl)) (fun _ _ _ h=>h) (Or.inl ⟨by rfl,?_⟩) ?_ ?_;rotate_left
               ·intro w';go_simp
                with_reducible rfl
               rotate_left
               ·simp only [Act.put,sA,sZ,sS,i64_w,i32_w];rfl
               refine pure_ (i:=5) (N:=some 32) (v:=?_) (a':=?_) #[true,true,true,false,true,true,false,false,false,false,false,false] rfl rfl (any_of HT_.out (by kernel_rfl)) (fun _ _ _ h=>h) (Or.inl ⟨by rfl,?_⟩) ?_ ?_;rotate_left
               ·intro w';go_simp
                with_reducible rfl
               rotate_left
               ·simp only [Act.put,sA,sZ,sS,i64_w,i32_w];rfl
               refine pure_ (i:=6) (N:=some 33) (v:=?_) (a':=?_) #[true,true,true,false,true,true,true,false,false,false,false,false] rfl rfl (any_of HT_.out (by kernel_rfl)) (fun _ _ _ h=>h) (Or.inl ⟨by rfl,?_⟩) ?_ ?_;rotate_left
               ·intro w';go_simp
                with_reducible rfl
               rotate_left
               ·simp only [Act.put,sA,sZ,sS,i64_w,i32_w];rfl
               refine pure_ (i:=7) (N:=some 34) (v:=?_) (a':=?_) #[true,true,true,false,true,true,true,true,false,false,false,false] rfl rfl (any_of HT_.out (by kernel_rfl)) (fun _ _ _ h=>h) (Or.inl ⟨by rfl,?_⟩) ?_ ?_;rotate_left
               ·intro w';go_simp
                with_reducible rfl
               rotate_left
               ·simp only [Act.put,sA,sZ,sS,i64_w,i32_w];rfl
               refine pure_ (i:=9) (N:=some 36) (v:=?_) (a':=?_) #[true,true,true,false,true,true,true,true,false,true,false,false] rfl rfl (any_of HT_.out (by kernel_rfl)) (fun _ _ _ h=>h) (Or.inl ⟨by rfl,?_⟩) ?_ ?_;rotate_left
               ·intro w';go_simp
                with_reducible rfl
               rotate_left
               ·simp only [Act.put,sA,sZ,sS,i64_w,i32_w];rfl
               refine take_ (i:=3) (N:=some 30) (v:=?_) (a':=?_) #[true,true,true,true,true,true,true,true,false,true,false,false] rfl rfl (take_ofW HT_.out HW_.out (by kernel_rfl)) (fun _ _ _ h=>h) (Or.inl ⟨by rfl,?_⟩) hHeld ?_ ?_;rotate_left
               ·rintro w' ⟨s0,s1,s2⟩
                go_simp
                with_reducible rfl
               rotate_left
               ·simp only [Act.put,sA,sZ,sS,i64_w,i32_w];rfl
               refine take_ (i:=8) (N:=some 35) (v:=?_) (a':=?_) #[true,true,true,true,true,true,true,true,true,true,false,false] rfl rfl (take_ofW HT_.out HW_.out (by kernel_rfl)) (fun _ _ _ h=>h) (Or.inl ⟨by rfl,?_⟩) hHeld ?_ ?_;rotate_left
               ·rintro w' ⟨s0,s1,s2⟩
                go_simp
                with_reducible rfl
               rotate_left
               ·simp only [Act.put,sA,sZ,sS,i64_w,i32_w];rfl
               refine one_ (i:=10) (N:=some 37) #[true,true,true,true,true,true,true,true,true,true,true,false] rfl rfl (one_of HT_.out (by kernel_rfl)) (by decide) (fun K hK=>?_);refine goes_ Try.func50 (by kernel_rfl) rfl #[.agg #[.int .i64 t366,.slice Ao13 t367.length co13],.int .i64 (rd t362 (ji38)),.int .i64 (rd t362 x22_1)] (by rfl) rfl rfl (by (try simp only [List.map_toArray,List.map_cons,List.map_nil]);first|done|(simp only [hji38];rfl)|rfl|(simp only [List.length_drop,List.length_take];rfl)) ?_
               with_reducible refine (impl_votes_isGreater.calls k1 t366 _ _ t367 (rd t362 (ji38)) (rd t362 x22_1) true _ ?side1 ?side2 A41.out).mono ?_
               (case side1=>repeat (first|exact (Kd.R_reads' HO_371001.out).2.2|(with_reducible refine Kd.C_alloc ?_ _)|(with_reducible refine Kd.C_drewN ?_ _)|(with_reducible refine Kd.C_drew ?_)))
               (case side2=>exact (Kd.R_reads' HO_371001.out).2.1)
               rintro e w50 ⟨rfl,hb⟩
               have HS2_:=(hb.cell (World.block_lt_of_cell? _ _ (hHeld.2.2))).trans (hHeld.2.2);refine ⟨_,rfl,?_⟩;have n0_:=Aside0.mk (Kd.R_below (by (with_reducible repeat (first|apply Kd.R_alloc|apply Kd.R_drewN|apply Kd.R_drew));exact HO_4.out) hb);have n1_:=Aside0.mk (Kd.S_below (by (with_reducible repeat (first|apply Kd.S_alloc|apply Kd.S_drewN|apply Kd.S_drew));exact HO_7.out) hb);have n2_:=Aside0.mk (Kd.R_below (by (with_reducible repeat (first|apply Kd.R_alloc|apply Kd.R_drewN|apply Kd.R_drew));exact HO_20.out) hb);have n3_:=Aside0.mk (Kd.R_below (by (with_reducible repeat (first|apply Kd.R_alloc|apply Kd.R_drewN|apply Kd.R_drew));exact HO_371001.out) hb);have n4_:=Aside0.mk (blk_below (g:=gb361) (o:=.cells #[.int .i64 a0_0,.slice A0_1 l0_1.length c0_1] 28 (0,0)) bk hb);have n5_:=Aside0.mk (blk_below (g:=gb370) (o:=.cells #[.int .i64 t366,.slice Ao13 t367.length co13] 68 (0,0)) bk hb);have n6_:=Aside0.mk (below_step bw hb);clear HO_4;clear HO_7;clear HO_20;clear HO_371001;clear BK361;clear BK370;clear HB;have HO_4:=n0_;have HO_7:=n1_;have HO_20:=n2_;have HO_371001:=n3_;have BK361:=n4_;have BK370:=n5_;have HB:=n6_;clear n0_ n1_ n2_ n3_ n4_ n5_ n6_;(try clear hb)
               (try clear hb2)
               (try clear hk)
               (try clear hi)
               refine hK.out _ _ ⟨(blk_cell BK370.out 0).trans rfl,(blk_cell BK370.out 1).trans rfl,HS2_⟩ (fun hHeld=>?_);clear hK K;refine norm_ (a':=?_) ?_ ?_;rotate_left
               ·show Act.put _ (some 37) _ = _;simp only [Act.put,sA,sZ,sS,i64_w,i32_w];rfl
               refine pure_ (i:=11) (N:=some 38) (v:=?_) (a':=?_) #[true,true,true,true,true,true,true,true,true,true,true,true] rfl rfl (any_of HT_.out (by kernel_rfl)) (fun _ _ _ h=>h) (Or.inl ⟨by rfl,?_⟩) ?_ ?_;rotate_left
               ·intro w';go_simp
                with_reducible rfl
               rotate_left
               ·simp only [Act.put,sA,sZ,sS,i64_w,i32_w];rfl
               refine done_ (done_of HT_.out (by kernel_rfl)) ?_
               try go_wp2_with (first|((with_reducible refine gate_dst (N:=40) rfl ?_);refine Kd.R_lit (Kd.int .i64) _ 3 ?hg (N:=40) ?hd (xs:=([]:List Int)) (inner:=[]) (ok:=fun _=>True) (okp:=fun _=>True) ?hr ?hp (fun _ hk=>hk) trivial (Below.refl _ _) (Nat.le_refl _) (by simp) ?_;(case hd=>rfl);(case hg=>rfl);(case hr=>first|(go_simp;done)|(go_simp;rfl));(case hp=>exact (Reps.none _ _));intro v389 w51 ho52 hb hg_ hnew_;clear hg_ hnew_;(first|rw [← Ny388.out] at ho52|(simp only [Int.reduceToNat] at ho52;rw [← Ny388.out] at ho52));have n0_:=Aside0.mk (Kd.R_elder' (by (with_reducible repeat (first|apply Kd.R_alloc|apply Kd.R_drewN|apply Kd.R_drew));exact HO_4.out) (Kd.R_base ho52) hb);have n1_:=Aside0.mk (Kd.S_elder' (by (with_reducible repeat (first|apply Kd.S_alloc|apply Kd.S_drewN|apply Kd.S_drew));exact HO_7.out) (Kd.R_base ho52) hb);have n2_:=Aside0.mk (Kd.R_elder' (by (with_reducible repeat (first|apply Kd.R_alloc|apply Kd.R_drewN|apply Kd.R_drew));exact HO_20.out) (Kd.R_base ho52) hb);have n3_:=Aside0.mk (Kd.R_below (by (with_reducible repeat (first|apply Kd.R_alloc|apply Kd.R_drewN|apply Kd.R_drew));exact HO_371001.out) hb);have n4_:=Aside0.mk (Kd.R_lower (Kd.R_new' (Kd.R_new' ho52 (Kd.R_lt (by (with_reducible repeat (first|apply Kd.R_alloc|apply Kd.R_drewN|apply Kd.R_drew));exact HO_4.out))) (Kd.R_lt (by (with_reducible repeat (first|apply Kd.R_alloc|apply Kd.R_drewN|apply Kd.R_drew));exact HO_20.out))) (below_size bw));have n5_:=Aside0.mk (blk_below (g:=gb361) (o:=.cells #[.int .i64 a0_0,.slice A0_1 l0_1.length c0_1] 28 (0,0)) bk hb);have n6_:=Aside0.mk (blk_below (g:=gb370) (o:=.cells #[.int .i64 t366,.slice Ao13 t367.length co13] 68 (0,0)) bk hb);have n7_:=Aside0.mk (below_step bw hb);clear HO_4;clear HO_7;clear HO_20;clear HO_371001;clear BK361;clear BK370;clear HB;have HO_4:=n0_;have HO_7:=n1_;have HO_20:=n2_;have HO_371001:=n3_;have HO390:=n4_;have BK361:=n5_;have BK370:=n6_;have HB:=n7_;clear n0_ n1_ n2_ n3_ n4_ n5_ n6_ n7_;clear hb ho52;obtain ⟨Ao54,co54,eo54⟩:=Kd.R_slice HO390.out;subst eo54)|((with_reducible refine gate_builtin (b:=.append) (xs:=#[.tmp 39,.tmp 41]) rfl ?_);at_builtin;refine Kd.S_append (Kd.slice 3 (Kd.int .i64)) (w0:=w) w.heap.size rfl (.tmp 39) (.tmp 41) 22 40 (.slice none 0 0) 24 rfl Try.underlying22 info40 rfl (by decide) (by omega) u7 x7_1 y388 [.slice Ao54 y388.length co54] (fun k_=>some k_ ≠ (.slice (some ad374) t362.length co16:Value).ownBlock ∧ some k_ ≠ (.slice (some ad374) t362.length co16:Value).ownBlock) (fun k_=>some k_ = (.slice Ao54 y388.length co54:Value).ownBlock) rfl rfl ?aP (fun k_ hk_=>((Kd.R_mono (ok':=fun k_=>((fun k_=>some k_ ≠ (.slice (some ad374) t362.length co16:Value).ownBlock ∧ some k_ ≠ (.slice (some ad374) t362.length co16:Value).ownBlock)) k_ ∧ some k_ ≠ (u7:Value).ownBlock) (Kd.R_apart' (HO390.out) (Kd.S_typed HO_7.out) (by decide)) (fun k_ hk=>⟨⟨hk.1.1.2,hk.1.2⟩,hk.2⟩))).1 k_ hk_.symm) ?aF ?aO ?aB ?aS ?aL ?_;(case aP=>exact Kd.M_row (Kd.R_mono (Kd.R_tight rfl (Kd.R_mono (ok':=fun k_=>((fun k_=>some k_ ≠ (.slice (some ad374) t362.length co16:Value).ownBlock ∧ some k_ ≠ (.slice (some ad374) t362.length co16:Value).ownBlock)) k_ ∧ some k_ ≠ (u7:Value).ownBlock) (Kd.R_apart' (HO390.out) (Kd.S_typed HO_7.out) (by decide)) (fun k_ hk=>⟨⟨hk.1.1.2,hk.1.2⟩,hk.2⟩))) (fun _ h_=>h_)));(case aB=>exact bw);(case aF=>exact (fun k_ hk=>⟨Kd.fresh' (Kd.R_lt (by (with_reducible repeat (first|apply Kd.R_alloc|apply Kd.R_drewN|apply Kd.R_drew));exact HO_4.out)) k_ hk,Kd.fresh' (Kd.R_lt (by (with_reducible repeat (first|apply Kd.R_alloc|apply Kd.R_drewN|apply Kd.R_drew));exact HO_20.out)) k_ hk⟩));(case aO=>exact (by (with_reducible repeat (first|apply Kd.S_alloc|apply Kd.S_drewN|apply Kd.S_drew));exact Kd.S_mono HO_7.out (fun k_ hk=>⟨⟨hk.1.1,hk.1.2⟩,fun e_=>hk.2 e_⟩)));(case aS=>exact (below_size bw));(case aL=>have:=LMc43.out;omega);intro v392 w53 ho hb hg hat;rw [← Ny391.out] at ho;have n0_:=Aside0.mk (Kd.R_over' (by (with_reducible repeat (first|apply Kd.R_alloc|apply Kd.R_drewN|apply Kd.R_drew));exact HO_4.out) (Kd.S_typed (by (with_reducible repeat (first|apply Kd.S_alloc|apply Kd.S_drewN|apply Kd.S_drew));exact HO_7.out)) (by decide) hg);have n1_:=Aside0.mk (Kd.R_over' (by (with_reducible repeat (first|apply Kd.R_alloc|apply Kd.R_drewN|apply Kd.R_drew));exact HO_20.out) (Kd.S_typed (by (with_reducible repeat (first|apply Kd.S_alloc|apply Kd.S_drewN|apply Kd.S_drew));exact HO_7.out)) (by decide) hg);have n2_:=Aside0.mk (Kd.R_over' (by (with_reducible repeat (first|apply Kd.R_alloc|apply Kd.R_drewN|apply Kd.R_drew));exact HO_371001.out) (Kd.S_typed (by (with_reducible repeat (first|apply Kd.S_alloc|apply Kd.S_drewN|apply Kd.S_drew));exact HO_7.out)) (by decide) hg);have n3_:=Aside0.mk (blk_grown (g:=gb361) (o:=.cells #[.int .i64 a0_0,.slice A0_1 l0_1.length c0_1] 28 (0,0)) bk hg (Kd.S_ne HO_7.out BK361.out (by decide)));have n4_:=Aside0.mk (blk_grown (g:=gb370) (o:=.cells #[.int .i64 t366,.slice Ao13 t367.length co13] 68 (0,0)) bk hg (Kd.S_ne HO_7.out BK370.out (by decide)));have n5_:=Aside0.mk (hb);have n6_:=Aside0.mk (ho);clear HO_4;clear HO_20;clear HO_371001;clear BK361;clear BK370;clear HB;clear HO_7;clear HO390;have HO_4:=n0_;have HO_20:=n1_;have HO_371001:=n2_;have BK361:=n3_;have BK370:=n4_;have HB:=n5_;have HO393:=n6_;clear n0_ n1_ n2_ n3_ n4_ n5_ n6_;clear ho hb hg hat;obtain ⟨Ao55,co55,eo55⟩:=Kd.S_slice HO393.out;subst eo55;have p394:0 ≤ ((ji44):Int):=of_decide_eq_true ab;have q394:(ji44) < (y391.length:Int):=of_decide_eq_true ab;obtain ⟨ad394,A394_0,c394_0,e394,hx394_0,hl394_0,hi394_0⟩:=at_LI (Kd.S_reads' HO393.out).2.2 (ji44) p394 q394;cases e394;obtain ⟨ce394,hce394,hMe394,hcc394⟩:=Kd.S_get HO393.out [] (ji44) p394 (by first|exact q394|exact of_decide_eq_true ab|(have e_:=(Kd.S_reads' HO393.out).1;omega));obtain ⟨ve394_0,rfl,ge394_0⟩:=hMe394;have hv394_0:=hcc394 0 _ rfl;rw [Nat.add_zero,show ((Kd.slice 3 (Kd.int .i64))).sz = 1 from rfl,Nat.mul_one] at hv394_0;replace hv394_0:=Option.some.inj (hv394_0.symm.trans hx394_0);rw [hv394_0] at ge394_0;have HL394_0:=Aside0.mk (show Kd.R (Kd.int .i64) 3 _ _ _ _ (rd_LI y391 (ji44)) from ge394_0);clear hv394_0 ge394_0;have HX394_0:=Aside0.mk hx394_0;clear hcc394 hce394;have HR394_0:=Aside0.mk hi394_0;have HC394_0:=Aside0.mk hl394_0;clear hi394_0 hl394_0;replace p394:=eq_true p394;replace q394:=eq_true q394;obtain ⟨go56,co56,eo56,gb56,gl56,cl56,HG56⟩:=Kd.S_form HO393.out (by have h_:((ji44):Int) < ((y391.length:Int):Int):=of_decide_eq_true ab;have h2_:0 ≤ ((ji44):Int):=(of_decide_eq_true ab);omega);(first|cases eo56|(injection eo56 with ea_ en_ ec_;(first|subst ea_|(injection ea_ with ea_;subst ea_));subst ec_;clear en_));have GB56:=Aside0.mk gb56;have GG56:=Aside0.mk HG56;clear gb56 gl56 HG56;(first|simp only [add_plain] at hx394_0|skip);obtain ⟨oki56,ce56,hcl56,hM56,hcc56,_,_,hH56⟩:=Kd.S_elem HO393.out [] ((ji44):Int) (of_decide_eq_true ab) (by have h_:((ji44):Int) < ((y391.length:Int):Int):=of_decide_eq_true ab;first|exact h_|(have e_:=(Kd.S_reads' HO393.out).1;omega)|simpa using h_);obtain ⟨ve56_0,rfl,ge56_0⟩:=hM56;have hv56:=hcc56 0 _ rfl;have hX56:=HX394_0.out;(try simp only [add_plain] at hX56);(try simp only [Nat.add_zero] at hv56);(try rw [show ((Kd.slice 3 (Kd.int .i64))).sz = 1 from rfl,Nat.mul_one] at hv56);replace hv56:=Option.some.inj (hv56.symm.trans hX56);subst hv56;clear hX56 hcc56 hcl56;have UU56:=Aside0.mk (show Kd.R (Kd.int .i64) 3 _ w.heap.size oki56 (.slice A394_0 (rd_LI y391 (ji44)).length c394_0) (rd_LI y391 (ji44)) from ge56_0);have HH56:=Aside0.mk hH56;have HN56:=Aside0.mk (Kd.S_reads' HO393.out).1;clear hH56 ge56_0)|((with_reducible refine gate_builtin (b:=.append) (xs:=#[.tmp 52,.tmp 54]) rfl ?_);at_builtin;refine Kd.R_append (Kd.int .i64) (w0:=w) w.heap.size rfl (.tmp 52) (.tmp 54) 40 3 (.int .i64 0) 8 rfl Try.underlying40 info3 rfl (by decide) (by omega) (.slice A394_0 (rd_LI y391 (ji44)).length c394_0) (rd_LI y391 (ji44)) (rd t362 x22_1) [.int .i64 (rd t362 x22_1)] (fun k_=>oki56 k_ ∨ ((fun k_=>some k_ ≠ (.slice (some ad374) t362.length co16:Value).ownBlock ∧ some k_ ≠ (.slice (some ad374) t362.length co16:Value).ownBlock)) k_ ∧ w53.heap.size ≤ k_) (fun _=>False) rfl rfl ?aP (fun _ hk=>hk.elim) ?aF ?aO ?aB ?aS ?aL ?_;(case aP=>exact rfl);(case aB=>exact bw);(case aF=>exact (fun k_ hk=>.inr ⟨⟨Kd.fresh' (Kd.R_lt (by (with_reducible repeat (first|apply Kd.R_alloc|apply Kd.R_drewN|apply Kd.R_drew));exact HO_4.out)) k_ hk,Kd.fresh' (Kd.R_lt (by (with_reducible repeat (first|apply Kd.R_alloc|apply Kd.R_drewN|apply Kd.R_drew));exact HO_20.out)) k_ hk⟩,hk⟩));(case aO=>exact (by (with_reducible repeat (first|apply Kd.R_alloc|apply Kd.R_drewN|apply Kd.R_drew));exact Kd.R_mono UU56.out (fun _ hk=>.inl hk)));(case aS=>exact (below_size bw));(case aL=>have:=LMc47.out;omega);intro v396 w57 ho hb hg hat;rw [← Ny395.out] at ho;have n0_:=Aside0.mk (Kd.R_grown2 (by (with_reducible repeat (first|apply Kd.R_alloc|apply Kd.R_drewN|apply Kd.R_drew));exact HO_4.out) rfl hg (fun k_ e_=>(HL394_0.out.1 k_ e_).1.1));have n1_:=Aside0.mk (Kd.R_grown2 (by (with_reducible repeat (first|apply Kd.R_alloc|apply Kd.R_drewN|apply Kd.R_drew));exact HO_20.out) rfl hg (fun k_ e_=>(HL394_0.out.1 k_ e_).1.2));have n2_:=Aside0.mk (Kd.R_over' (v:=(.slice A394_0 (rd_LI y391 (ji44)).length c394_0)) (by (with_reducible repeat (first|apply Kd.R_alloc|apply Kd.R_drewN|apply Kd.R_drew));exact HO_371001.out) (Kd.R_typed HL394_0.out) (by decide) hg);have n3_:=Aside0.mk (blk_grown (g:=gb361) (o:=.cells #[.int .i64 a0_0,.slice A0_1 l0_1.length c0_1] 28 (0,0)) bk hg (Kd.R_ne HL394_0.out BK361.out (by decide)));have n4_:=Aside0.mk (blk_grown (g:=gb370) (o:=.cells #[.int .i64 t366,.slice Ao13 t367.length co13] 68 (0,0)) bk hg (Kd.R_ne HL394_0.out BK370.out (by decide)));have n5_:=Aside0.mk (hb);have n6_:=Aside0.mk (Kd.H_grown (Kd.H_widen (by repeat (first|exact HH56.out|refine Kd.H_alloc ?_ _|refine Kd.H_drewN ?_ _|refine Kd.H_drew ?_))) hg (fun k_ e_=>.inl (UU56.out.1 k_ e_)));have n7_:=Aside0.mk (ho);clear HO_4;clear HO_20;clear HO_371001;clear BK361;clear BK370;clear HB;clear HH56;clear HO393;clear UU56;clear HL394_0;have HO_4:=n0_;have HO_20:=n1_;have HO_371001:=n2_;have BK361:=n3_;have BK370:=n4_;have HB:=n5_;have HH56:=n6_;have HO397:=n7_;clear n0_ n1_ n2_ n3_ n4_ n5_ n6_ n7_;clear ho hb hg hat;have p48:0 ≤ ((ji44):Int):=of_decide_eq_true ab;have q48:((ji44):Int) < ((y391.length:Int):Int):=of_decide_eq_true ab;replace p48:=eq_true p48;replace q48:=eq_true q48;obtain ⟨Ao60,co60,eo60⟩:=Kd.R_slice HO397.out;subst eo60;obtain ⟨_,_,hraw58,_,_,hcc58,_⟩:=Kd.H_raw HH56.out (of_decide_eq_true ab) (by have h_:((ji44):Int) < ((y391.length:Int):Int):=of_decide_eq_true ab;first|exact h_|(have e_:=(HN56.out);omega)|simpa using h_);obtain ⟨_,hfr58⟩:=Kd.H_at HH56.out (of_decide_eq_true ab) (by have h_:((ji44):Int) < ((y391.length:Int):Int):=of_decide_eq_true ab;first|exact h_|(have e_:=(HN56.out);omega)|simpa using h_);have hx58_0:=hcc58 0 _ rfl;have hf58_0:=hfr58 0;(try simp only [Nat.add_zero] at hx58_0 hf58_0);(try rw [show ((Kd.slice 3 (Kd.int .i64))).sz = 1 from rfl,Nat.mul_one] at hx58_0);(try rw [show ((Kd.slice 3 (Kd.int .i64))).sz = 1 from rfl,Nat.mul_one] at hf58_0);have HP58:=Kd.S_seg0 HH56.out (of_decide_eq_true ab) (by have h_:((ji44):Int) < ((y391.length:Int):Int):=of_decide_eq_true ab;first|exact h_|(have e_:=(HN56.out);omega)|simpa using h_) (seg:=[.slice Ao60 y395.length co60]) (j:=0) (show 1 ≤ 1 from by decide) (x':=y395) (Kd.M_row HO397.out) (fun _ hk=>hk);(try simp only [show ((Kd.slice 3 (Kd.int .i64))).sz = 1 from rfl,Nat.mul_one,Nat.add_zero] at HP58);clear hcc58 hfr58)|((with_reducible refine gate_store (t:=40) (p:=56) rfl ?_);refine store_event (t:=40) (p:=56) (v:=?vo_w59) (w1:=(w57.setCell ⟨go56,((ji44):Int).toNat,none⟩ (.slice Ao60 y395.length co60))) ?hg ?ho ?hn ?hr ?_;(case ho=>rfl);(case hg=>rfl);(case hn=>rfl);(case hr=>first|(go_simp;done)|(go_simp;rfl));intro w59 hw;have hg:w57.grownBy w59 (some go56):=(by rw [hw];exact HP58.2);have hp_:Kd.S (Kd.slice 3 (Kd.int .i64)) 40 w59 w.heap.size (fun k_=>some k_ ≠ (.slice (some ad374) t362.length co16:Value).ownBlock ∧ some k_ ≠ (.slice (some ad374) t362.length co16:Value).ownBlock) (.slice (some ⟨go56,0,none⟩) y391.length co55) y398:=(by rw [hw,Ny398.out];exact HP58.1);clear HP58;have n0_:=Aside0.mk (Kd.R_over' (v:=(.slice (some ⟨go56,0,none⟩) y391.length co55)) (by (with_reducible repeat (first|apply Kd.R_alloc|apply Kd.R_drewN|apply Kd.R_drew));exact HO_4.out) (Kd.R_typed hraw58) (by decide) hg);have n1_:=Aside0.mk (Kd.R_over' (v:=(.slice (some ⟨go56,0,none⟩) y391.length co55)) (by (with_reducible repeat (first|apply Kd.R_alloc|apply Kd.R_drewN|apply Kd.R_drew));exact HO_20.out) (Kd.R_typed hraw58) (by decide) hg);have n2_:=Aside0.mk (Kd.R_over' (v:=(.slice (some ⟨go56,0,none⟩) y391.length co55)) (by (with_reducible repeat (first|apply Kd.R_alloc|apply Kd.R_drewN|apply Kd.R_drew));exact HO_371001.out) (Kd.R_typed hraw58) (by decide) hg);have n3_:=Aside0.mk (blk_grown (g:=gb361) (o:=.cells #[.int .i64 a0_0,.slice A0_1 l0_1.length c0_1] 28 (0,0)) bk hg (Kd.R_ne hraw58 BK361.out (by decide)));have n4_:=Aside0.mk (blk_grown (g:=gb370) (o:=.cells #[.int .i64 t366,.slice Ao13 t367.length co13] 68 (0,0)) bk hg (Kd.R_ne hraw58 BK370.out (by decide)));have n5_:=Aside0.mk ((by rw [hw];exact below_set HB.out GB56.out:Below w.heap.size w w59));have n6_:=Aside0.mk (hp_);clear HO_4;clear HO_20;clear HO_371001;clear BK361;clear BK370;clear HB;clear HO397;clear HH56;have HO_4:=n0_;have HO_20:=n1_;have HO_371001:=n2_;have BK361:=n3_;have BK370:=n4_;have HB:=n5_;have HO393:=n6_;clear n0_ n1_ n2_ n3_ n4_ n5_ n6_;clear hg hw hp_ hraw58))
               go_roundg k1
               case measure=>have:=HK1.out;omega
               case rel=>exact ⟨(y398),(wrap64 (x22_1 + 1)),(by first|rfl|(simp;done)|(simp [*];done)),H',⟨by have:=HK1.out;omega⟩,⟨by (with_reducible repeat (first|apply Kd.R_alloc|apply Kd.R_drewN|apply Kd.R_drew));exact Kd.R_mono HO_4.out (fun _ hk=>trivial)⟩,⟨by (with_reducible repeat (first|apply Kd.S_alloc|apply Kd.S_drewN|apply Kd.S_drew));exact HO393.out⟩,⟨by (with_reducible repeat (first|apply Kd.R_alloc|apply Kd.R_drewN|apply Kd.R_drew));exact Kd.R_mono HO_20.out (fun _ hk=>trivial)⟩,⟨by (with_reducible repeat (first|apply Kd.R_alloc|apply Kd.R_drewN|apply Kd.R_drew));exact HO_371001.out⟩,⟨by (with_reducible repeat (first|refine blk_drewN ?_ _|refine blk_drew ?_|refine blk_alloc ?_ _));exact BK361.out⟩,⟨by (with_reducible repeat (first|refine blk_drewN ?_ _|refine blk_drew ?_|refine blk_alloc ?_ _));exact BK370.out⟩,⟨by repeat (first|(with_reducible first|exact HB.out|apply below_alloc|apply pw_below_drewN|apply below_drew1|refine below_set ?_ GE361.out|refine below_set ?_ GE370.out)|exact HB.out)⟩⟩
              ·rw [if_neg c47] at H;exact absurd H (by simp)
             ·rw [if_neg c46] at H;exact absurd H (by simp)
            ·rw [if_neg c45] at H;exact absurd H (by simp)
           ·rw [if_neg c43] at H;exact absurd H (by simp)
          ·replace c42:=Bool.eq_false_iff.mpr c42;subst c42;have H1:(if 0 ≤ (wrap64 ((x7_1.length:Int) - 1)) then (if (wrap64 ((x7_1.length:Int) - 1)) < (x7_1.length:Int) then (if (rd_LI x7_1 (wrap64 ((x7_1.length:Int) - 1))).length < 17592186044416 then (impl_ClassesOf.l0 k1 t362 (x7_1.set ((wrap64 ((x7_1.length:Int) - 1)):Int).toNat ((rd_LI x7_1 (wrap64 ((x7_1.length:Int) - 1))) ++ [rd t362 x22_1])) t362 (t362.length:Int) (wrap64 (x22_1 + 1)) t366 t367) else (none)) else (none)) else (none)) = some (r1,r2):=by rw [if_neg (show ¬ (false = true) by decide)] at H;exact H
           clear H;have H:=H1;clear H1;obtain ⟨ji61,hji61⟩:∃ j_:Int,(wrap64 ((x7_1.length:Int) - 1)) = j_:=⟨_,rfl⟩;replace H:(if 0 ≤ (ji61) then (if (ji61) < (x7_1.length:Int) then (if (rd_LI x7_1 (ji61)).length < 17592186044416 then (impl_ClassesOf.l0 k1 t362 (x7_1.set ((ji61):Int).toNat ((rd_LI x7_1 (ji61)) ++ [rd t362 x22_1])) t362 (t362.length:Int) (wrap64 (x22_1 + 1)) t366 t367) else (none)) else (none)) else (none)) = some (r1,r2):=by first|(rw [hji61] at H;exact H)|(simp only [hji61] at H ⊢;exact H)
           (try rw [hji61] at A41)
           have hji61w:(IntKind.i64.wrap ((x7_1.length:Int) - 1)) = ji61:=(i64_w _).trans hji61;by_cases c62:0 ≤ (ji61)
           ·rw [if_pos c62] at H;have c62b0:decide (0 ≤ (ji61)) = true:=decide_eq_true c62;clear c62;by_cases c63:(ji61) < (x7_1.length:Int)
            ·rw [if_pos c63] at H;have c63b0:decide ((ji61) < (x7_1.length:Int)) = true:=decide_eq_true c63;clear c63;by_cases c64:(rd_LI x7_1 (ji61)).length < 17592186044416
             ·rw [if_pos c64] at H;have LMc64:=Aside0.mk c64;clear c64;obtain ⟨y400,hy400⟩:∃ y_:List Int,y_ = ((rd_LI x7_1 (ji61)) ++ [rd t362 x22_1]):=⟨_,rfl⟩;replace H:(impl_ClassesOf.l0 k1 t362 (x7_1.set ((ji61):Int).toNat y400) t362 (t362.length:Int) (wrap64 (x22_1 + 1)) t366 t367) = some (r1,r2):=by first|(rw [hy400];with_reducible exact H)|(have H2_:=(Option.bind_some _ _).symm.trans H;rw [hy400];with_reducible exact H2_)|(have H2_:=(Option.bind_some _ _).symm.trans H;with_reducible exact H2_)|with_reducible exact H|(rw [hy400];exact H)|exact H
              have Ny400:=Aside0.mk hy400;clear hy400;obtain ⟨y403,hy403⟩:∃ y_:List (List Int),y_ = (x7_1.set ((ji61):Int).toNat y400):=⟨_,rfl⟩;replace H:(impl_ClassesOf.l0 k1 t362 y403 t362 (t362.length:Int) (wrap64 (x22_1 + 1)) t366 t367) = some (r1,r2):=by first|(rw [hy403];with_reducible exact H)|(have H2_:=(Option.bind_some _ _).symm.trans H;rw [hy403];with_reducible exact H2_)|(have H2_:=(Option.bind_some _ _).symm.trans H;with_reducible exact H2_)|with_reducible exact H|(rw [hy403];exact H)|exact H
              have Ny403:=Aside0.mk hy403;clear hy403;have H':=Aside0.mk H;clear H;have p374:0 ≤ (x22_1:Int):=of_decide_eq_true ab;have q374:x22_1 < (t362.length:Int):=of_decide_eq_true ab;obtain ⟨ad374,e374,hx374_0⟩:=Kd.at_int (Kd.R_reads' HO_20.out).2.2 x22_1 p374 q374;cases e374
              replace p374:=eq_true p374;replace q374:=eq_true q374
              try go_wp2
              have n0_:=Aside0.mk (Kd.R_drew HO_4.out);have n1_:=Aside0.mk (Kd.S_drew HO_7.out);have n2_:=Aside0.mk (Kd.R_drew HO_20.out);have n3_:=Aside0.mk (Kd.R_drew HO_371001.out);have n4_:=Aside0.mk (blk_drew BK361.out);have n5_:=Aside0.mk (blk_drew BK370.out);have n6_:=Aside0.mk (below_drew1 HB.out);clear HO_4;clear HO_7;clear HO_20;clear HO_371001;clear BK361;clear BK370;clear HB;have HO_4:=n0_;have HO_7:=n1_;have HO_20:=n2_;have HO_371001:=n3_;have BK361:=n4_;have BK370:=n5_;have HB:=n6_;clear n0_ n1_ n2_ n3_ n4_ n5_ n6_;have p386:0 ≤ ((ji38):Int):=of_decide_eq_true ab;have q386:(ji38) < (t362.length:Int):=of_decide_eq_true ab;obtain ⟨ad386,e386,hx386_0⟩:=Kd.at_int (Kd.R_reads' HO_4.out).2.2 (ji38) p386 q386;obtain rfl:ad374 = ad386:=(by injection e386);replace p386:=eq_true p386;replace q386:=eq_true q386;refine start_ (n:=12) (S:=fun w'=>w'.cell? ⟨gb370,0,none⟩ = some (.int .i64 t366) ∧ w'.cell? ⟨gb370,1,none⟩ = some (.slice Ao13 t367.length co13) ∧ w'.cell? (ad374.add ((ji38)).toNat) = some (.int .i64 (rd t362 (ji38)))) (ds:=[]) #[false,false,false,false,false,false,false,false,false,false,false,false] (by kernel_rfl) rfl rfl ⟨(blk_cell BK370.out 0).trans rfl,(blk_cell BK370.out 1).trans rfl,hx386_0⟩ (fun hHeld=>?_);refine with_tabW impl_ClassesOf.tab9 impl_ClassesOf.bits9 (fun HT_ HW_=>?_)
              generalize wr.drew = w66 at HO_4 HO_7 HO_20 HO_371001 BK361 BK370 HB hx386_0 hHeld ⊢
              refine pure_ (i:=0) (N:=some 27) (v:=?_) (a':=?_) #[true,false,false,false,false,false,false,false,false,false,false,false] rfl rfl (any_of HT_.out (by kernel_rfl)) (fun _ _ _ h=>h) (Or.inl ⟨by rfl,?_⟩) ?_ ?_;rotate_left
              ·intro w';go_simp
               with_reducible rfl
              rotate_left
              ·simp only [Act.put,sA,sZ,sS,i64_w,i32_w];rfl
              refine pure_ (i:=1) (N:=some 28) (v:=?_) (a':=?_) #[true,true,false,false,false,false,false,false,false,false,false,false] rfl rfl (any_of HT_.out (by kernel_rfl)) (fun _ _ _ h=>h) (Or.inl ⟨by rfl,?_⟩) ?_ ?_;rotate_left
              ·intro w';go_simp
               with_reducible rfl
              rotate_left
              ·simp only [Act.put,sA,sZ,sS,i64_w,i32_w];rfl
              refine pure_ (i:=2) (N:=some 29) (v:=?_) (a':=?_) #[true,true,true,false,false,false,false,false,false,false,false,false] rfl rfl (any_of HT_.out (by kernel_rfl)) (fun _ _ _ h=>h) (Or.inl ⟨by rfl,?_⟩) ?_ ?_;rotate_left
              ·intro w';go_simp
               with_reducible rfl
              rotate_left
              ·simp only [Act.put,sA,sZ,sS,i64_w,i32_w];rfl
              refine pure_ (i:=4) (N:=some 31) (v:=?_) (a':=?_) #[true,true,true,false,true,false,false,false,false,false,false,false] rfl rfl (any_of HT_.out (by kernel_rfl)) (fun _ _ _ h=>h) (Or.inl ⟨by rfl,?_⟩) ?_ ?_;rotate_left
              ·intro w';go_simp
               with_reducible rfl
              rotate_left
              ·simp only [Act.put,sA,sZ,sS,i64_w,i32_w];rfl
              refine pure_ (i:=5) (N:=some 32) (v:=?_) (a':=?_) #[true,true,true,false,true,true,false,false,false,false,false,false] rfl rfl (any_of HT_.out (by kernel_rfl)) (fun _ _ _ h=>h) (Or.inl ⟨by rfl,?_⟩) ?_ ?_;rotate_left
              ·intro w';go_simp
               with_reducible rfl
              rotate_left
              ·simp only [Act.put,sA,sZ,sS,i64_w,i32_w];rfl
              refine pure_ (i:=6) (N:=some 33) (v:=?_) (a':=?_) #[true,true,true,false,true,true,true,false,false,false,false,false] rfl rfl (any_of HT_.out (by kernel_rfl)) (fun _ _ _ h=>h) (Or.inl ⟨by rfl,?_⟩) ?_ ?_;rotate_left
              ·intro w';go_simp
               with_reducible rfl
              rotate_left
              ·simp only [Act.put,sA,sZ,sS,i64_w,i32_w];rfl
              refine pure_ (i:=7) (N:=some 34) (v:=?_) (a':=?_) #[true,true,true,false,true,true,true,true,false,false,false,false] rfl rfl (any_of HT_.out (by kernel_rfl)) (fun _ _ _ h=>h) (Or.inl ⟨by rfl,?_⟩) ?_ ?_;rotate_left
              ·intro w';go_simp
               with_reducible rfl
              rotate_left
              ·simp only [Act.put,sA,sZ,sS,i64_w,i32_w];rfl
              refine pure_ (i:=9) (N:=some 36) (v:=?_) (a':=?_) #[true,true,true,false,true,true,true,true,false,true,false,false] rfl rfl (any_of HT_.out (by kernel_rfl)) (fun _ _ _ h=>h) (Or.inl ⟨by rfl,?_⟩) ?_ ?_;rotate_left
              ·intro w';go_simp
               with_reducible rfl
              rotate_left
              ·simp only [Act.put,sA,sZ,sS,i64_w,i32_w];rfl
              refine take_ (i:=3) (N:=some 30) (v:=?_) (a':=?_) #[true,true,true,true,true,true,true,true,false,true,false,false] rfl rfl (take_ofW HT_.out HW_.out (by kernel_rfl)) (fun _ _ _ h=>h) (Or.inl ⟨by rfl,?_⟩) hHeld ?_ ?_;rotate_left
              ·rintro w' ⟨s0,s1,s2⟩
               go_simp
               with_reducible rfl
              rotate_left
              ·simp only [Act.put,sA,sZ,sS,i64_w,i32_w];rfl
              refine take_ (i:=8) (N:=some 35) (v:=?_) (a':=?_) #[true,true,true,true,true,true,true,true,true,true,false,false] rfl rfl (take_ofW HT_.out HW_.out (by kernel_rfl)) (fun _ _ _ h=>h) (Or.inl ⟨by rfl,?_⟩) hHeld ?_ ?_;rotate_left
              ·rintro w' ⟨s0,s1,s2⟩
               go_simp
               with_reducible rfl
              rotate_left
              ·simp only [Act.put,sA,sZ,sS,i64_w,i32_w];rfl
              refine one_ (i:=10) (N:=some 37) #[true,true,true,true,true,true,true,true,true,true,true,false] rfl rfl (one_of HT_.out (by kernel_rfl)) (by decide) (fun K hK=>?_);refine goes_ Try.func50 (by kernel_rfl) rfl #[.agg #[.int .i64 t366,.slice Ao13 t367.length co13],.int .i64 (rd t362 (ji38)),.int .i64 (rd t362 x22_1)] (by rfl) rfl rfl (by (try simp only [List.map_toArray,List.map_cons,List.map_nil]);first|done|(simp only [hji38];rfl)|rfl|(simp only [List.length_drop,List.length_take];rfl)) ?_
              with_reducible refine (impl_votes_isGreater.calls k1 t366 _ _ t367 (rd t362 (ji38)) (rd t362 x22_1) false _ ?side1 ?side2 A41.out).mono ?_
              (case side1=>repeat (first|exact (Kd.R_reads' HO_371001.out).2.2|(with_reducible refine Kd.C_alloc ?_ _)|(with_reducible refine Kd.C_drewN ?_ _)|(with_reducible refine Kd.C_drew ?_)))
              (case side2=>exact (Kd.R_reads' HO_371001.out).2.1)
              rintro e w67 ⟨rfl,hb⟩
              have HS2_:=(hb.cell (World.block_lt_of_cell? _ _ (hHeld.2.2))).trans (hHeld.2.2);refine ⟨_,rfl,?_⟩;have n0_:=Aside0.mk (Kd.R_below (by (with_reducible repeat (first|apply Kd.R_alloc|apply Kd.R_drewN|apply Kd.R_drew));exact HO_4.out) hb);have n1_:=Aside0.mk (Kd.S_below (by (with_reducible repeat (first|apply Kd.S_alloc|apply Kd.S_drewN|apply Kd.S_drew));exact HO_7.out) hb);have n2_:=Aside0.mk (Kd.R_below (by (with_reducible repeat (first|apply Kd.R_alloc|apply Kd.R_drewN|apply Kd.R_drew));exact HO_20.out) hb);have n3_:=Aside0.mk (Kd.R_below (by (with_reducible repeat (first|apply Kd.R_alloc|apply Kd.R_drewN|apply Kd.R_drew));exact HO_371001.out) hb);have n4_:=Aside0.mk (blk_below (g:=gb361) (o:=.cells #[.int .i64 a0_0,.slice A0_1 l0_1.length c0_1] 28 (0,0)) bk hb);have n5_:=Aside0.mk (blk_below (g:=gb370) (o:=.cells #[.int .i64 t366,.slice Ao13 t367.length co13] 68 (0,0)) bk hb);have n6_:=Aside0.mk (below_step bw hb);clear HO_4;clear HO_7;clear HO_20;clear HO_371001;clear BK361;clear BK370;clear HB;have HO_4:=n0_;have HO_7:=n1_;have HO_20:=n2_;have HO_371001:=n3_;have BK361:=n4_;have BK370:=n5_;have HB:=n6_;clear n0_ n1_ n2_ n3_ n4_ n5_ n6_;(try clear hb)
              (try clear hb2)
              (try clear hk)
              (try clear hi)
              refine hK.out _ _ ⟨(blk_cell BK370.out 0).trans rfl,(blk_cell BK370.out 1).trans rfl,HS2_⟩ (fun hHeld=>?_);clear hK K;refine norm_ (a':=?_) ?_ ?_;rotate_left
              ·show Act.put _ (some 37) _ = _;simp only [Act.put,sA,sZ,sS,i64_w,i32_w];rfl
              refine pure_ (i:=11) (N:=some 38) (v:=?_) (a':=?_) #[true,true,true,true,true,true,true,true,true,true,true,true] rfl rfl (any_of HT_.out (by kernel_rfl)) (fun _ _ _ h=>h) (Or.inl ⟨by rfl,?_⟩) ?_ ?_;rotate_left
              ·intro w';go_simp
               with_reducible rfl
              rotate_left
              ·simp only [Act.put,sA,sZ,sS,i64_w,i32_w];rfl
              refine done_ (done_of HT_.out (by kernel_rfl)) ?_;obtain ⟨Ao68,co68,eo68⟩:=Kd.S_slice HO_7.out;subst eo68;have p399:0 ≤ ((ji61):Int):=of_decide_eq_true ab;have q399:(ji61) < (x7_1.length:Int):=of_decide_eq_true ab;obtain ⟨ad399,A399_0,c399_0,e399,hx399_0,hl399_0,hi399_0⟩:=at_LI (Kd.S_reads' HO_7.out).2.2 (ji61) p399 q399;cases e399
              obtain ⟨ce399,hce399,hMe399,hcc399⟩:=Kd.S_get HO_7.out [] (ji61) p399 (by first|exact q399|exact of_decide_eq_true ab|(have e_:=(Kd.S_reads' HO_7.out).1;omega));obtain ⟨ve399_0,rfl,ge399_0⟩:=hMe399;have hv399_0:=hcc399 0 _ rfl;rw [Nat.add_zero,show ((Kd.slice 3 (Kd.int .i64))).sz = 1 from rfl,Nat.mul_one] at hv399_0;replace hv399_0:=Option.some.inj (hv399_0.symm.trans hx399_0);rw [hv399_0] at ge399_0;have HL399_0:=Aside0.mk (show Kd.R (Kd.int .i64) 3 _ _ _ _ (rd_LI x7_1 (ji61)) from ge399_0);clear hv399_0 ge399_0;have HX399_0:=Aside0.mk hx399_0;clear hcc399 hce399;have HR399_0:=Aside0.mk hi399_0;have HC399_0:=Aside0.mk hl399_0;clear hi399_0 hl399_0;replace p399:=eq_true p399;replace q399:=eq_true q399;obtain ⟨go69,co69,eo69,gb69,gl69,cl69,HG69⟩:=Kd.S_form HO_7.out (by have h_:((ji61):Int) < ((x7_1.length:Int):Int):=of_decide_eq_true ab;have h2_:0 ≤ ((ji61):Int):=(of_decide_eq_true ab);omega);(first|cases eo69|(injection eo69 with ea_ en_ ec_;(first|subst ea_|(injection ea_ with ea_;subst ea_));subst ec_;clear en_))
              have GB69:=Aside0.mk gb69;have GG69:=Aside0.mk HG69;clear gb69 gl69 HG69;(first|simp only [add_plain] at hx399_0|skip)
              obtain ⟨oki69,ce69,hcl69,hM69,hcc69,_,_,hH69⟩:=Kd.S_elem HO_7.out [] ((ji61):Int) (of_decide_eq_true ab) (by have h_:((ji61):Int) < ((x7_1.length:Int):Int):=of_decide_eq_true ab;first|exact h_|(have e_:=(Kd.S_reads' HO_7.out).1;omega)|simpa using h_);obtain ⟨ve69_0,rfl,ge69_0⟩:=hM69;have hv69:=hcc69 0 _ rfl;have hX69:=HX399_0.out;(try simp only [add_plain] at hX69)
              (try simp only [Nat.add_zero] at hv69)
              (try rw [show ((Kd.slice 3 (Kd.int .i64))).sz = 1 from rfl,Nat.mul_one] at hv69)
              replace hv69:=Option.some.inj (hv69.symm.trans hX69);subst hv69;clear hX69 hcc69 hcl69;have UU69:=Aside0.mk (show Kd.R (Kd.int .i64) 3 _ w.heap.size oki69 (.slice A399_0 (rd_LI x7_1 (ji61)).length c399_0) (rd_LI x7_1 (ji61)) from ge69_0);have HH69:=Aside0.mk hH69;have HN69:=Aside0.mk (Kd.S_reads' HO_7.out).1;clear hH69 ge69_0
              try go_wp2_with (first|((with_reducible refine gate_builtin (b:=.append) (xs:=#[.tmp 52,.tmp 54]) rfl ?_);at_builtin;refine Kd.R_append (Kd.int .i64) (w0:=w) w.heap.size rfl (.tmp 52) (.tmp 54) 40 3 (.int .i64 0) 8 rfl Try.underlying40 info3 rfl (by decide) (by omega) (.slice A399_0 (rd_LI x7_1 (ji61)).length c399_0) (rd_LI x7_1 (ji61)) (rd t362 x22_1) [.int .i64 (rd t362 x22_1)] (fun k_=>oki69 k_ ∨ ((fun k_=>some k_ ≠ (.slice (some ad374) t362.length co16:Value).ownBlock ∧ some k_ ≠ (.slice (some ad374) t362.length co16:Value).ownBlock)) k_ ∧ w67.heap.size ≤ k_) (fun _=>False) rfl rfl ?aP (fun _ hk=>hk.elim) ?aF ?aO ?aB ?aS ?aL ?_;(case aP=>exact rfl);(case aB=>exact bw);(case aF=>exact (fun k_ hk=>.inr ⟨⟨Kd.fresh' (Kd.R_lt (by (with_reducible repeat (first|apply Kd.R_alloc|apply Kd.R_drewN|apply Kd.R_drew));exact HO_4.out)) k_ hk,Kd.fresh' (Kd.R_lt (by (with_reducible repeat (first|apply Kd.R_alloc|apply Kd.R_drewN|apply Kd.R_drew));exact HO_20.out)) k_ hk⟩,hk⟩));(case aO=>exact (by (with_reducible repeat (first|apply Kd.R_alloc|apply Kd.R_drewN|apply Kd.R_drew));exact Kd.R_mono UU69.out (fun _ hk=>.inl hk)));(case aS=>exact (below_size bw));(case aL=>have:=LMc64.out;omega);intro v401 w70 ho hb hg hat;rw [← Ny400.out] at ho;have n0_:=Aside0.mk (Kd.R_grown2 (by (with_reducible repeat (first|apply Kd.R_alloc|apply Kd.R_drewN|apply Kd.R_drew));exact HO_4.out) rfl hg (fun k_ e_=>(HL399_0.out.1 k_ e_).1.1));have n1_:=Aside0.mk (Kd.R_grown2 (by (with_reducible repeat (first|apply Kd.R_alloc|apply Kd.R_drewN|apply Kd.R_drew));exact HO_20.out) rfl hg (fun k_ e_=>(HL399_0.out.1 k_ e_).1.2));have n2_:=Aside0.mk (Kd.R_over' (v:=(.slice A399_0 (rd_LI x7_1 (ji61)).length c399_0)) (by (with_reducible repeat (first|apply Kd.R_alloc|apply Kd.R_drewN|apply Kd.R_drew));exact HO_371001.out) (Kd.R_typed HL399_0.out) (by decide) hg);have n3_:=Aside0.mk (blk_grown (g:=gb361) (o:=.cells #[.int .i64 a0_0,.slice A0_1 l0_1.length c0_1] 28 (0,0)) bk hg (Kd.R_ne HL399_0.out BK361.out (by decide)));have n4_:=Aside0.mk (blk_grown (g:=gb370) (o:=.cells #[.int .i64 t366,.slice Ao13 t367.length co13] 68 (0,0)) bk hg (Kd.R_ne HL399_0.out BK370.out (by decide)));have n5_:=Aside0.mk (hb);have n6_:=Aside0.mk (Kd.H_grown (Kd.H_widen (by repeat (first|exact HH69.out|refine Kd.H_alloc ?_ _|refine Kd.H_drewN ?_ _|refine Kd.H_drew ?_))) hg (fun k_ e_=>.inl (UU69.out.1 k_ e_)));have n7_:=Aside0.mk (ho);clear HO_4;clear HO_20;clear HO_371001;clear BK361;clear BK370;clear HB;clear HH69;clear HO_7;clear UU69;clear HL399_0;have HO_4:=n0_;have HO_20:=n1_;have HO_371001:=n2_;have BK361:=n3_;have BK370:=n4_;have HB:=n5_;have HH69:=n6_;have HO402:=n7_;clear n0_ n1_ n2_ n3_ n4_ n5_ n6_ n7_;clear ho hb hg hat;have p65:0 ≤ ((ji61):Int):=of_decide_eq_true ab;have q65:((ji61):Int) < ((x7_1.length:Int):Int):=of_decide_eq_true ab;replace p65:=eq_true p65;replace q65:=eq_true q65;obtain ⟨Ao73,co73,eo73⟩:=Kd.R_slice HO402.out;subst eo73;obtain ⟨_,_,hraw71,_,_,hcc71,_⟩:=Kd.H_raw HH69.out (of_decide_eq_true ab) (by have h_:((ji61):Int) < ((x7_1.length:Int):Int):=of_decide_eq_true ab;first|exact h_|(have e_:=(HN69.out);omega)|simpa using h_);obtain ⟨_,hfr71⟩:=Kd.H_at HH69.out (of_decide_eq_true ab) (by have h_:((ji61):Int) < ((x7_1.length:Int):Int):=of_decide_eq_true ab;first|exact h_|(have e_:=(HN69.out);omega)|simpa using h_);have hx71_0:=hcc71 0 _ rfl;have hf71_0:=hfr71 0;(try simp only [Nat.add_zero] at hx71_0 hf71_0);(try rw [show ((Kd.slice 3 (Kd.int .i64))).sz = 1 from rfl,Nat.mul_one] at hx71_0);(try rw [show ((Kd.slice 3 (Kd.int .i64))).sz = 1 from rfl,Nat.mul_one] at hf71_0);have HP71:=Kd.S_seg0 HH69.out (of_decide_eq_true ab) (by have h_:((ji61):Int) < ((x7_1.length:Int):Int):=of_decide_eq_true ab;first|exact h_|(have e_:=(HN69.out);omega)|simpa using h_) (seg:=[.slice Ao73 y400.length co73]) (j:=0) (show 1 ≤ 1 from by decide) (x':=y400) (Kd.M_row HO402.out) (fun _ hk=>hk);(try simp only [show ((Kd.slice 3 (Kd.int .i64))).sz = 1 from rfl,Nat.mul_one,Nat.add_zero] at HP71);clear hcc71 hfr71)|((with_reducible refine gate_store (t:=40) (p:=56) rfl ?_);refine store_event (t:=40) (p:=56) (v:=?vo_w72) (w1:=(w70.setCell ⟨go69,((ji61):Int).toNat,none⟩ (.slice Ao73 y400.length co73))) ?hg ?ho ?hn ?hr ?_;(case ho=>rfl);(case hg=>rfl);(case hn=>rfl);(case hr=>first|(go_simp;done)|(go_simp;rfl));intro w72 hw;have hg:w70.grownBy w72 (some go69):=(by rw [hw];exact HP71.2);have hp_:Kd.S (Kd.slice 3 (Kd.int .i64)) 40 w72 w.heap.size (fun k_=>some k_ ≠ (.slice (some ad374) t362.length co16:Value).ownBlock ∧ some k_ ≠ (.slice (some ad374) t362.length co16:Value).ownBlock) (.slice (some ⟨go69,0,none⟩) x7_1.length co68) y403:=(by rw [hw,Ny403.out];exact HP71.1);clear HP71;have n0_:=Aside0.mk (Kd.R_over' (v:=(.slice (some ⟨go69,0,none⟩) x7_1.length co68)) (by (with_reducible repeat (first|apply Kd.R_alloc|apply Kd.R_drewN|apply Kd.R_drew));exact HO_4.out) (Kd.R_typed hraw71) (by decide) hg);have n1_:=Aside0.mk (Kd.R_over' (v:=(.slice (some ⟨go69,0,none⟩) x7_1.length co68)) (by (with_reducible repeat (first|apply Kd.R_alloc|apply Kd.R_drewN|apply Kd.R_drew));exact HO_20.out) (Kd.R_typed hraw71) (by decide) hg);have n2_:=Aside0.mk (Kd.R_over' (v:=(.slice (some ⟨go69,0,none⟩) x7_1.length co68)) (by (with_reducible repeat (first|apply Kd.R_alloc|apply Kd.R_drewN|apply Kd.R_drew));exact HO_371001.out) (Kd.R_typed hraw71) (by decide) hg);have n3_:=Aside0.mk (blk_grown (g:=gb361) (o:=.cells #[.int .i64 a0_0,.slice A0_1 l0_1.length c0_1] 28 (0,0)) bk hg (Kd.R_ne hraw71 BK361.out (by decide)));have n4_:=Aside0.mk (blk_grown (g:=gb370) (o:=.cells #[.int .i64 t366,.slice Ao13 t367.length co13] 68 (0,0)) bk hg (Kd.R_ne hraw71 BK370.out (by decide)));have n5_:=Aside0.mk ((by rw [hw];exact below_set HB.out GB69.out:Below w.heap.size w w72));have n6_:=Aside0.mk (hp_);clear HO_4;clear HO_20;clear HO_371001;clear BK361;clear BK370;clear HB;clear HO402;clear HH69;have HO_4:=n0_;have HO_20:=n1_;have HO_371001:=n2_;have BK361:=n3_;have BK370:=n4_;have HB:=n5_;have HO_7:=n6_;clear n0_ n1_ n2_ n3_ n4_ n5_ n6_;clear hg hw hp_ hraw71))
              go_roundg k1
              case measure=>have:=HK1.out;omega
              case rel=>exact ⟨(y403),(wrap64 (x22_1 + 1)),(by first|rfl|(simp;done)|(simp [*];done)),H',⟨by have:=HK1.out;omega⟩,⟨by (with_reducible repeat (first|apply Kd.R_alloc|apply Kd.R_drewN|apply Kd.R_drew));exact HO_4.out⟩,⟨by (with_reducible repeat (first|apply Kd.S_alloc|apply Kd.S_drewN|apply Kd.S_drew));exact HO_7.out⟩,⟨by (with_reducible repeat (first|apply Kd.R_alloc|apply Kd.R_drewN|apply Kd.R_drew));exact HO_20.out⟩,⟨by (with_reducible repeat (first|apply Kd.R_alloc|apply Kd.R_drewN|apply Kd.R_drew));exact HO_371001.out⟩,⟨by (with_reducible repeat (first|refine blk_drewN ?_ _|refine blk_drew ?_|refine blk_alloc ?_ _));exact BK361.out⟩,⟨by (with_reducible repeat (first|refine blk_drewN ?_ _|refine blk_drew ?_|refine blk_alloc ?_ _));exact BK370.out⟩,⟨by repeat (first|(with_reducible first|exact HB.out|apply below_alloc|apply pw_below_drewN|apply below_drew1|refine below_set ?_ GE361.out|refine below_set ?_ GE370.out)|exact HB.out)⟩⟩
             ·rw [if_neg c64] at H;exact absurd H (by simp)
            ·rw [if_neg c63] at H;exact absurd H (by simp)
           ·rw [if_neg c62] at H;exact absurd H (by simp)
         ·rw [if_neg c40] at H;exact absurd H (by simp)
        ·rw [if_neg c39] at H;exact absurd H (by simp)
      ·rw [if_neg c19] at H;exact absurd H (by simp)
     ·rw [if_neg c18] at H;exact absurd H (by simp)
    ·rw [if_neg c17] at H;have c17b0:decide (x22_1 < (t362.length:Int)) = false:=decide_eq_false c17;clear c17;simp only [Option.some.injEq,Prod.mk.injEq] at H;obtain ⟨rfl,rfl⟩:=H;go_wp2
     go_ret2
     exact ⟨_,by first|rfl|(simp [errW_none,errW_some] <;> rfl)|(simp [*,errW_none,errW_some] <;> rfl),by (with_reducible repeat (first|apply Kd.S_alloc|apply Kd.S_drewN|apply Kd.S_drew));exact Kd.S_mono HO_7.out (fun _ hk=>trivial),by repeat (first|(with_reducible first|exact HB.out|apply below_alloc|apply pw_below_drewN|apply below_drew1|refine below_set ?_ GE361.out|refine below_set ?_ GE370.out)|exact HB.out)⟩
 ·replace c3:=Bool.eq_false_iff.mpr c3;subst c3;have H1:(some (([]:List (List Int)),false)) = some (r1,r2):=by rw [if_neg (show ¬ (false = true) by decide)] at H;exact H
  clear H;have H:=H1;clear H1;simp only [Option.some.injEq,Prod.mk.injEq] at H;obtain ⟨rfl,rfl⟩:=H;go_enter Try.func14,Try.ntmps14;go_wp2_with (first|((with_reducible refine gate_dst (N:=1) rfl ?_);refine box_event ?hg (N:=1) ?hd (cs:=#[.int .i64 a0_0,.slice A0_1 l0_1.length c0_1]) (t:=28) ?hr ?_;(case hd=>rfl);(case hg=>rfl);(case hr=>first|(go_simp;done)|(go_simp;rfl));intro gb361 hg w74 hbox hb;have n0_:=Aside0.mk (below_step bw hb);have n1_:=Aside0.mk (hbox);have n2_:=Aside0.mk ((by rw [hg];exact (below_size bw):w.heap.size ≤ gb361));have n3_:=Aside0.mk ((by rw [hg];exact (below_size bw):w.heap.size ≤ gb361));clear HB;have HB:=n0_;have BK361:=n1_;have GW361:=n2_;have GE361:=n3_;clear n0_ n1_ n2_ n3_;clear hb hbox hg;have hcz75_0:w74.cell? ⟨gb361,0,none⟩ = some (.int .i64 a0_0):=(blk_cell BK361.out 0).trans rfl;have hcz75_1:w74.cell? ⟨gb361,1,none⟩ = some (.slice A0_1 l0_1.length c0_1):=(blk_cell BK361.out 1).trans rfl;have hfz75_0:=blk_frozen BK361.out 0;have hfz75_1:=blk_frozen BK361.out 1)|((with_reducible refine gate_callee (f:=48) rfl ?_);refine goesL_ (some 12) rfl rfl Try.func48 (by kernel_rfl) rfl #[.agg #[.int .i64 a0_0,.slice A0_1 l0_1.length c0_1]] rfl mq ?_;(with_reducible refine (impl_OrderOfWorth.calls k a0_0 _ _ l0_1 t362 false _ ?side1 ?side2 A2.out).mono ?_);(case side1=>repeat (first|exact (Kd.C_below HR0_1.out HB.out)|(with_reducible refine Kd.C_alloc ?_ _)|(with_reducible refine Kd.C_drewN ?_ _)|(with_reducible refine Kd.C_drew ?_)));(case side2=>exact HC0_1.out);rintro e w76 ⟨v363,rfl,ho0,hb⟩;refine ⟨_,rfl,?_⟩;have n0_:=Aside0.mk (Kd.R_lower ho0 (below_size bw));have n1_:=Aside0.mk (blk_below (g:=gb361) (o:=.cells #[.int .i64 a0_0,.slice A0_1 l0_1.length c0_1] 28 (0,0)) bk hb);have n2_:=Aside0.mk (below_step bw hb);clear BK361;clear HB;have HO364:=n0_;have BK361:=n1_;have HB:=n2_;clear n0_ n1_ n2_;(try clear hb);(try clear hb2);(try clear hk);(try clear hi);(try clear ho0)))
  go_ret2
  exact ⟨_,by first|rfl|(simp [errW_none,errW_some] <;> rfl)|(simp [*,errW_none,errW_some] <;> rfl),by first|exact Kd.S_nil _ _ _ _ _|exact Kd.N_nil _ _ _ _ _|exact Kd.V_nil _ _ _ _ _|exact Kd.Q_nil _ _ _ _ _|exact Kd.R_nil _ _ _ _ _,by repeat (first|(with_reducible first|exact HB.out|apply below_alloc|apply pw_below_drewN|apply below_drew1|refine below_set ?_ GE361.out)|exact HB.out)⟩

end Go.Proofs.Ytokelcedamegbaa.P
