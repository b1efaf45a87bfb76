/- Part 2 of the texts below the law FnExactStandsTrades. Printed by this session's driver over the kit's printer, but for the hand contracts and the plain laws. -/
import Derived.Test.YtokelcedamegbaaCStandsTrades1
set_option linter.unusedVariables false
set_option linter.unusedSimpArgs false
namespace Go.Proofs.Ytokelcedamegbaa.P
open Go.RowKit Go.Proofs.YtokelcedamegbaaW.PrintWords Go.Proofs.YtokelcedamegbaaW.PrintLast Go.Proofs.YtokelcedamegbaaW.PrintMore
attribute [local go_sem] max2_int min2_int max_two min_two max_three min_three max_four min_four   -- for this text's walks alone
set_option linter.unusedVariables false
set_option linter.unusedSimpArgs false

/-! ### impl_IsGame: function 91 -/
mutual
def impl_IsGame.j0:Nat → Bool → Int → List (List Int) → Option (Bool)
 | 0,_,_,_=>none
 | k + 1,x24,x301000,x301001=>if x24 = true then (some false) else (impl_IsGame.l0 k x301001 (x301001.length:Int) 0 x301000 x301001)
def impl_IsGame.l0:Nat → List (List Int) → Int → Int → Int → List (List Int) → Option (Bool)
 | 0,_,_,_,_,_=>none
 | k + 1,x26,x27,x28,x301000,x301001=>if x28 < x27 then (if 0 ≤ x28 then (if x28 < (x26.length:Int) then (if x28 > 0 then (if 0 ≤ (wrap64 (x28 - 1)) then (if (wrap64 (x28 - 1)) < (x301001.length:Int) then ((slices_Compare_int_int.f k (rd_LI x301001 (wrap64 (x28 - 1))) (rd_LI x26 x28)).bind fun t305=>(impl_IsGame.j2 k x28 (rd_LI x26 x28) x26 x27 x28 (decide (t305 ≥ 0)) x301000 x301001)) else (none)) else (none)) else (impl_IsGame.j2 k x28 (rd_LI x26 x28) x26 x27 x28 false x301000 x301001)) else (none)) else (none)) else (some true)
def impl_IsGame.j2:Nat → Int → List Int → List (List Int) → Int → Int → Bool → Int → List (List Int) → Option (Bool)
 | 0,_,_,_,_,_,_,_,_=>none
 | k + 1,x3,x4,x26,x27,x28,x45,x301000,x301001=>if x45 = true then (some false) else (impl_IsGame.l1 k x3 x4 x26 x27 x28 x301001 (x301001.length:Int) 0 x301000 x301001)
def impl_IsGame.l1:Nat → Int → List Int → List (List Int) → Int → Int → List (List Int) → Int → Int → Int → List (List Int) → Option (Bool)
 | 0,_,_,_,_,_,_,_,_,_,_=>none
 | k + 1,x3,x4,x26,x27,x28,x47,x48,x49,x301000,x301001=>if x49 < x48 then (if 0 ≤ x49 then (if x49 < (x47.length:Int) then (if x49 = x3 then (impl_IsGame.l1 k x3 x4 x26 x27 x28 x47 x48 (wrap64 (x49 + 1)) x301000 x301001) else ((impl_maskOf.f k x4).bind fun t307=>((impl_maskOf.f k (rd_LI x47 x49)).bind fun t308=>((impl_maskOf.f k (rd_LI x47 x49)).bind fun t309=>(if (Go.bits .and .i64 t307 t308) = t309 then (some false) else (impl_IsGame.l1 k x3 x4 x26 x27 x28 x47 x48 (wrap64 (x49 + 1)) x301000 x301001)))))) else (none)) else (none)) else (impl_IsGame.l0 k x26 x27 (wrap64 (x28 + 1)) x301000 x301001)
end
def impl_IsGame.f (k:Nat) (a0_0:Int) (l0_1:List (List Int)):Option (Bool):=(impl_within.f a0_0 1 9).bind fun t301=>(if t301 = true then (if (l0_1.length:Int) = 0 then (impl_IsGame.j0 k true a0_0 l0_1) else ((impl_areSets.f k l0_1 a0_0).bind fun t302=>(impl_IsGame.j0 k (!t302) a0_0 l0_1))) else (impl_IsGame.j0 k true a0_0 l0_1))
theorem impl_IsGame.mono_l:∀ k,(∀ y0 y1 y2,LeO (impl_IsGame.j0 k y0 y1 y2) (impl_IsGame.j0 (k + 1) y0 y1 y2)) ∧ (∀ y0 y1 y2 y3 y4,LeO (impl_IsGame.l0 k y0 y1 y2 y3 y4) (impl_IsGame.l0 (k + 1) y0 y1 y2 y3 y4)) ∧ (∀ y0 y1 y2 y3 y4 y5 y6 y7,LeO (impl_IsGame.j2 k y0 y1 y2 y3 y4 y5 y6 y7) (impl_IsGame.j2 (k + 1) y0 y1 y2 y3 y4 y5 y6 y7)) ∧ (∀ y0 y1 y2 y3 y4 y5 y6 y7 y8 y9,LeO (impl_IsGame.l1 k y0 y1 y2 y3 y4 y5 y6 y7 y8 y9) (impl_IsGame.l1 (k + 1) y0 y1 y2 y3 y4 y5 y6 y7 y8 y9))
 | 0=>⟨fun _ _ _ r h=>by simp [impl_IsGame.j0] at h,fun _ _ _ _ _ r h=>by simp [impl_IsGame.l0] at h,fun _ _ _ _ _ _ _ _ r h=>by simp [impl_IsGame.j2] at h,fun _ _ _ _ _ _ _ _ _ _ r h=>by simp [impl_IsGame.l1] at h⟩
 | k + 1=>by
  obtain ⟨ih0,ih1,ih2,ih3⟩:=impl_IsGame.mono_l k;refine ⟨?_,?_,?_,?_⟩
  ·intro y0 y1 y2;unfold impl_IsGame.j0
   repeat' with_reducible first|exact ih0 _ _ _|exact ih1 _ _ _ _ _|exact ih2 _ _ _ _ _ _ _ _|exact ih3 _ _ _ _ _ _ _ _ _ _|exact impl_areSets.mono _ _ _|exact impl_maskOf.mono _ _|exact slices_Compare_int_int.mono _ _ _|exact LeO.refl _|exact LeO.none _|refine LeO.ite ?_ ?_|refine LeO.bind ?_ (fun _=>?_)
  ·intro y0 y1 y2 y3 y4;unfold impl_IsGame.l0
   repeat' with_reducible first|exact ih0 _ _ _|exact ih1 _ _ _ _ _|exact ih2 _ _ _ _ _ _ _ _|exact ih3 _ _ _ _ _ _ _ _ _ _|exact impl_areSets.mono _ _ _|exact impl_maskOf.mono _ _|exact slices_Compare_int_int.mono _ _ _|exact LeO.refl _|exact LeO.none _|refine LeO.ite ?_ ?_|refine LeO.bind ?_ (fun _=>?_)
  ·intro y0 y1 y2 y3 y4 y5 y6 y7;unfold impl_IsGame.j2
   repeat' with_reducible first|exact ih0 _ _ _|exact ih1 _ _ _ _ _|exact ih2 _ _ _ _ _ _ _ _|exact ih3 _ _ _ _ _ _ _ _ _ _|exact impl_areSets.mono _ _ _|exact impl_maskOf.mono _ _|exact slices_Compare_int_int.mono _ _ _|exact LeO.refl _|exact LeO.none _|refine LeO.ite ?_ ?_|refine LeO.bind ?_ (fun _=>?_)
  ·intro y0 y1 y2 y3 y4 y5 y6 y7 y8 y9;unfold impl_IsGame.l1
   repeat' with_reducible first|exact ih0 _ _ _|exact ih1 _ _ _ _ _|exact ih2 _ _ _ _ _ _ _ _|exact ih3 _ _ _ _ _ _ _ _ _ _|exact impl_areSets.mono _ _ _|exact impl_maskOf.mono _ _|exact slices_Compare_int_int.mono _ _ _|exact LeO.refl _|exact LeO.none _|refine LeO.ite ?_ ?_|refine LeO.bind ?_ (fun _=>?_)
theorem impl_IsGame.mono:∀ a0 a1 k,LeO (impl_IsGame.f k a0 a1) (impl_IsGame.f (k + 1) a0 a1):=by
 intro a0 a1 k;obtain ⟨ih0,ih1,ih2,ih3⟩:=impl_IsGame.mono_l k;unfold impl_IsGame.f
 repeat' with_reducible first|exact ih0 _ _ _|exact ih1 _ _ _ _ _|exact ih2 _ _ _ _ _ _ _ _|exact ih3 _ _ _ _ _ _ _ _ _ _|exact impl_areSets.mono _ _ _|exact impl_maskOf.mono _ _|exact slices_Compare_int_int.mono _ _ _|exact LeO.refl _|exact LeO.none _|refine LeO.ite ?_ ?_|refine LeO.bind ?_ (fun _=>?_)
set_option maxHeartbeats 8000000 in
set_option maxRecDepth 100000 in
theorem impl_IsGame.calls (k:Nat) (a0_0:Int) (A0_1:Option Addr) (c0_1:Nat) (l0_1:List (List Int)) (r:Bool) (w:World) (hr0_1:Kd.C (Kd.slice 3 (Kd.int .i64)) w A0_1 l0_1.length l0_1) (hc0_1:l0_1.length ≤ c0_1) (h:impl_IsGame.f k a0_0 l0_1 = some r) :
  Calls Try.prog 91 #[.agg #[.int .i64 a0_0,.slice A0_1 l0_1.length c0_1]] w fun e w'=>e = .returned (.bool r) ∧ Below w.heap.size w w':=by
 have hu28:=Try.underlying28;have HR0_1:=aM hr0_1;have HC0_1:=aM hc0_1;clear hr0_1 hc0_1;have HB:=aM (Below.refl w.heap.size w);have H:((impl_within.f a0_0 1 9).bind fun t301=>(if t301 = true then (if (l0_1.length:Int) = 0 then (impl_IsGame.j0 k true a0_0 l0_1) else ((impl_areSets.f k l0_1 a0_0).bind fun t302=>(impl_IsGame.j0 k (!t302) a0_0 l0_1))) else (impl_IsGame.j0 k true a0_0 l0_1))) = some r:=h;clear h;have HC2:=aM H;clear H;go_enter Try.func91,Try.ntmps91;go_upto_region 1 with (first|((with_reducible refine gate_dst (N:=1) rfl ?_);(try (refine gate_guard (by rfl) ?_;dsimp only));refine box_event ?hg (N:=1) ?hd (cs:=#[.int .i64 a0_0,.slice A0_1 l0_1.length c0_1]) (t:=28) ?hr ?_;(case hd=>rfl);(case hg=>rfl);(case hr=>first|(go_simp;done)|(go_simp;rfl));intro gb300 hg w3 hbox hb;have n0_:=aM (below_step bw hb);have n1_:=aM (hbox);have n2_:=aM ((by rw [hg];exact (below_size bw):w.heap.size ≤ gb300));have n3_:=aM ((by rw [hg];exact (below_size bw):w.heap.size ≤ gb300));clear HB;have HB:=n0_;have BK300:=n1_;have GW300:=n2_;have GE300:=n3_;clear n0_ n1_ n2_ n3_;clear hb hbox hg))
 (try simp only [Act.put,sA,sZ,sS])
 go_cut [24] (fun v24 wc=>∃ (kq:Nat) (x24_1:Bool),v24 = .bool x24_1 ∧ Aside0 (impl_IsGame.j0 kq x24_1 a0_0 l0_1 = some r) ∧ Aside0 (kq ≤ k) ∧ Aside0 (wc.heap[gb300]? = some (.cells #[.int .i64 a0_0,(.slice A0_1 l0_1.length c0_1)] 28 (0,0))) ∧ Aside0 (Below w.heap.size w wc))
 case first =>
  have H:=HC2.out;clear HC2;replace H:=Option.bind_eq_some_iff.mp H;obtain ⟨t301,A40,H⟩:=H;replace H:(if t301 = true then (if (l0_1.length:Int) = 0 then (impl_IsGame.j0 k true a0_0 l0_1) else ((impl_areSets.f k l0_1 a0_0).bind fun t302=>(impl_IsGame.j0 k (!t302) a0_0 l0_1))) else (impl_IsGame.j0 k true a0_0 l0_1)) = some r:=H;have A4:=aM A40;clear A40;by_cases c5:t301 = true
  ·subst c5;have H1:(if (l0_1.length:Int) = 0 then (impl_IsGame.j0 k true a0_0 l0_1) else ((impl_areSets.f k l0_1 a0_0).bind fun t302=>(impl_IsGame.j0 k (!t302) a0_0 l0_1))) = some r:=by rw [if_pos rfl] at H;exact H
   clear H;have H:=H1;clear H1;by_cases c6:(l0_1.length:Int) = 0
   ·rw [if_pos c6] at H;have c6b0:((l0_1.length:Int) == 0) = true:=beq_iff_eq.mpr c6;have c6b1:((l0_1.length:Int) != 0) = false:=bne_eq_false_iff_eq.mpr c6;clear c6;(first|rw [c6b0]|(simp only [i64_w,i32_w];rw [c6b0])|skip)
    have H':=aM H;clear H;have hcz7_0:w3.cell? ⟨gb300,0,none⟩ = some (.int .i64 a0_0):=(blk_cell BK300.out 0).trans rfl;have hcz7_1:w3.cell? ⟨gb300,1,none⟩ = some (.slice A0_1 l0_1.length c0_1):=(blk_cell BK300.out 1).trans rfl;have hfz7_0:=blk_frozen BK300.out 0;have hfz7_1:=blk_frozen BK300.out 1;go_wp2_with (first|((with_reducible refine gate_callee (f:=69) rfl ?_);refine goesL_ (some 9) rfl rfl Try.func69 kR rfl #[.int .i64 a0_0,.int .i64 1,.int .i64 9] rfl mq ?_;(with_reducible refine (impl_within.calls a0_0 1 9 true _ A4.out).mono ?_);rintro e w' ⟨rfl,⟨nd,rfl⟩⟩;refine ⟨_,rfl,?_⟩))
    go_meet
    case rel=>exact ⟨_,(true),qrs,H',⟨by first|omega|exact Nat.le_refl _⟩,⟨by (with_reducible repeat (first|refine blk_drewN ?_ _|refine blk_drew ?_|refine blk_alloc ?_ _));exact BK300.out⟩,⟨by exact bw⟩⟩
   ·rw [if_neg c6] at H;have c6b0:((l0_1.length:Int) == 0) = false:=beq_eq_false_iff_ne.mpr c6;have c6b1:((l0_1.length:Int) != 0) = true:=bne_iff_ne.mpr c6;have c6b2:¬ (l0_1 = []):=fun h_=>c6 (by rw [h_];rfl)
    (first|rw [c6b0]|(simp only [i64_w,i32_w];rw [c6b0])|skip)
    replace H:=Option.bind_eq_some_iff.mp H;obtain ⟨t302,A80,H⟩:=H;replace H:(impl_IsGame.j0 k (!t302) a0_0 l0_1) = some r:=H;have A8:=aM A80;clear A80;have H':=aM H;clear H;have hcz9_0:w3.cell? ⟨gb300,0,none⟩ = some (.int .i64 a0_0):=(blk_cell BK300.out 0).trans rfl;have hcz9_1:w3.cell? ⟨gb300,1,none⟩ = some (.slice A0_1 l0_1.length c0_1):=(blk_cell BK300.out 1).trans rfl;have hfz9_0:=blk_frozen BK300.out 0;have hfz9_1:=blk_frozen BK300.out 1;go_wp2_with (first|((with_reducible refine gate_callee (f:=69) rfl ?_);refine goesL_ (some 9) rfl rfl Try.func69 kR rfl #[.int .i64 a0_0,.int .i64 1,.int .i64 9] rfl mq ?_;(with_reducible refine (impl_within.calls a0_0 1 9 true _ A4.out).mono ?_);rintro e w' ⟨rfl,⟨nd,rfl⟩⟩;refine ⟨_,rfl,?_⟩)|(go_at_call 127;(with_reducible refine (impl_areSets.calls k _ _ l0_1 a0_0 t302 _ ?side1 ?side2 A8.out).mono ?_);(case side1=>repeat (first|exact (Kd.C_below HR0_1.out bw)|(with_reducible refine Kd.C_alloc ?_ _)|(with_reducible refine Kd.C_drewN ?_ _)|(with_reducible refine Kd.C_drew ?_)));(case side2=>exact HC0_1.out);rintro e w10 ⟨rfl,hb⟩;have n0_:=aM (blk_below (g:=gb300) (o:=.cells #[.int .i64 a0_0,.slice A0_1 l0_1.length c0_1] 28 (0,0)) bk hb);have n1_:=aM (below_step bw hb);clear BK300;clear HB;have BK300:=n0_;have HB:=n1_;clear n0_ n1_;(try clear hb);(try clear hb2);(try clear hk);(try clear hi)))
    go_meet
    case rel=>exact ⟨_,(!t302),qrs,H',⟨by first|omega|exact Nat.le_refl _⟩,⟨by (with_reducible repeat (first|refine blk_drewN ?_ _|refine blk_drew ?_|refine blk_alloc ?_ _));exact BK300.out⟩,⟨by exact bw⟩⟩
  ·replace c5:=Bool.eq_false_iff.mpr c5;subst c5;have H1:(impl_IsGame.j0 k true a0_0 l0_1) = some r:=by rw [if_neg (show ¬ (false = true) by decide)] at H;exact H
   clear H;have H:=H1;clear H1;have H':=aM H;clear H;have hcz11_0:w3.cell? ⟨gb300,0,none⟩ = some (.int .i64 a0_0):=(blk_cell BK300.out 0).trans rfl;have hcz11_1:w3.cell? ⟨gb300,1,none⟩ = some (.slice A0_1 l0_1.length c0_1):=(blk_cell BK300.out 1).trans rfl;have hfz11_0:=blk_frozen BK300.out 0;have hfz11_1:=blk_frozen BK300.out 1;go_wp2_with (first|((with_reducible refine gate_callee (f:=69) rfl ?_);refine goesL_ (some 9) rfl rfl Try.func69 kR rfl #[.int .i64 a0_0,.int .i64 1,.int .i64 9] rfl mq ?_;(with_reducible refine (impl_within.calls a0_0 1 9 false _ A4.out).mono ?_);rintro e w' ⟨rfl,⟨nd,rfl⟩⟩;refine ⟨_,rfl,?_⟩))
   go_meet
   case rel=>exact ⟨_,(true),qrs,H',⟨by first|omega|exact Nat.le_refl _⟩,⟨by (with_reducible repeat (first|refine blk_drewN ?_ _|refine blk_drew ?_|refine blk_alloc ?_ _));exact BK300.out⟩,⟨by exact bw⟩⟩
 case rest =>
  clear HC2;(try clear p2);(try clear c5);(try clear c6);(try clear c6b0);(try clear c6b1);(try clear c6b2);(try clear c9);(try clear hcz11_0);(try clear hcz11_1);(try clear hcz7_0);(try clear hcz7_1);(try clear hcz9_0);(try clear hcz9_1);(try clear hfz11_0);(try clear hfz11_1);(try clear hfz7_0);(try clear hfz7_1);(try clear hfz9_0);(try clear hfz9_1)
  obtain ⟨kq,x24_1,rfl,HA,HJ1,BK300,HB⟩:=hcut
  cases kq with
  | zero=>exact absurd HA.out (by simp [impl_IsGame.j0])
  | succ kj1 =>
   have H:=HA.out;clear HA;simp only [impl_IsGame.j0] at H;by_cases c12:x24_1 = true
   ·subst c12;have H1:(some false) = some r:=by rw [if_pos rfl] at H;exact H
    clear H;have H:=H1;clear H1;obtain rfl:=Option.some.inj H;go_wp2
    go_ret
    exact ⟨by first|rfl|(simp [errW_none,errW_some] <;> rfl)|(simp [*,errW_none,errW_some] <;> rfl),by exact bw⟩
   ·replace c12:=Bool.eq_false_iff.mpr c12;subst c12;have H1:(impl_IsGame.l0 kj1 l0_1 (l0_1.length:Int) 0 a0_0 l0_1) = some r:=by rw [if_neg (show ¬ (false = true) by decide)] at H;exact H
    clear H;have H:=H1;clear H1;have H':=aM H;clear H;have hcz13_0:wc.cell? ⟨gb300,0,none⟩ = some (.int .i64 a0_0):=(blk_cell BK300.out 0).trans rfl;have hcz13_1:wc.cell? ⟨gb300,1,none⟩ = some (.slice A0_1 l0_1.length c0_1):=(blk_cell BK300.out 1).trans rfl;have hfz13_0:=blk_frozen BK300.out 0;have hfz13_1:=blk_frozen BK300.out 1;go_wp2
    go_loopg [28] kj1 (fun kq v28 w'=>∃ (x28_2:Int),v28 = .int .i64 x28_2 ∧ Aside0 (impl_IsGame.l0 kq l0_1 (l0_1.length:Int) x28_2 a0_0 l0_1 = some r) ∧ Aside0 (kq ≤ kj1) ∧ Aside0 (w'.heap[gb300]? = some (.cells #[.int .i64 a0_0,(.slice A0_1 l0_1.length c0_1)] 28 (0,0))) ∧ Aside0 (Below w.heap.size w w'))
    case atStart=>exact ⟨(0),qrs,H',⟨Nat.le_refl _⟩,⟨by (with_reducible repeat (first|refine blk_drewN ?_ _|refine blk_drew ?_|refine blk_alloc ?_ _));exact BK300.out⟩,⟨by exact bw⟩⟩
    case round =>
     clear H';(try clear c1);(try clear p2);(try clear c5);(try clear c6);(try clear c6b0);(try clear c6b1);(try clear c6b2);(try clear c9);(try clear c12);(try clear hcz11_0);(try clear hcz11_1);(try clear hcz13_0);(try clear hcz13_1);(try clear hcz7_0);(try clear hcz7_1);(try clear hcz9_0);(try clear hcz9_1);(try clear hfz11_0);(try clear hfz11_1);(try clear hfz13_0);(try clear hfz13_1);(try clear hfz7_0);(try clear hfz7_1);(try clear hfz9_0);(try clear hfz9_1);(try clear p2)
     obtain ⟨x28_2,rfl,HA,HK2,BK300,HB⟩:=hrel
     cases gk with
     | zero=>exact absurd HA.out (by simp [impl_IsGame.l0])
     | succ k2 =>
      have H:=HA.out;clear HA;simp only [impl_IsGame.l0] at H;by_cases c14:x28_2 < (l0_1.length:Int)
      ·rw [if_pos c14] at H;have c14b0:decide (x28_2 < (l0_1.length:Int)) = true:=decide_eq_true c14;clear c14;by_cases c15:0 ≤ x28_2
       ·rw [if_pos c15] at H;have c15b0:decide (0 ≤ x28_2) = true:=decide_eq_true c15;clear c15;by_cases c16:x28_2 < (l0_1.length:Int)
        ·rw [if_pos c16] at H;have c16b0:decide (x28_2 < (l0_1.length:Int)) = true:=decide_eq_true c16;clear c16;have HC17:=aM H;clear H;have p303:0 ≤ (x28_2:Int):=of_decide_eq_true ab;have q303:x28_2 < (l0_1.length:Int):=of_decide_eq_true ab;obtain ⟨ad303,A303_0,c303_0,e303,hx303_0,hl303_0,hi303_0⟩:=at_LI HR0_1.out x28_2 p303 q303;cases e303
         replace hx303_0:=(HB.out.cell (World.block_lt_of_cell? w _ hx303_0)).trans hx303_0;have HR303_0:=aM hi303_0;have HC303_0:=aM hl303_0;clear hi303_0 hl303_0;replace p303:=eq_true p303;replace q303:=eq_true q303;go_upto_region 6 with (fail)
         go_cut [45] (fun v45 wc=>∃ (kq:Nat) (x45_16:Bool),v45 = .bool x45_16 ∧ Aside0 (impl_IsGame.j2 kq x28_2 (rd_LI l0_1 x28_2) l0_1 (l0_1.length:Int) x28_2 x45_16 a0_0 l0_1 = some r) ∧ Aside0 (kq ≤ k2) ∧ Aside0 (wc.heap[gb300]? = some (.cells #[.int .i64 a0_0,(.slice (some ad303) l0_1.length c0_1)] 28 (0,0))) ∧ Aside0 (Below w.heap.size w wc))
         case first =>
          have H:=HC17.out;clear HC17;by_cases c18:x28_2 > 0
          ·rw [if_pos c18] at H;have c18b0:decide (0 < x28_2) = true:=decide_eq_true c18;clear c18;(first|rw [c18b0]|(simp only [i64_w,i32_w];rw [c18b0])|skip)
           obtain ⟨ji19,hji19⟩:∃ j_:Int,(wrap64 (x28_2 - 1)) = j_:=⟨_,rfl⟩;replace H:(if 0 ≤ (ji19) then (if (ji19) < (l0_1.length:Int) then ((slices_Compare_int_int.f k2 (rd_LI l0_1 (ji19)) (rd_LI l0_1 x28_2)).bind fun t305=>(impl_IsGame.j2 k2 x28_2 (rd_LI l0_1 x28_2) l0_1 (l0_1.length:Int) x28_2 (decide (t305 ≥ 0)) a0_0 l0_1)) else (none)) else (none)) = some r:=by first|(rw [hji19] at H;exact H)|(simp only [hji19] at H ⊢;exact H)
           have hji19w:(IntKind.i64.wrap (x28_2 - 1)) = ji19:=(i64_w _).trans hji19;by_cases c20:0 ≤ (ji19)
           ·rw [if_pos c20] at H;have c20b0:decide (0 ≤ (ji19)) = true:=decide_eq_true c20;clear c20;by_cases c21:(ji19) < (l0_1.length:Int)
            ·rw [if_pos c21] at H;have c21b0:decide ((ji19) < (l0_1.length:Int)) = true:=decide_eq_true c21;clear c21;replace H:=Option.bind_eq_some_iff.mp H;obtain ⟨t305,A220,H⟩:=H;replace H:(impl_IsGame.j2 k2 x28_2 (rd_LI l0_1 x28_2) l0_1 (l0_1.length:Int) x28_2 (decide (t305 ≥ 0)) a0_0 l0_1) = some r:=H;have A22:=aM A220;clear A220;have H':=aM H;clear H;have hcz23_0:wr.cell? ⟨gb300,0,none⟩ = some (.int .i64 a0_0):=(blk_cell BK300.out 0).trans rfl;have hcz23_1:wr.cell? ⟨gb300,1,none⟩ = some (.slice (some ad303) l0_1.length c0_1):=(blk_cell BK300.out 1).trans rfl;have hfz23_0:=blk_frozen BK300.out 0;have hfz23_1:=blk_frozen BK300.out 1;have p304:0 ≤ ((ji19):Int):=of_decide_eq_true ab;have q304:(ji19) < (l0_1.length:Int):=of_decide_eq_true ab;obtain ⟨ad304,A304_0,c304_0,e304,hx304_0,hl304_0,hi304_0⟩:=at_LI HR0_1.out (ji19) p304 q304;obtain rfl:ad303 = ad304:=(by injection e304);replace hx304_0:=(HB.out.cell (World.block_lt_of_cell? w _ hx304_0)).trans hx304_0;have HR304_0:=aM hi304_0;have HC304_0:=aM hl304_0;clear hi304_0 hl304_0;replace p304:=eq_true p304;replace q304:=eq_true q304;go_wp2_with (first|(go_at_call 128;(with_reducible refine (slices_Compare_int_int.calls k2 _ _ (rd_LI l0_1 (ji19)) _ _ (rd_LI l0_1 x28_2) t305 _ ?side1 ?side2 ?side3 ?side4 A22.out).mono ?_);(case side1=>exact qcs HR304_0.out HB.out);(case side2=>exact HC304_0.out);(case side3=>exact qcs HR303_0.out HB.out);(case side4=>exact HC303_0.out);rintro e w' ⟨rfl,⟨nd,rfl⟩⟩))
             go_meet
             case rel=>exact ⟨_,(decide (t305 ≥ 0)),qrs,H',⟨by have:=HJ1.out;have:=HK2.out;first|omega|exact Nat.le_refl _⟩,⟨by (with_reducible repeat (first|refine blk_drewN ?_ _|refine blk_drew ?_|refine blk_alloc ?_ _));exact BK300.out⟩,⟨by exact bw⟩⟩
            ·rw [if_neg c21] at H;exact absurd H (by simp)
           ·rw [if_neg c20] at H;exact absurd H (by simp)
          ·rw [if_neg c18] at H;have c18b0:decide (0 < x28_2) = false:=decide_eq_false c18;clear c18;(first|rw [c18b0]|(simp only [i64_w,i32_w];rw [c18b0])|skip)
           have H':=aM H;clear H;go_wp2
           go_meet
           case rel=>exact ⟨_,(false),qrs,H',⟨by have:=HJ1.out;have:=HK2.out;first|omega|exact Nat.le_refl _⟩,⟨by (with_reducible repeat (first|refine blk_drewN ?_ _|refine blk_drew ?_|refine blk_alloc ?_ _));exact BK300.out⟩,⟨by exact bw⟩⟩
         case rest =>
          clear HC17;(try clear c1);(try clear c2);(try clear p2);(try clear c3);(try clear p3);(try clear q3);(try clear hx3);(try clear c5);(try clear c6);(try clear c6b0);(try clear c6b1);(try clear c6b2);(try clear p6);(try clear c9);(try clear c12);(try clear c14);(try clear c14b0);(try clear c15);(try clear c15b0);(try clear c16);(try clear c16b0);(try clear c18);(try clear c18b0);(try clear c20);(try clear c20b0);(try clear c21);(try clear c21b0);(try clear hcz11_0);(try clear hcz11_1);(try clear hcz13_0);(try clear hcz13_1);(try clear hcz23_0);(try clear hcz23_1);(try clear hcz7_0);(try clear hcz7_1);(try clear hcz9_0);(try clear hcz9_1);(try clear hfz11_0);(try clear hfz11_1);(try clear hfz13_0);(try clear hfz13_1);(try clear hfz23_0);(try clear hfz23_1);(try clear hfz7_0);(try clear hfz7_1);(try clear hfz9_0);(try clear hfz9_1);(try clear hx303_0);(try clear hx304_0);(try clear p2);(try clear p303);(try clear p304);(try clear q303);(try clear q304)
          obtain ⟨kq,x45_16,rfl,HA,HJ16,BK300,HB⟩:=hcut
          cases kq with
          | zero=>exact absurd HA.out (by simp [impl_IsGame.j2])
          | succ kj16 =>
           have H:=HA.out;clear HA;simp only [impl_IsGame.j2] at H;by_cases c24:x45_16 = true
           ·subst c24;have H1:(some false) = some r:=by rw [if_pos rfl] at H;exact H
            clear H;have H:=H1;clear H1;obtain rfl:=Option.some.inj H;go_wp2
            go_ret
            exact ⟨by first|rfl|(simp [errW_none,errW_some] <;> rfl)|(simp [*,errW_none,errW_some] <;> rfl),by exact bw⟩
           ·replace c24:=Bool.eq_false_iff.mpr c24;subst c24;have H1:(impl_IsGame.l1 kj16 x28_2 (rd_LI l0_1 x28_2) l0_1 (l0_1.length:Int) x28_2 l0_1 (l0_1.length:Int) 0 a0_0 l0_1) = some r:=by rw [if_neg (show ¬ (false = true) by decide)] at H;exact H
            clear H;have H:=H1;clear H1;have H':=aM H;clear H;have hcz25_0:wc.cell? ⟨gb300,0,none⟩ = some (.int .i64 a0_0):=(blk_cell BK300.out 0).trans rfl;have hcz25_1:wc.cell? ⟨gb300,1,none⟩ = some (.slice (some ad303) l0_1.length c0_1):=(blk_cell BK300.out 1).trans rfl;have hfz25_0:=blk_frozen BK300.out 0;have hfz25_1:=blk_frozen BK300.out 1;go_wp2
            go_loopg [49] kj16 (fun kq v49 w'=>∃ (x49_4:Int),v49 = .int .i64 x49_4 ∧ Aside0 (impl_IsGame.l1 kq x28_2 (rd_LI l0_1 x28_2) l0_1 (l0_1.length:Int) x28_2 l0_1 (l0_1.length:Int) x49_4 a0_0 l0_1 = some r) ∧ Aside0 (kq ≤ kj16) ∧ Aside0 (w'.heap[gb300]? = some (.cells #[.int .i64 a0_0,(.slice (some ad303) l0_1.length c0_1)] 28 (0,0))) ∧ Aside0 (Below w.heap.size w w'))
            case atStart=>exact ⟨(0),qrs,H',⟨Nat.le_refl _⟩,⟨by (with_reducible repeat (first|refine blk_drewN ?_ _|refine blk_drew ?_|refine blk_alloc ?_ _));exact BK300.out⟩,⟨by exact bw⟩⟩
            case round =>
             clear H';(try clear c1);(try clear c2);(try clear p2);(try clear c3);(try clear p3);(try clear q3);(try clear hx3);(try clear c5);(try clear c6);(try clear c6b0);(try clear c6b1);(try clear c6b2);(try clear p6);(try clear c9);(try clear c12);(try clear c14);(try clear c14b0);(try clear c15);(try clear c15b0);(try clear c16);(try clear c16b0);(try clear c18);(try clear c18b0);(try clear c20);(try clear c20b0);(try clear c21);(try clear c21b0);(try clear c24);(try clear hcz11_0);(try clear hcz11_1);(try clear hcz13_0);(try clear hcz13_1);(try clear hcz23_0);(try clear hcz23_1);(try clear hcz25_0);(try clear hcz25_1);(try clear hcz7_0);(try clear hcz7_1);(try clear hcz9_0);(try clear hcz9_1);(try clear hfz11_0);(try clear hfz11_1);(try clear hfz13_0);(try clear hfz13_1);(try clear hfz23_0);(try clear hfz23_1);(try clear hfz25_0);(try clear hfz25_1);(try clear hfz7_0);(try clear hfz7_1);(try clear hfz9_0);(try clear hfz9_1);(try clear hx303_0);(try clear hx304_0);(try clear p2);(try clear p3);(try clear p303);(try clear p304);(try clear p6);(try clear q3);(try clear q303);(try clear q304)
             obtain ⟨x49_4,rfl,HA,HK4,BK300,HB⟩:=hrel
             cases gk with
             | zero=>exact absurd HA.out (by simp [impl_IsGame.l1])
             | succ k4 =>
              have H:=HA.out;clear HA;simp only [impl_IsGame.l1] at H;by_cases c26:x49_4 < (l0_1.length:Int)
              ·rw [if_pos c26] at H;have c26b0:decide (x49_4 < (l0_1.length:Int)) = true:=decide_eq_true c26;clear c26;by_cases c27:0 ≤ x49_4
               ·rw [if_pos c27] at H;have c27b0:decide (0 ≤ x49_4) = true:=decide_eq_true c27;clear c27;by_cases c28:x49_4 < (l0_1.length:Int)
                ·rw [if_pos c28] at H;have c28b0:decide (x49_4 < (l0_1.length:Int)) = true:=decide_eq_true c28;clear c28;by_cases c29:x49_4 = x28_2
                 ·rw [if_pos c29] at H;have c29b0:(x49_4 == x28_2) = true:=beq_iff_eq.mpr c29;have c29b1:(x49_4 != x28_2) = false:=bne_eq_false_iff_eq.mpr c29;clear c29;have H':=aM H;clear H;have p306:0 ≤ (x49_4:Int):=of_decide_eq_true ab;have q306:x49_4 < (l0_1.length:Int):=of_decide_eq_true ab;obtain ⟨ad306,A306_0,c306_0,e306,hx306_0,hl306_0,hi306_0⟩:=at_LI HR0_1.out x49_4 p306 q306;obtain rfl:ad303 = ad306:=(by injection e306);replace hx306_0:=(HB.out.cell (World.block_lt_of_cell? w _ hx306_0)).trans hx306_0;have HR306_0:=aM hi306_0;have HC306_0:=aM hl306_0;clear hi306_0 hl306_0;replace p306:=eq_true p306;replace q306:=eq_true q306;go_wp2
                  go_roundg k4
                  case measure=>have:=HJ1.out;have:=HK2.out;have:=HJ16.out;have:=HK4.out;omega
                  case rel=>exact ⟨(wrap64 (x49_4 + 1)),qrs,H',⟨by have:=HJ1.out;have:=HK2.out;have:=HJ16.out;have:=HK4.out;omega⟩,⟨by (with_reducible repeat (first|refine blk_drewN ?_ _|refine blk_drew ?_|refine blk_alloc ?_ _));exact BK300.out⟩,⟨by exact bw⟩⟩
                 ·rw [if_neg c29] at H;have c29b0:(x49_4 == x28_2) = false:=beq_eq_false_iff_ne.mpr c29;have c29b1:(x49_4 != x28_2) = true:=bne_iff_ne.mpr c29;replace H:=Option.bind_eq_some_iff.mp H;obtain ⟨t307,A300,H⟩:=H;replace H:((impl_maskOf.f k4 (rd_LI l0_1 x49_4)).bind fun t308=>((impl_maskOf.f k4 (rd_LI l0_1 x49_4)).bind fun t309=>(if (Go.bits .and .i64 t307 t308) = t309 then (some false) else (impl_IsGame.l1 k4 x28_2 (rd_LI l0_1 x28_2) l0_1 (l0_1.length:Int) x28_2 l0_1 (l0_1.length:Int) (wrap64 (x49_4 + 1)) a0_0 l0_1)))) = some r:=H;have A30:=aM A300;clear A300;replace H:=Option.bind_eq_some_iff.mp H;obtain ⟨t308,A310,H⟩:=H;replace H:((impl_maskOf.f k4 (rd_LI l0_1 x49_4)).bind fun t309=>(if (Go.bits .and .i64 t307 t308) = t309 then (some false) else (impl_IsGame.l1 k4 x28_2 (rd_LI l0_1 x28_2) l0_1 (l0_1.length:Int) x28_2 l0_1 (l0_1.length:Int) (wrap64 (x49_4 + 1)) a0_0 l0_1))) = some r:=H;have A31:=aM A310;clear A310;replace H:=Option.bind_eq_some_iff.mp H;obtain ⟨t309,A320,H⟩:=H;replace H:(if (Go.bits .and .i64 t307 t308) = t309 then (some false) else (impl_IsGame.l1 k4 x28_2 (rd_LI l0_1 x28_2) l0_1 (l0_1.length:Int) x28_2 l0_1 (l0_1.length:Int) (wrap64 (x49_4 + 1)) a0_0 l0_1)) = some r:=H;have A32:=aM A320;clear A320;obtain rfl:t308 = t309:=Option.some.inj (A31.out.symm.trans A32.out);by_cases c33:(Go.bits .and .i64 t307 t308) = t308
                  ·rw [if_pos c33] at H;have c33b0:((Go.bits .and .i64 t307 t308) == t308) = true:=beq_iff_eq.mpr c33;have c33b1:((Go.bits .and .i64 t307 t308) != t308) = false:=bne_eq_false_iff_eq.mpr c33;clear c33;obtain rfl:=Option.some.inj H;have p306:0 ≤ (x49_4:Int):=of_decide_eq_true ab;have q306:x49_4 < (l0_1.length:Int):=of_decide_eq_true ab;obtain ⟨ad306,A306_0,c306_0,e306,hx306_0,hl306_0,hi306_0⟩:=at_LI HR0_1.out x49_4 p306 q306;obtain rfl:ad303 = ad306:=(by injection e306);replace hx306_0:=(HB.out.cell (World.block_lt_of_cell? w _ hx306_0)).trans hx306_0;have HR306_0:=aM hi306_0;have HC306_0:=aM hl306_0;clear hi306_0 hl306_0;replace p306:=eq_true p306;replace q306:=eq_true q306;go_wp2_with (first|(go_at_call 129;(with_reducible refine (impl_maskOf.calls k4 _ _ (rd_LI l0_1 x28_2) t307 _ ?side1 ?side2 A30.out).mono ?_);(case side1=>exact qcs HR303_0.out HB.out);(case side2=>exact HC303_0.out);rintro e w' ⟨rfl,⟨nd,rfl⟩⟩)|(go_at_call 129;(with_reducible refine (impl_maskOf.calls k4 _ _ (rd_LI l0_1 x49_4) t308 _ ?side1 ?side2 A31.out).mono ?_);(case side1=>repeat (first|exact (Kd.C_below HR306_0.out bw)|(with_reducible refine Kd.C_alloc ?_ _)|(with_reducible refine Kd.C_drewN ?_ _)|(with_reducible refine Kd.C_drew ?_)));(case side2=>exact HC306_0.out);rintro e w' ⟨rfl,⟨nd,rfl⟩⟩)|(go_at_call 129;(with_reducible refine (impl_maskOf.calls k4 _ _ (rd_LI l0_1 x49_4) t308 _ ?side1 ?side2 A32.out).mono ?_);(case side1=>repeat (first|exact (Kd.C_below HR306_0.out bw)|(with_reducible refine Kd.C_alloc ?_ _)|(with_reducible refine Kd.C_drewN ?_ _)|(with_reducible refine Kd.C_drew ?_)));(case side2=>exact HC306_0.out);rintro e w' ⟨rfl,⟨nd,rfl⟩⟩))
                   go_ret
                   exact ⟨by first|rfl|(simp [errW_none,errW_some] <;> rfl)|(simp [*,errW_none,errW_some] <;> rfl),by exact bw⟩
                  ·rw [if_neg c33] at H;have c33b0:((Go.bits .and .i64 t307 t308) == t308) = false:=beq_eq_false_iff_ne.mpr c33;have c33b1:((Go.bits .and .i64 t307 t308) != t308) = true:=bne_iff_ne.mpr c33;have H':=aM H;clear H;have p306:0 ≤ (x49_4:Int):=of_decide_eq_true ab;have q306:x49_4 < (l0_1.length:Int):=of_decide_eq_true ab;obtain ⟨ad306,A306_0,c306_0,e306,hx306_0,hl306_0,hi306_0⟩:=at_LI HR0_1.out x49_4 p306 q306;obtain rfl:ad303 = ad306:=(by injection e306);replace hx306_0:=(HB.out.cell (World.block_lt_of_cell? w _ hx306_0)).trans hx306_0;have HR306_0:=aM hi306_0;have HC306_0:=aM hl306_0;clear hi306_0 hl306_0;replace p306:=eq_true p306;replace q306:=eq_true q306;go_wp2_with (first|(go_at_call 129;(with_reducible refine (impl_maskOf.calls k4 _ _ (rd_LI l0_1 x28_2) t307 _ ?side1 ?side2 A30.out).mono ?_);(case side1=>exact qcs HR303_0.out HB.out);(case side2=>exact HC303_0.out);rintro e w' ⟨rfl,⟨nd,rfl⟩⟩)|(go_at_call 129;(with_reducible refine (impl_maskOf.calls k4 _ _ (rd_LI l0_1 x49_4) t308 _ ?side1 ?side2 A31.out).mono ?_);(case side1=>repeat (first|exact (Kd.C_below HR306_0.out bw)|(with_reducible refine Kd.C_alloc ?_ _)|(with_reducible refine Kd.C_drewN ?_ _)|(with_reducible refine Kd.C_drew ?_)));(case side2=>exact HC306_0.out);rintro e w' ⟨rfl,⟨nd,rfl⟩⟩)|(go_at_call 129;(with_reducible refine (impl_maskOf.calls k4 _ _ (rd_LI l0_1 x49_4) t308 _ ?side1 ?side2 A32.out).mono ?_);(case side1=>repeat (first|exact (Kd.C_below HR306_0.out bw)|(with_reducible refine Kd.C_alloc ?_ _)|(with_reducible refine Kd.C_drewN ?_ _)|(with_reducible refine Kd.C_drew ?_)));(case side2=>exact HC306_0.out);rintro e w' ⟨rfl,⟨nd,rfl⟩⟩))
                   go_roundg k4
                   case measure=>have:=HJ1.out;have:=HK2.out;have:=HJ16.out;have:=HK4.out;omega
                   case rel=>exact ⟨(wrap64 (x49_4 + 1)),qrs,H',⟨by have:=HJ1.out;have:=HK2.out;have:=HJ16.out;have:=HK4.out;omega⟩,⟨by (with_reducible repeat (first|refine blk_drewN ?_ _|refine blk_drew ?_|refine blk_alloc ?_ _));exact BK300.out⟩,⟨by exact bw⟩⟩
                ·rw [if_neg c28] at H;exact absurd H (by simp)
               ·rw [if_neg c27] at H;exact absurd H (by simp)
              ·rw [if_neg c26] at H;have c26b0:decide (x49_4 < (l0_1.length:Int)) = false:=decide_eq_false c26;clear c26;have H':=aM H;clear H;go_wp2
               go_roundg k4
               case measure=>have:=HJ1.out;have:=HK2.out;have:=HJ16.out;have:=HK4.out;omega
               case rel=>exact ⟨(wrap64 (x28_2 + 1)),qrs,H',⟨by have:=HJ1.out;have:=HK2.out;have:=HJ16.out;have:=HK4.out;omega⟩,⟨by (with_reducible repeat (first|refine blk_drewN ?_ _|refine blk_drew ?_|refine blk_alloc ?_ _));exact BK300.out⟩,⟨by exact bw⟩⟩
        ·rw [if_neg c16] at H;exact absurd H (by simp)
       ·rw [if_neg c15] at H;exact absurd H (by simp)
      ·rw [if_neg c14] at H;have c14b0:decide (x28_2 < (l0_1.length:Int)) = false:=decide_eq_false c14;clear c14;obtain rfl:=Option.some.inj H;go_wp2
       go_ret
       exact ⟨by first|rfl|(simp [errW_none,errW_some] <;> rfl)|(simp [*,errW_none,errW_some] <;> rfl),by exact bw⟩


/-! ### impl_isTradedGame: function 82 -/
def impl_isTradedGame.f (k:Nat) (a0_0:Int) (l0_1:List (List Int)):Option (Bool):=(impl_IsGame.f k a0_0 l0_1).bind fun t1143=>(if t1143 = true then (some (decide (a0_0 ≤ 6))) else (some false))
theorem impl_isTradedGame.mono:∀ a0 a1 k,LeO (impl_isTradedGame.f k a0 a1) (impl_isTradedGame.f (k + 1) a0 a1):=by
 intro a0 a1 k;unfold impl_isTradedGame.f
 repeat' with_reducible first|exact impl_IsGame.mono _ _ _|exact LeO.refl _|exact LeO.none _|refine LeO.ite ?_ ?_|refine LeO.bind ?_ (fun _=>?_)
set_option maxHeartbeats 8000000 in
set_option maxRecDepth 100000 in
theorem impl_isTradedGame.calls (k:Nat) (a0_0:Int) (A0_1:Option Addr) (c0_1:Nat) (l0_1:List (List Int)) (r:Bool) (w:World) (hr0_1:Kd.C (Kd.slice 3 (Kd.int .i64)) w A0_1 l0_1.length l0_1) (hc0_1:l0_1.length ≤ c0_1) (h:impl_isTradedGame.f k a0_0 l0_1 = some r) :
  Calls Try.prog 82 #[.agg #[.int .i64 a0_0,.slice A0_1 l0_1.length c0_1]] w fun e w'=>e = .returned (.bool r) ∧ Below w.heap.size w w':=by
 have hu28:=Try.underlying28;have HR0_1:=aM hr0_1;have HC0_1:=aM hc0_1;clear hr0_1 hc0_1;have HB:=aM (Below.refl w.heap.size w);have H:((impl_IsGame.f k a0_0 l0_1).bind fun t1143=>(if t1143 = true then (some (decide (a0_0 ≤ 6))) else (some false))) = some r:=h;clear h;replace H:=Option.bind_eq_some_iff.mp H;obtain ⟨t1143,A20,H⟩:=H;replace H:(if t1143 = true then (some (decide (a0_0 ≤ 6))) else (some false)) = some r:=H;have A2:=aM A20;clear A20;by_cases c3:t1143 = true
 ·subst c3;have H1:(some (decide (a0_0 ≤ 6))) = some r:=by rw [if_pos rfl] at H;exact H
  clear H;have H:=H1;clear H1;obtain rfl:=Option.some.inj H;go_enter Try.func82,Try.ntmps82;go_wp2_with (first|((with_reducible refine gate_dst (N:=1) rfl ?_);refine box_event ?hg (N:=1) ?hd (cs:=#[.int .i64 a0_0,.slice A0_1 l0_1.length c0_1]) (t:=28) ?hr ?_;(case hd=>rfl);(case hg=>rfl);(case hr=>first|(go_simp;done)|(go_simp;rfl));intro gb1142 hg w4 hbox hb;have n0_:=aM (below_step bw hb);have n1_:=aM (hbox);have n2_:=aM ((by rw [hg];exact (below_size bw):w.heap.size ≤ gb1142));have n3_:=aM ((by rw [hg];exact (below_size bw):w.heap.size ≤ gb1142));clear HB;have HB:=n0_;have BK1142:=n1_;have GW1142:=n2_;have GE1142:=n3_;clear n0_ n1_ n2_ n3_;clear hb hbox hg;have hcz5_0:w4.cell? ⟨gb1142,0,none⟩ = some (.int .i64 a0_0):=(blk_cell BK1142.out 0).trans rfl;have hcz5_1:w4.cell? ⟨gb1142,1,none⟩ = some (.slice A0_1 l0_1.length c0_1):=(blk_cell BK1142.out 1).trans rfl;have hfz5_0:=blk_frozen BK1142.out 0;have hfz5_1:=blk_frozen BK1142.out 1)|((with_reducible refine gate_callee (f:=91) rfl ?_);refine goesL_ (some 4) rfl rfl Try.func91 kR rfl #[.agg #[.int .i64 a0_0,.slice A0_1 l0_1.length c0_1]] rfl mq ?_;(with_reducible refine (impl_IsGame.calls k a0_0 _ _ l0_1 true _ ?side1 ?side2 A2.out).mono ?_);(case side1=>exact qcs HR0_1.out HB.out);(case side2=>exact HC0_1.out);rintro e w6 ⟨rfl,hb⟩;refine ⟨_,rfl,?_⟩;have n0_:=aM (blk_below (g:=gb1142) (o:=.cells #[.int .i64 a0_0,.slice A0_1 l0_1.length c0_1] 28 (0,0)) bk hb);have n1_:=aM (below_step bw hb);clear BK1142;clear HB;have BK1142:=n0_;have HB:=n1_;clear n0_ n1_;(try clear hb);(try clear hb2);(try clear hk);(try clear hi);have hcz7_0:w6.cell? ⟨gb1142,0,none⟩ = some (.int .i64 a0_0):=(blk_cell BK1142.out 0).trans rfl;have hcz7_1:w6.cell? ⟨gb1142,1,none⟩ = some (.slice A0_1 l0_1.length c0_1):=(blk_cell BK1142.out 1).trans rfl;have hfz7_0:=blk_frozen BK1142.out 0;have hfz7_1:=blk_frozen BK1142.out 1))
  go_ret
  exact ⟨by first|rfl|(simp [errW_none,errW_some] <;> rfl)|(simp [*,errW_none,errW_some] <;> rfl),by exact bw⟩
 ·replace c3:=Bool.eq_false_iff.mpr c3;subst c3;have H1:(some false) = some r:=by rw [if_neg (show ¬ (false = true) by decide)] at H;exact H
  clear H;have H:=H1;clear H1;obtain rfl:=Option.some.inj H;go_enter Try.func82,Try.ntmps82;go_wp2_with (first|((with_reducible refine gate_dst (N:=1) rfl ?_);refine box_event ?hg (N:=1) ?hd (cs:=#[.int .i64 a0_0,.slice A0_1 l0_1.length c0_1]) (t:=28) ?hr ?_;(case hd=>rfl);(case hg=>rfl);(case hr=>first|(go_simp;done)|(go_simp;rfl));intro gb1142 hg w8 hbox hb;have n0_:=aM (below_step bw hb);have n1_:=aM (hbox);have n2_:=aM ((by rw [hg];exact (below_size bw):w.heap.size ≤ gb1142));have n3_:=aM ((by rw [hg];exact (below_size bw):w.heap.size ≤ gb1142));clear HB;have HB:=n0_;have BK1142:=n1_;have GW1142:=n2_;have GE1142:=n3_;clear n0_ n1_ n2_ n3_;clear hb hbox hg;have hcz9_0:w8.cell? ⟨gb1142,0,none⟩ = some (.int .i64 a0_0):=(blk_cell BK1142.out 0).trans rfl;have hcz9_1:w8.cell? ⟨gb1142,1,none⟩ = some (.slice A0_1 l0_1.length c0_1):=(blk_cell BK1142.out 1).trans rfl;have hfz9_0:=blk_frozen BK1142.out 0;have hfz9_1:=blk_frozen BK1142.out 1)|((with_reducible refine gate_callee (f:=91) rfl ?_);refine goesL_ (some 4) rfl rfl Try.func91 kR rfl #[.agg #[.int .i64 a0_0,.slice A0_1 l0_1.length c0_1]] rfl mq ?_;(with_reducible refine (impl_IsGame.calls k a0_0 _ _ l0_1 false _ ?side1 ?side2 A2.out).mono ?_);(case side1=>exact qcs HR0_1.out HB.out);(case side2=>exact HC0_1.out);rintro e w10 ⟨rfl,hb⟩;refine ⟨_,rfl,?_⟩;have n0_:=aM (blk_below (g:=gb1142) (o:=.cells #[.int .i64 a0_0,.slice A0_1 l0_1.length c0_1] 28 (0,0)) bk hb);have n1_:=aM (below_step bw hb);clear BK1142;clear HB;have BK1142:=n0_;have HB:=n1_;clear n0_ n1_;(try clear hb);(try clear hb2);(try clear hk);(try clear hi)))
  go_ret
  exact ⟨by first|rfl|(simp [errW_none,errW_some] <;> rfl)|(simp [*,errW_none,errW_some] <;> rfl),by exact bw⟩


/-! ### impl_votesOf: function 71 -/
def impl_votesOf.l0:Nat → (Int → Option (Bool)) → Int → Int → Int → List Bool → Option (Int × List Bool)
 | 0,_,_,_,_,_=>none
 | k + 1,x1,x14,x15,x253000,x253001=>if x15 < x14 then ((x1 x15).bind fun t253=>(if 0 ≤ x15 then (if x15 < (x253001.length:Int) then (impl_votesOf.l0 k x1 x14 (wrap64 (x15 + 1)) x253000 (x253001.set (x15:Int).toNat t253)) else (none)) else (none))) else (some (x253000,x253001))
def impl_votesOf.f (k:Nat) (a0:Int) (a1:(Int → Option (Bool))):Option (Int × List Bool):=if 0 ≤ a0 then (if 0 ≤ (shl .i64 1 a0) then (if (shl .i64 1 a0:Int).toNat ≤ 281474976710656 then ((some (List.replicate (shl .i64 1 a0:Int).toNat false:List Bool)).bind fun y249=>(impl_votesOf.l0 k a1 (y249.length:Int) 0 a0 y249)) else (none)) else (none)) else (none)
theorem impl_votesOf.mono_l:∀ k,(∀ y0 y1 y2 y3 y4,LeO (impl_votesOf.l0 k y0 y1 y2 y3 y4) (impl_votesOf.l0 (k + 1) y0 y1 y2 y3 y4))
 | 0=>fun _ _ _ _ _ r h=>by simp [impl_votesOf.l0] at h
 | k + 1=>by
  have ih0:=impl_votesOf.mono_l k
  ·intro y0 y1 y2 y3 y4;unfold impl_votesOf.l0
   repeat' with_reducible first|exact ih0 _ _ _ _ _|exact LeO.refl _|exact LeO.none _|refine LeO.ite ?_ ?_|refine LeO.bind ?_ (fun _=>?_)
theorem impl_votesOf.mono:∀ a0 a1 k,LeO (impl_votesOf.f k a0 a1) (impl_votesOf.f (k + 1) a0 a1):=by
 intro a0 a1 k;have ih0:=impl_votesOf.mono_l k;unfold impl_votesOf.f
 repeat' with_reducible first|exact ih0 _ _ _ _ _|exact LeO.refl _|exact LeO.none _|refine LeO.ite ?_ ?_|refine LeO.bind ?_ (fun _=>?_)
theorem impl_votesOf.monop_l {p_ q_:(Int → Option (Bool))} (h_:∀ x0_,LeO (p_ x0_) (q_ x0_)):∀ k,(∀ y1 y2 y3 y4,LeO (impl_votesOf.l0 k p_ y1 y2 y3 y4) (impl_votesOf.l0 k q_ y1 y2 y3 y4))
 | 0=>fun _ _ _ _ r hz=>by simp [impl_votesOf.l0] at hz
 | k + 1=>by
  have ih0:=impl_votesOf.monop_l h_ k
  ·intro y0 y1 y2 y3;unfold impl_votesOf.l0
   repeat' with_reducible first|exact ih0 _ _ _ _|exact h_ _|exact LeO.refl _|refine LeO.ite ?_ ?_|refine LeO.bind ?_ (fun _=>?_)
theorem impl_votesOf.mono_p {p_ q_:(Int → Option (Bool))} (h_:∀ x0_,LeO (p_ x0_) (q_ x0_)):∀ a0 k,LeO (impl_votesOf.f k a0 p_) (impl_votesOf.f k a0 q_):=by
 intro a0 k;have ih0:=impl_votesOf.monop_l h_ k;unfold impl_votesOf.f
 repeat' with_reducible first|exact ih0 _ _ _ _|exact h_ _|exact LeO.refl _|refine LeO.ite ?_ ?_|refine LeO.bind ?_ (fun _=>?_)
def impl_votesOf.T5:Bool × List (List Nat × List Nat):=(true,[([],[]),([0],[0]),([],[]),([],[]),([],[]),([3,4],[3,4]),([1,2,0,1,2,3,4,5],[1,2]),([6,5,5,0,1,2,3,4,5],[5,6])])
def impl_votesOf.B5:List Nat:=[0,1,0,0,0,24,63,127]
theorem impl_votesOf.tab5:rtab .any (opsOf Try.f71 5) = impl_votesOf.T5:=by kernel_rfl
theorem impl_votesOf.bits5:waitsOk impl_votesOf.T5.2 impl_votesOf.B5 = true:=by kernel_rfl
set_option maxHeartbeats 8000000 in
set_option maxRecDepth 100000 in
theorem impl_votesOf.calls (k:Nat) (a0:Int) (a1:(Int → Option (Bool))) (g1_:Nat) (lb1_:Array Value) (eg1_:∀ (args:Array Value) (w:World),(callFunc g1_ args).run Try.prog w = .ok (.enter g1_ args) w) (r1:Int) (r2:List Bool) (w:World) (hp1:∀ (W:World) (b0_:Int) (r0_:Bool),a1 b0_ = some r0_ → Below w.heap.size w W → Calls Try.prog g1_ (#[.int .i64 b0_] ++ lb1_) W fun e w'=>e = .returned (.bool r0_) ∧ Below W.heap.size W w') (h:impl_votesOf.f k a0 a1 = some (r1,r2)) :
  Calls Try.prog 71 #[.int .i64 a0,.func (.func g1_) #[] lb1_] w fun e w'=>∃ v1_:Value,e = .returned (.agg #[.int .i64 r1,v1_]) ∧ Kd.R Kd.bool 4 w' w.heap.size (fun _=>True) v1_ r2 ∧ Below w.heap.size w w':=by
 have hu68:=Try.underlying68;have HP1:=aM hp1;clear hp1;have HB:=aM (Below.refl w.heap.size w);have H:(if 0 ≤ a0 then (if 0 ≤ (shl .i64 1 a0) then (if (shl .i64 1 a0:Int).toNat ≤ 281474976710656 then ((some (List.replicate (shl .i64 1 a0:Int).toNat false:List Bool)).bind fun y249=>(impl_votesOf.l0 k a1 (y249.length:Int) 0 a0 y249)) else (none)) else (none)) else (none)) = some (r1,r2):=h;clear h;by_cases c3:0 ≤ a0
 ·rw [if_pos c3] at H;have c3b0:=eq_true c3;have c3b1:decide (0 ≤ a0) = true:=decide_eq_true c3;clear c3;obtain ⟨ji4,hji4⟩:∃ j_:Int,(shl .i64 1 a0) = j_:=⟨_,rfl⟩;replace H:(if 0 ≤ (ji4) then (if (ji4:Int).toNat ≤ 281474976710656 then ((some (List.replicate (ji4:Int).toNat false:List Bool)).bind fun y249=>(impl_votesOf.l0 k a1 (y249.length:Int) 0 a0 y249)) else (none)) else (none)) = some (r1,r2):=by first|(rw [hji4] at H;exact H)|(simp only [hji4] at H ⊢;exact H)
  have hji4_:(IntKind.i64.wrap (1 * 2 ^ min a0.toNat 64)) = ji4:=hji4;have hji4z:a0 ≤ 64 → (IntKind.i64.wrap (1 * 2 ^ a0.toNat)) = ji4:=shl_small hji4;have hji4u:(IntKind.i64.wrap (2 ^ min a0.toNat 64)) = ji4:=by have h_:=hji4_;rw [Int.one_mul] at h_;exact h_
  have hji4v:a0 ≤ 64 → (IntKind.i64.wrap (2 ^ a0.toNat)) = ji4:=fun hle_=>by have h_:=hji4z hle_;rw [Int.one_mul] at h_;exact h_
  have hji4y:(wrap64 (1 * 2 ^ min a0.toNat 64)) = ji4:=(i64_w _).symm.trans hji4_;have hji4x:a0 ≤ 64 → (wrap64 (1 * 2 ^ a0.toNat)) = ji4:=fun h_=>(i64_w _).symm.trans (hji4z h_)
  by_cases c5:0 ≤ (ji4)
  ·rw [if_pos c5] at H;have c5b0:=eq_true c5;have c5b1:decide (0 ≤ (ji4)) = true:=decide_eq_true c5;clear c5;by_cases c6:(ji4:Int).toNat ≤ 281474976710656
   ·rw [if_pos c6] at H;have c6b0:=eq_true c6;have c6b1:decide ((ji4:Int).toNat ≤ 281474976710656) = true:=decide_eq_true c6;clear c6;obtain ⟨y249,hy249⟩:∃ y_:List Bool,y_ = (List.replicate (ji4:Int).toNat false):=⟨_,rfl⟩;replace H:(impl_votesOf.l0 k a1 (y249.length:Int) 0 a0 y249) = some (r1,r2):=by first|(rw [hy249];with_reducible exact H)|(have H2_:=(Option.bind_some _ _).symm.trans H;rw [hy249];with_reducible exact H2_)|(have H2_:=(Option.bind_some _ _).symm.trans H;with_reducible exact H2_)|with_reducible exact H|(rw [hy249];exact H)|exact H
    have Ny249:=aM hy249;clear hy249;have H':=aM H;clear H;go_enter Try.func71,Try.ntmps71;go_wp2_with (first|((with_reducible refine gate_dst (N:=4) rfl ?_);refine box_event ?hg (N:=4) ?hd (cs:=#[.int .i64 0,.slice none 0 0]) (t:=68) ?hr ?_;(case hd=>rfl);(case hg=>rfl);(case hr=>first|(go_simp;done)|(go_simp;rfl));intro gb248 hg w7 hbox hb;have n0_:=aM (below_step bw hb);have n1_:=aM (hbox);have n2_:=aM ((by rw [hg];exact (below_size bw):w.heap.size ≤ gb248));have n3_:=aM ((by rw [hg];exact (below_size bw):w.heap.size ≤ gb248));clear HB;have HB:=n0_;have BK248:=n1_;have GW248:=n2_;have GE248:=n3_;clear n0_ n1_ n2_ n3_;clear hb hbox hg)|((with_reducible refine gate_dst (N:=10) rfl ?_);refine Kd.R_make Kd.bool _ 4 rfl (N:=10) rfl 63 _ _ rfl ji4 rfl rfl Try.underlying63 (.bool false) 1 info4 rfl (by decide) (by omega) false (ok:=fun _=>True) (okp:=fun _=>True) rfl (fun _ hk=>hk) trivial (of_decide_eq_true ab) (Nat.le_trans (Nat.mul_le_mul_right _ (of_decide_eq_true ab:ji4.toNat ≤ 281474976710656)) (by omega)) (Below.refl _ _) (Nat.le_refl _) ?_;intro v250 w8 ho9 hb hg_ hnew_;clear hg_ hnew_;(first|rw [← Ny249.out] at ho9|(simp only [Int.reduceToNat] at ho9;rw [← Ny249.out] at ho9));have n0_:=aM (Kd.R_lower ho9 (below_size bw));have n1_:=aM (blk_below (g:=gb248) (o:=.cells #[.int .i64 0,.slice none 0 0] 68 (0,0)) bk hb);have n2_:=aM (below_step bw hb);clear BK248;clear HB;have HO251:=n0_;have BK248:=n1_;have HB:=n2_;clear n0_ n1_ n2_;clear hb ho9;obtain ⟨Ao10,co10,eo10⟩:=Kd.R_slice HO251.out;subst eo10)|((with_reducible refine gate_dst (N:=5) rfl ?_);refine box_event ?hg (N:=5) ?hd (cs:=#[.int .i64 0,.slice none 0 0]) (t:=68) ?hr ?_;(case hd=>rfl);(case hg=>rfl);(case hr=>first|(go_simp;done)|(go_simp;rfl));intro gb252 hg w11 hbox hb;have n0_:=aM (Kd.R_below (qra HO251.out) hb);have n1_:=aM (blk_below (g:=gb248) (o:=.cells #[.int .i64 0,.slice none 0 0] 68 (0,0)) bk hb);have n2_:=aM (below_step bw hb);have n3_:=aM (hbox);have n4_:=aM ((by rw [hg];exact (below_size bw):w.heap.size ≤ gb252));have n5_:=aM ((by rw [hg];exact (below_size bw):w.heap.size ≤ gb252));have n6_:=aM ((by rw [hg];exact Nat.ne_of_lt (blk_lt (g:=gb248) (o:=.cells #[.int .i64 0,.slice none 0 0] 68 (0,0)) bk):gb248 ≠ gb252));have n7_:=aM ((by rw [hg];exact Nat.ne_of_gt (blk_lt (g:=gb248) (o:=.cells #[.int .i64 0,.slice none 0 0] 68 (0,0)) bk):gb252 ≠ gb248));clear HO251;clear BK248;clear HB;have HO251:=n0_;have BK248:=n1_;have HB:=n2_;have BK252:=n3_;have GW252:=n4_;have GE252:=n5_;have NB248_252:=n6_;have NB252_248:=n7_;clear n0_ n1_ n2_ n3_ n4_ n5_ n6_ n7_;clear hb hbox hg;have hnb12:=NB252_248.out;have hnc12:=NB248_252.out;have hcz13_0:w11.cell? ⟨gb252,0,none⟩ = some (.int .i64 0):=(blk_cell BK252.out 0).trans rfl;have hcz13_1:w11.cell? ⟨gb252,1,none⟩ = some (.slice none 0 0):=(blk_cell BK252.out 1).trans rfl;have hfz13_0:=blk_frozen BK252.out 0;have hfz13_1:=blk_frozen BK252.out 1))
    go_loopg [15] k (fun kq v15 w'=>∃ (x15_1:Int) (x253001_1:List Bool) (u253001:Value),v15 = .int .i64 x15_1 ∧ Aside0 (impl_votesOf.l0 kq a1 (y249.length:Int) x15_1 a0 x253001_1 = some (r1,r2)) ∧ Aside0 (kq ≤ k) ∧ Aside0 (Kd.R Kd.bool 4 w' w.heap.size (fun _=>True) u253001 x253001_1) ∧ Aside0 (w'.heap[gb248]? = some (.cells #[.int .i64 0,(.slice none 0 0)] 68 (0,0))) ∧ Aside0 (w'.heap[gb252]? = some (.cells #[.int .i64 a0,u253001] 68 (0,0))) ∧ Aside0 (Below w.heap.size w w'))
    case atStart=>exact ⟨(0),(y249),(.slice Ao10 y249.length co10),qrs,H',⟨Nat.le_refl _⟩,⟨by (with_reducible repeat (first|apply Kd.R_alloc|apply Kd.R_drewN|apply Kd.R_drew));exact Kd.R_mono (Kd.R_far (p:=⟨gb252,1,none⟩) (Kd.R_far (p:=⟨gb252,0,none⟩) (Kd.R_types HO251.out BK252.out (by decide)) (fun _ hk=>hk.2) (.int .i64 a0)) (fun _ hk=>hk.2) (.slice Ao10 y249.length co10)) (fun _ hk=>trivial)⟩,⟨by (with_reducible repeat (first|refine blk_drewN ?_ _|refine blk_drew ?_|refine blk_alloc ?_ _));refine blk_far ?_ NB248_252.out _;(with_reducible repeat (first|refine blk_drewN ?_ _|refine blk_drew ?_|refine blk_alloc ?_ _));refine blk_far ?_ NB248_252.out _;(with_reducible repeat (first|refine blk_drewN ?_ _|refine blk_drew ?_|refine blk_alloc ?_ _));exact BK248.out⟩,⟨by (with_reducible repeat (first|refine blk_drewN ?_ _|refine blk_drew ?_|refine blk_alloc ?_ _));refine blk_put (cs:=#[.int .i64 a0,.slice none 0 0]) ?_ 1 _ rfl;(with_reducible repeat (first|refine blk_drewN ?_ _|refine blk_drew ?_|refine blk_alloc ?_ _));refine blk_put (cs:=#[.int .i64 0,.slice none 0 0]) ?_ 0 _ rfl;(with_reducible repeat (first|refine blk_drewN ?_ _|refine blk_drew ?_|refine blk_alloc ?_ _));exact BK252.out⟩,⟨by exact bw⟩⟩
    case round =>
     clear H';(try clear c1);(try clear p1);(try clear p2);(try clear c3);(try clear c3b0);(try clear c3b1);(try clear c5);(try clear c5b0);(try clear c5b1);(try clear c6);(try clear c6b0);(try clear c6b1);(try clear p6);(try clear c7);(try clear c12);(try clear hcz13_0);(try clear hcz13_1);(try clear hfz13_0);(try clear hfz13_1)
     obtain ⟨x15_1,x253001_1,u253001,rfl,HA,HK1,HO_253001,BK248,BK252,HB⟩:=hrel
     cases gk with
     | zero=>exact absurd HA.out (by simp [impl_votesOf.l0])
     | succ k1 =>
      have H:=HA.out;clear HA;simp only [impl_votesOf.l0] at H;by_cases c14:x15_1 < (y249.length:Int)
      ·rw [if_pos c14] at H;have c14b0:decide (x15_1 < (y249.length:Int)) = true:=decide_eq_true c14;clear c14;replace H:=Option.bind_eq_some_iff.mp H;obtain ⟨t253,A150,H⟩:=H;replace H:(if 0 ≤ x15_1 then (if x15_1 < (x253001_1.length:Int) then (impl_votesOf.l0 k1 a1 (y249.length:Int) (wrap64 (x15_1 + 1)) a0 (x253001_1.set (x15_1:Int).toNat t253)) else (none)) else (none)) = some (r1,r2):=H;have A15:=aM A150;clear A150;by_cases c16:0 ≤ x15_1
       ·rw [if_pos c16] at H;have c16b0:decide (0 ≤ x15_1) = true:=decide_eq_true c16;clear c16;by_cases c17:x15_1 < (x253001_1.length:Int)
        ·rw [if_pos c17] at H;have c17b0:decide (x15_1 < (x253001_1.length:Int)) = true:=decide_eq_true c17;clear c17;obtain ⟨y254,hy254⟩:∃ y_:List Bool,y_ = (x253001_1.set (x15_1:Int).toNat t253):=⟨_,rfl⟩;replace H:(impl_votesOf.l0 k1 a1 (y249.length:Int) (wrap64 (x15_1 + 1)) a0 y254) = some (r1,r2):=by first|(rw [hy254];with_reducible exact H)|(have H2_:=(Option.bind_some _ _).symm.trans H;rw [hy254];with_reducible exact H2_)|(have H2_:=(Option.bind_some _ _).symm.trans H;with_reducible exact H2_)|with_reducible exact H|(rw [hy254];exact H)|exact H
         have Ny254:=aM hy254;clear hy254;have H':=aM H;clear H
         try go_wp2
         have n0_:=aM (Kd.R_drew HO_253001.out);have n1_:=aM (blk_drew BK248.out);have n2_:=aM (blk_drew BK252.out);have n3_:=aM (below_drew1 HB.out);clear HO_253001;clear BK248;clear BK252;clear HB;have HO_253001:=n0_;have BK248:=n1_;have BK252:=n2_;have HB:=n3_;clear n0_ n1_ n2_ n3_;refine start_ (n:=8) (S:=fun w'=>w'.cell? ⟨gb252,0,none⟩ = some (.int .i64 a0) ∧ w'.cell? ⟨gb252,1,none⟩ = some (u253001)) (ds:=[7]) (mA 8 0) kR rfl rfl ⟨(blk_cell BK252.out 0).trans rfl,(blk_cell BK252.out 1).trans rfl⟩ (fun hHeld=>?_);refine with_tabW impl_votesOf.tab5 impl_votesOf.bits5 (fun HT_ HW_=>?_)
         generalize wr.drew = w19 at HO_253001 BK248 BK252 HB hHeld ⊢
         refine pure_ (i:=0) (N:=some 18) (v:=?_) (a':=?_) (mA 8 1) rfl rfl (any_of HT_.out kR) (fun _ _ _ h=>h) (Or.inl ⟨by rfl,?_⟩) ?_ ?_;rotate_left
         ·intro w';go_simp
          with_reducible rfl
         rotate_left
         ·simp only [Act.put,sA,sZ,sS,i64_w,i32_w];rfl
         refine pure_ (i:=2) (N:=some 20) (v:=?_) (a':=?_) (mA 8 5) rfl rfl (any_of HT_.out kR) (fun _ _ _ h=>h) (Or.inl ⟨by rfl,?_⟩) ?_ ?_;rotate_left
         ·intro w';go_simp
          with_reducible rfl
         rotate_left
         ·simp only [Act.put,sA,sZ,sS,i64_w,i32_w];rfl
         refine pure_ (i:=3) (N:=some 21) (v:=?_) (a':=?_) (mA 8 13) rfl rfl (any_of HT_.out kR) (fun _ _ _ h=>h) (Or.inl ⟨by rfl,?_⟩) ?_ ?_;rotate_left
         ·intro w';go_simp
          with_reducible rfl
         rotate_left
         ·simp only [Act.put,sA,sZ,sS,i64_w,i32_w];rfl
         refine pure_ (i:=4) (N:=some 22) (v:=?_) (a':=?_) (mA 8 29) rfl rfl (any_of HT_.out kR) (fun _ _ _ h=>h) (Or.inl ⟨by rfl,?_⟩) ?_ ?_;rotate_left
         ·intro w';go_simp
          with_reducible rfl
         rotate_left
         ·simp only [Act.put,sA,sZ,sS,i64_w,i32_w];rfl
         refine take_ (i:=1) (N:=some 19) (v:=?_) (a':=?_) (mA 8 31) rfl rfl (take_ofW HT_.out HW_.out kR) (fun _ _ _ h=>h) (Or.inl ⟨by rfl,?_⟩) hHeld ?_ ?_;rotate_left
         ·rintro w' ⟨s0,s1⟩
          go_simp
          with_reducible rfl
         rotate_left
         ·simp only [Act.put,sA,sZ,sS,i64_w,i32_w];rfl
         refine one_ (i:=5) (N:=some 23) (mA 8 63) rfl rfl (one_of HT_.out kR) (by decide) (fun K hK=>?_);refine goesFr_ eg1_ #[.int .i64 x15_1] (by rfl) rfl rfl (by rfl) mq ?_
         with_reducible refine (HP1.out _ x15_1 t253 A15.out ?side1).mono ?_
         (case side1=>exact bw)
         rintro e w20 ⟨rfl,hb⟩
         refine ⟨_,rfl,?_⟩;have n0_:=aM (Kd.R_below (qra HO_253001.out) hb);have n1_:=aM (blk_below (g:=gb248) (o:=.cells #[.int .i64 0,.slice none 0 0] 68 (0,0)) bk hb);have n2_:=aM (blk_below (g:=gb252) (o:=.cells #[.int .i64 a0,u253001] 68 (0,0)) bk hb);have n3_:=aM (below_step bw hb);clear HO_253001;clear BK248;clear BK252;clear HB;have HO_253001:=n0_;have BK248:=n1_;have BK252:=n2_;have HB:=n3_;clear n0_ n1_ n2_ n3_;(try clear hb)
         (try clear hb2)
         (try clear hk)
         (try clear hi)
         have p18:0 ≤ (x15_1:Int):=of_decide_eq_true ab;have q18:(x15_1:Int) < ((x253001_1.length:Int):Int):=of_decide_eq_true ab;obtain ⟨go18,co18,eo18,gb18,gl18,cl18,HG18⟩:=Kd.R_form HO_253001.out (by omega);(first|cases eo18|(injection eo18 with ea_ en_ ec_;(first|subst ea_|(injection ea_ with ea_;subst ea_));subst ec_;clear en_))
         have GB18:=aM gb18;have GG18:=aM HG18;clear gb18 gl18 HG18;obtain ⟨hx18_0,hf18_0⟩:=Kd.R_celln false HO_253001.out (x15_1:Int) p18 q18;replace p18:=eq_true p18;replace q18:=eq_true q18;have HP21:=Kd.R_putn HO_253001.out (x15_1:Int) t253;rw [← Ny254.out] at HP21;have HQ21:=aM HP21;clear HP21;refine hK.out _ _ ⟨(blk_cell BK252.out 0).trans rfl,(blk_cell BK252.out 1).trans rfl⟩ (fun hHeld=>?_);clear hK K;refine norm_ (a':=?_) ?_ ?_;rotate_left
         ·show Act.put _ (some 23) _ = _;simp only [Act.put,sA,sZ,sS,i64_w,i32_w];rfl
         refine pure_ (i:=6) (N:=some 24) (v:=?_) (a':=?_) (mA 8 127) rfl rfl (any_of HT_.out kR) (fun _ _ _ h=>h) (Or.inl ⟨by rfl,?_⟩) ?_ ?_;rotate_left
         ·intro w';go_simp
          with_reducible rfl
         rotate_left
         ·simp only [Act.put,sA,sZ,sS,i64_w,i32_w];rfl
         refine last_ (i:=7) (N:=none) (mA 8 255) rfl rfl (one_of HT_.out kR) (by decide) (fun K hK=>?_);refine skip_ (w1:=?_) (by rfl) rfl ?_ ?_;rotate_left
         ·go_simp
          rfl
         refine hK.out _ _ ?_;clear hK K;refine done_ (done_of HT_.out kR) ?_
         try go_wp2
         go_roundg k1
         case measure=>have:=HK1.out;omega
         case rel=>exact ⟨(wrap64 (x15_1 + 1)),(y254),(.slice (some ⟨go18,0,none⟩) x253001_1.length co18),qrs,H',⟨by have:=HK1.out;omega⟩,⟨qra HQ21.out⟩,⟨by (with_reducible repeat (first|refine blk_drewN ?_ _|refine blk_drew ?_|refine blk_alloc ?_ _));refine blk_far ?_ (by have h_:=Kd.R_ne HO_253001.out BK248.out (by decide);intro e_;exact h_ (by rw [e_];rfl)) _;(with_reducible repeat (first|refine blk_drewN ?_ _|refine blk_drew ?_|refine blk_alloc ?_ _));exact BK248.out⟩,⟨by (with_reducible repeat (first|refine blk_drewN ?_ _|refine blk_drew ?_|refine blk_alloc ?_ _));refine blk_far ?_ (by have h_:=Kd.R_ne HO_253001.out BK252.out (by decide);intro e_;exact h_ (by rw [e_];rfl)) _;(with_reducible repeat (first|refine blk_drewN ?_ _|refine blk_drew ?_|refine blk_alloc ?_ _));exact BK252.out⟩,⟨by repeat (first|(with_reducible first|exact HB.out|apply below_alloc|apply pw_below_drewN|apply below_drew1|refine below_set ?_ GB18.out|refine below_set ?_ GE248.out|refine below_set ?_ GE252.out)|exact HB.out)⟩⟩
        ·rw [if_neg c17] at H;exact absurd H (by simp)
       ·rw [if_neg c16] at H;exact absurd H (by simp)
      ·rw [if_neg c14] at H;have c14b0:decide (x15_1 < (y249.length:Int)) = false:=decide_eq_false c14;clear c14;simp only [Option.some.injEq,Prod.mk.injEq] at H;obtain ⟨rfl,rfl⟩:=H;have hnb22:=NB252_248.out;have hnc22:=NB248_252.out;have hcz23_0:wr.cell? ⟨gb252,0,none⟩ = some (.int .i64 a0):=(blk_cell BK252.out 0).trans rfl;have hcz23_1:wr.cell? ⟨gb252,1,none⟩ = some (u253001):=(blk_cell BK252.out 1).trans rfl;have hfz23_0:=blk_frozen BK252.out 0;have hfz23_1:=blk_frozen BK252.out 1;have hcz24_0:wr.cell? ⟨gb248,0,none⟩ = some (.int .i64 0):=(blk_cell BK248.out 0).trans rfl;have hcz24_1:wr.cell? ⟨gb248,1,none⟩ = some (.slice none 0 0):=(blk_cell BK248.out 1).trans rfl;have hfz24_0:=blk_frozen BK248.out 0;have hfz24_1:=blk_frozen BK248.out 1;obtain ⟨Ao25,co25,eo25⟩:=Kd.R_slice HO_253001.out;subst eo25;go_wp2
       refine bodyPost_ret (results_cell_row rfl _ _ gb248 68 #[.int .i64 a0,.slice Ao25 x253001_1.length co25] (0,0) _ rfl (by (with_reducible repeat (first|refine blk_drewN ?_ _|refine blk_drew ?_|refine blk_alloc ?_ _));refine blk_put (cs:=#[.int .i64 a0,.slice none 0 0]) ?_ 1 _ rfl;(with_reducible repeat (first|refine blk_drewN ?_ _|refine blk_drew ?_|refine blk_alloc ?_ _));refine blk_put (cs:=#[.int .i64 0,.slice none 0 0]) ?_ 0 _ rfl;(with_reducible repeat (first|refine blk_drewN ?_ _|refine blk_drew ?_|refine blk_alloc ?_ _));exact BK248.out) Try.underlying68 rfl kR) rfl ?_;exact ⟨_,by first|rfl|(simp [errW_none,errW_some] <;> rfl)|(simp only [← hji4];first|rfl|(simp [errW_none,errW_some] <;> rfl))|(simp [*,errW_none,errW_some] <;> rfl),by (with_reducible repeat (first|apply Kd.R_alloc|apply Kd.R_drewN|apply Kd.R_drew));exact Kd.R_mono (Kd.R_far (p:=⟨gb248,1,none⟩) (Kd.R_far (p:=⟨gb248,0,none⟩) (Kd.R_types HO_253001.out BK248.out (by decide)) (fun _ hk=>hk.2) (.int .i64 a0)) (fun _ hk=>hk.2) (.slice Ao25 x253001_1.length co25)) (fun _ hk=>trivial),by exact bw⟩
   ·rw [if_neg c6] at H;exact absurd H (by simp)
  ·rw [if_neg c5] at H;exact absurd H (by simp)
 ·rw [if_neg c3] at H;exact absurd H (by simp)


/-! ### impl_votesBy_1_1: function 133 -/
def impl_votesBy_1_1.f (a0:Int) (a1:Int):Option (Bool):=some ((Go.bits .and .i64 a1 a0) == a0)
set_option maxHeartbeats 8000000 in
set_option maxRecDepth 100000 in
theorem impl_votesBy_1_1.calls (a0:Int) (gc1:Nat) (a1:Int) (r:Bool) (w:World) (hb1:w.heap[gc1]? = some (.cells #[.int .i64 a1] 3 (0,0))) (h:impl_votesBy_1_1.f a0 a1 = some r) :
  Calls Try.prog 133 #[.int .i64 a0,.pointer (some ⟨gc1,0,none⟩)] w fun e w'=>e = .returned (.bool r) ∧ Drawn0 w w':=by
 have BK1:=aM hb1;clear hb1;have H:(some ((Go.bits .and .i64 a1 a0) == a0)) = some r:=h;clear h;obtain rfl:=Option.some.inj H;have hcz3_0:w.cell? ⟨gc1,0,none⟩ = some (.int .i64 a1):=(blk_cell BK1.out 0).trans rfl;have hfz3_0:=blk_frozen BK1.out 0;go_enter Try.func133,Try.ntmps133;go_wp2
 go_ret
 exact ⟨by first|rfl|(simp;done)|(simp [*];done),by repeat (first|exact Drawn0.refl _|apply Drawn0.step)⟩
theorem impl_votesBy_1_1.enters:∀ (args:Array Value) (w:World),(callFunc 133 args).run Try.prog w = .ok (.enter 133 args) w:=enters_of Try.func133 kR rfl


/-! ### impl_votesBy_1: function 131 -/
def impl_votesBy_1.f (k:Nat) (a0:Int) (l1:List Int):Option (Bool):=(slices_ContainsFunc_int_int.f k l1 (fun y0_=>impl_votesBy_1_1.f y0_ a0)).bind fun t260=>(some t260)
theorem impl_votesBy_1.mono:∀ a0 a1 k,LeO (impl_votesBy_1.f k a0 a1) (impl_votesBy_1.f (k + 1) a0 a1):=by
 intro a0 a1 k;unfold impl_votesBy_1.f
 repeat' with_reducible first|exact slices_ContainsFunc_int_int.mono _ _ _|exact LeO.refl _|exact LeO.none _|refine LeO.trans (slices_ContainsFunc_int_int.mono _ _ _) (slices_ContainsFunc_int_int.mono_p (fun _=>?_) _ _)|refine LeO.ite ?_ ?_|refine LeO.bind ?_ (fun _=>?_)
set_option maxHeartbeats 8000000 in
set_option maxRecDepth 100000 in
theorem impl_votesBy_1.calls (k:Nat) (a0:Int) (gc1:Nat) (A1:Option Addr) (c1:Nat) (l1:List Int) (r:Bool) (w:World) (hr1:Kd.C (Kd.int .i64) w A1 l1.length l1) (hc1:l1.length ≤ c1) (hb1:w.heap[gc1]? = some (.cells #[.slice A1 l1.length c1] 40 (0,0))) (h:impl_votesBy_1.f k a0 l1 = some r) :
  Calls Try.prog 131 #[.int .i64 a0,.pointer (some ⟨gc1,0,none⟩)] w fun e w'=>e = .returned (.bool r) ∧ Below w.heap.size w w':=by
 have hmf:∀ (fn:Fn) (first cap:Array Value) (w:World),(Instr.makeFunc fn first cap).run Try.prog w = .ok (.func fn first cap) w:=fun _ _ _ _=>rfl
 have HR1:=aM hr1;have HC1:=aM hc1;clear hr1 hc1;have BK1:=aM hb1;clear hb1;have HB:=aM (Below.refl w.heap.size w);have H:((slices_ContainsFunc_int_int.f k l1 (fun y0_=>impl_votesBy_1_1.f y0_ a0)).bind fun t260=>(some t260)) = some r:=h;clear h;replace H:=Option.bind_eq_some_iff.mp H;obtain ⟨t260,A30,H⟩:=H;replace H:(some t260) = some r:=H;have A3:=aM A30;clear A30;obtain rfl:=Option.some.inj H;go_enter Try.func131,Try.ntmps131;go_wp2_with (first|((with_reducible refine gate_dst (N:=2) rfl ?_);refine box_event ?hg (N:=2) ?hd (cs:=#[.int .i64 a0]) (t:=3) ?hr ?_;(case hd=>rfl);(case hg=>rfl);(case hr=>first|(go_simp;done)|(go_simp;rfl));intro gb259 hg w4 hbox hb;have n0_:=aM (blk_below (g:=gc1) (o:=.cells #[.slice A1 l1.length c1] 40 (0,0)) bk hb);have n1_:=aM (below_step bw hb);have n2_:=aM (hbox);have n3_:=aM ((by rw [hg];exact (below_size bw):w.heap.size ≤ gb259));have n4_:=aM ((by rw [hg];exact (below_size bw):w.heap.size ≤ gb259));have n5_:=aM ((by rw [hg];exact Nat.ne_of_lt (blk_lt (g:=gc1) (o:=.cells #[.slice A1 l1.length c1] 40 (0,0)) bk):gc1 ≠ gb259));have n6_:=aM ((by rw [hg];exact Nat.ne_of_gt (blk_lt (g:=gc1) (o:=.cells #[.slice A1 l1.length c1] 40 (0,0)) bk):gb259 ≠ gc1));clear BK1;clear HB;have BK1:=n0_;have HB:=n1_;have BK259:=n2_;have GW259:=n3_;have GE259:=n4_;have NB1_259:=n5_;have NB259_1:=n6_;clear n0_ n1_ n2_ n3_ n4_ n5_ n6_;clear hb hbox hg;have hnb5:=NB1_259.out;have hnc5:=NB259_1.out;have hcz6_0:w4.cell? ⟨gc1,0,none⟩ = some (.slice A1 l1.length c1):=(blk_cell BK1.out 0).trans rfl;have hfz6_0:=blk_frozen BK1.out 0)|((with_reducible refine gate_callee (f:=132) rfl ?_);refine goesL_ (some 6) rfl rfl Try.func132 kR rfl #[.slice A1 l1.length c1,.func (.func 133) #[] #[.pointer (some ⟨gb259,0,none⟩)]] rfl mq ?_;(with_reducible refine (slices_ContainsFunc_int_int.calls k _ _ l1 (fun y0_=>impl_votesBy_1_1.f y0_ a0) 133 #[.pointer (some ⟨gb259,0,none⟩)] impl_votesBy_1_1.enters t260 _ ?side1 ?side2 ?side3 A3.out).mono ?_);(case side1=>exact qcs HR1.out HB.out);(case side2=>exact HC1.out);(case side3=>exact (fun W_ a0_ r0_ hx_ hb_ =>(impl_votesBy_1_1.calls a0_ gb259 a0 r0_ W_  (box_later bk hb_) hx_).mono (fun _ _ h_=>⟨h_.1,h_.2.below⟩)));rintro e w7 ⟨rfl,hb⟩;refine ⟨_,rfl,?_⟩;have n0_:=aM (blk_below (g:=gc1) (o:=.cells #[.slice A1 l1.length c1] 40 (0,0)) bk hb);have n1_:=aM (blk_below (g:=gb259) (o:=.cells #[.int .i64 a0] 3 (0,0)) bk hb);have n2_:=aM (below_step bw hb);clear BK1;clear BK259;clear HB;have BK1:=n0_;have BK259:=n1_;have HB:=n2_;clear n0_ n1_ n2_;(try clear hb);(try clear hb2);(try clear hk);(try clear hi)))
 go_ret
 exact ⟨by first|rfl|(simp [errW_none,errW_some] <;> rfl)|(simp [*,errW_none,errW_some] <;> rfl),by exact bw⟩
theorem impl_votesBy_1.enters:∀ (args:Array Value) (w:World),(callFunc 131 args).run Try.prog w = .ok (.enter 131 args) w:=enters_of Try.func131 kR rfl


/-! ### impl_votesBy: function 97 -/
def impl_votesBy.l0:Nat → Int → List (List Int) → Int → Int → List Int → Option (Int × List Bool)
 | 0,_,_,_,_,_=>none
 | k + 1,x0,x9,x10,x11,x266000=>if x11 < x10 then (if 0 ≤ x11 then (if x11 < (x9.length:Int) then ((impl_maskOf.f k (rd_LI x9 x11)).bind fun t267=>(if x266000.length < 17592186044416 then (impl_votesBy.l0 k x0 x9 x10 (wrap64 (x11 + 1)) (x266000 ++ [t267])) else (none))) else (none)) else (none)) else ((impl_votesOf.f k x0 (fun y0_=>impl_votesBy_1.f k y0_ x266000)).bind fun bt271=>(some (bt271.1,bt271.2)))
def impl_votesBy.f (k:Nat) (a0:Int) (l1:List (List Int)):Option (Int × List Bool):=impl_votesBy.l0 k a0 l1 (l1.length:Int) 0 (([]:List Int))
theorem impl_votesBy.mono_l:∀ k,(∀ y0 y1 y2 y3 y4,LeO (impl_votesBy.l0 k y0 y1 y2 y3 y4) (impl_votesBy.l0 (k + 1) y0 y1 y2 y3 y4))
 | 0=>fun _ _ _ _ _ r h=>by simp [impl_votesBy.l0] at h
 | k + 1=>by
  have ih0:=impl_votesBy.mono_l k
  ·intro y0 y1 y2 y3 y4;unfold impl_votesBy.l0
   repeat' with_reducible first|exact ih0 _ _ _ _ _|exact impl_maskOf.mono _ _|exact impl_votesBy_1.mono _ _ _|exact impl_votesOf.mono _ _ _|exact LeO.refl _|exact LeO.none _|refine LeO.trans (impl_votesOf.mono _ _ _) (impl_votesOf.mono_p (fun _=>?_) _ _)|refine LeO.ite ?_ ?_|refine LeO.bind ?_ (fun _=>?_)
theorem impl_votesBy.mono:∀ a0 a1 k,LeO (impl_votesBy.f k a0 a1) (impl_votesBy.f (k + 1) a0 a1):=by
 intro a0 a1 k;have ih0:=impl_votesBy.mono_l k;unfold impl_votesBy.f
 repeat' with_reducible first|exact ih0 _ _ _ _ _|exact impl_maskOf.mono _ _|exact impl_votesBy_1.mono _ _ _|exact impl_votesOf.mono _ _ _|exact LeO.refl _|exact LeO.none _|refine LeO.trans (impl_votesOf.mono _ _ _) (impl_votesOf.mono_p (fun _=>?_) _ _)|refine LeO.ite ?_ ?_|refine LeO.bind ?_ (fun _=>?_)
set_option maxHeartbeats 8000000 in
set_option maxRecDepth 100000 in
theorem impl_votesBy.calls (k:Nat) (a0:Int) (A1:Option Addr) (c1:Nat) (l1:List (List Int)) (r1:Int) (r2:List Bool) (w:World) (hr1:Kd.C (Kd.slice 3 (Kd.int .i64)) w A1 l1.length l1) (hc1:l1.length ≤ c1) (h:impl_votesBy.f k a0 l1 = some (r1,r2)) :
  Calls Try.prog 97 #[.int .i64 a0,.slice A1 l1.length c1] w fun e w'=>∃ v1_:Value,e = .returned (.agg #[.int .i64 r1,v1_]) ∧ Kd.R Kd.bool 4 w' w.heap.size (fun _=>True) v1_ r2 ∧ Below w.heap.size w w':=by
 have hmf:∀ (fn:Fn) (first cap:Array Value) (w:World),(Instr.makeFunc fn first cap).run Try.prog w = .ok (.func fn first cap) w:=fun _ _ _ _=>rfl
 have hu68:=Try.underlying68;have HR1:=aM hr1;have HC1:=aM hc1;clear hr1 hc1;have HB:=aM (Below.refl w.heap.size w);have H:(impl_votesBy.l0 k a0 l1 (l1.length:Int) 0 (([]:List Int))) = some (r1,r2):=h;clear h;obtain ⟨y262,hy262⟩:∃ y_:List Int,y_ = (([]:List Int)):=⟨_,rfl⟩;replace H:(impl_votesBy.l0 k a0 l1 (l1.length:Int) 0 y262) = some (r1,r2):=by first|(rw [hy262];with_reducible exact H)|(have H2_:=(Option.bind_some _ _).symm.trans H;rw [hy262];with_reducible exact H2_)|(have H2_:=(Option.bind_some _ _).symm.trans H;with_reducible exact H2_)|with_reducible exact H|(rw [hy262];exact H)|exact H
 have Ny262:=aM hy262;clear hy262;have H':=aM H;clear H;go_enter Try.func97,Try.ntmps97;go_wp2_with (first|((with_reducible refine gate_dst (N:=4) rfl ?_);refine box_event ?hg (N:=4) ?hd (cs:=#[.int .i64 0,.slice none 0 0]) (t:=68) ?hr ?_;(case hd=>rfl);(case hg=>rfl);(case hr=>first|(go_simp;done)|(go_simp;rfl));intro gb261 hg w3 hbox hb;have n0_:=aM (below_step bw hb);have n1_:=aM (hbox);have n2_:=aM ((by rw [hg];exact (below_size bw):w.heap.size ≤ gb261));have n3_:=aM ((by rw [hg];exact (below_size bw):w.heap.size ≤ gb261));clear HB;have HB:=n0_;have BK261:=n1_;have GW261:=n2_;have GE261:=n3_;clear n0_ n1_ n2_ n3_;clear hb hbox hg)|((with_reducible refine gate_dst (N:=8) rfl ?_);refine Kd.R_lit (Kd.int .i64) _ 3 ?hg (N:=8) ?hd (xs:=([]:List Int)) (inner:=[]) (ok:=fun _=>True) (okp:=fun _=>True) ?hr ?hp (fun _ hk=>hk) trivial (Below.refl _ _) (Nat.le_refl _) (by simp) ?_;(case hd=>rfl);(case hg=>rfl);(case hr=>first|(go_simp;done)|(go_simp;rfl));(case hp=>exact (Reps.none _ _));intro v263 w4 ho5 hb hg_ hnew_;clear hg_ hnew_;(first|rw [← Ny262.out] at ho5|(simp only [Int.reduceToNat] at ho5;rw [← Ny262.out] at ho5));have n0_:=aM (Kd.R_lower ho5 (below_size bw));have n1_:=aM (blk_below (g:=gb261) (o:=.cells #[.int .i64 0,.slice none 0 0] 68 (0,0)) bk hb);have n2_:=aM (below_step bw hb);clear BK261;clear HB;have HO264:=n0_;have BK261:=n1_;have HB:=n2_;clear n0_ n1_ n2_;clear hb ho5)|((with_reducible refine gate_dst (N:=5) rfl ?_);refine box_event ?hg (N:=5) ?hd (cs:=#[.slice none 0 0]) (t:=40) ?hr ?_;(case hd=>rfl);(case hg=>rfl);(case hr=>first|(go_simp;done)|(go_simp;rfl));intro gb265 hg w6 hbox hb;have n0_:=aM (Kd.R_below (qra HO264.out) hb);have n1_:=aM (blk_below (g:=gb261) (o:=.cells #[.int .i64 0,.slice none 0 0] 68 (0,0)) bk hb);have n2_:=aM (below_step bw hb);have n3_:=aM (hbox);have n4_:=aM ((by rw [hg];exact (below_size bw):w.heap.size ≤ gb265));have n5_:=aM ((by rw [hg];exact (below_size bw):w.heap.size ≤ gb265));have n6_:=aM ((by rw [hg];exact Nat.ne_of_lt (blk_lt (g:=gb261) (o:=.cells #[.int .i64 0,.slice none 0 0] 68 (0,0)) bk):gb261 ≠ gb265));have n7_:=aM ((by rw [hg];exact Nat.ne_of_gt (blk_lt (g:=gb261) (o:=.cells #[.int .i64 0,.slice none 0 0] 68 (0,0)) bk):gb265 ≠ gb261));clear HO264;clear BK261;clear HB;have HO264:=n0_;have BK261:=n1_;have HB:=n2_;have BK265:=n3_;have GW265:=n4_;have GE265:=n5_;have NB261_265:=n6_;have NB265_261:=n7_;clear n0_ n1_ n2_ n3_ n4_ n5_ n6_ n7_;clear hb hbox hg;obtain ⟨Ao7,co7,eo7⟩:=Kd.R_slice HO264.out;subst eo7;have hnb8:=NB265_261.out;have hnc8:=NB261_265.out;have hcz9_0:w6.cell? ⟨gb265,0,none⟩ = some (.slice none 0 0):=(blk_cell BK265.out 0).trans rfl;have hfz9_0:=blk_frozen BK265.out 0))
 go_loopg [11] k (fun kq v11 w'=>∃ (x11_1:Int) (x266000_1:List Int) (u266000:Value),v11 = .int .i64 x11_1 ∧ Aside0 (impl_votesBy.l0 kq a0 l1 (l1.length:Int) x11_1 x266000_1 = some (r1,r2)) ∧ Aside0 (kq ≤ k) ∧ Aside0 (Kd.R (Kd.int .i64) 3 w' w.heap.size (fun _=>True) u266000 x266000_1) ∧ Aside0 (w'.heap[gb261]? = some (.cells #[.int .i64 0,(.slice none 0 0)] 68 (0,0))) ∧ Aside0 (w'.heap[gb265]? = some (.cells #[u266000] 40 (0,0))) ∧ Aside0 (Below w.heap.size w w'))
 case atStart=>exact ⟨(0),(y262),(.slice Ao7 y262.length co7),qrs,H',⟨Nat.le_refl _⟩,⟨by (with_reducible repeat (first|apply Kd.R_alloc|apply Kd.R_drewN|apply Kd.R_drew));exact Kd.R_mono (Kd.R_far (p:=⟨gb265,0,none⟩) (Kd.R_types HO264.out BK265.out (by decide)) (fun _ hk=>hk.2) (.slice Ao7 y262.length co7)) (fun _ hk=>trivial)⟩,⟨by (with_reducible repeat (first|refine blk_drewN ?_ _|refine blk_drew ?_|refine blk_alloc ?_ _));refine blk_far ?_ NB261_265.out _;(with_reducible repeat (first|refine blk_drewN ?_ _|refine blk_drew ?_|refine blk_alloc ?_ _));exact BK261.out⟩,⟨by (with_reducible repeat (first|refine blk_drewN ?_ _|refine blk_drew ?_|refine blk_alloc ?_ _));refine blk_put (cs:=#[.slice none 0 0]) ?_ 0 _ rfl;(with_reducible repeat (first|refine blk_drewN ?_ _|refine blk_drew ?_|refine blk_alloc ?_ _));exact BK265.out⟩,⟨by exact bw⟩⟩
 case round =>
  clear H';(try clear c1);(try clear p2);(try clear c8);(try clear c9);(try clear hcz9_0);(try clear hfz9_0)
  obtain ⟨x11_1,x266000_1,u266000,rfl,HA,HK1,HO_266000,BK261,BK265,HB⟩:=hrel
  cases gk with
  | zero=>exact absurd HA.out (by simp [impl_votesBy.l0])
  | succ k1 =>
   have H:=HA.out;clear HA;simp only [impl_votesBy.l0] at H;by_cases c10:x11_1 < (l1.length:Int)
   ·rw [if_pos c10] at H;have c10b0:decide (x11_1 < (l1.length:Int)) = true:=decide_eq_true c10;clear c10;by_cases c11:0 ≤ x11_1
    ·rw [if_pos c11] at H;have c11b0:decide (0 ≤ x11_1) = true:=decide_eq_true c11;clear c11;by_cases c12:x11_1 < (l1.length:Int)
     ·rw [if_pos c12] at H;have c12b0:decide (x11_1 < (l1.length:Int)) = true:=decide_eq_true c12;clear c12;replace H:=Option.bind_eq_some_iff.mp H;obtain ⟨t267,A130,H⟩:=H;replace H:(if x266000_1.length < 17592186044416 then (impl_votesBy.l0 k1 a0 l1 (l1.length:Int) (wrap64 (x11_1 + 1)) (x266000_1 ++ [t267])) else (none)) = some (r1,r2):=H;have A13:=aM A130;clear A130;by_cases c14:x266000_1.length < 17592186044416
      ·rw [if_pos c14] at H;have LMc14:=aM c14;clear c14;obtain ⟨y268,hy268⟩:∃ y_:List Int,y_ = (x266000_1 ++ [t267]):=⟨_,rfl⟩;replace H:(impl_votesBy.l0 k1 a0 l1 (l1.length:Int) (wrap64 (x11_1 + 1)) y268) = some (r1,r2):=by first|(rw [hy268];with_reducible exact H)|(have H2_:=(Option.bind_some _ _).symm.trans H;rw [hy268];with_reducible exact H2_)|(have H2_:=(Option.bind_some _ _).symm.trans H;with_reducible exact H2_)|with_reducible exact H|(rw [hy268];exact H)|exact H
       have Ny268:=aM hy268;clear hy268;have H':=aM H;clear H;have p266:0 ≤ (x11_1:Int):=of_decide_eq_true ab;have q266:x11_1 < (l1.length:Int):=of_decide_eq_true ab;obtain ⟨ad266,A266_0,c266_0,e266,hx266_0,hl266_0,hi266_0⟩:=at_LI HR1.out x11_1 p266 q266;cases e266
       replace hx266_0:=(HB.out.cell (World.block_lt_of_cell? w _ hx266_0)).trans hx266_0;have HR266_0:=aM hi266_0;have HC266_0:=aM hl266_0;clear hi266_0 hl266_0;replace p266:=eq_true p266;replace q266:=eq_true q266
       try go_wp2
       have n0_:=aM (Kd.R_drew HO_266000.out);have n1_:=aM (blk_drew BK261.out);have n2_:=aM (blk_drew BK265.out);have n3_:=aM (below_drew1 HB.out);clear HO_266000;clear BK261;clear BK265;clear HB;have HO_266000:=n0_;have BK261:=n1_;have BK265:=n2_;have HB:=n3_;clear n0_ n1_ n2_ n3_;refine start_ (n:=6) (S:=fun w'=>w'.cell? ⟨gb265,0,none⟩ = some (u266000)) (ds:=[5]) (mA 6 0) kR rfl rfl ((blk_cell BK265.out 0).trans rfl) (fun hHeld=>?_);generalize wr.drew = w15 at HO_266000 BK261 BK265 HB hHeld ⊢
       refine pure_ (i:=1) (N:=some 16) (v:=?_) (a':=?_) (mA 6 2) rfl rfl kR (fun _ _ _ h=>h) (Or.inl ⟨by rfl,?_⟩) ?_ ?_;rotate_left
       ·intro w';go_simp
        with_reducible rfl
       rotate_left
       ·simp only [Act.put,sA,sZ,sS,i64_w,i32_w];rfl
       refine take_ (i:=0) (N:=some 15) (v:=?_) (a':=?_) (mA 6 3) rfl rfl kR (fun _ _ _ h=>h) (Or.inl ⟨by rfl,?_⟩) hHeld ?_ ?_;rotate_left
       ·intro w' s0;go_simp
        with_reducible rfl
       rotate_left
       ·simp only [Act.put,sA,sZ,sS,i64_w,i32_w];rfl
       refine one_ (i:=2) (N:=some 17) (mA 6 7) rfl rfl kR (by decide) (fun K hK=>?_);refine goes_ Try.func129 kR rfl #[.slice A266_0 (rd_LI l1 x11_1).length c266_0] (by rfl) rfl rfl mq ?_
       with_reducible refine (impl_maskOf.calls k1 _ _ (rd_LI l1 x11_1) t267 _ ?side1 ?side2 A13.out).mono ?_
       (case side1=>exact qcs HR266_0.out HB.out)
       (case side2=>exact HC266_0.out)
       rintro e w' ⟨rfl,⟨nd,rfl⟩⟩
       refine ⟨_,rfl,?_⟩;refine hK.out _ _ ((blk_cell BK265.out 0).trans rfl) (fun hHeld=>?_);clear hK K;refine norm_ (a':=?_) ?_ ?_;rotate_left
       ·show Act.put _ (some 17) _ = _;simp only [Act.put,sA,sZ,sS,i64_w,i32_w];rfl
       refine one_ (i:=3) (N:=some 18) (mA 6 15) rfl rfl kR (by decide) (fun K hK=>?_);refine value_ (w1:=?_) (v:=?_) (by rfl) rfl ?_ ?_;rotate_left 2
       ·go_simp
        constructor
        ·rfl
        ·rfl
       refine hK.out _ _ ((blk_cell (blk_alloc BK265.out _) 0).trans rfl) (fun hHeld=>?_);clear hK K;refine norm_ (a':=?_) ?_ ?_;rotate_left
       ·show Act.put _ (some 18) _ = _;simp only [Act.put,sA,sZ,sS,i64_w,i32_w];rfl
       refine one_ (i:=4) (N:=some 19) (mA 6 31) rfl rfl kR (by decide) (fun K hK=>?_);refine Kd.R_append_step (Kd.int .i64) (w0:=w) w.heap.size (by rfl) (.tmp 15) (.tmp 18) 40 3 (.int .i64 0) 8 rfl Try.underlying40 info3 rfl (by decide) (by omega) u266000 x266000_1 t267 [.int .i64 t267] (fun _=>True) (fun _=>False) rfl rfl ?aP (fun _ hk=>hk.elim) ?aF ?aO ?aB ?aS ?aL ?_;(case aP=>exact rfl)
       (case aB=>exact bw)
       (case aF=>exact (fun _ _=>trivial))
       (case aO=>exact (qra HO_266000.out))
       (case aS=>exact (below_size bw))
       (case aL=>have:=LMc14.out;omega)
       intro v269 w16 ho hb hg hat;rw [← Ny268.out] at ho;have n0_:=aM (blk_grown (g:=gb261) (o:=.cells #[.int .i64 0,.slice none 0 0] 68 (0,0)) bk hg (Kd.R_ne HO_266000.out BK261.out (by decide)));have n1_:=aM (blk_grown (g:=gb265) (o:=.cells #[u266000] 40 (0,0)) bk hg (Kd.R_ne HO_266000.out BK265.out (by decide)));have n2_:=aM (hb);have n3_:=aM (ho);clear BK261;clear BK265;clear HB;clear HO_266000;have BK261:=n0_;have BK265:=n1_;have HB:=n2_;have HO270:=n3_;clear n0_ n1_ n2_ n3_;clear ho hb hg hat;obtain ⟨Ao17,co17,eo17⟩:=Kd.R_slice HO270.out;(first|subst eo17|(injection eo17 with f1_ f2_ f3_;have f4_:=f1_.symm;have f5_:=f3_.symm;clear f1_ f2_ f3_;subst f4_;subst f5_))
       refine hK.out _ _ ((blk_cell BK265.out 0).trans rfl) (fun hHeld=>?_);clear hK K;refine norm_ (a':=?_) ?_ ?_;rotate_left
       ·show Act.put _ (some 19) _ = _;simp only [Act.put,sA,sZ,sS,i64_w,i32_w];rfl
       refine last_ (i:=5) (N:=none) (mA 6 63) rfl rfl kR (by decide) (fun K hK=>?_);have hs18:w16.cell? ⟨gb265,0,none⟩ = some (u266000):=(blk_cell BK265.out 0).trans rfl;have hfs18:=blk_frozen BK265.out 0;have hns18_0:=NB261_265.out;have hms18_0:=NB265_261.out;refine skip_ (w1:=?_) (by rfl) rfl ?_ ?_;rotate_left
       ·go_simp
        rfl
       refine hK.out _ _ ?_;clear hK K;refine done_ kR ?_
       try go_wp2
       go_roundg k1
       case measure=>have:=HK1.out;omega
       case rel=>exact ⟨(wrap64 (x11_1 + 1)),(y268),(.slice Ao17 y268.length co17),qrs,H',⟨by have:=HK1.out;omega⟩,⟨by (with_reducible repeat (first|apply Kd.R_alloc|apply Kd.R_drewN|apply Kd.R_drew));exact Kd.R_mono (Kd.R_far (p:=⟨gb265,0,none⟩) (Kd.R_types HO270.out BK265.out (by decide)) (fun _ hk=>hk.2) (.slice Ao17 y268.length co17)) (fun _ hk=>trivial)⟩,⟨by (with_reducible repeat (first|refine blk_drewN ?_ _|refine blk_drew ?_|refine blk_alloc ?_ _));refine blk_far ?_ NB261_265.out _;(with_reducible repeat (first|refine blk_drewN ?_ _|refine blk_drew ?_|refine blk_alloc ?_ _));exact BK261.out⟩,⟨by (with_reducible repeat (first|refine blk_drewN ?_ _|refine blk_drew ?_|refine blk_alloc ?_ _));refine blk_put (cs:=#[u266000]) ?_ 0 _ rfl;(with_reducible repeat (first|refine blk_drewN ?_ _|refine blk_drew ?_|refine blk_alloc ?_ _));exact BK265.out⟩,⟨by exact bw⟩⟩
      ·rw [if_neg c14] at H;exact absurd H (by simp)
     ·rw [if_neg c12] at H;exact absurd H (by simp)
    ·rw [if_neg c11] at H;exact absurd H (by simp)
   ·rw [if_neg c10] at H;have c10b0:decide (x11_1 < (l1.length:Int)) = false:=decide_eq_false c10;clear c10;replace H:=Option.bind_eq_some_iff.mp H;obtain ⟨⟨t271,t272⟩,A190,H⟩:=H;replace H:(some (t271,t272)) = some (r1,r2):=H;have A19:=aM A190;clear A190;simp only [Option.some.injEq,Prod.mk.injEq] at H;obtain ⟨rfl,rfl⟩:=H;obtain ⟨Ao20,co20,eo20⟩:=Kd.R_slice HO_266000.out;subst eo20;go_wp2_with (first|((with_reducible refine gate_callee (f:=71) rfl ?_);refine goesL_ (some 23) rfl rfl Try.func71 kR rfl #[.int .i64 a0,.func (.func 131) #[] #[.pointer (some ⟨gb265,0,none⟩)]] rfl mq ?_;(with_reducible refine (impl_votesOf.calls k1 a0 (fun y0_=>impl_votesBy_1.f k1 y0_ x266000_1) 131 #[.pointer (some ⟨gb265,0,none⟩)] impl_votesBy_1.enters t271 t272 _ ?side1 A19.out).mono ?_);(case side1=>exact (fun W_ a0_ r0_ hx_ hb_ =>(impl_votesBy_1.calls k1 a0_ gb265 _ _ x266000_1 r0_ W_  (Kd.C_below (by repeat (first|exact (Kd.R_reads' HO_266000.out).2.2|(with_reducible refine Kd.C_alloc ?_ _)|(with_reducible refine Kd.C_drewN ?_ _)|(with_reducible refine Kd.C_drew ?_))) hb_) (by exact (Kd.R_reads' HO_266000.out).2.1) (box_later bk hb_) hx_).mono (fun _ _ h_=>h_)));rintro e w21 ⟨v273,rfl,ho0,hb⟩;refine ⟨_,rfl,?_⟩;have n0_:=aM (Kd.R_below (qra HO_266000.out) hb);have n1_:=aM (Kd.R_lower ho0 (below_size bw));have n2_:=aM (blk_below (g:=gb261) (o:=.cells #[.int .i64 0,.slice none 0 0] 68 (0,0)) bk hb);have n3_:=aM (blk_below (g:=gb265) (o:=.cells #[.slice Ao20 x266000_1.length co20] 40 (0,0)) bk hb);have n4_:=aM (below_step bw hb);clear HO_266000;clear BK261;clear BK265;clear HB;have HO_266000:=n0_;have HO274:=n1_;have BK261:=n2_;have BK265:=n3_;have HB:=n4_;clear n0_ n1_ n2_ n3_ n4_;(try clear hb);(try clear hb2);(try clear hk);(try clear hi);(try clear ho0);have hnb22:=NB261_265.out;have hnc22:=NB265_261.out;have hcz23_0:w21.cell? ⟨gb261,0,none⟩ = some (.int .i64 0):=(blk_cell BK261.out 0).trans rfl;have hcz23_1:w21.cell? ⟨gb261,1,none⟩ = some (.slice none 0 0):=(blk_cell BK261.out 1).trans rfl;have hfz23_0:=blk_frozen BK261.out 0;have hfz23_1:=blk_frozen BK261.out 1;obtain ⟨Ao24,co24,eo24⟩:=Kd.R_slice HO274.out;subst eo24))
    refine bodyPost_ret (results_cell_row rfl _ _ gb261 68 #[.int .i64 t271,.slice Ao24 t272.length co24] (0,0) _ rfl (by (with_reducible repeat (first|refine blk_drewN ?_ _|refine blk_drew ?_|refine blk_alloc ?_ _));refine blk_put (cs:=#[.int .i64 t271,.slice none 0 0]) ?_ 1 _ rfl;(with_reducible repeat (first|refine blk_drewN ?_ _|refine blk_drew ?_|refine blk_alloc ?_ _));refine blk_put (cs:=#[.int .i64 0,.slice none 0 0]) ?_ 0 _ rfl;(with_reducible repeat (first|refine blk_drewN ?_ _|refine blk_drew ?_|refine blk_alloc ?_ _));exact BK261.out) Try.underlying68 rfl kR) rfl ?_;exact ⟨_,by first|rfl|(simp [errW_none,errW_some] <;> rfl)|(simp [*,errW_none,errW_some] <;> rfl),by (with_reducible repeat (first|apply Kd.R_alloc|apply Kd.R_drewN|apply Kd.R_drew));exact Kd.R_mono (Kd.R_far (p:=⟨gb261,1,none⟩) (Kd.R_far (p:=⟨gb261,0,none⟩) (Kd.R_types HO274.out BK261.out (by decide)) (fun _ hk=>hk.2) (.int .i64 t271)) (fun _ hk=>hk.2) (.slice Ao24 t272.length co24)) (fun _ hk=>trivial),by exact bw⟩


/-! ### impl_Game_votes: function 49 -/
def impl_Game_votes.f (k:Nat) (a0_0:Int) (l0_1:List (List Int)):Option (Int × List Bool):=(impl_votesBy.f k a0_0 l0_1).bind fun bt277=>(some (bt277.1,bt277.2))
theorem impl_Game_votes.mono:∀ a0 a1 k,LeO (impl_Game_votes.f k a0 a1) (impl_Game_votes.f (k + 1) a0 a1):=by
 intro a0 a1 k;unfold impl_Game_votes.f
 repeat' with_reducible first|exact impl_votesBy.mono _ _ _|exact LeO.refl _|exact LeO.none _|refine LeO.ite ?_ ?_|refine LeO.bind ?_ (fun _=>?_)
set_option maxHeartbeats 8000000 in
set_option maxRecDepth 100000 in
theorem impl_Game_votes.calls (k:Nat) (a0_0:Int) (A0_1:Option Addr) (c0_1:Nat) (l0_1:List (List Int)) (r1:Int) (r2:List Bool) (w:World) (hr0_1:Kd.C (Kd.slice 3 (Kd.int .i64)) w A0_1 l0_1.length l0_1) (hc0_1:l0_1.length ≤ c0_1) (h:impl_Game_votes.f k a0_0 l0_1 = some (r1,r2)) :
  Calls Try.prog 49 #[.agg #[.int .i64 a0_0,.slice A0_1 l0_1.length c0_1]] w fun e w'=>∃ v1_:Value,e = .returned (.agg #[.int .i64 r1,v1_]) ∧ Kd.R Kd.bool 4 w' w.heap.size (fun _=>True) v1_ r2 ∧ Below w.heap.size w w':=by
 have hu28:=Try.underlying28;have hu68:=Try.underlying68;have HR0_1:=aM hr0_1;have HC0_1:=aM hc0_1;clear hr0_1 hc0_1;have HB:=aM (Below.refl w.heap.size w);have H:((impl_votesBy.f k a0_0 l0_1).bind fun bt277=>(some (bt277.1,bt277.2))) = some (r1,r2):=h;clear h;replace H:=Option.bind_eq_some_iff.mp H;obtain ⟨⟨t277,t278⟩,A20,H⟩:=H;replace H:(some (t277,t278)) = some (r1,r2):=H;have A2:=aM A20;clear A20;simp only [Option.some.injEq,Prod.mk.injEq] at H;obtain ⟨rfl,rfl⟩:=H;go_enter Try.func49,Try.ntmps49;go_wp2_with (first|((with_reducible refine gate_dst (N:=1) rfl ?_);refine box_event ?hg (N:=1) ?hd (cs:=#[.int .i64 a0_0,.slice A0_1 l0_1.length c0_1]) (t:=28) ?hr ?_;(case hd=>rfl);(case hg=>rfl);(case hr=>first|(go_simp;done)|(go_simp;rfl));intro gb275 hg w3 hbox hb;have n0_:=aM (below_step bw hb);have n1_:=aM (hbox);have n2_:=aM ((by rw [hg];exact (below_size bw):w.heap.size ≤ gb275));have n3_:=aM ((by rw [hg];exact (below_size bw):w.heap.size ≤ gb275));clear HB;have HB:=n0_;have BK275:=n1_;have GW275:=n2_;have GE275:=n3_;clear n0_ n1_ n2_ n3_;clear hb hbox hg)|((with_reducible refine gate_dst (N:=2) rfl ?_);refine box_event ?hg (N:=2) ?hd (cs:=#[.int .i64 0,.slice none 0 0]) (t:=68) ?hr ?_;(case hd=>rfl);(case hg=>rfl);(case hr=>first|(go_simp;done)|(go_simp;rfl));intro gb276 hg w4 hbox hb;have n0_:=aM (blk_below (g:=gb275) (o:=.cells #[.int .i64 a0_0,.slice A0_1 l0_1.length c0_1] 28 (0,0)) bk hb);have n1_:=aM (below_step bw hb);have n2_:=aM (hbox);have n3_:=aM ((by rw [hg];exact (below_size bw):w.heap.size ≤ gb276));have n4_:=aM ((by rw [hg];exact (below_size bw):w.heap.size ≤ gb276));have n5_:=aM ((by rw [hg];exact Nat.ne_of_lt (blk_lt (g:=gb275) (o:=.cells #[.int .i64 a0_0,.slice A0_1 l0_1.length c0_1] 28 (0,0)) bk):gb275 ≠ gb276));have n6_:=aM ((by rw [hg];exact Nat.ne_of_gt (blk_lt (g:=gb275) (o:=.cells #[.int .i64 a0_0,.slice A0_1 l0_1.length c0_1] 28 (0,0)) bk):gb276 ≠ gb275));clear BK275;clear HB;have BK275:=n0_;have HB:=n1_;have BK276:=n2_;have GW276:=n3_;have GE276:=n4_;have NB275_276:=n5_;have NB276_275:=n6_;clear n0_ n1_ n2_ n3_ n4_ n5_ n6_;clear hb hbox hg;have hnb5:=NB275_276.out;have hnc5:=NB276_275.out;have hcz6_0:w4.cell? ⟨gb275,0,none⟩ = some (.int .i64 a0_0):=(blk_cell BK275.out 0).trans rfl;have hcz6_1:w4.cell? ⟨gb275,1,none⟩ = some (.slice A0_1 l0_1.length c0_1):=(blk_cell BK275.out 1).trans rfl;have hfz6_0:=blk_frozen BK275.out 0;have hfz6_1:=blk_frozen BK275.out 1)|((with_reducible refine gate_callee (f:=97) rfl ?_);refine goesL_ (some 7) rfl rfl Try.func97 kR rfl #[.int .i64 a0_0,.slice A0_1 l0_1.length c0_1] rfl mq ?_;(with_reducible refine (impl_votesBy.calls k a0_0 _ _ l0_1 t277 t278 _ ?side1 ?side2 A2.out).mono ?_);(case side1=>exact qcs HR0_1.out HB.out);(case side2=>exact HC0_1.out);rintro e w7 ⟨v279,rfl,ho0,hb⟩;refine ⟨_,rfl,?_⟩;have n0_:=aM (Kd.R_lower ho0 (below_size bw));have n1_:=aM (blk_below (g:=gb275) (o:=.cells #[.int .i64 a0_0,.slice A0_1 l0_1.length c0_1] 28 (0,0)) bk hb);have n2_:=aM (blk_below (g:=gb276) (o:=.cells #[.int .i64 0,.slice none 0 0] 68 (0,0)) bk hb);have n3_:=aM (below_step bw hb);clear BK275;clear BK276;clear HB;have HO280:=n0_;have BK275:=n1_;have BK276:=n2_;have HB:=n3_;clear n0_ n1_ n2_ n3_;(try clear hb);(try clear hb2);(try clear hk);(try clear hi);(try clear ho0);have hcz8_0:w7.cell? ⟨gb276,0,none⟩ = some (.int .i64 0):=(blk_cell BK276.out 0).trans rfl;have hcz8_1:w7.cell? ⟨gb276,1,none⟩ = some (.slice none 0 0):=(blk_cell BK276.out 1).trans rfl;have hfz8_0:=blk_frozen BK276.out 0;have hfz8_1:=blk_frozen BK276.out 1;obtain ⟨Ao9,co9,eo9⟩:=Kd.R_slice HO280.out;subst eo9))
 refine bodyPost_ret (results_cell_row rfl _ _ gb276 68 #[.int .i64 t277,.slice Ao9 t278.length co9] (0,0) _ rfl (by (with_reducible repeat (first|refine blk_drewN ?_ _|refine blk_drew ?_|refine blk_alloc ?_ _));refine blk_put (cs:=#[.int .i64 t277,.slice none 0 0]) ?_ 1 _ rfl;(with_reducible repeat (first|refine blk_drewN ?_ _|refine blk_drew ?_|refine blk_alloc ?_ _));refine blk_put (cs:=#[.int .i64 0,.slice none 0 0]) ?_ 0 _ rfl;(with_reducible repeat (first|refine blk_drewN ?_ _|refine blk_drew ?_|refine blk_alloc ?_ _));exact BK276.out) Try.underlying68 rfl kR) rfl ?_;exact ⟨_,by first|rfl|(simp [errW_none,errW_some] <;> rfl)|(simp [*,errW_none,errW_some] <;> rfl),by (with_reducible repeat (first|apply Kd.R_alloc|apply Kd.R_drewN|apply Kd.R_drew));exact Kd.R_mono (Kd.R_far (p:=⟨gb276,1,none⟩) (Kd.R_far (p:=⟨gb276,0,none⟩) (Kd.R_types HO280.out BK276.out (by decide)) (fun _ hk=>hk.2) (.int .i64 t277)) (fun _ hk=>hk.2) (.slice Ao9 t278.length co9)) (fun _ hk=>trivial),by exact bw⟩


/-! ### impl_setOf: function 164 -/
def impl_setOf.l0:Nat → Int → List Int → Int → Option (List Int)
 | 0,_,_,_=>none
 | k + 1,x0,x3,x4=>if 0 ≤ x4 then (if (shr .i64 x0 x4) > 0 then (if (Go.bits .and .i64 (shr .i64 x0 x4) 1) = 1 then (if x3.length < 17592186044416 then (impl_setOf.l0 k x0 (x3 ++ [x4]) (wrap64 (x4 + 1))) else (none)) else (impl_setOf.l0 k x0 x3 (wrap64 (x4 + 1)))) else (some x3)) else (none)
def impl_setOf.f (k:Nat) (a0:Int):Option (List Int):=impl_setOf.l0 k a0 (([]:List Int)) 0
theorem impl_setOf.mono_l:∀ k,(∀ y0 y1 y2,LeO (impl_setOf.l0 k y0 y1 y2) (impl_setOf.l0 (k + 1) y0 y1 y2))
 | 0=>fun _ _ _ r h=>by simp [impl_setOf.l0] at h
 | k + 1=>by
  have ih0:=impl_setOf.mono_l k
  ·intro y0 y1 y2;unfold impl_setOf.l0
   repeat' with_reducible first|exact ih0 _ _ _|exact LeO.refl _|exact LeO.none _|refine LeO.ite ?_ ?_|refine LeO.bind ?_ (fun _=>?_)
theorem impl_setOf.mono:∀ a0 k,LeO (impl_setOf.f k a0) (impl_setOf.f (k + 1) a0):=by
 intro a0 k;have ih0:=impl_setOf.mono_l k;unfold impl_setOf.f
 repeat' with_reducible first|exact ih0 _ _ _|exact LeO.refl _|exact LeO.none _|refine LeO.ite ?_ ?_|refine LeO.bind ?_ (fun _=>?_)
set_option maxHeartbeats 8000000 in
set_option maxRecDepth 100000 in
theorem impl_setOf.calls (k:Nat) (a0:Int) (r:List Int) (w:World) (h:impl_setOf.f k a0 = some r) :
  Calls Try.prog 164 #[.int .i64 a0] w fun e w'=>∃ v0_:Value,e = .returned (v0_) ∧ Kd.R (Kd.int .i64) 3 w' w.heap.size (fun _=>True) v0_ r ∧ Below w.heap.size w w':=by
 have HB:=aM (Below.refl w.heap.size w);have H:(impl_setOf.l0 k a0 (([]:List Int)) 0) = some r:=h;clear h;obtain ⟨y480,hy480⟩:∃ y_:List Int,y_ = (([]:List Int)):=⟨_,rfl⟩;replace H:(impl_setOf.l0 k a0 y480 0) = some r:=by first|(rw [hy480];with_reducible exact H)|(have H2_:=(Option.bind_some _ _).symm.trans H;rw [hy480];with_reducible exact H2_)|(have H2_:=(Option.bind_some _ _).symm.trans H;with_reducible exact H2_)|with_reducible exact H|(rw [hy480];exact H)|exact H
 have Ny480:=aM hy480;clear hy480;have H':=aM H;clear H;go_enter Try.func164,Try.ntmps164;go_wp2_with (first|((with_reducible refine gate_dst (N:=5) rfl ?_);refine Kd.R_lit (Kd.int .i64) _ 3 ?hg (N:=5) ?hd (xs:=([]:List Int)) (inner:=[]) (ok:=fun _=>True) (okp:=fun _=>True) ?hr ?hp (fun _ hk=>hk) trivial (Below.refl _ _) (Nat.le_refl _) (by simp) ?_;(case hd=>rfl);(case hg=>rfl);(case hr=>first|(go_simp;done)|(go_simp;rfl));(case hp=>exact (Reps.none _ _));intro v481 w2 ho3 hb hg_ hnew_;clear hg_ hnew_;(first|rw [← Ny480.out] at ho3|(simp only [Int.reduceToNat] at ho3;rw [← Ny480.out] at ho3));have n0_:=aM (Kd.R_lower ho3 (below_size bw));have n1_:=aM (below_step bw hb);clear HB;have HO482:=n0_;have HB:=n1_;clear n0_ n1_;clear hb ho3))
 go_loopg [3,4] k (fun kq v3 v4 w'=>∃ (x3_1:List Int) (x4_1:Int),v4 = .int .i64 x4_1 ∧ Aside0 (impl_setOf.l0 kq a0 x3_1 x4_1 = some r) ∧ Aside0 (kq ≤ k) ∧ Aside0 (Kd.R (Kd.int .i64) 3 w' w.heap.size (fun _=>True) v3 x3_1) ∧ Aside0 (Below w.heap.size w w'))
 case atStart=>exact ⟨(y480),(0),qrs,H',⟨Nat.le_refl _⟩,⟨qra HO482.out⟩,⟨by exact bw⟩⟩
 case round =>
  clear H';(try clear c1);(try clear p2)
  obtain ⟨x3_1,x4_1,rfl,HA,HK1,HO_3,HB⟩:=hrel
  cases gk with
  | zero=>exact absurd HA.out (by simp [impl_setOf.l0])
  | succ k1 =>
   have H:=HA.out;clear HA;simp only [impl_setOf.l0] at H;by_cases c4:0 ≤ x4_1
   ·rw [if_pos c4] at H;have c4b0:=eq_true c4;have c4b1:decide (0 ≤ x4_1) = true:=decide_eq_true c4;clear c4;obtain ⟨ji5,hji5⟩:∃ j_:Int,(shr .i64 a0 x4_1) = j_:=⟨_,rfl⟩;replace H:(if (ji5) > 0 then (if (Go.bits .and .i64 (ji5) 1) = 1 then (if x3_1.length < 17592186044416 then (impl_setOf.l0 k1 a0 (x3_1 ++ [x4_1]) (wrap64 (x4_1 + 1))) else (none)) else (impl_setOf.l0 k1 a0 x3_1 (wrap64 (x4_1 + 1)))) else (some x3_1)) = some r:=by first|(rw [hji5] at H;exact H)|(simp only [hji5] at H ⊢;exact H)
    have hji5_:(a0 / 2 ^ min x4_1.toNat 64) = ji5:=hji5;have hji5z:x4_1 ≤ 64 → (a0 / 2 ^ x4_1.toNat) = ji5:=shr_small hji5;by_cases c6:(ji5) > 0
    ·rw [if_pos c6] at H;have c6b0:decide (0 < (ji5)) = true:=decide_eq_true c6;clear c6;have c7b0:=eq_true (of_decide_eq_true ab:0 ≤ x4_1);by_cases c8:(Go.bits .and .i64 (ji5) 1) = 1
     ·rw [if_pos c8] at H;have c8b0:((Go.bits .and .i64 (ji5) 1) == 1) = true:=beq_iff_eq.mpr c8;have c8b1:((Go.bits .and .i64 (ji5) 1) != 1) = false:=bne_eq_false_iff_eq.mpr c8;clear c8;by_cases c9:x3_1.length < 17592186044416
      ·rw [if_pos c9] at H;have LMc9:=aM c9;clear c9;obtain ⟨y483,hy483⟩:∃ y_:List Int,y_ = (x3_1 ++ [x4_1]):=⟨_,rfl⟩;replace H:(impl_setOf.l0 k1 a0 y483 (wrap64 (x4_1 + 1))) = some r:=by first|(rw [hy483];with_reducible exact H)|(have H2_:=(Option.bind_some _ _).symm.trans H;rw [hy483];with_reducible exact H2_)|(have H2_:=(Option.bind_some _ _).symm.trans H;with_reducible exact H2_)|with_reducible exact H|(rw [hy483];exact H)|exact H
       have Ny483:=aM hy483;clear hy483;have H':=aM H;clear H;go_wp2_with (first|((with_reducible refine gate_builtin (b:=.append) (xs:=#[.tmp 17,.tmp 19]) rfl ?_);at_builtin;refine Kd.R_append (Kd.int .i64) (w0:=w) w.heap.size rfl (.tmp 17) (.tmp 19) 40 3 (.int .i64 0) 8 rfl Try.underlying40 info3 rfl (by decide) (by omega) u3 x3_1 x4_1 [.int .i64 x4_1] (fun _=>True) (fun _=>False) rfl rfl ?aP (fun _ hk=>hk.elim) ?aF ?aO ?aB ?aS ?aL ?_;(case aP=>exact rfl);(case aB=>exact bw);(case aF=>exact (fun _ _=>trivial));(case aO=>exact (qra HO_3.out));(case aS=>exact (below_size bw));(case aL=>have:=LMc9.out;omega);intro v484 w10 ho hb hg hat;rw [← Ny483.out] at ho;have n0_:=aM (hb);have n1_:=aM (ho);clear HB;clear HO_3;have HB:=n0_;have HO485:=n1_;clear n0_ n1_;clear ho hb hg hat))
       go_roundg k1
       case measure=>have:=HK1.out;omega
       case rel=>exact ⟨(y483),(wrap64 (x4_1 + 1)),qrs,H',⟨by have:=HK1.out;omega⟩,⟨qra HO485.out⟩,⟨by exact bw⟩⟩
      ·rw [if_neg c9] at H;exact absurd H (by simp)
     ·rw [if_neg c8] at H;have c8b0:((Go.bits .and .i64 (ji5) 1) == 1) = false:=beq_eq_false_iff_ne.mpr c8;have c8b1:((Go.bits .and .i64 (ji5) 1) != 1) = true:=bne_iff_ne.mpr c8;have H':=aM H;clear H;go_wp2
      go_roundg k1
      case measure=>have:=HK1.out;omega
      case rel=>exact ⟨(x3_1),(wrap64 (x4_1 + 1)),qrs,H',⟨by have:=HK1.out;omega⟩,⟨qra HO_3.out⟩,⟨by exact bw⟩⟩
    ·rw [if_neg c6] at H;have c6b0:decide (0 < (ji5)) = false:=decide_eq_false c6;clear c6;obtain rfl:=Option.some.inj H;go_wp2
     go_ret
     exact ⟨_,by first|rfl|(simp [errW_none,errW_some] <;> rfl)|(simp only [← hji5];first|rfl|(simp [errW_none,errW_some] <;> rfl))|(simp [*,errW_none,errW_some] <;> rfl),by (with_reducible repeat (first|apply Kd.R_alloc|apply Kd.R_drewN|apply Kd.R_drew));exact HO_3.out,by exact bw⟩
   ·rw [if_neg c4] at H;exact absurd H (by simp)


/-! ### impl_votes_ordered_1: function 162 -/
def impl_votes_ordered_1.f (a0:Int):Option (Bool):=some true
set_option maxHeartbeats 8000000 in
set_option maxRecDepth 100000 in
theorem impl_votes_ordered_1.calls (a0:Int) (r:Bool) (w:World) (h:impl_votes_ordered_1.f a0 = some r) :
  Calls Try.prog 162 #[.int .i64 a0] w fun e w'=>e = .returned (.bool r) ∧ Drawn0 w w':=by
 have H:(some true) = some r:=h;clear h;obtain rfl:=Option.some.inj H;go_enter Try.func162,Try.ntmps162;go_wp2
 go_ret
 exact ⟨by first|rfl|(simp;done)|(simp [*];done),by repeat (first|exact Drawn0.refl _|apply Drawn0.step)⟩
theorem impl_votes_ordered_1.enters:∀ (args:Array Value) (w:World),(callFunc 162 args).run Try.prog w = .ok (.enter 162 args) w:=enters_of Try.func162 kR rfl


/-! ### slices_Index_int_int: function 163 -/
def slices_Index_int_int.l0:Nat → List Int → Int → Int → Int → Option (Int)
 | 0,_,_,_,_=>none
 | k + 1,x0,x1,x7,x8=>if x8 < x7 then (if 0 ≤ x8 then (if x8 < (x0.length:Int) then (if x1 = (rd x0 x8) then (some x8) else (slices_Index_int_int.l0 k x0 x1 x7 (wrap64 (x8 + 1)))) else (none)) else (none)) else (some (-1))
def slices_Index_int_int.f (k:Nat) (l0:List Int) (a1:Int):Option (Int):=slices_Index_int_int.l0 k l0 a1 (l0.length:Int) 0
theorem slices_Index_int_int.mono_l:∀ k,(∀ y0 y1 y2 y3,LeO (slices_Index_int_int.l0 k y0 y1 y2 y3) (slices_Index_int_int.l0 (k + 1) y0 y1 y2 y3))
 | 0=>fun _ _ _ _ r h=>by simp [slices_Index_int_int.l0] at h
 | k + 1=>by
  have ih0:=slices_Index_int_int.mono_l k
  ·intro y0 y1 y2 y3;unfold slices_Index_int_int.l0
   repeat' with_reducible first|exact ih0 _ _ _ _|exact LeO.refl _|exact LeO.none _|refine LeO.ite ?_ ?_|refine LeO.bind ?_ (fun _=>?_)
theorem slices_Index_int_int.mono:∀ a0 a1 k,LeO (slices_Index_int_int.f k a0 a1) (slices_Index_int_int.f (k + 1) a0 a1):=by
 intro a0 a1 k;have ih0:=slices_Index_int_int.mono_l k;unfold slices_Index_int_int.f
 repeat' with_reducible first|exact ih0 _ _ _ _|exact LeO.refl _|exact LeO.none _|refine LeO.ite ?_ ?_|refine LeO.bind ?_ (fun _=>?_)
set_option maxHeartbeats 8000000 in
set_option maxRecDepth 100000 in
theorem slices_Index_int_int.calls (k:Nat) (A0:Option Addr) (c0:Nat) (l0:List Int) (a1:Int) (r:Int) (w:World) (hr0:Kd.C (Kd.int .i64) w A0 l0.length l0) (hc0:l0.length ≤ c0) (h:slices_Index_int_int.f k l0 a1 = some r) :
  Calls Try.prog 163 #[.slice A0 l0.length c0,.int .i64 a1] w fun e w'=>e = .returned (.int .i64 r) ∧ Drawn0 w w':=by
 have HR0:=aM hr0;have HC0:=aM hc0;clear hr0 hc0;have H:(slices_Index_int_int.l0 k l0 a1 (l0.length:Int) 0) = some r:=h;clear h;have H':=aM H;clear H;go_enter Try.func163,Try.ntmps163;go_wp2
 go_loopg [8] k (fun kq v8 w'=>∃ (x8_1:Int),v8 = .int .i64 x8_1 ∧ Aside0 (slices_Index_int_int.l0 kq l0 a1 (l0.length:Int) x8_1 = some r) ∧ Aside0 (kq ≤ k) ∧ Drawn0 w w')
 case atStart=>exact ⟨(0),qrs,H',⟨Nat.le_refl _⟩,by repeat (first|exact Drawn0.refl _|apply Drawn0.step)⟩
 case round =>
  clear H';(try clear c1);(try clear p2)
  obtain ⟨x8_1,rfl,HA,HK1,⟨m1,rfl⟩⟩:=hrel
  cases gk with
  | zero=>exact absurd HA.out (by simp [slices_Index_int_int.l0])
  | succ k1 =>
   have H:=HA.out;clear HA;simp only [slices_Index_int_int.l0] at H;by_cases c3:x8_1 < (l0.length:Int)
   ·rw [if_pos c3] at H;have c3b0:decide (x8_1 < (l0.length:Int)) = true:=decide_eq_true c3;clear c3;by_cases c4:0 ≤ x8_1
    ·rw [if_pos c4] at H;have c4b0:decide (0 ≤ x8_1) = true:=decide_eq_true c4;clear c4;by_cases c5:x8_1 < (l0.length:Int)
     ·rw [if_pos c5] at H;have c5b0:decide (x8_1 < (l0.length:Int)) = true:=decide_eq_true c5;clear c5;by_cases c6:a1 = (rd l0 x8_1)
      ·rw [if_pos c6] at H;have c6b0:(a1 == (rd l0 x8_1)) = true:=beq_iff_eq.mpr c6;have c6b1:(a1 != (rd l0 x8_1)) = false:=bne_eq_false_iff_eq.mpr c6;clear c6;obtain rfl:=Option.some.inj H;have p605:0 ≤ (x8_1:Int):=of_decide_eq_true ab;have q605:x8_1 < (l0.length:Int):=of_decide_eq_true ab;obtain ⟨ad605,e605,hx605_0⟩:=Kd.at_int HR0.out x8_1 p605 q605;cases e605
       replace p605:=eq_true p605;replace q605:=eq_true q605;go_wp2
       go_ret
       exact ⟨by first|rfl|(simp;done)|(simp [*];done),by repeat (first|exact Drawn0.refl _|apply Drawn0.step)⟩
      ·rw [if_neg c6] at H;have c6b0:(a1 == (rd l0 x8_1)) = false:=beq_eq_false_iff_ne.mpr c6;have c6b1:(a1 != (rd l0 x8_1)) = true:=bne_iff_ne.mpr c6;have H':=aM H;clear H;have p605:0 ≤ (x8_1:Int):=of_decide_eq_true ab;have q605:x8_1 < (l0.length:Int):=of_decide_eq_true ab;obtain ⟨ad605,e605,hx605_0⟩:=Kd.at_int HR0.out x8_1 p605 q605;cases e605
       replace p605:=eq_true p605;replace q605:=eq_true q605;go_wp2
       go_roundg k1
       case measure=>have:=HK1.out;omega
       case rel=>exact ⟨(wrap64 (x8_1 + 1)),qrs,H',⟨by have:=HK1.out;omega⟩,by repeat (first|exact Drawn0.refl _|apply Drawn0.step)⟩
     ·rw [if_neg c5] at H;exact absurd H (by simp)
    ·rw [if_neg c4] at H;exact absurd H (by simp)
   ·rw [if_neg c3] at H;have c3b0:decide (x8_1 < (l0.length:Int)) = false:=decide_eq_false c3;clear c3;obtain rfl:=Option.some.inj H;go_wp2
    go_ret
    exact ⟨by first|rfl|(simp;done)|(simp [*];done),by repeat (first|exact Drawn0.refl _|apply Drawn0.step)⟩


/-! ### slices_Contains_int_int: function 141 -/
def slices_Contains_int_int.f (k:Nat) (l0:List Int) (a1:Int):Option (Bool):=(slices_Index_int_int.f k l0 a1).bind fun t606=>(some (decide (t606 ≥ 0)))
theorem slices_Contains_int_int.mono:∀ a0 a1 k,LeO (slices_Contains_int_int.f k a0 a1) (slices_Contains_int_int.f (k + 1) a0 a1):=by
 intro a0 a1 k;unfold slices_Contains_int_int.f
 repeat' with_reducible first|exact slices_Index_int_int.mono _ _ _|exact LeO.refl _|exact LeO.none _|refine LeO.ite ?_ ?_|refine LeO.bind ?_ (fun _=>?_)
set_option maxHeartbeats 8000000 in
set_option maxRecDepth 100000 in
theorem slices_Contains_int_int.calls (k:Nat) (A0:Option Addr) (c0:Nat) (l0:List Int) (a1:Int) (r:Bool) (w:World) (hr0:Kd.C (Kd.int .i64) w A0 l0.length l0) (hc0:l0.length ≤ c0) (h:slices_Contains_int_int.f k l0 a1 = some r) :
  Calls Try.prog 141 #[.slice A0 l0.length c0,.int .i64 a1] w fun e w'=>e = .returned (.bool r) ∧ Drawn0 w w':=by
 have HR0:=aM hr0;have HC0:=aM hc0;clear hr0 hc0;have H:((slices_Index_int_int.f k l0 a1).bind fun t606=>(some (decide (t606 ≥ 0)))) = some r:=h;clear h;replace H:=Option.bind_eq_some_iff.mp H;obtain ⟨t606,A30,H⟩:=H;replace H:(some (decide (t606 ≥ 0))) = some r:=H;have A3:=aM A30;clear A30;obtain rfl:=Option.some.inj H;go_enter Try.func141,Try.ntmps141;go_wp2_with (first|((with_reducible refine gate_callee (f:=163) rfl ?_);refine goesL_ (some 7) rfl rfl Try.func163 kR rfl #[.slice A0 l0.length c0,.int .i64 a1] rfl mq ?_;(with_reducible refine (slices_Index_int_int.calls k _ _ l0 a1 t606 _ ?side1 ?side2 A3.out).mono ?_);(case side1=>repeat (first|exact HR0.out|(with_reducible refine Kd.C_alloc ?_ _)|(with_reducible refine Kd.C_drewN ?_ _)|(with_reducible refine Kd.C_drew ?_)));(case side2=>exact HC0.out);rintro e w' ⟨rfl,⟨nd,rfl⟩⟩;refine ⟨_,rfl,?_⟩))
 go_ret
 exact ⟨by first|rfl|(simp;done)|(simp [*];done),by repeat (first|exact Drawn0.refl _|apply Drawn0.step)⟩


/-! ### impl_pairs: function 142 -/
def impl_pairs.l0:Nat → List Int → List Int → Int → Int → List (List Int) → List (List Int) → Option ((List (List Int)) × (List (List Int)))
 | 0,_,_,_,_,_,_=>none
 | k + 1,x0,x1,x9,x10,x609000,x609001=>if x10 < x9 then (if 0 ≤ x10 then (if x10 < (x0.length:Int) then ((impl_setOf.f k (rd x0 x10)).bind fun t610=>(if x609000.length < 5864062014805 then (if x10 < (x1.length:Int) then ((impl_setOf.f k (rd x1 x10)).bind fun t617=>(if x609001.length < 5864062014805 then (impl_pairs.l0 k x0 x1 x9 (wrap64 (x10 + 1)) (x609000 ++ [t610]) (x609001 ++ [t617])) else (none))) else (none)) else (none))) else (none)) else (none)) else (some (x609000,x609001))
def impl_pairs.f (k:Nat) (l0:List Int) (l1:List Int):Option ((List (List Int)) × (List (List Int))):=impl_pairs.l0 k l0 l1 (l0.length:Int) 0 ([]:List (List Int)) ([]:List (List Int))
theorem impl_pairs.mono_l:∀ k,(∀ y0 y1 y2 y3 y4 y5,LeO (impl_pairs.l0 k y0 y1 y2 y3 y4 y5) (impl_pairs.l0 (k + 1) y0 y1 y2 y3 y4 y5))
 | 0=>fun _ _ _ _ _ _ r h=>by simp [impl_pairs.l0] at h
 | k + 1=>by
  have ih0:=impl_pairs.mono_l k
  ·intro y0 y1 y2 y3 y4 y5;unfold impl_pairs.l0
   repeat' with_reducible first|exact ih0 _ _ _ _ _ _|exact impl_setOf.mono _ _|exact LeO.refl _|exact LeO.none _|refine LeO.ite ?_ ?_|refine LeO.bind ?_ (fun _=>?_)
theorem impl_pairs.mono:∀ a0 a1 k,LeO (impl_pairs.f k a0 a1) (impl_pairs.f (k + 1) a0 a1):=by
 intro a0 a1 k;have ih0:=impl_pairs.mono_l k;unfold impl_pairs.f
 repeat' with_reducible first|exact ih0 _ _ _ _ _ _|exact impl_setOf.mono _ _|exact LeO.refl _|exact LeO.none _|refine LeO.ite ?_ ?_|refine LeO.bind ?_ (fun _=>?_)
def impl_pairs.T5:Bool × List (List Nat × List Nat):=(true,[([],[]),([0],[0]),([],[]),([],[]),([2,3],[2,3]),([4],[4]),([5],[5]),([6],[6]),([1,7,6],[1,7]),([0,1,2,3,4,5,6,7,8],[]),([9,8,8,0,1,2,3,4,5,6,7,8],[8,9])])
def impl_pairs.B5:List Nat:=[0,1,0,0,12,28,60,124,255,511,1023]
theorem impl_pairs.tab5:rtab .any (opsOf Try.f142 5) = impl_pairs.T5:=by kernel_rfl
theorem impl_pairs.bits5:waitsOk impl_pairs.T5.2 impl_pairs.B5 = true:=by kernel_rfl
def impl_pairs.T6:Bool × List (List Nat × List Nat):=(true,[([],[]),([0],[0]),([],[]),([],[]),([2,3],[2,3]),([4],[4]),([5],[5]),([6],[6]),([1,7,6],[1,7]),([0,1,2,3,4,5,6,7,8],[]),([9,8,8,0,1,2,3,4,5,6,7,8],[8,9])])
def impl_pairs.B6:List Nat:=[0,1,0,0,12,28,60,124,255,511,1023]
theorem impl_pairs.tab6:rtab .any (opsOf Try.f142 6) = impl_pairs.T6:=by kernel_rfl
theorem impl_pairs.bits6:waitsOk impl_pairs.T6.2 impl_pairs.B6 = true:=by kernel_rfl
set_option maxHeartbeats 8000000 in
set_option maxRecDepth 100000 in
theorem impl_pairs.calls (k:Nat) (A0:Option Addr) (c0:Nat) (l0:List Int) (A1:Option Addr) (c1:Nat) (l1:List Int) (r1:List (List Int)) (r2:List (List Int)) (w:World) (hr0:Kd.C (Kd.int .i64) w A0 l0.length l0) (hc0:l0.length ≤ c0) (hr1:Kd.C (Kd.int .i64) w A1 l1.length l1) (hc1:l1.length ≤ c1) (h:impl_pairs.f k l0 l1 = some (r1,r2)) :
  Calls Try.prog 142 #[.slice A0 l0.length c0,.slice A1 l1.length c1] w fun e w'=>∃ v0_ v1_:Value,e = .returned (.agg #[v0_,v1_]) ∧ Kd.S (Kd.slice 3 (Kd.int .i64)) 40 w' w.heap.size (fun k_=>some k_ ≠ (v1_:Value).ownBlock) v0_ r1 ∧ Kd.S (Kd.slice 3 (Kd.int .i64)) 40 w' w.heap.size (fun k_=>some k_ ≠ (v0_:Value).ownBlock) v1_ r2 ∧ Below w.heap.size w w':=by
 have hu77:=Try.underlying77;have HR0:=aM hr0;have HC0:=aM hc0;clear hr0 hc0;have HR1:=aM hr1;have HC1:=aM hc1;clear hr1 hc1;have HB:=aM (Below.refl w.heap.size w);have H:(impl_pairs.l0 k l0 l1 (l0.length:Int) 0 ([]:List (List Int)) ([]:List (List Int))) = some (r1,r2):=h;clear h;have H':=aM H;clear H;go_enter Try.func142,Try.ntmps142;go_wp2_with (first|((with_reducible refine gate_dst (N:=4) rfl ?_);refine box_event ?hg (N:=4) ?hd (cs:=#[.slice none 0 0,.slice none 0 0]) (t:=77) ?hr ?_;(case hd=>rfl);(case hg=>rfl);(case hr=>first|(go_simp;done)|(go_simp;rfl));intro gb607 hg w3 hbox hb;have n0_:=aM (below_step bw hb);have n1_:=aM (hbox);have n2_:=aM ((by rw [hg];exact (below_size bw):w.heap.size ≤ gb607));have n3_:=aM ((by rw [hg];exact (below_size bw):w.heap.size ≤ gb607));clear HB;have HB:=n0_;have BK607:=n1_;have GW607:=n2_;have GE607:=n3_;clear n0_ n1_ n2_ n3_;clear hb hbox hg)|((with_reducible refine gate_dst (N:=5) rfl ?_);refine box_event ?hg (N:=5) ?hd (cs:=#[.slice none 0 0,.slice none 0 0]) (t:=77) ?hr ?_;(case hd=>rfl);(case hg=>rfl);(case hr=>first|(go_simp;done)|(go_simp;rfl));intro gb608 hg w4 hbox hb;have n0_:=aM (blk_below (g:=gb607) (o:=.cells #[.slice none 0 0,.slice none 0 0] 77 (0,0)) bk hb);have n1_:=aM (below_step bw hb);have n2_:=aM (hbox);have n3_:=aM ((by rw [hg];exact (below_size bw):w.heap.size ≤ gb608));have n4_:=aM ((by rw [hg];exact (below_size bw):w.heap.size ≤ gb608));have n5_:=aM ((by rw [hg];exact Nat.ne_of_lt (blk_lt (g:=gb607) (o:=.cells #[.slice none 0 0,.slice none 0 0] 77 (0,0)) bk):gb607 ≠ gb608));have n6_:=aM ((by rw [hg];exact Nat.ne_of_gt (blk_lt (g:=gb607) (o:=.cells #[.slice none 0 0,.slice none 0 0] 77 (0,0)) bk):gb608 ≠ gb607));clear BK607;clear HB;have BK607:=n0_;have HB:=n1_;have BK608:=n2_;have GW608:=n3_;have GE608:=n4_;have NB607_608:=n5_;have NB608_607:=n6_;clear n0_ n1_ n2_ n3_ n4_ n5_ n6_;clear hb hbox hg;have hnb5:=NB608_607.out;have hnc5:=NB607_608.out;have hcz6_0:w4.cell? ⟨gb608,0,none⟩ = some (.slice none 0 0):=(blk_cell BK608.out 0).trans rfl;have hcz6_1:w4.cell? ⟨gb608,1,none⟩ = some (.slice none 0 0):=(blk_cell BK608.out 1).trans rfl;have hfz6_0:=blk_frozen BK608.out 0;have hfz6_1:=blk_frozen BK608.out 1))
 go_loopg [10] k (fun kq v10 w'=>∃ (x10_1:Int) (x609000_1:List (List Int)) (x609001_1:List (List Int)) (u609000:Value) (u609001:Value),v10 = .int .i64 x10_1 ∧ Aside0 (impl_pairs.l0 kq l0 l1 (l0.length:Int) x10_1 x609000_1 x609001_1 = some (r1,r2)) ∧ Aside0 (kq ≤ k) ∧ Aside0 (Kd.S (Kd.slice 3 (Kd.int .i64)) 40 w' w.heap.size (fun k_=>some k_ ≠ (u609001:Value).ownBlock) u609000 x609000_1) ∧ Aside0 (Kd.S (Kd.slice 3 (Kd.int .i64)) 40 w' w.heap.size (fun k_=>some k_ ≠ (u609000:Value).ownBlock) u609001 x609001_1) ∧ Aside0 (w'.heap[gb607]? = some (.cells #[(.slice none 0 0),(.slice none 0 0)] 77 (0,0))) ∧ Aside0 (w'.heap[gb608]? = some (.cells #[u609000,u609001] 77 (0,0))) ∧ Aside0 (Below w.heap.size w w'))
 case atStart=>exact ⟨(0),(([]:List (List Int))),(([]:List (List Int))),(.slice none 0 0),(.slice none 0 0),qrs,H',⟨Nat.le_refl _⟩,⟨by first|exact Kd.S_nil _ _ _ _ _|exact Kd.N_nil _ _ _ _ _|exact Kd.V_nil _ _ _ _ _|exact Kd.Q_nil _ _ _ _ _|exact Kd.R_nil _ _ _ _ _⟩,⟨by first|exact Kd.S_nil _ _ _ _ _|exact Kd.N_nil _ _ _ _ _|exact Kd.V_nil _ _ _ _ _|exact Kd.Q_nil _ _ _ _ _|exact Kd.R_nil _ _ _ _ _⟩,⟨by (with_reducible repeat (first|refine blk_drewN ?_ _|refine blk_drew ?_|refine blk_alloc ?_ _));refine blk_far ?_ NB607_608.out _;(with_reducible repeat (first|refine blk_drewN ?_ _|refine blk_drew ?_|refine blk_alloc ?_ _));refine blk_far ?_ NB607_608.out _;(with_reducible repeat (first|refine blk_drewN ?_ _|refine blk_drew ?_|refine blk_alloc ?_ _));exact BK607.out⟩,⟨by (with_reducible repeat (first|refine blk_drewN ?_ _|refine blk_drew ?_|refine blk_alloc ?_ _));refine blk_put (cs:=#[.slice none 0 0,.slice none 0 0]) ?_ 1 _ rfl;(with_reducible repeat (first|refine blk_drewN ?_ _|refine blk_drew ?_|refine blk_alloc ?_ _));refine blk_put (cs:=#[.slice none 0 0,.slice none 0 0]) ?_ 0 _ rfl;(with_reducible repeat (first|refine blk_drewN ?_ _|refine blk_drew ?_|refine blk_alloc ?_ _));exact BK608.out⟩,⟨by exact bw⟩⟩
 case round =>
  clear H';(try clear c1);(try clear p2);(try clear c5);(try clear hcz6_0);(try clear hcz6_1);(try clear hfz6_0);(try clear hfz6_1)
  obtain ⟨x10_1,x609000_1,x609001_1,u609000,u609001,rfl,HA,HK1,HO_609000,HO_609001,BK607,BK608,HB⟩:=hrel
  cases gk with
  | zero=>exact absurd HA.out (by simp [impl_pairs.l0])
  | succ k1 =>
   have H:=HA.out;clear HA;simp only [impl_pairs.l0] at H;by_cases c7:x10_1 < (l0.length:Int)
   ·rw [if_pos c7] at H;have c7b0:decide (x10_1 < (l0.length:Int)) = true:=decide_eq_true c7;clear c7;by_cases c8:0 ≤ x10_1
    ·rw [if_pos c8] at H;have c8b0:decide (0 ≤ x10_1) = true:=decide_eq_true c8;clear c8;by_cases c9:x10_1 < (l0.length:Int)
     ·rw [if_pos c9] at H;have c9b0:decide (x10_1 < (l0.length:Int)) = true:=decide_eq_true c9;clear c9;replace H:=Option.bind_eq_some_iff.mp H;obtain ⟨t610,A100,H⟩:=H;replace H:(if x609000_1.length < 5864062014805 then (if x10_1 < (l1.length:Int) then ((impl_setOf.f k1 (rd l1 x10_1)).bind fun t617=>(if x609001_1.length < 5864062014805 then (impl_pairs.l0 k1 l0 l1 (l0.length:Int) (wrap64 (x10_1 + 1)) (x609000_1 ++ [t610]) (x609001_1 ++ [t617])) else (none))) else (none)) else (none)) = some (r1,r2):=H;have A10:=aM A100;clear A100;by_cases c11:x609000_1.length < 5864062014805
      ·rw [if_pos c11] at H;have LMc11:=aM c11;clear c11;obtain ⟨y613,hy613⟩:∃ y_:List (List Int),y_ = (x609000_1 ++ [t610]):=⟨_,rfl⟩;replace H:(if x10_1 < (l1.length:Int) then ((impl_setOf.f k1 (rd l1 x10_1)).bind fun t617=>(if x609001_1.length < 5864062014805 then (impl_pairs.l0 k1 l0 l1 (l0.length:Int) (wrap64 (x10_1 + 1)) y613 (x609001_1 ++ [t617])) else (none))) else (none)) = some (r1,r2):=by first|(rw [hy613];with_reducible exact H)|(have H2_:=(Option.bind_some _ _).symm.trans H;rw [hy613];with_reducible exact H2_)|(have H2_:=(Option.bind_some _ _).symm.trans H;with_reducible exact H2_)|with_reducible exact H|(rw [hy613];exact H)|exact H
       have Ny613:=aM hy613;clear hy613;by_cases c12:x10_1 < (l1.length:Int)
       ·rw [if_pos c12] at H;have c12b0:decide (x10_1 < (l1.length:Int)) = true:=decide_eq_true c12;clear c12;replace H:=Option.bind_eq_some_iff.mp H;obtain ⟨t617,A130,H⟩:=H;replace H:(if x609001_1.length < 5864062014805 then (impl_pairs.l0 k1 l0 l1 (l0.length:Int) (wrap64 (x10_1 + 1)) y613 (x609001_1 ++ [t617])) else (none)) = some (r1,r2):=H;have A13:=aM A130;clear A130;by_cases c14:x609001_1.length < 5864062014805
        ·rw [if_pos c14] at H;have LMc14:=aM c14;clear c14;obtain ⟨y620,hy620⟩:∃ y_:List (List Int),y_ = (x609001_1 ++ [t617]):=⟨_,rfl⟩;replace H:(impl_pairs.l0 k1 l0 l1 (l0.length:Int) (wrap64 (x10_1 + 1)) y613 y620) = some (r1,r2):=by first|(rw [hy620];with_reducible exact H)|(have H2_:=(Option.bind_some _ _).symm.trans H;rw [hy620];with_reducible exact H2_)|(have H2_:=(Option.bind_some _ _).symm.trans H;with_reducible exact H2_)|with_reducible exact H|(rw [hy620];exact H)|exact H
         have Ny620:=aM hy620;clear hy620;have H':=aM H;clear H
         try go_wp2
         have n0_:=aM (Kd.S_drew HO_609000.out);have n1_:=aM (Kd.S_drew HO_609001.out);have n2_:=aM (blk_drew BK607.out);have n3_:=aM (blk_drew BK608.out);have n4_:=aM (below_drew1 HB.out);clear HO_609000;clear HO_609001;clear BK607;clear BK608;clear HB;have HO_609000:=n0_;have HO_609001:=n1_;have BK607:=n2_;have BK608:=n3_;have HB:=n4_;clear n0_ n1_ n2_ n3_ n4_;have p609:0 ≤ (x10_1:Int):=of_decide_eq_true ab;have q609:x10_1 < (l0.length:Int):=of_decide_eq_true ab;obtain ⟨ad609,e609,hx609_0⟩:=Kd.at_int HR0.out x10_1 p609 q609;have hw609_0:=hx609_0;cases e609
         replace hx609_0:=(HB.out.cell (World.block_lt_of_cell? w _ hx609_0)).trans hx609_0;replace p609:=eq_true p609;replace q609:=eq_true q609;refine start_ (n:=11) (S:=fun w'=>w'.cell? ⟨gb608,0,none⟩ = some (u609000) ∧ w'.cell? ⟨gb608,1,none⟩ = some (u609001) ∧ w'.cell? (ad609.add (x10_1).toNat) = some (.int .i64 (rd l0 x10_1))) (ds:=[10]) (mA 11 0) kR rfl rfl ⟨(blk_cell BK608.out 0).trans rfl,(blk_cell BK608.out 1).trans rfl,((HB.out.cell (World.block_lt_of_cell? w _ hw609_0)).trans hw609_0)⟩ (fun hHeld=>?_);refine with_tabW impl_pairs.tab5 impl_pairs.bits5 (fun HT_ HW_=>?_)
         generalize wr.drew = w15 at HO_609000 HO_609001 BK607 BK608 HB hx609_0 hHeld ⊢
         refine pure_ (i:=0) (N:=some 13) (v:=?_) (a':=?_) (mA 11 1) rfl rfl (any_of HT_.out kR) (fun _ _ _ h=>h) (Or.inl ⟨by rfl,?_⟩) ?_ ?_;rotate_left
         ·intro w';go_simp
          with_reducible rfl
         rotate_left
         ·simp only [Act.put,sA,sZ,sS,i64_w,i32_w];rfl
         refine pure_ (i:=2) (N:=some 15) (v:=?_) (a':=?_) (mA 11 5) rfl rfl (any_of HT_.out kR) (fun _ _ _ h=>h) (Or.inl ⟨by rfl,?_⟩) ?_ ?_;rotate_left
         ·intro w';go_simp
          with_reducible rfl
         rotate_left
         ·simp only [Act.put,sA,sZ,sS,i64_w,i32_w];rfl
         refine pure_ (i:=3) (N:=some 16) (v:=?_) (a':=?_) (mA 11 13) rfl rfl (any_of HT_.out kR) (fun _ _ _ h=>h) (Or.inl ⟨by rfl,?_⟩) ?_ ?_;rotate_left
         ·intro w';go_simp
          with_reducible rfl
         rotate_left
         ·simp only [Act.put,sA,sZ,sS,i64_w,i32_w];rfl
         refine pure_ (i:=4) (N:=some 17) (v:=?_) (a':=?_) (mA 11 29) rfl rfl (any_of HT_.out kR) (fun _ _ _ h=>h) (Or.inl ⟨by rfl,?_⟩) ?_ ?_;rotate_left
         ·intro w';go_simp
          with_reducible rfl
         rotate_left
         ·simp only [Act.put,sA,sZ,sS,i64_w,i32_w];rfl
         refine take_ (i:=1) (N:=some 14) (v:=?_) (a':=?_) (mA 11 31) rfl rfl (take_ofW HT_.out HW_.out kR) (fun _ _ _ h=>h) (Or.inl ⟨by rfl,?_⟩) hHeld ?_ ?_;rotate_left
         ·rintro w' ⟨s0,s1,s2⟩
          go_simp
          with_reducible rfl
         rotate_left
         ·simp only [Act.put,sA,sZ,sS,i64_w,i32_w];rfl
         refine take_ (i:=5) (N:=some 18) (v:=?_) (a':=?_) (mA 11 63) rfl rfl (take_ofW HT_.out HW_.out kR) (fun _ _ _ h=>h) (Or.inl ⟨by rfl,?_⟩) hHeld ?_ ?_;rotate_left
         ·rintro w' ⟨s0,s1,s2⟩
          go_simp
          with_reducible rfl
         rotate_left
         ·simp only [Act.put,sA,sZ,sS,i64_w,i32_w];rfl
         refine one_ (i:=6) (N:=some 19) (mA 11 127) rfl rfl (one_of HT_.out kR) (by decide) (fun K hK=>?_);refine goes_ Try.func164 kR rfl #[.int .i64 (rd l0 x10_1)] (by rfl) rfl rfl mq ?_
         with_reducible refine (impl_setOf.calls k1 (rd l0 x10_1) t610 _ A10.out).mono ?_
         rintro e w16 ⟨v611,rfl,ho0,hb⟩
         refine ⟨_,rfl,?_⟩;have n0_:=aM (Kd.S_elder' (qsa HO_609000.out) (Kd.R_base ho0) hb);have n1_:=aM (Kd.S_elder' (qsa HO_609001.out) (Kd.R_base ho0) hb);have n2_:=aM (Kd.R_lower ho0 (below_size bw));have n3_:=aM (blk_below (g:=gb607) (o:=.cells #[.slice none 0 0,.slice none 0 0] 77 (0,0)) bk hb);have n4_:=aM (blk_below (g:=gb608) (o:=.cells #[u609000,u609001] 77 (0,0)) bk hb);have n5_:=aM (below_step bw hb);clear HO_609000;clear HO_609001;clear BK607;clear BK608;clear HB;have HO_609000:=n0_;have HO_609001:=n1_;have HO612:=n2_;have BK607:=n3_;have BK608:=n4_;have HB:=n5_;clear n0_ n1_ n2_ n3_ n4_ n5_;(try clear hb)
         (try clear hb2)
         (try clear hk)
         (try clear hi)
         (try clear ho0)
         obtain ⟨Ao18,co18,eo18⟩:=Kd.R_slice HO612.out;(first|subst eo18|(injection eo18 with f1_ f2_ f3_;have f4_:=f1_.symm;have f5_:=f3_.symm;clear f1_ f2_ f3_;subst f4_;subst f5_))
         refine hK.out _ _ ⟨(blk_cell BK608.out 0).trans rfl,(blk_cell BK608.out 1).trans rfl,((HB.out.cell (World.block_lt_of_cell? w _ hw609_0)).trans hw609_0)⟩ (fun hHeld=>?_);clear hK K;refine norm_ (a':=?_) ?_ ?_;rotate_left
         ·show Act.put _ (some 19) _ = _;simp only [Act.put,sA,sZ,sS,i64_w,i32_w];rfl
         refine one_ (i:=7) (N:=some 20) (mA 11 255) rfl rfl (one_of HT_.out kR) (by decide) (fun K hK=>?_);refine value_ (w1:=?_) (v:=?_) (by rfl) rfl ?_ ?_;rotate_left 2
         ·go_simp
          constructor
          ·rfl
          ·rfl
         refine hK.out _ _ ⟨(blk_cell (blk_alloc BK608.out _) 0).trans rfl,(blk_cell (blk_alloc BK608.out _) 1).trans rfl,(World.cell?_alloc_lt _ _ _ (World.block_lt_of_cell? _ _ (((HB.out.cell (World.block_lt_of_cell? w _ hw609_0)).trans hw609_0)))).trans (((HB.out.cell (World.block_lt_of_cell? w _ hw609_0)).trans hw609_0))⟩ (fun hHeld=>?_);clear hK K;refine norm_ (a':=?_) ?_ ?_;rotate_left
         ·show Act.put _ (some 20) _ = _;simp only [Act.put,sA,sZ,sS,i64_w,i32_w];rfl
         refine one_ (i:=8) (N:=some 21) (mA 11 511) rfl rfl (one_of HT_.out kR) (by decide) (fun K hK=>?_);refine Kd.S_append_step (Kd.slice 3 (Kd.int .i64)) (w0:=w) w.heap.size (by rfl) (.tmp 14) (.tmp 20) 22 40 (.slice none 0 0) 24 rfl Try.underlying22 info40 rfl (by decide) (by omega) u609000 x609000_1 t610 [.slice Ao18 t610.length co18] (fun k_=>some k_ ≠ (u609001:Value).ownBlock) (fun k_=>some k_ = (.slice Ao18 t610.length co18:Value).ownBlock) rfl rfl ?aP (fun k_ hk_=>((Kd.R_mono (ok':=fun k_=>((fun k_=>some k_ ≠ (u609001:Value).ownBlock)) k_ ∧ some k_ ≠ (u609000:Value).ownBlock) (Kd.R_apart' (Kd.R_apart' (HO612.out) (Kd.S_typed HO_609001.out) (by decide)) (Kd.S_typed HO_609000.out) (by decide)) (fun k_ hk=>⟨hk.1.2,hk.2⟩))).1 k_ hk_.symm) ?aF ?aO ?aB ?aS ?aL ?_;(case aP=>exact Kd.M_row (Kd.R_mono (Kd.R_tight rfl (Kd.R_mono (ok':=fun k_=>((fun k_=>some k_ ≠ (u609001:Value).ownBlock)) k_ ∧ some k_ ≠ (u609000:Value).ownBlock) (Kd.R_apart' (Kd.R_apart' (HO612.out) (Kd.S_typed HO_609001.out) (by decide)) (Kd.S_typed HO_609000.out) (by decide)) (fun k_ hk=>⟨hk.1.2,hk.2⟩))) (fun _ h_=>h_)))
         (case aB=>exact bw)
         (case aF=>exact (fun k_ hk=>Kd.fresh' (Kd.S_lt (qsa HO_609001.out)) k_ hk))
         (case aO=>exact (by (with_reducible repeat (first|apply Kd.S_alloc|apply Kd.S_drewN|apply Kd.S_drew));exact Kd.S_mono HO_609000.out (fun k_ hk=>⟨hk.1,fun e_=>hk.2 e_⟩)))
         (case aS=>exact (below_size bw))
         (case aL=>have:=LMc11.out;omega)
         intro v614 w17 ho hb hg hat;rw [← Ny613.out] at ho;have n0_:=aM (Kd.S_after (ok:=(fun k_=>some k_ ≠ (.slice Ao18 t610.length co18:Value).ownBlock)) (by (with_reducible repeat (first|apply Kd.S_alloc|apply Kd.S_drewN|apply Kd.S_drew));exact Kd.S_mono HO_609001.out (fun _ hk=>⟨hk.2,hk.1⟩)) hg hat);have n1_:=aM (blk_grown (g:=gb607) (o:=.cells #[.slice none 0 0,.slice none 0 0] 77 (0,0)) bk hg (Kd.S_ne HO_609000.out BK607.out (by decide)));have n2_:=aM (blk_grown (g:=gb608) (o:=.cells #[u609000,u609001] 77 (0,0)) bk hg (Kd.S_ne HO_609000.out BK608.out (by decide)));have n3_:=aM (hb);have n4_:=aM (ho);clear HO_609001;clear BK607;clear BK608;clear HB;clear HO_609000;clear HO612;have HO_609001:=n0_;have BK607:=n1_;have BK608:=n2_;have HB:=n3_;have HO615:=n4_;clear n0_ n1_ n2_ n3_ n4_;clear ho hb hg hat;obtain ⟨Ao19,co19,eo19⟩:=Kd.S_slice HO615.out;(first|subst eo19|(injection eo19 with f1_ f2_ f3_;have f4_:=f1_.symm;have f5_:=f3_.symm;clear f1_ f2_ f3_;subst f4_;subst f5_))
         refine hK.out _ _ ⟨(blk_cell BK608.out 0).trans rfl,(blk_cell BK608.out 1).trans rfl,((HB.out.cell (World.block_lt_of_cell? w _ hw609_0)).trans hw609_0)⟩ (fun hHeld=>?_);clear hK K;refine norm_ (a':=?_) ?_ ?_;rotate_left
         ·show Act.put _ (some 21) _ = _;simp only [Act.put,sA,sZ,sS,i64_w,i32_w];rfl
         refine pure_ (i:=9) (N:=some 22) (v:=?_) (a':=?_) (mA 11 1023) rfl rfl (any_of HT_.out kR) (fun _ _ _ h=>h) (Or.inl ⟨by rfl,?_⟩) ?_ ?_;rotate_left
         ·intro w';go_simp
          with_reducible rfl
         rotate_left
         ·simp only [Act.put,sA,sZ,sS,i64_w,i32_w];rfl
         refine last_ (i:=10) (N:=none) (mA 11 2047) rfl rfl (one_of HT_.out kR) (by decide) (fun K hK=>?_);have hs20:w17.cell? ⟨gb608,0,none⟩ = some (u609000):=(blk_cell BK608.out 0).trans rfl;have hfs20:=blk_frozen BK608.out 0;have hns20_0:=NB607_608.out;have hms20_0:=NB608_607.out;refine skip_ (w1:=?_) (by rfl) rfl ?_ ?_;rotate_left
         ·go_simp
          rfl
         refine hK.out _ _ ?_;clear hK K;refine done_ (done_of HT_.out kR) ?_
         try go_wp2
         have n0_:Aside0 (Kd.S (Kd.slice 3 (Kd.int .i64)) 40 (w17.setCell ⟨gb608,0,none⟩ (.slice Ao19 y613.length co19)) w.heap.size (fun k_=>some k_ ≠ (.slice Ao19 y613.length co19:Value).ownBlock) u609001 x609001_1):=⟨by (with_reducible repeat (first|apply Kd.S_alloc|apply Kd.S_drewN|apply Kd.S_drew));exact Kd.S_mono (Kd.S_far (p:=⟨gb608,0,none⟩) (Kd.S_types HO_609001.out BK608.out (by decide)) (fun _ hk=>hk.2) (.slice Ao19 y613.length co19)) (fun _ hk=>hk.1.2)⟩;have n1_:Aside0 (Kd.S (Kd.slice 3 (Kd.int .i64)) 40 (w17.setCell ⟨gb608,0,none⟩ (.slice Ao19 y613.length co19)) w.heap.size (fun k_=>some k_ ≠ (u609001:Value).ownBlock) (.slice Ao19 y613.length co19) y613):=⟨by (with_reducible repeat (first|apply Kd.S_alloc|apply Kd.S_drewN|apply Kd.S_drew));exact Kd.S_mono (Kd.S_far (p:=⟨gb608,0,none⟩) (Kd.S_types HO615.out BK608.out (by decide)) (fun _ hk=>hk.2) (.slice Ao19 y613.length co19)) (fun _ hk=>hk.1)⟩;have n2_:Aside0 ((w17.setCell ⟨gb608,0,none⟩ (.slice Ao19 y613.length co19)).heap[gb607]? = some (.cells #[.slice none 0 0,.slice none 0 0] 77 (0,0))):=⟨by (with_reducible repeat (first|refine blk_drewN ?_ _|refine blk_drew ?_|refine blk_alloc ?_ _));refine blk_far ?_ NB607_608.out _;(with_reducible repeat (first|refine blk_drewN ?_ _|refine blk_drew ?_|refine blk_alloc ?_ _));exact BK607.out⟩;have n3_:Aside0 ((w17.setCell ⟨gb608,0,none⟩ (.slice Ao19 y613.length co19)).heap[gb608]? = some (.cells #[.slice Ao19 y613.length co19,u609001] 77 (0,0))):=⟨by (with_reducible repeat (first|refine blk_drewN ?_ _|refine blk_drew ?_|refine blk_alloc ?_ _));refine blk_put (cs:=#[u609000,u609001]) ?_ 0 _ rfl;(with_reducible repeat (first|refine blk_drewN ?_ _|refine blk_drew ?_|refine blk_alloc ?_ _));exact BK608.out⟩;have n4_:Aside0 (Below w.heap.size w (w17.setCell ⟨gb608,0,none⟩ (.slice Ao19 y613.length co19))):=⟨by exact bw⟩;(try clear HO_609001)
         (try clear HO615)
         (try clear BK607)
         (try clear BK608)
         (try clear HB)
         generalize (w17.setCell ⟨gb608,0,none⟩ (.slice Ao19 y613.length co19)) = w21 at n0_ n1_ n2_ n3_ n4_ ⊢
         have HO_609001:=n0_;have HO615:=n1_;have BK607:=n2_;have BK608:=n3_;have HB:=n4_;clear n0_ n1_ n2_ n3_ n4_;have n0_:=aM (Kd.S_drew HO_609001.out);have n1_:=aM (Kd.S_drew HO615.out);have n2_:=aM (blk_drew BK607.out);have n3_:=aM (blk_drew BK608.out);have n4_:=aM (below_drew1 HB.out);clear HO_609001;clear HO615;clear BK607;clear BK608;clear HB;have HO_609001:=n0_;have HO615:=n1_;have BK607:=n2_;have BK608:=n3_;have HB:=n4_;clear n0_ n1_ n2_ n3_ n4_;have p616:0 ≤ (x10_1:Int):=of_decide_eq_true ab;have q616:x10_1 < (l1.length:Int):=of_decide_eq_true ab;obtain ⟨ad616,e616,hx616_0⟩:=Kd.at_int HR1.out x10_1 p616 q616;have hw616_0:=hx616_0;cases e616
         replace hx616_0:=(HB.out.cell (World.block_lt_of_cell? w _ hx616_0)).trans hx616_0;replace p616:=eq_true p616;replace q616:=eq_true q616;refine start_ (n:=11) (S:=fun w'=>w'.cell? ⟨gb608,0,none⟩ = some (.slice Ao19 y613.length co19) ∧ w'.cell? ⟨gb608,1,none⟩ = some (u609001) ∧ w'.cell? (ad616.add (x10_1).toNat) = some (.int .i64 (rd l1 x10_1))) (ds:=[10]) (mA 11 0) kR rfl rfl ⟨(blk_cell BK608.out 0).trans rfl,(blk_cell BK608.out 1).trans rfl,((HB.out.cell (World.block_lt_of_cell? w _ hw616_0)).trans hw616_0)⟩ (fun hHeld=>?_);refine with_tabW impl_pairs.tab6 impl_pairs.bits6 (fun HT_ HW_=>?_)
         generalize w21.drew = w22 at HO_609001 HO615 BK607 BK608 HB hx616_0 hHeld ⊢
         refine pure_ (i:=0) (N:=some 23) (v:=?_) (a':=?_) (mA 11 1) rfl rfl (any_of HT_.out kR) (fun _ _ _ h=>h) (Or.inl ⟨by rfl,?_⟩) ?_ ?_;rotate_left
         ·intro w';go_simp
          with_reducible rfl
         rotate_left
         ·simp only [Act.put,sA,sZ,sS,i64_w,i32_w];rfl
         refine pure_ (i:=2) (N:=some 25) (v:=?_) (a':=?_) (mA 11 5) rfl rfl (any_of HT_.out kR) (fun _ _ _ h=>h) (Or.inl ⟨by rfl,?_⟩) ?_ ?_;rotate_left
         ·intro w';go_simp
          with_reducible rfl
         rotate_left
         ·simp only [Act.put,sA,sZ,sS,i64_w,i32_w];rfl
         refine pure_ (i:=3) (N:=some 26) (v:=?_) (a':=?_) (mA 11 13) rfl rfl (any_of HT_.out kR) (fun _ _ _ h=>h) (Or.inl ⟨by rfl,?_⟩) ?_ ?_;rotate_left
         ·intro w';go_simp
          with_reducible rfl
         rotate_left
         ·simp only [Act.put,sA,sZ,sS,i64_w,i32_w];rfl
         refine pure_ (i:=4) (N:=some 27) (v:=?_) (a':=?_) (mA 11 29) rfl rfl (any_of HT_.out kR) (fun _ _ _ h=>h) (Or.inl ⟨by rfl,?_⟩) ?_ ?_;rotate_left
         ·intro w';go_simp
          with_reducible rfl
         rotate_left
         ·simp only [Act.put,sA,sZ,sS,i64_w,i32_w];rfl
         refine take_ (i:=1) (N:=some 24) (v:=?_) (a':=?_) (mA 11 31) rfl rfl (take_ofW HT_.out HW_.out kR) (fun _ _ _ h=>h) (Or.inl ⟨by rfl,?_⟩) hHeld ?_ ?_;rotate_left
         ·rintro w' ⟨s0,s1,s2⟩
          go_simp
          with_reducible rfl
         rotate_left
         ·simp only [Act.put,sA,sZ,sS,i64_w,i32_w];rfl
         refine take_ (i:=5) (N:=some 28) (v:=?_) (a':=?_) (mA 11 63) rfl rfl (take_ofW HT_.out HW_.out kR) (fun _ _ _ h=>h) (Or.inl ⟨by rfl,?_⟩) hHeld ?_ ?_;rotate_left
         ·rintro w' ⟨s0,s1,s2⟩
          go_simp
          with_reducible rfl
         rotate_left
         ·simp only [Act.put,sA,sZ,sS,i64_w,i32_w];rfl
         refine one_ (i:=6) (N:=some 29) (mA 11 127) rfl rfl (one_of HT_.out kR) (by decide) (fun K hK=>?_);refine goes_ Try.func164 kR rfl #[.int .i64 (rd l1 x10_1)] (by rfl) rfl rfl mq ?_
         with_reducible refine (impl_setOf.calls k1 (rd l1 x10_1) t617 _ A13.out).mono ?_
         rintro e w23 ⟨v618,rfl,ho0,hb⟩
         refine ⟨_,rfl,?_⟩;have n0_:=aM (Kd.S_elder' (qsa HO_609001.out) (Kd.R_base ho0) hb);have n1_:=aM (Kd.S_elder' (qsa HO615.out) (Kd.R_base ho0) hb);have n2_:=aM (Kd.R_lower ho0 (below_size bw));have n3_:=aM (blk_below (g:=gb607) (o:=.cells #[.slice none 0 0,.slice none 0 0] 77 (0,0)) bk hb);have n4_:=aM (blk_below (g:=gb608) (o:=.cells #[.slice Ao19 y613.length co19,u609001] 77 (0,0)) bk hb);have n5_:=aM (below_step bw hb);clear HO_609001;clear HO615;clear BK607;clear BK608;clear HB;have HO_609001:=n0_;have HO615:=n1_;have HO619:=n2_;have BK607:=n3_;have BK608:=n4_;have HB:=n5_;clear n0_ n1_ n2_ n3_ n4_ n5_;(try clear hb)
         (try clear hb2)
         (try clear hk)
         (try clear hi)
         (try clear ho0)
         obtain ⟨Ao25,co25,eo25⟩:=Kd.R_slice HO619.out;(first|subst eo25|(injection eo25 with f1_ f2_ f3_;have f4_:=f1_.symm;have f5_:=f3_.symm;clear f1_ f2_ f3_;subst f4_;subst f5_))
         refine hK.out _ _ ⟨(blk_cell BK608.out 0).trans rfl,(blk_cell BK608.out 1).trans rfl,((HB.out.cell (World.block_lt_of_cell? w _ hw616_0)).trans hw616_0)⟩ (fun hHeld=>?_);clear hK K;refine norm_ (a':=?_) ?_ ?_;rotate_left
         ·show Act.put _ (some 29) _ = _;simp only [Act.put,sA,sZ,sS,i64_w,i32_w];rfl
         refine one_ (i:=7) (N:=some 30) (mA 11 255) rfl rfl (one_of HT_.out kR) (by decide) (fun K hK=>?_);refine value_ (w1:=?_) (v:=?_) (by rfl) rfl ?_ ?_;rotate_left 2
         ·go_simp
          constructor
          ·rfl
          ·rfl
         refine hK.out _ _ ⟨(blk_cell (blk_alloc BK608.out _) 0).trans rfl,(blk_cell (blk_alloc BK608.out _) 1).trans rfl,(World.cell?_alloc_lt _ _ _ (World.block_lt_of_cell? _ _ (((HB.out.cell (World.block_lt_of_cell? w _ hw616_0)).trans hw616_0)))).trans (((HB.out.cell (World.block_lt_of_cell? w _ hw616_0)).trans hw616_0))⟩ (fun hHeld=>?_);clear hK K;refine norm_ (a':=?_) ?_ ?_;rotate_left
         ·show Act.put _ (some 30) _ = _;simp only [Act.put,sA,sZ,sS,i64_w,i32_w];rfl
         refine one_ (i:=8) (N:=some 31) (mA 11 511) rfl rfl (one_of HT_.out kR) (by decide) (fun K hK=>?_);refine Kd.S_append_step (Kd.slice 3 (Kd.int .i64)) (w0:=w) w.heap.size (by rfl) (.tmp 24) (.tmp 30) 22 40 (.slice none 0 0) 24 rfl Try.underlying22 info40 rfl (by decide) (by omega) u609001 x609001_1 t617 [.slice Ao25 t617.length co25] (fun k_=>some k_ ≠ (.slice Ao19 y613.length co19:Value).ownBlock) (fun k_=>some k_ = (.slice Ao25 t617.length co25:Value).ownBlock) rfl rfl ?aP (fun k_ hk_=>((Kd.R_mono (ok':=fun k_=>((fun k_=>some k_ ≠ (.slice Ao19 y613.length co19:Value).ownBlock)) k_ ∧ some k_ ≠ (u609001:Value).ownBlock) (Kd.R_apart' (Kd.R_apart' (HO619.out) (Kd.S_typed HO615.out) (by decide)) (Kd.S_typed HO_609001.out) (by decide)) (fun k_ hk=>⟨hk.1.2,hk.2⟩))).1 k_ hk_.symm) ?aF ?aO ?aB ?aS ?aL ?_;(case aP=>exact Kd.M_row (Kd.R_mono (Kd.R_tight rfl (Kd.R_mono (ok':=fun k_=>((fun k_=>some k_ ≠ (.slice Ao19 y613.length co19:Value).ownBlock)) k_ ∧ some k_ ≠ (u609001:Value).ownBlock) (Kd.R_apart' (Kd.R_apart' (HO619.out) (Kd.S_typed HO615.out) (by decide)) (Kd.S_typed HO_609001.out) (by decide)) (fun k_ hk=>⟨hk.1.2,hk.2⟩))) (fun _ h_=>h_)))
         (case aB=>exact bw)
         (case aF=>exact (fun k_ hk=>Kd.fresh' (Kd.S_lt (qsa HO615.out)) k_ hk))
         (case aO=>exact (by (with_reducible repeat (first|apply Kd.S_alloc|apply Kd.S_drewN|apply Kd.S_drew));exact Kd.S_mono HO_609001.out (fun k_ hk=>⟨hk.1,fun e_=>hk.2 e_⟩)))
         (case aS=>exact (below_size bw))
         (case aL=>have:=LMc14.out;omega)
         intro v621 w24 ho hb hg hat;rw [← Ny620.out] at ho;have n0_:=aM (blk_grown (g:=gb607) (o:=.cells #[.slice none 0 0,.slice none 0 0] 77 (0,0)) bk hg (Kd.S_ne HO_609001.out BK607.out (by decide)));have n1_:=aM (blk_grown (g:=gb608) (o:=.cells #[.slice Ao19 y613.length co19,u609001] 77 (0,0)) bk hg (Kd.S_ne HO_609001.out BK608.out (by decide)));have n2_:=aM (Kd.S_after (ok:=(fun k_=>some k_ ≠ (.slice Ao25 t617.length co25:Value).ownBlock)) (by (with_reducible repeat (first|apply Kd.S_alloc|apply Kd.S_drewN|apply Kd.S_drew));exact Kd.S_mono HO615.out (fun _ hk=>⟨hk.2,hk.1⟩)) hg hat);have n3_:=aM (hb);have n4_:=aM (ho);clear BK607;clear BK608;clear HO615;clear HB;clear HO_609001;clear HO619;have BK607:=n0_;have BK608:=n1_;have HO615:=n2_;have HB:=n3_;have HO622:=n4_;clear n0_ n1_ n2_ n3_ n4_;clear ho hb hg hat;obtain ⟨Ao26,co26,eo26⟩:=Kd.S_slice HO622.out;(first|subst eo26|(injection eo26 with f1_ f2_ f3_;have f4_:=f1_.symm;have f5_:=f3_.symm;clear f1_ f2_ f3_;subst f4_;subst f5_))
         refine hK.out _ _ ⟨(blk_cell BK608.out 0).trans rfl,(blk_cell BK608.out 1).trans rfl,((HB.out.cell (World.block_lt_of_cell? w _ hw616_0)).trans hw616_0)⟩ (fun hHeld=>?_);clear hK K;refine norm_ (a':=?_) ?_ ?_;rotate_left
         ·show Act.put _ (some 31) _ = _;simp only [Act.put,sA,sZ,sS,i64_w,i32_w];rfl
         refine pure_ (i:=9) (N:=some 32) (v:=?_) (a':=?_) (mA 11 1023) rfl rfl (any_of HT_.out kR) (fun _ _ _ h=>h) (Or.inl ⟨by rfl,?_⟩) ?_ ?_;rotate_left
         ·intro w';go_simp
          with_reducible rfl
         rotate_left
         ·simp only [Act.put,sA,sZ,sS,i64_w,i32_w];rfl
         refine last_ (i:=10) (N:=none) (mA 11 2047) rfl rfl (one_of HT_.out kR) (by decide) (fun K hK=>?_);have hs27:w24.cell? ⟨gb608,1,none⟩ = some (u609001):=(blk_cell BK608.out 1).trans rfl;have hfs27:=blk_frozen BK608.out 1;have hns27_0:=NB607_608.out;have hms27_0:=NB608_607.out;refine skip_ (w1:=?_) (by rfl) rfl ?_ ?_;rotate_left
         ·go_simp
          rfl
         refine hK.out _ _ ?_;clear hK K;refine done_ (done_of HT_.out kR) ?_
         try go_wp2
         go_roundg k1
         case measure=>have:=HK1.out;omega
         case rel=>exact ⟨(wrap64 (x10_1 + 1)),(y613),(y620),(.slice Ao19 y613.length co19),(.slice Ao26 y620.length co26),qrs,H',⟨by have:=HK1.out;omega⟩,⟨by (with_reducible repeat (first|apply Kd.S_alloc|apply Kd.S_drewN|apply Kd.S_drew));exact Kd.S_mono (Kd.S_far (p:=⟨gb608,1,none⟩) (Kd.S_types HO615.out BK608.out (by decide)) (fun _ hk=>hk.2) (.slice Ao26 y620.length co26)) (fun _ hk=>hk.1.2)⟩,⟨by (with_reducible repeat (first|apply Kd.S_alloc|apply Kd.S_drewN|apply Kd.S_drew));exact Kd.S_mono (Kd.S_far (p:=⟨gb608,1,none⟩) (Kd.S_types HO622.out BK608.out (by decide)) (fun _ hk=>hk.2) (.slice Ao26 y620.length co26)) (fun _ hk=>hk.1)⟩,⟨by (with_reducible repeat (first|refine blk_drewN ?_ _|refine blk_drew ?_|refine blk_alloc ?_ _));refine blk_far ?_ NB607_608.out _;(with_reducible repeat (first|refine blk_drewN ?_ _|refine blk_drew ?_|refine blk_alloc ?_ _));exact BK607.out⟩,⟨by (with_reducible repeat (first|refine blk_drewN ?_ _|refine blk_drew ?_|refine blk_alloc ?_ _));refine blk_put (cs:=#[.slice Ao19 y613.length co19,u609001]) ?_ 1 _ rfl;(with_reducible repeat (first|refine blk_drewN ?_ _|refine blk_drew ?_|refine blk_alloc ?_ _));exact BK608.out⟩,⟨by exact bw⟩⟩
        ·rw [if_neg c14] at H;exact absurd H (by simp)
       ·rw [if_neg c12] at H;exact absurd H (by simp)
      ·rw [if_neg c11] at H;exact absurd H (by simp)
     ·rw [if_neg c9] at H;exact absurd H (by simp)
    ·rw [if_neg c8] at H;exact absurd H (by simp)
   ·rw [if_neg c7] at H;have c7b0:decide (x10_1 < (l0.length:Int)) = false:=decide_eq_false c7;clear c7;simp only [Option.some.injEq,Prod.mk.injEq] at H;obtain ⟨rfl,rfl⟩:=H;have hnb28:=NB608_607.out;have hnc28:=NB607_608.out;have hcz29_0:wr.cell? ⟨gb608,0,none⟩ = some (u609000):=(blk_cell BK608.out 0).trans rfl;have hcz29_1:wr.cell? ⟨gb608,1,none⟩ = some (u609001):=(blk_cell BK608.out 1).trans rfl;have hfz29_0:=blk_frozen BK608.out 0;have hfz29_1:=blk_frozen BK608.out 1;obtain ⟨Ao30,co30,eo30⟩:=Kd.S_slice HO_609000.out;subst eo30;have hcz31_0:wr.cell? ⟨gb607,0,none⟩ = some (.slice none 0 0):=(blk_cell BK607.out 0).trans rfl;have hcz31_1:wr.cell? ⟨gb607,1,none⟩ = some (.slice none 0 0):=(blk_cell BK607.out 1).trans rfl;have hfz31_0:=blk_frozen BK607.out 0;have hfz31_1:=blk_frozen BK607.out 1;obtain ⟨Ao32,co32,eo32⟩:=Kd.S_slice HO_609001.out;subst eo32;go_wp2
    refine bodyPost_ret (results_cell_row rfl _ _ gb607 77 #[.slice Ao30 x609000_1.length co30,.slice Ao32 x609001_1.length co32] (0,0) _ rfl (by (with_reducible repeat (first|refine blk_drewN ?_ _|refine blk_drew ?_|refine blk_alloc ?_ _));refine blk_put (cs:=#[.slice Ao30 x609000_1.length co30,.slice none 0 0]) ?_ 1 _ rfl;(with_reducible repeat (first|refine blk_drewN ?_ _|refine blk_drew ?_|refine blk_alloc ?_ _));refine blk_put (cs:=#[.slice none 0 0,.slice none 0 0]) ?_ 0 _ rfl;(with_reducible repeat (first|refine blk_drewN ?_ _|refine blk_drew ?_|refine blk_alloc ?_ _));exact BK607.out) Try.underlying77 rfl kR) rfl ?_;exact ⟨_,_,by first|rfl|(simp [errW_none,errW_some] <;> rfl)|(simp [*,errW_none,errW_some] <;> rfl),by (with_reducible repeat (first|apply Kd.S_alloc|apply Kd.S_drewN|apply Kd.S_drew));exact Kd.S_mono (Kd.S_far (p:=⟨gb607,1,none⟩) (Kd.S_far (p:=⟨gb607,0,none⟩) (Kd.S_types HO_609000.out BK607.out (by decide)) (fun _ hk=>hk.2) (.slice Ao30 x609000_1.length co30)) (fun _ hk=>hk.2) (.slice Ao32 x609001_1.length co32)) (fun _ hk=>hk.1),by (with_reducible repeat (first|apply Kd.S_alloc|apply Kd.S_drewN|apply Kd.S_drew));exact Kd.S_mono (Kd.S_far (p:=⟨gb607,1,none⟩) (Kd.S_far (p:=⟨gb607,0,none⟩) (Kd.S_types HO_609001.out BK607.out (by decide)) (fun _ hk=>hk.2) (.slice Ao30 x609000_1.length co30)) (fun _ hk=>hk.2) (.slice Ao32 x609001_1.length co32)) (fun _ hk=>hk.1),by exact bw⟩


/-! ### impl_votes_firstTrade_1: function 101 -/
def impl_votes_firstTrade_1.f (a0:Int) (a1:Int) (a2:Int) (a3:Int):Option (Bool):=some true
set_option maxHeartbeats 8000000 in
set_option maxRecDepth 100000 in
theorem impl_votes_firstTrade_1.calls (a0:Int) (a1:Int) (a2:Int) (a3:Int) (r:Bool) (w:World) (h:impl_votes_firstTrade_1.f a0 a1 a2 a3 = some r) :
  Calls Try.prog 101 #[.int .i64 a0,.int .i64 a1,.int .i64 a2,.int .i64 a3] w fun e w'=>e = .returned (.bool r) ∧ Drawn0 w w':=by
 have H:(some true) = some r:=h;clear h;obtain rfl:=Option.some.inj H;go_enter Try.func101,Try.ntmps101;go_wp2
 go_ret
 exact ⟨by first|rfl|(simp;done)|(simp [*];done),by repeat (first|exact Drawn0.refl _|apply Drawn0.step)⟩
theorem impl_votes_firstTrade_1.enters:∀ (args:Array Value) (w:World),(callFunc 101 args).run Try.prog w = .ok (.enter 101 args) w:=enters_of Try.func101 kR rfl


/-! ### impl_sumOf: function 109 -/
def impl_sumOf.l0:Nat → Int → List Int → Int → Int → Option (Int)
 | 0,_,_,_,_=>none
 | k + 1,x3,x6,x7,x8=>if x8 < x7 then (if 0 ≤ x8 then (if x8 < (x6.length:Int) then (impl_sumOf.l0 k (wrap64 (x3 + (rd x6 x8))) x6 x7 (wrap64 (x8 + 1))) else (none)) else (none)) else (some x3)
def impl_sumOf.f (k:Nat) (l0:List Int):Option (Int):=impl_sumOf.l0 k 0 l0 (l0.length:Int) 0
theorem impl_sumOf.mono_l:∀ k,(∀ y0 y1 y2 y3,LeO (impl_sumOf.l0 k y0 y1 y2 y3) (impl_sumOf.l0 (k + 1) y0 y1 y2 y3))
 | 0=>fun _ _ _ _ r h=>by simp [impl_sumOf.l0] at h
 | k + 1=>by
  have ih0:=impl_sumOf.mono_l k
  ·intro y0 y1 y2 y3;unfold impl_sumOf.l0
   repeat' with_reducible first|exact ih0 _ _ _ _|exact LeO.refl _|exact LeO.none _|refine LeO.ite ?_ ?_|refine LeO.bind ?_ (fun _=>?_)
theorem impl_sumOf.mono:∀ a0 k,LeO (impl_sumOf.f k a0) (impl_sumOf.f (k + 1) a0):=by
 intro a0 k;have ih0:=impl_sumOf.mono_l k;unfold impl_sumOf.f
 repeat' with_reducible first|exact ih0 _ _ _ _|exact LeO.refl _|exact LeO.none _|refine LeO.ite ?_ ?_|refine LeO.bind ?_ (fun _=>?_)
set_option maxHeartbeats 8000000 in
set_option maxRecDepth 100000 in
theorem impl_sumOf.calls (k:Nat) (A0:Option Addr) (c0:Nat) (l0:List Int) (r:Int) (w:World) (hr0:Kd.C (Kd.int .i64) w A0 l0.length l0) (hc0:l0.length ≤ c0) (h:impl_sumOf.f k l0 = some r) :
  Calls Try.prog 109 #[.slice A0 l0.length c0] w fun e w'=>e = .returned (.int .i64 r) ∧ Drawn0 w w':=by
 have HR0:=aM hr0;have HC0:=aM hc0;clear hr0 hc0;have H:(impl_sumOf.l0 k 0 l0 (l0.length:Int) 0) = some r:=h;clear h;have H':=aM H;clear H;go_enter Try.func109,Try.ntmps109;go_wp2
 go_loopg [3,8] k (fun kq v3 v8 w'=>∃ (x3_1:Int) (x8_1:Int),v3 = .int .i64 x3_1 ∧ v8 = .int .i64 x8_1 ∧ Aside0 (impl_sumOf.l0 kq x3_1 l0 (l0.length:Int) x8_1 = some r) ∧ Aside0 (kq ≤ k) ∧ Drawn0 w w')
 case atStart=>exact ⟨(0),(0),qrs,qrs,H',⟨Nat.le_refl _⟩,by repeat (first|exact Drawn0.refl _|apply Drawn0.step)⟩
 case round =>
  clear H'
  try clear c1
  obtain ⟨x3_1,x8_1,rfl,rfl,HA,HK1,⟨m1,rfl⟩⟩:=hrel
  cases gk with
  | zero=>exact absurd HA.out (by simp [impl_sumOf.l0])
  | succ k1 =>
   have H:=HA.out;clear HA;simp only [impl_sumOf.l0] at H;by_cases c2:x8_1 < (l0.length:Int)
   ·rw [if_pos c2] at H;have c2b0:decide (x8_1 < (l0.length:Int)) = true:=decide_eq_true c2;clear c2;by_cases c3:0 ≤ x8_1
    ·rw [if_pos c3] at H;have c3b0:decide (0 ≤ x8_1) = true:=decide_eq_true c3;clear c3;by_cases c4:x8_1 < (l0.length:Int)
     ·rw [if_pos c4] at H;have c4b0:decide (x8_1 < (l0.length:Int)) = true:=decide_eq_true c4;clear c4;have H':=aM H;clear H;have p785:0 ≤ (x8_1:Int):=of_decide_eq_true ab;have q785:x8_1 < (l0.length:Int):=of_decide_eq_true ab;obtain ⟨ad785,e785,hx785_0⟩:=Kd.at_int HR0.out x8_1 p785 q785;cases e785
      replace p785:=eq_true p785;replace q785:=eq_true q785;go_wp2
      go_roundg k1
      case measure=>have:=HK1.out;omega
      case rel=>exact ⟨(wrap64 (x3_1 + (rd l0 x8_1))),(wrap64 (x8_1 + 1)),qrs,qrs,H',⟨by have:=HK1.out;omega⟩,by repeat (first|exact Drawn0.refl _|apply Drawn0.step)⟩
     ·rw [if_neg c4] at H;exact absurd H (by simp)
    ·rw [if_neg c3] at H;exact absurd H (by simp)
   ·rw [if_neg c2] at H;have c2b0:decide (x8_1 < (l0.length:Int)) = false:=decide_eq_false c2;clear c2;obtain rfl:=Option.some.inj H;go_wp2
    go_ret
    exact ⟨by first|rfl|(simp;done)|(simp [*];done),by repeat (first|exact Drawn0.refl _|apply Drawn0.step)⟩


/-! ### impl_IsCommittee: function 68 -/
def impl_IsCommittee.f (k:Nat) (a0_0:Int) (l0_1:List Int):Option (Bool):=if (l0_1.length:Int) ≥ 1 then (if (l0_1.length:Int) ≤ 9 then ((impl_areIn.f k l0_1 0 1000).bind fun t787=>(if t787 = true then ((impl_sumOf.f k l0_1).bind fun t788=>((impl_within.f a0_0 1 t788).bind fun t789=>(some t789))) else (some false))) else (some false)) else (some false)
theorem impl_IsCommittee.mono:∀ a0 a1 k,LeO (impl_IsCommittee.f k a0 a1) (impl_IsCommittee.f (k + 1) a0 a1):=by
 intro a0 a1 k;unfold impl_IsCommittee.f
 repeat' with_reducible first|exact impl_areIn.mono _ _ _ _|exact impl_sumOf.mono _ _|exact LeO.refl _|exact LeO.none _|refine LeO.ite ?_ ?_|refine LeO.bind ?_ (fun _=>?_)
def impl_IsCommittee.T1:Bool × List (List Nat × List Nat):=(true,[([],[]),([0],[0]),([1],[1]),([2],[2]),([3],[3]),([4],[4]),([5,4],[4,5]),([6,4],[4,6]),([7,4],[4,7]),([4,8],[4,8]),([9,4],[9]),([10],[10]),([11,10],[10,11]),([12,10,10],[10,12]),([10,13],[10,13]),([14,13],[14]),([15],[15]),([16,15],[15,16]),([15],[15]),([18,15],[15,18]),([19,15,15],[15,19]),([17,20,20,15],[15,17,20]),([15,21],[15,21]),([22,21,0,1,2,3,4,5,6,7,8,9,10,11,12,13,14,15,16,17,18,19,20,21,22],[22])])
def impl_IsCommittee.B1:List Nat:=[0,1,3,7,15,31,63,127,255,511,1023,2047,4095,8191,16383,32767,65535,131071,65535,327679,851967,2097151,4194303,8388607]
theorem impl_IsCommittee.tab1:rtab .any (opsOf Try.f68 1) = impl_IsCommittee.T1:=by kernel_rfl
theorem impl_IsCommittee.bits1:waitsOk impl_IsCommittee.T1.2 impl_IsCommittee.B1 = true:=by kernel_rfl
set_option maxHeartbeats 8000000 in
set_option maxRecDepth 100000 in
theorem impl_IsCommittee.calls (k:Nat) (a0_0:Int) (A0_1:Option Addr) (c0_1:Nat) (l0_1:List Int) (r:Bool) (w:World) (hr0_1:Kd.C (Kd.int .i64) w A0_1 l0_1.length l0_1) (hc0_1:l0_1.length ≤ c0_1) (h:impl_IsCommittee.f k a0_0 l0_1 = some r) :
  Calls Try.prog 68 #[.agg #[.int .i64 a0_0,.slice A0_1 l0_1.length c0_1]] w fun e w'=>e = .returned (.bool r) ∧ Below w.heap.size w w':=by
 have hu46:=Try.underlying46;have HR0_1:=aM hr0_1;have HC0_1:=aM hc0_1;clear hr0_1 hc0_1;have HB:=aM (Below.refl w.heap.size w);have H:(if (l0_1.length:Int) ≥ 1 then (if (l0_1.length:Int) ≤ 9 then ((impl_areIn.f k l0_1 0 1000).bind fun t787=>(if t787 = true then ((impl_sumOf.f k l0_1).bind fun t788=>((impl_within.f a0_0 1 t788).bind fun t789=>(some t789))) else (some false))) else (some false)) else (some false)) = some r:=h;clear h;by_cases c2:(l0_1.length:Int) ≥ 1
 ·rw [if_pos c2] at H;have c2b0:decide (1 ≤ (l0_1.length:Int)) = true:=decide_eq_true c2;have c2b1:decide (1 ≤ l0_1.length) = true:=decide_eq_true (by omega);clear c2;by_cases c3:(l0_1.length:Int) ≤ 9
  ·rw [if_pos c3] at H;have c3b0:decide ((l0_1.length:Int) ≤ 9) = true:=decide_eq_true c3;have c3b1:decide (l0_1.length ≤ 9) = true:=decide_eq_true (by omega);clear c3;replace H:=Option.bind_eq_some_iff.mp H;obtain ⟨t787,A40,H⟩:=H;replace H:(if t787 = true then ((impl_sumOf.f k l0_1).bind fun t788=>((impl_within.f a0_0 1 t788).bind fun t789=>(some t789))) else (some false)) = some r:=H;have A4:=aM A40;clear A40;by_cases c5:t787 = true
   ·subst c5;have H1:((impl_sumOf.f k l0_1).bind fun t788=>((impl_within.f a0_0 1 t788).bind fun t789=>(some t789))) = some r:=by rw [if_pos rfl] at H;exact H
    clear H;have H:=H1;clear H1;replace H:=Option.bind_eq_some_iff.mp H;obtain ⟨t788,A60,H⟩:=H;replace H:((impl_within.f a0_0 1 t788).bind fun t789=>(some t789)) = some r:=H;have A6:=aM A60;clear A60;replace H:=Option.bind_eq_some_iff.mp H;obtain ⟨t789,A70,H⟩:=H;replace H:(some t789) = some r:=H;have A7:=aM A70;clear A70;obtain rfl:=Option.some.inj H;go_enter Try.func68,Try.ntmps68
    try go_wp2_with (first|((with_reducible refine gate_dst (N:=1) rfl ?_);(try (refine gate_guard (by rfl) ?_;dsimp only));refine box_event ?hg (N:=1) ?hd (cs:=#[.int .i64 a0_0,.slice A0_1 l0_1.length c0_1]) (t:=46) ?hr ?_;(case hd=>rfl);(case hg=>rfl);(case hr=>first|(go_simp;done)|(go_simp;rfl));intro gb786 hg w8 hbox hb;have n0_:=aM (below_step bw hb);have n1_:=aM (hbox);have n2_:=aM ((by rw [hg];exact (below_size bw):w.heap.size ≤ gb786));have n3_:=aM ((by rw [hg];exact (below_size bw):w.heap.size ≤ gb786));clear HB;have HB:=n0_;have BK786:=n1_;have GW786:=n2_;have GE786:=n3_;clear n0_ n1_ n2_ n3_;clear hb hbox hg))
    have n0_:=aM (blk_drew BK786.out);have n1_:=aM (below_drew1 HB.out);clear BK786;clear HB;have BK786:=n0_;have HB:=n1_;clear n0_ n1_;refine start_ (n:=24) (S:=fun w'=>w'.cell? ⟨gb786,0,none⟩ = some (.int .i64 a0_0) ∧ w'.cell? ⟨gb786,1,none⟩ = some (.slice A0_1 l0_1.length c0_1)) (ds:=[]) (mA 24 0) kR rfl rfl ⟨(blk_cell BK786.out 0).trans rfl,(blk_cell BK786.out 1).trans rfl⟩ (fun hHeld=>?_);refine with_tabW impl_IsCommittee.tab1 impl_IsCommittee.bits1 (fun HT_ HW_=>?_)
    generalize w8.drew = w9 at BK786 HB hHeld ⊢
    refine pure_ (i:=0) (N:=some 3) (v:=?_) (a':=?_) (mA 24 1) rfl rfl (any_of HT_.out kR) (fun _ _ _ h=>h) (Or.inl ⟨by rfl,?_⟩) ?_ ?_;rotate_left
    ·intro w';go_simp
     with_reducible rfl
    rotate_left
    ·simp only [Act.put,sA,sZ,sS,i64_w,i32_w];rfl
    refine take_ (i:=1) (N:=some 4) (v:=?_) (a':=?_) (mA 24 3) rfl rfl (take_ofW HT_.out HW_.out kR) (fun _ _ _ h=>h) (Or.inl ⟨by rfl,?_⟩) hHeld ?_ ?_;rotate_left
    ·rintro w' ⟨s0,s1⟩
     go_simp
     with_reducible rfl
    rotate_left
    ·simp only [Act.put,sA,sZ,sS,i64_w,i32_w];rfl
    refine pure_ (i:=2) (N:=some 5) (v:=?_) (a':=?_) (mA 24 7) rfl rfl (any_of HT_.out kR) (fun _ _ _ h=>h) (Or.inl ⟨by rfl,?_⟩) ?_ ?_;rotate_left
    ·intro w';go_simp
     with_reducible rfl
    rotate_left
    ·simp only [Act.put,sA,sZ,sS,i64_w,i32_w];rfl
    refine pure_ (i:=3) (N:=some 6) (v:=?_) (a':=?_) (mA 24 15) rfl rfl (any_of HT_.out kR) (fun _ _ _ h=>h) (Or.inl ⟨by rfl,?_⟩) ?_ ?_;rotate_left
    ·intro w';go_simp
     with_reducible rfl
    rotate_left
    ·simp only [Act.put,sA,sZ,sS,i64_w,i32_w];rfl
    refine pure_ (i:=4) (N:=some 7) (v:=?_) (a':=?_) (mA 24 31) rfl rfl (any_of HT_.out kR) (fun _ _ _ h=>h) (Or.inl ⟨by rfl,?_⟩) ?_ ?_;rotate_left
    ·intro w';go_simp
     with_reducible rfl
    rotate_left
    ·simp only [Act.put,sA,sZ,sS,i64_w,i32_w];rfl
    refine pure_ (i:=5) (N:=some 8) (v:=?_) (a':=?_) (mA 24 63) rfl rfl (any_of HT_.out kR) (fun _ _ _ h=>h) (Or.inl ⟨by rfl,?_⟩) ?_ ?_;rotate_left
    ·intro w';go_simp
     with_reducible rfl
    rotate_left
    ·simp only [Act.put,sA,sZ,sS,i64_w,i32_w];rfl
    refine take_ (i:=6) (N:=some 9) (v:=?_) (a':=?_) (mA 24 127) rfl rfl (take_ofW HT_.out HW_.out kR) (fun _ _ _ h=>h) (Or.inl ⟨by rfl,?_⟩) hHeld ?_ ?_;rotate_left
    ·rintro w' ⟨s0,s1⟩
     go_simp
     with_reducible rfl
    rotate_left
    ·simp only [Act.put,sA,sZ,sS,i64_w,i32_w];rfl
    refine pure_ (i:=7) (N:=some 10) (v:=?_) (a':=?_) (mA 24 255) rfl rfl (any_of HT_.out kR) (fun _ _ _ h=>h) (Or.inl ⟨by rfl,?_⟩) ?_ ?_;rotate_left
    ·intro w';go_simp
     with_reducible rfl
    rotate_left
    ·simp only [Act.put,sA,sZ,sS,i64_w,i32_w];rfl
    refine pure_ (i:=8) (N:=some 11) (v:=?_) (a':=?_) (mA 24 511) rfl rfl (any_of HT_.out kR) (fun _ _ _ h=>h) (Or.inl ⟨by rfl,?_⟩) ?_ ?_;rotate_left
    ·intro w';go_simp
     with_reducible rfl
    rotate_left
    ·simp only [Act.put,sA,sZ,sS,i64_w,i32_w];rfl
    refine pure_ (i:=9) (N:=some 12) (v:=?_) (a':=?_) (mA 24 1023) rfl rfl (any_of HT_.out kR) (fun _ _ _ h=>h) (Or.inl ⟨by rfl,?_⟩) ?_ ?_;rotate_left
    ·intro w';go_simp
     with_reducible rfl
    rotate_left
    ·simp only [Act.put,sA,sZ,sS,i64_w,i32_w];rfl
    refine pure_ (i:=10) (N:=some 13) (v:=?_) (a':=?_) (mA 24 2047) rfl rfl (any_of HT_.out kR) (fun _ _ _ h=>h) (Or.inl ⟨by rfl,?_⟩) ?_ ?_;rotate_left
    ·intro w';go_simp
     with_reducible rfl
    rotate_left
    ·simp only [Act.put,sA,sZ,sS,i64_w,i32_w];rfl
    refine pure_ (i:=11) (N:=some 14) (v:=?_) (a':=?_) (mA 24 4095) rfl rfl (any_of HT_.out kR) (fun _ _ _ h=>h) (Or.inl ⟨by rfl,?_⟩) ?_ ?_;rotate_left
    ·intro w';go_simp
     with_reducible rfl
    rotate_left
    ·simp only [Act.put,sA,sZ,sS,i64_w,i32_w];rfl
    refine take_ (i:=12) (N:=some 15) (v:=?_) (a':=?_) (mA 24 8191) rfl rfl (take_ofW HT_.out HW_.out kR) (fun _ _ _ h=>h) (Or.inl ⟨by rfl,?_⟩) hHeld ?_ ?_;rotate_left
    ·rintro w' ⟨s0,s1⟩
     go_simp
     with_reducible rfl
    rotate_left
    ·simp only [Act.put,sA,sZ,sS,i64_w,i32_w];rfl
    refine one_ (i:=13) (N:=some 16) (mA 24 16383) rfl rfl (one_of HT_.out kR) (by decide) (fun K hK=>?_);refine goes_ Try.func108 kR rfl #[.slice A0_1 l0_1.length c0_1,.int .i64 0,.int .i64 1000] (by rfl) rfl rfl mq ?_
    with_reducible refine (impl_areIn.calls k _ _ l0_1 0 1000 true _ ?side1 ?side2 A4.out).mono ?_
    (case side1=>exact qcs HR0_1.out HB.out)
    (case side2=>exact HC0_1.out)
    rintro e w10 ⟨rfl,hb⟩
    refine ⟨_,rfl,?_⟩;have n0_:=aM (blk_below (g:=gb786) (o:=.cells #[.int .i64 a0_0,.slice A0_1 l0_1.length c0_1] 46 (0,0)) bk hb);have n1_:=aM (below_step bw hb);clear BK786;clear HB;have BK786:=n0_;have HB:=n1_;clear n0_ n1_;(try clear hb)
    (try clear hb2)
    (try clear hk)
    (try clear hi)
    refine hK.out _ _ ⟨(blk_cell BK786.out 0).trans rfl,(blk_cell BK786.out 1).trans rfl⟩ (fun hHeld=>?_);clear hK K;refine norm_ (a':=?_) ?_ ?_;rotate_left
    ·show Act.put _ (some 16) _ = _;simp only [Act.put,sA,sZ,sS,i64_w,i32_w];rfl
    refine pure_ (i:=14) (N:=some 17) (v:=?_) (a':=?_) (mA 24 32767) rfl rfl (any_of HT_.out kR) (fun _ _ _ h=>h) (Or.inl ⟨by rfl,?_⟩) ?_ ?_;rotate_left
    ·intro w';go_simp
     with_reducible rfl
    rotate_left
    ·simp only [Act.put,sA,sZ,sS,i64_w,i32_w];rfl
    refine pure_ (i:=15) (N:=some 18) (v:=?_) (a':=?_) (mA 24 65535) rfl rfl (any_of HT_.out kR) (fun _ _ _ h=>h) (Or.inl ⟨by rfl,?_⟩) ?_ ?_;rotate_left
    ·intro w';go_simp
     with_reducible rfl
    rotate_left
    ·simp only [Act.put,sA,sZ,sS,i64_w,i32_w];rfl
    refine pure_ (i:=16) (N:=some 19) (v:=?_) (a':=?_) (mA 24 131071) rfl rfl (any_of HT_.out kR) (fun _ _ _ h=>h) (Or.inl ⟨by rfl,?_⟩) ?_ ?_;rotate_left
    ·intro w';go_simp
     with_reducible rfl
    rotate_left
    ·simp only [Act.put,sA,sZ,sS,i64_w,i32_w];rfl
    refine pure_ (i:=18) (N:=some 21) (v:=?_) (a':=?_) (mA 24 393215) rfl rfl (any_of HT_.out kR) (fun _ _ _ h=>h) (Or.inl ⟨by rfl,?_⟩) ?_ ?_;rotate_left
    ·intro w';go_simp
     with_reducible rfl
    rotate_left
    ·simp only [Act.put,sA,sZ,sS,i64_w,i32_w];rfl
    refine take_ (i:=17) (N:=some 20) (v:=?_) (a':=?_) (mA 24 524287) rfl rfl (take_ofW HT_.out HW_.out kR) (fun _ _ _ h=>h) (Or.inl ⟨by rfl,?_⟩) hHeld ?_ ?_;rotate_left
    ·rintro w' ⟨s0,s1⟩
     go_simp
     with_reducible rfl
    rotate_left
    ·simp only [Act.put,sA,sZ,sS,i64_w,i32_w];rfl
    refine take_ (i:=19) (N:=some 22) (v:=?_) (a':=?_) (mA 24 1048575) rfl rfl (take_ofW HT_.out HW_.out kR) (fun _ _ _ h=>h) (Or.inl ⟨by rfl,?_⟩) hHeld ?_ ?_;rotate_left
    ·rintro w' ⟨s0,s1⟩
     go_simp
     with_reducible rfl
    rotate_left
    ·simp only [Act.put,sA,sZ,sS,i64_w,i32_w];rfl
    refine one_ (i:=20) (N:=some 23) (mA 24 2097151) rfl rfl (one_of HT_.out kR) (by decide) (fun K hK=>?_);refine goes_ Try.func109 kR rfl #[.slice A0_1 l0_1.length c0_1] (by rfl) rfl rfl mq ?_
    with_reducible refine (impl_sumOf.calls k _ _ l0_1 t788 _ ?side1 ?side2 A6.out).mono ?_
    (case side1=>exact qcs HR0_1.out HB.out)
    (case side2=>exact HC0_1.out)
    rintro e w' ⟨rfl,⟨nd,rfl⟩⟩
    refine ⟨_,rfl,?_⟩;refine hK.out _ _ ⟨(blk_cell BK786.out 0).trans rfl,(blk_cell BK786.out 1).trans rfl⟩ (fun hHeld=>?_);clear hK K;refine norm_ (a':=?_) ?_ ?_;rotate_left
    ·show Act.put _ (some 23) _ = _;simp only [Act.put,sA,sZ,sS,i64_w,i32_w];rfl
    refine one_ (i:=21) (N:=some 24) (mA 24 4194303) rfl rfl (one_of HT_.out kR) (by decide) (fun K hK=>?_);refine goes_ Try.func69 kR rfl #[.int .i64 a0_0,.int .i64 1,.int .i64 t788] (by rfl) rfl rfl mq ?_
    with_reducible refine (impl_within.calls a0_0 1 t788 t789 _ A7.out).mono ?_
    rintro e w' ⟨rfl,⟨nd,rfl⟩⟩
    refine ⟨_,rfl,?_⟩;refine hK.out _ _ ⟨(blk_cell BK786.out 0).trans rfl,(blk_cell BK786.out 1).trans rfl⟩ (fun hHeld=>?_);clear hK K;refine norm_ (a':=?_) ?_ ?_;rotate_left
    ·show Act.put _ (some 24) _ = _;simp only [Act.put,sA,sZ,sS,i64_w,i32_w];rfl
    refine pure_ (i:=22) (N:=some 25) (v:=?_) (a':=?_) (mA 24 8388607) rfl rfl (any_of HT_.out kR) (fun _ _ _ h=>h) (Or.inl ⟨by rfl,?_⟩) ?_ ?_;rotate_left
    ·intro w';go_simp
     with_reducible rfl
    rotate_left
    ·simp only [Act.put,sA,sZ,sS,i64_w,i32_w];rfl
    refine pure_ (i:=23) (N:=some 2) (v:=?_) (a':=?_) (mA 24 16777215) rfl rfl (any_of HT_.out kR) (fun _ _ _ h=>h) (Or.inl ⟨by rfl,?_⟩) ?_ ?_;rotate_left
    ·intro w';go_simp
     with_reducible rfl
    rotate_left
    ·simp only [Act.put,sA,sZ,sS,i64_w,i32_w];rfl
    refine done_ (done_of HT_.out kR) ?_
    try go_wp2
    go_ret
    exact ⟨by first|rfl|(simp [errW_none,errW_some] <;> rfl)|(simp [*,errW_none,errW_some] <;> rfl),by exact bw⟩
   ·replace c5:=Bool.eq_false_iff.mpr c5;subst c5;have H1:(some false) = some r:=by rw [if_neg (show ¬ (false = true) by decide)] at H;exact H
    clear H;have H:=H1;clear H1;obtain rfl:=Option.some.inj H;go_enter Try.func68,Try.ntmps68
    try go_wp2_with (first|((with_reducible refine gate_dst (N:=1) rfl ?_);(try (refine gate_guard (by rfl) ?_;dsimp only));refine box_event ?hg (N:=1) ?hd (cs:=#[.int .i64 a0_0,.slice A0_1 l0_1.length c0_1]) (t:=46) ?hr ?_;(case hd=>rfl);(case hg=>rfl);(case hr=>first|(go_simp;done)|(go_simp;rfl));intro gb786 hg w11 hbox hb;have n0_:=aM (below_step bw hb);have n1_:=aM (hbox);have n2_:=aM ((by rw [hg];exact (below_size bw):w.heap.size ≤ gb786));have n3_:=aM ((by rw [hg];exact (below_size bw):w.heap.size ≤ gb786));clear HB;have HB:=n0_;have BK786:=n1_;have GW786:=n2_;have GE786:=n3_;clear n0_ n1_ n2_ n3_;clear hb hbox hg))
    have n0_:=aM (blk_drew BK786.out);have n1_:=aM (below_drew1 HB.out);clear BK786;clear HB;have BK786:=n0_;have HB:=n1_;clear n0_ n1_;refine start_ (n:=24) (S:=fun w'=>w'.cell? ⟨gb786,0,none⟩ = some (.int .i64 a0_0) ∧ w'.cell? ⟨gb786,1,none⟩ = some (.slice A0_1 l0_1.length c0_1)) (ds:=[]) (mA 24 0) kR rfl rfl ⟨(blk_cell BK786.out 0).trans rfl,(blk_cell BK786.out 1).trans rfl⟩ (fun hHeld=>?_);refine with_tabW impl_IsCommittee.tab1 impl_IsCommittee.bits1 (fun HT_ HW_=>?_)
    generalize w11.drew = w12 at BK786 HB hHeld ⊢
    refine pure_ (i:=0) (N:=some 3) (v:=?_) (a':=?_) (mA 24 1) rfl rfl (any_of HT_.out kR) (fun _ _ _ h=>h) (Or.inl ⟨by rfl,?_⟩) ?_ ?_;rotate_left
    ·intro w';go_simp
     with_reducible rfl
    rotate_left
    ·simp only [Act.put,sA,sZ,sS,i64_w,i32_w];rfl
    refine take_ (i:=1) (N:=some 4) (v:=?_) (a':=?_) (mA 24 3) rfl rfl (take_ofW HT_.out HW_.out kR) (fun _ _ _ h=>h) (Or.inl ⟨by rfl,?_⟩) hHeld ?_ ?_;rotate_left
    ·rintro w' ⟨s0,s1⟩
     go_simp
     with_reducible rfl
    rotate_left
    ·simp only [Act.put,sA,sZ,sS,i64_w,i32_w];rfl
    refine pure_ (i:=2) (N:=some 5) (v:=?_) (a':=?_) (mA 24 7) rfl rfl (any_of HT_.out kR) (fun _ _ _ h=>h) (Or.inl ⟨by rfl,?_⟩) ?_ ?_;rotate_left
    ·intro w';go_simp
     with_reducible rfl
    rotate_left
    ·simp only [Act.put,sA,sZ,sS,i64_w,i32_w];rfl
    refine pure_ (i:=3) (N:=some 6) (v:=?_) (a':=?_) (mA 24 15) rfl rfl (any_of HT_.out kR) (fun _ _ _ h=>h) (Or.inl ⟨by rfl,?_⟩) ?_ ?_;rotate_left
    ·intro w';go_simp
     with_reducible rfl
    rotate_left
    ·simp only [Act.put,sA,sZ,sS,i64_w,i32_w];rfl
    refine pure_ (i:=4) (N:=some 7) (v:=?_) (a':=?_) (mA 24 31) rfl rfl (any_of HT_.out kR) (fun _ _ _ h=>h) (Or.inl ⟨by rfl,?_⟩) ?_ ?_;rotate_left
    ·intro w';go_simp
     with_reducible rfl
    rotate_left
    ·simp only [Act.put,sA,sZ,sS,i64_w,i32_w];rfl
    refine pure_ (i:=5) (N:=some 8) (v:=?_) (a':=?_) (mA 24 63) rfl rfl (any_of HT_.out kR) (fun _ _ _ h=>h) (Or.inl ⟨by rfl,?_⟩) ?_ ?_;rotate_left
    ·intro w';go_simp
     with_reducible rfl
    rotate_left
    ·simp only [Act.put,sA,sZ,sS,i64_w,i32_w];rfl
    refine take_ (i:=6) (N:=some 9) (v:=?_) (a':=?_) (mA 24 127) rfl rfl (take_ofW HT_.out HW_.out kR) (fun _ _ _ h=>h) (Or.inl ⟨by rfl,?_⟩) hHeld ?_ ?_;rotate_left
    ·rintro w' ⟨s0,s1⟩
     go_simp
     with_reducible rfl
    rotate_left
    ·simp only [Act.put,sA,sZ,sS,i64_w,i32_w];rfl
    refine pure_ (i:=7) (N:=some 10) (v:=?_) (a':=?_) (mA 24 255) rfl rfl (any_of HT_.out kR) (fun _ _ _ h=>h) (Or.inl ⟨by rfl,?_⟩) ?_ ?_;rotate_left
    ·intro w';go_simp
     with_reducible rfl
    rotate_left
    ·simp only [Act.put,sA,sZ,sS,i64_w,i32_w];rfl
    refine pure_ (i:=8) (N:=some 11) (v:=?_) (a':=?_) (mA 24 511) rfl rfl (any_of HT_.out kR) (fun _ _ _ h=>h) (Or.inl ⟨by rfl,?_⟩) ?_ ?_;rotate_left
    ·intro w';go_simp
     with_reducible rfl
    rotate_left
    ·simp only [Act.put,sA,sZ,sS,i64_w,i32_w];rfl
    refine pure_ (i:=9) (N:=some 12) (v:=?_) (a':=?_) (mA 24 1023) rfl rfl (any_of HT_.out kR) (fun _ _ _ h=>h) (Or.inl ⟨by rfl,?_⟩) ?_ ?_;rotate_left
    ·intro w';go_simp
     with_reducible rfl
    rotate_left
    ·simp only [Act.put,sA,sZ,sS,i64_w,i32_w];rfl
    refine pure_ (i:=10) (N:=some 13) (v:=?_) (a':=?_) (mA 24 2047) rfl rfl (any_of HT_.out kR) (fun _ _ _ h=>h) (Or.inl ⟨by rfl,?_⟩) ?_ ?_;rotate_left
    ·intro w';go_simp
     with_reducible rfl
    rotate_left
    ·simp only [Act.put,sA,sZ,sS,i64_w,i32_w];rfl
    refine pure_ (i:=11) (N:=some 14) (v:=?_) (a':=?_) (mA 24 4095) rfl rfl (any_of HT_.out kR) (fun _ _ _ h=>h) (Or.inl ⟨by rfl,?_⟩) ?_ ?_;rotate_left
    ·intro w';go_simp
     with_reducible rfl
    rotate_left
    ·simp only [Act.put,sA,sZ,sS,i64_w,i32_w];rfl
    refine take_ (i:=12) (N:=some 15) (v:=?_) (a':=?_) (mA 24 8191) rfl rfl (take_ofW HT_.out HW_.out kR) (fun _ _ _ h=>h) (Or.inl ⟨by rfl,?_⟩) hHeld ?_ ?_;rotate_left
    ·rintro w' ⟨s0,s1⟩
     go_simp
     with_reducible rfl
    rotate_left
    ·simp only [Act.put,sA,sZ,sS,i64_w,i32_w];rfl
    refine one_ (i:=13) (N:=some 16) (mA 24 16383) rfl rfl (one_of HT_.out kR) (by decide) (fun K hK=>?_);refine goes_ Try.func108 kR rfl #[.slice A0_1 l0_1.length c0_1,.int .i64 0,.int .i64 1000] (by rfl) rfl rfl mq ?_
    with_reducible refine (impl_areIn.calls k _ _ l0_1 0 1000 false _ ?side1 ?side2 A4.out).mono ?_
    (case side1=>exact qcs HR0_1.out HB.out)
    (case side2=>exact HC0_1.out)
    rintro e w13 ⟨rfl,hb⟩
    refine ⟨_,rfl,?_⟩;have n0_:=aM (blk_below (g:=gb786) (o:=.cells #[.int .i64 a0_0,.slice A0_1 l0_1.length c0_1] 46 (0,0)) bk hb);have n1_:=aM (below_step bw hb);clear BK786;clear HB;have BK786:=n0_;have HB:=n1_;clear n0_ n1_;(try clear hb)
    (try clear hb2)
    (try clear hk)
    (try clear hi)
    refine hK.out _ _ ⟨(blk_cell BK786.out 0).trans rfl,(blk_cell BK786.out 1).trans rfl⟩ (fun hHeld=>?_);clear hK K;refine norm_ (a':=?_) ?_ ?_;rotate_left
    ·show Act.put _ (some 16) _ = _;simp only [Act.put,sA,sZ,sS,i64_w,i32_w];rfl
    refine pure_ (i:=14) (N:=some 17) (v:=?_) (a':=?_) (mA 24 32767) rfl rfl (any_of HT_.out kR) (fun _ _ _ h=>h) (Or.inl ⟨by rfl,?_⟩) ?_ ?_;rotate_left
    ·intro w';go_simp
     with_reducible rfl
    rotate_left
    ·simp only [Act.put,sA,sZ,sS,i64_w,i32_w];rfl
    refine pure_ (i:=15) (N:=some 18) (v:=?_) (a':=?_) (mA 24 65535) rfl rfl (any_of HT_.out kR) (fun _ _ _ h=>h) (Or.inl ⟨by rfl,?_⟩) ?_ ?_;rotate_left
    ·intro w';go_simp
     with_reducible rfl
    rotate_left
    ·simp only [Act.put,sA,sZ,sS,i64_w,i32_w];rfl
    refine pure_ (i:=16) (N:=some 19) (v:=undef) (a':=?_) (mA 24 131071) rfl rfl (any_of HT_.out kR) (fun _ _ _ h=>h) (Or.inr ⟨by rfl,rfl⟩) ?_ ?_;rotate_left
    ·simp only [Act.put,sA,sZ,sS,i64_w,i32_w];rfl
    refine pure_ (i:=17) (N:=some 20) (v:=undef) (a':=?_) (mA 24 262143) rfl rfl (any_of HT_.out kR) (fun _ _ _ h=>h) (Or.inr ⟨by rfl,rfl⟩) ?_ ?_;rotate_left
    ·simp only [Act.put,sA,sZ,sS,i64_w,i32_w];rfl
    refine pure_ (i:=18) (N:=some 21) (v:=undef) (a':=?_) (mA 24 524287) rfl rfl (any_of HT_.out kR) (fun _ _ _ h=>h) (Or.inr ⟨by rfl,rfl⟩) ?_ ?_;rotate_left
    ·simp only [Act.put,sA,sZ,sS,i64_w,i32_w];rfl
    refine pure_ (i:=19) (N:=some 22) (v:=undef) (a':=?_) (mA 24 1048575) rfl rfl (any_of HT_.out kR) (fun _ _ _ h=>h) (Or.inr ⟨by rfl,rfl⟩) ?_ ?_;rotate_left
    ·simp only [Act.put,sA,sZ,sS,i64_w,i32_w];rfl
    refine pure_ (i:=20) (N:=some 23) (v:=undef) (a':=?_) (mA 24 2097151) rfl rfl (any_of HT_.out kR) (fun _ _ _ h=>h) (Or.inr ⟨by rfl,rfl⟩) ?_ ?_;rotate_left
    ·simp only [Act.put,sA,sZ,sS,i64_w,i32_w];rfl
    refine pure_ (i:=21) (N:=some 24) (v:=undef) (a':=?_) (mA 24 4194303) rfl rfl (any_of HT_.out kR) (fun _ _ _ h=>h) (Or.inr ⟨by rfl,rfl⟩) ?_ ?_;rotate_left
    ·simp only [Act.put,sA,sZ,sS,i64_w,i32_w];rfl
    refine pure_ (i:=22) (N:=some 25) (v:=?_) (a':=?_) (mA 24 8388607) rfl rfl (any_of HT_.out kR) (fun _ _ _ h=>h) (Or.inl ⟨by rfl,?_⟩) ?_ ?_;rotate_left
    ·intro w';go_simp
     with_reducible rfl
    rotate_left
    ·simp only [Act.put,sA,sZ,sS,i64_w,i32_w];rfl
    refine pure_ (i:=23) (N:=some 2) (v:=?_) (a':=?_) (mA 24 16777215) rfl rfl (any_of HT_.out kR) (fun _ _ _ h=>h) (Or.inl ⟨by rfl,?_⟩) ?_ ?_;rotate_left
    ·intro w';go_simp
     with_reducible rfl
    rotate_left
    ·simp only [Act.put,sA,sZ,sS,i64_w,i32_w];rfl
    refine done_ (done_of HT_.out kR) ?_
    try go_wp2
    go_ret
    exact ⟨by first|rfl|(simp [errW_none,errW_some] <;> rfl)|(simp [*,errW_none,errW_some] <;> rfl),by exact bw⟩
  ·rw [if_neg c3] at H;have c3b0:decide ((l0_1.length:Int) ≤ 9) = false:=decide_eq_false c3;have c3b1:decide (l0_1.length ≤ 9) = false:=decide_eq_false (by omega);clear c3;obtain rfl:=Option.some.inj H;go_enter Try.func68,Try.ntmps68
   try go_wp2_with (first|((with_reducible refine gate_dst (N:=1) rfl ?_);(try (refine gate_guard (by rfl) ?_;dsimp only));refine box_event ?hg (N:=1) ?hd (cs:=#[.int .i64 a0_0,.slice A0_1 l0_1.length c0_1]) (t:=46) ?hr ?_;(case hd=>rfl);(case hg=>rfl);(case hr=>first|(go_simp;done)|(go_simp;rfl));intro gb786 hg w14 hbox hb;have n0_:=aM (below_step bw hb);have n1_:=aM (hbox);have n2_:=aM ((by rw [hg];exact (below_size bw):w.heap.size ≤ gb786));have n3_:=aM ((by rw [hg];exact (below_size bw):w.heap.size ≤ gb786));clear HB;have HB:=n0_;have BK786:=n1_;have GW786:=n2_;have GE786:=n3_;clear n0_ n1_ n2_ n3_;clear hb hbox hg))
   have n0_:=aM (blk_drew BK786.out);have n1_:=aM (below_drew1 HB.out);clear BK786;clear HB;have BK786:=n0_;have HB:=n1_;clear n0_ n1_;refine start_ (n:=24) (S:=fun w'=>w'.cell? ⟨gb786,0,none⟩ = some (.int .i64 a0_0) ∧ w'.cell? ⟨gb786,1,none⟩ = some (.slice A0_1 l0_1.length c0_1)) (ds:=[]) (mA 24 0) kR rfl rfl ⟨(blk_cell BK786.out 0).trans rfl,(blk_cell BK786.out 1).trans rfl⟩ (fun hHeld=>?_);refine with_tabW impl_IsCommittee.tab1 impl_IsCommittee.bits1 (fun HT_ HW_=>?_)
   generalize w14.drew = w15 at BK786 HB hHeld ⊢
   refine pure_ (i:=0) (N:=some 3) (v:=?_) (a':=?_) (mA 24 1) rfl rfl (any_of HT_.out kR) (fun _ _ _ h=>h) (Or.inl ⟨by rfl,?_⟩) ?_ ?_;rotate_left
   ·intro w';go_simp
    with_reducible rfl
   rotate_left
   ·simp only [Act.put,sA,sZ,sS,i64_w,i32_w];rfl
   refine take_ (i:=1) (N:=some 4) (v:=?_) (a':=?_) (mA 24 3) rfl rfl (take_ofW HT_.out HW_.out kR) (fun _ _ _ h=>h) (Or.inl ⟨by rfl,?_⟩) hHeld ?_ ?_;rotate_left
   ·rintro w' ⟨s0,s1⟩
    go_simp
    with_reducible rfl
   rotate_left
   ·simp only [Act.put,sA,sZ,sS,i64_w,i32_w];rfl
   refine pure_ (i:=2) (N:=some 5) (v:=?_) (a':=?_) (mA 24 7) rfl rfl (any_of HT_.out kR) (fun _ _ _ h=>h) (Or.inl ⟨by rfl,?_⟩) ?_ ?_;rotate_left
   ·intro w';go_simp
    with_reducible rfl
   rotate_left
   ·simp only [Act.put,sA,sZ,sS,i64_w,i32_w];rfl
   refine pure_ (i:=3) (N:=some 6) (v:=?_) (a':=?_) (mA 24 15) rfl rfl (any_of HT_.out kR) (fun _ _ _ h=>h) (Or.inl ⟨by rfl,?_⟩) ?_ ?_;rotate_left
   ·intro w';go_simp
    with_reducible rfl
   rotate_left
   ·simp only [Act.put,sA,sZ,sS,i64_w,i32_w];rfl
   refine pure_ (i:=4) (N:=some 7) (v:=?_) (a':=?_) (mA 24 31) rfl rfl (any_of HT_.out kR) (fun _ _ _ h=>h) (Or.inl ⟨by rfl,?_⟩) ?_ ?_;rotate_left
   ·intro w';go_simp
    with_reducible rfl
   rotate_left
   ·simp only [Act.put,sA,sZ,sS,i64_w,i32_w];rfl
   refine pure_ (i:=5) (N:=some 8) (v:=?_) (a':=?_) (mA 24 63) rfl rfl (any_of HT_.out kR) (fun _ _ _ h=>h) (Or.inl ⟨by rfl,?_⟩) ?_ ?_;rotate_left
   ·intro w';go_simp
    with_reducible rfl
   rotate_left
   ·simp only [Act.put,sA,sZ,sS,i64_w,i32_w];rfl
   refine take_ (i:=6) (N:=some 9) (v:=?_) (a':=?_) (mA 24 127) rfl rfl (take_ofW HT_.out HW_.out kR) (fun _ _ _ h=>h) (Or.inl ⟨by rfl,?_⟩) hHeld ?_ ?_;rotate_left
   ·rintro w' ⟨s0,s1⟩
    go_simp
    with_reducible rfl
   rotate_left
   ·simp only [Act.put,sA,sZ,sS,i64_w,i32_w];rfl
   refine pure_ (i:=7) (N:=some 10) (v:=?_) (a':=?_) (mA 24 255) rfl rfl (any_of HT_.out kR) (fun _ _ _ h=>h) (Or.inl ⟨by rfl,?_⟩) ?_ ?_;rotate_left
   ·intro w';go_simp
    with_reducible rfl
   rotate_left
   ·simp only [Act.put,sA,sZ,sS,i64_w,i32_w];rfl
   refine pure_ (i:=8) (N:=some 11) (v:=?_) (a':=?_) (mA 24 511) rfl rfl (any_of HT_.out kR) (fun _ _ _ h=>h) (Or.inl ⟨by rfl,?_⟩) ?_ ?_;rotate_left
   ·intro w';go_simp
    with_reducible rfl
   rotate_left
   ·simp only [Act.put,sA,sZ,sS,i64_w,i32_w];rfl
   refine pure_ (i:=9) (N:=some 12) (v:=?_) (a':=?_) (mA 24 1023) rfl rfl (any_of HT_.out kR) (fun _ _ _ h=>h) (Or.inl ⟨by rfl,?_⟩) ?_ ?_;rotate_left
   ·intro w';go_simp
    with_reducible rfl
   rotate_left
   ·simp only [Act.put,sA,sZ,sS,i64_w,i32_w];rfl
   refine pure_ (i:=10) (N:=some 13) (v:=?_) (a':=?_) (mA 24 2047) rfl rfl (any_of HT_.out kR) (fun _ _ _ h=>h) (Or.inl ⟨by rfl,?_⟩) ?_ ?_;rotate_left
   ·intro w';go_simp
    with_reducible rfl
   rotate_left
   ·simp only [Act.put,sA,sZ,sS,i64_w,i32_w];rfl
   refine pure_ (i:=11) (N:=some 14) (v:=undef) (a':=?_) (mA 24 4095) rfl rfl (any_of HT_.out kR) (fun _ _ _ h=>h) (Or.inr ⟨by rfl,rfl⟩) ?_ ?_;rotate_left
   ·simp only [Act.put,sA,sZ,sS,i64_w,i32_w];rfl
   refine pure_ (i:=12) (N:=some 15) (v:=undef) (a':=?_) (mA 24 8191) rfl rfl (any_of HT_.out kR) (fun _ _ _ h=>h) (Or.inr ⟨by rfl,rfl⟩) ?_ ?_;rotate_left
   ·simp only [Act.put,sA,sZ,sS,i64_w,i32_w];rfl
   refine pure_ (i:=13) (N:=some 16) (v:=undef) (a':=?_) (mA 24 16383) rfl rfl (any_of HT_.out kR) (fun _ _ _ h=>h) (Or.inr ⟨by rfl,rfl⟩) ?_ ?_;rotate_left
   ·simp only [Act.put,sA,sZ,sS,i64_w,i32_w];rfl
   refine pure_ (i:=14) (N:=some 17) (v:=?_) (a':=?_) (mA 24 32767) rfl rfl (any_of HT_.out kR) (fun _ _ _ h=>h) (Or.inl ⟨by rfl,?_⟩) ?_ ?_;rotate_left
   ·intro w';go_simp
    with_reducible rfl
   rotate_left
   ·simp only [Act.put,sA,sZ,sS,i64_w,i32_w];rfl
   refine pure_ (i:=15) (N:=some 18) (v:=?_) (a':=?_) (mA 24 65535) rfl rfl (any_of HT_.out kR) (fun _ _ _ h=>h) (Or.inl ⟨by rfl,?_⟩) ?_ ?_;rotate_left
   ·intro w';go_simp
    with_reducible rfl
   rotate_left
   ·simp only [Act.put,sA,sZ,sS,i64_w,i32_w];rfl
   refine pure_ (i:=16) (N:=some 19) (v:=undef) (a':=?_) (mA 24 131071) rfl rfl (any_of HT_.out kR) (fun _ _ _ h=>h) (Or.inr ⟨by rfl,rfl⟩) ?_ ?_;rotate_left
   ·simp only [Act.put,sA,sZ,sS,i64_w,i32_w];rfl
   refine pure_ (i:=17) (N:=some 20) (v:=undef) (a':=?_) (mA 24 262143) rfl rfl (any_of HT_.out kR) (fun _ _ _ h=>h) (Or.inr ⟨by rfl,rfl⟩) ?_ ?_;rotate_left
   ·simp only [Act.put,sA,sZ,sS,i64_w,i32_w];rfl
   refine pure_ (i:=18) (N:=some 21) (v:=undef) (a':=?_) (mA 24 524287) rfl rfl (any_of HT_.out kR) (fun _ _ _ h=>h) (Or.inr ⟨by rfl,rfl⟩) ?_ ?_;rotate_left
   ·simp only [Act.put,sA,sZ,sS,i64_w,i32_w];rfl
   refine pure_ (i:=19) (N:=some 22) (v:=undef) (a':=?_) (mA 24 1048575) rfl rfl (any_of HT_.out kR) (fun _ _ _ h=>h) (Or.inr ⟨by rfl,rfl⟩) ?_ ?_;rotate_left
   ·simp only [Act.put,sA,sZ,sS,i64_w,i32_w];rfl
   refine pure_ (i:=20) (N:=some 23) (v:=undef) (a':=?_) (mA 24 2097151) rfl rfl (any_of HT_.out kR) (fun _ _ _ h=>h) (Or.inr ⟨by rfl,rfl⟩) ?_ ?_;rotate_left
   ·simp only [Act.put,sA,sZ,sS,i64_w,i32_w];rfl
   refine pure_ (i:=21) (N:=some 24) (v:=undef) (a':=?_) (mA 24 4194303) rfl rfl (any_of HT_.out kR) (fun _ _ _ h=>h) (Or.inr ⟨by rfl,rfl⟩) ?_ ?_;rotate_left
   ·simp only [Act.put,sA,sZ,sS,i64_w,i32_w];rfl
   refine pure_ (i:=22) (N:=some 25) (v:=?_) (a':=?_) (mA 24 8388607) rfl rfl (any_of HT_.out kR) (fun _ _ _ h=>h) (Or.inl ⟨by rfl,?_⟩) ?_ ?_;rotate_left
   ·intro w';go_simp
    with_reducible rfl
   rotate_left
   ·simp only [Act.put,sA,sZ,sS,i64_w,i32_w];rfl
   refine pure_ (i:=23) (N:=some 2) (v:=?_) (a':=?_) (mA 24 16777215) rfl rfl (any_of HT_.out kR) (fun _ _ _ h=>h) (Or.inl ⟨by rfl,?_⟩) ?_ ?_;rotate_left
   ·intro w';go_simp
    with_reducible rfl
   rotate_left
   ·simp only [Act.put,sA,sZ,sS,i64_w,i32_w];rfl
   refine done_ (done_of HT_.out kR) ?_
   try go_wp2
   go_ret
   exact ⟨by first|rfl|(simp [errW_none,errW_some] <;> rfl)|(simp [*,errW_none,errW_some] <;> rfl),by exact bw⟩
 ·rw [if_neg c2] at H;have c2b0:decide (1 ≤ (l0_1.length:Int)) = false:=decide_eq_false c2;have c2b1:decide (1 ≤ l0_1.length) = false:=decide_eq_false (by omega);clear c2;obtain rfl:=Option.some.inj H;go_enter Try.func68,Try.ntmps68
  try go_wp2_with (first|((with_reducible refine gate_dst (N:=1) rfl ?_);(try (refine gate_guard (by rfl) ?_;dsimp only));refine box_event ?hg (N:=1) ?hd (cs:=#[.int .i64 a0_0,.slice A0_1 l0_1.length c0_1]) (t:=46) ?hr ?_;(case hd=>rfl);(case hg=>rfl);(case hr=>first|(go_simp;done)|(go_simp;rfl));intro gb786 hg w16 hbox hb;have n0_:=aM (below_step bw hb);have n1_:=aM (hbox);have n2_:=aM ((by rw [hg];exact (below_size bw):w.heap.size ≤ gb786));have n3_:=aM ((by rw [hg];exact (below_size bw):w.heap.size ≤ gb786));clear HB;have HB:=n0_;have BK786:=n1_;have GW786:=n2_;have GE786:=n3_;clear n0_ n1_ n2_ n3_;clear hb hbox hg))
  have n0_:=aM (blk_drew BK786.out);have n1_:=aM (below_drew1 HB.out);clear BK786;clear HB;have BK786:=n0_;have HB:=n1_;clear n0_ n1_;refine start_ (n:=24) (S:=fun w'=>w'.cell? ⟨gb786,0,none⟩ = some (.int .i64 a0_0) ∧ w'.cell? ⟨gb786,1,none⟩ = some (.slice A0_1 l0_1.length c0_1)) (ds:=[]) (mA 24 0) kR rfl rfl ⟨(blk_cell BK786.out 0).trans rfl,(blk_cell BK786.out 1).trans rfl⟩ (fun hHeld=>?_);refine with_tabW impl_IsCommittee.tab1 impl_IsCommittee.bits1 (fun HT_ HW_=>?_)
  generalize w16.drew = w17 at BK786 HB hHeld ⊢
  refine pure_ (i:=0) (N:=some 3) (v:=?_) (a':=?_) (mA 24 1) rfl rfl (any_of HT_.out kR) (fun _ _ _ h=>h) (Or.inl ⟨by rfl,?_⟩) ?_ ?_;rotate_left
  ·intro w';go_simp
   with_reducible rfl
  rotate_left
  ·simp only [Act.put,sA,sZ,sS,i64_w,i32_w];rfl
  refine take_ (i:=1) (N:=some 4) (v:=?_) (a':=?_) (mA 24 3) rfl rfl (take_ofW HT_.out HW_.out kR) (fun _ _ _ h=>h) (Or.inl ⟨by rfl,?_⟩) hHeld ?_ ?_;rotate_left
  ·rintro w' ⟨s0,s1⟩
   go_simp
   with_reducible rfl
  rotate_left
  ·simp only [Act.put,sA,sZ,sS,i64_w,i32_w];rfl
  refine pure_ (i:=2) (N:=some 5) (v:=?_) (a':=?_) (mA 24 7) rfl rfl (any_of HT_.out kR) (fun _ _ _ h=>h) (Or.inl ⟨by rfl,?_⟩) ?_ ?_;rotate_left
  ·intro w';go_simp
   with_reducible rfl
  rotate_left
  ·simp only [Act.put,sA,sZ,sS,i64_w,i32_w];rfl
  refine pure_ (i:=3) (N:=some 6) (v:=?_) (a':=?_) (mA 24 15) rfl rfl (any_of HT_.out kR) (fun _ _ _ h=>h) (Or.inl ⟨by rfl,?_⟩) ?_ ?_;rotate_left
  ·intro w';go_simp
   with_reducible rfl
  rotate_left
  ·simp only [Act.put,sA,sZ,sS,i64_w,i32_w];rfl
  refine pure_ (i:=4) (N:=some 7) (v:=?_) (a':=?_) (mA 24 31) rfl rfl (any_of HT_.out kR) (fun _ _ _ h=>h) (Or.inl ⟨by rfl,?_⟩) ?_ ?_;rotate_left
  ·intro w';go_simp
   with_reducible rfl
  rotate_left
  ·simp only [Act.put,sA,sZ,sS,i64_w,i32_w];rfl
  refine pure_ (i:=5) (N:=some 8) (v:=undef) (a':=?_) (mA 24 63) rfl rfl (any_of HT_.out kR) (fun _ _ _ h=>h) (Or.inr ⟨by rfl,rfl⟩) ?_ ?_;rotate_left
  ·simp only [Act.put,sA,sZ,sS,i64_w,i32_w];rfl
  refine pure_ (i:=6) (N:=some 9) (v:=undef) (a':=?_) (mA 24 127) rfl rfl (any_of HT_.out kR) (fun _ _ _ h=>h) (Or.inr ⟨by rfl,rfl⟩) ?_ ?_;rotate_left
  ·simp only [Act.put,sA,sZ,sS,i64_w,i32_w];rfl
  refine pure_ (i:=7) (N:=some 10) (v:=undef) (a':=?_) (mA 24 255) rfl rfl (any_of HT_.out kR) (fun _ _ _ h=>h) (Or.inr ⟨by rfl,rfl⟩) ?_ ?_;rotate_left
  ·simp only [Act.put,sA,sZ,sS,i64_w,i32_w];rfl
  refine pure_ (i:=8) (N:=some 11) (v:=undef) (a':=?_) (mA 24 511) rfl rfl (any_of HT_.out kR) (fun _ _ _ h=>h) (Or.inr ⟨by rfl,rfl⟩) ?_ ?_;rotate_left
  ·simp only [Act.put,sA,sZ,sS,i64_w,i32_w];rfl
  refine pure_ (i:=9) (N:=some 12) (v:=?_) (a':=?_) (mA 24 1023) rfl rfl (any_of HT_.out kR) (fun _ _ _ h=>h) (Or.inl ⟨by rfl,?_⟩) ?_ ?_;rotate_left
  ·intro w';go_simp
   with_reducible rfl
  rotate_left
  ·simp only [Act.put,sA,sZ,sS,i64_w,i32_w];rfl
  refine pure_ (i:=10) (N:=some 13) (v:=?_) (a':=?_) (mA 24 2047) rfl rfl (any_of HT_.out kR) (fun _ _ _ h=>h) (Or.inl ⟨by rfl,?_⟩) ?_ ?_;rotate_left
  ·intro w';go_simp
   with_reducible rfl
  rotate_left
  ·simp only [Act.put,sA,sZ,sS,i64_w,i32_w];rfl
  refine pure_ (i:=11) (N:=some 14) (v:=undef) (a':=?_) (mA 24 4095) rfl rfl (any_of HT_.out kR) (fun _ _ _ h=>h) (Or.inr ⟨by rfl,rfl⟩) ?_ ?_;rotate_left
  ·simp only [Act.put,sA,sZ,sS,i64_w,i32_w];rfl
  refine pure_ (i:=12) (N:=some 15) (v:=undef) (a':=?_) (mA 24 8191) rfl rfl (any_of HT_.out kR) (fun _ _ _ h=>h) (Or.inr ⟨by rfl,rfl⟩) ?_ ?_;rotate_left
  ·simp only [Act.put,sA,sZ,sS,i64_w,i32_w];rfl
  refine pure_ (i:=13) (N:=some 16) (v:=undef) (a':=?_) (mA 24 16383) rfl rfl (any_of HT_.out kR) (fun _ _ _ h=>h) (Or.inr ⟨by rfl,rfl⟩) ?_ ?_;rotate_left
  ·simp only [Act.put,sA,sZ,sS,i64_w,i32_w];rfl
  refine pure_ (i:=14) (N:=some 17) (v:=?_) (a':=?_) (mA 24 32767) rfl rfl (any_of HT_.out kR) (fun _ _ _ h=>h) (Or.inl ⟨by rfl,?_⟩) ?_ ?_;rotate_left
  ·intro w';go_simp
   with_reducible rfl
  rotate_left
  ·simp only [Act.put,sA,sZ,sS,i64_w,i32_w];rfl
  refine pure_ (i:=15) (N:=some 18) (v:=?_) (a':=?_) (mA 24 65535) rfl rfl (any_of HT_.out kR) (fun _ _ _ h=>h) (Or.inl ⟨by rfl,?_⟩) ?_ ?_;rotate_left
  ·intro w';go_simp
   with_reducible rfl
  rotate_left
  ·simp only [Act.put,sA,sZ,sS,i64_w,i32_w];rfl
  refine pure_ (i:=16) (N:=some 19) (v:=undef) (a':=?_) (mA 24 131071) rfl rfl (any_of HT_.out kR) (fun _ _ _ h=>h) (Or.inr ⟨by rfl,rfl⟩) ?_ ?_;rotate_left
  ·simp only [Act.put,sA,sZ,sS,i64_w,i32_w];rfl
  refine pure_ (i:=17) (N:=some 20) (v:=undef) (a':=?_) (mA 24 262143) rfl rfl (any_of HT_.out kR) (fun _ _ _ h=>h) (Or.inr ⟨by rfl,rfl⟩) ?_ ?_;rotate_left
  ·simp only [Act.put,sA,sZ,sS,i64_w,i32_w];rfl
  refine pure_ (i:=18) (N:=some 21) (v:=undef) (a':=?_) (mA 24 524287) rfl rfl (any_of HT_.out kR) (fun _ _ _ h=>h) (Or.inr ⟨by rfl,rfl⟩) ?_ ?_;rotate_left
  ·simp only [Act.put,sA,sZ,sS,i64_w,i32_w];rfl
  refine pure_ (i:=19) (N:=some 22) (v:=undef) (a':=?_) (mA 24 1048575) rfl rfl (any_of HT_.out kR) (fun _ _ _ h=>h) (Or.inr ⟨by rfl,rfl⟩) ?_ ?_;rotate_left
  ·simp only [Act.put,sA,sZ,sS,i64_w,i32_w];rfl
  refine pure_ (i:=20) (N:=some 23) (v:=undef) (a':=?_) (mA 24 2097151) rfl rfl (any_of HT_.out kR) (fun _ _ _ h=>h) (Or.inr ⟨by rfl,rfl⟩) ?_ ?_;rotate_left
  ·simp only [Act.put,sA,sZ,sS,i64_w,i32_w];rfl
  refine pure_ (i:=21) (N:=some 24) (v:=undef) (a':=?_) (mA 24 4194303) rfl rfl (any_of HT_.out kR) (fun _ _ _ h=>h) (Or.inr ⟨by rfl,rfl⟩) ?_ ?_;rotate_left
  ·simp only [Act.put,sA,sZ,sS,i64_w,i32_w];rfl
  refine pure_ (i:=22) (N:=some 25) (v:=?_) (a':=?_) (mA 24 8388607) rfl rfl (any_of HT_.out kR) (fun _ _ _ h=>h) (Or.inl ⟨by rfl,?_⟩) ?_ ?_;rotate_left
  ·intro w';go_simp
   with_reducible rfl
  rotate_left
  ·simp only [Act.put,sA,sZ,sS,i64_w,i32_w];rfl
  refine pure_ (i:=23) (N:=some 2) (v:=?_) (a':=?_) (mA 24 16777215) rfl rfl (any_of HT_.out kR) (fun _ _ _ h=>h) (Or.inl ⟨by rfl,?_⟩) ?_ ?_;rotate_left
  ·intro w';go_simp
   with_reducible rfl
  rotate_left
  ·simp only [Act.put,sA,sZ,sS,i64_w,i32_w];rfl
  refine done_ (done_of HT_.out kR) ?_
  try go_wp2
  go_ret
  exact ⟨by first|rfl|(simp [errW_none,errW_some] <;> rfl)|(simp [*,errW_none,errW_some] <;> rfl),by exact bw⟩


/-! ### spec_l1All: function 103 -/
def spec_l1All.l0:Nat → Int → Int → List Int → Int → Int → Option (Bool)
 | 0,_,_,_,_,_=>none
 | k + 1,x1,x2,x9,x10,x11=>if x11 < x10 then (if 0 ≤ x11 then (if x11 < (x9.length:Int) then ((spec_l1In.f (rd x9 x11) x1 x2).bind fun t728=>(if t728 = true then (spec_l1All.l0 k x1 x2 x9 x10 (wrap64 (x11 + 1))) else (some false))) else (none)) else (none)) else (some true)
def spec_l1All.f (k:Nat) (l0:List Int) (a1:Int) (a2:Int):Option (Bool):=spec_l1All.l0 k a1 a2 l0 (l0.length:Int) 0
theorem spec_l1All.mono_l:∀ k,(∀ y0 y1 y2 y3 y4,LeO (spec_l1All.l0 k y0 y1 y2 y3 y4) (spec_l1All.l0 (k + 1) y0 y1 y2 y3 y4))
 | 0=>fun _ _ _ _ _ r h=>by simp [spec_l1All.l0] at h
 | k + 1=>by
  have ih0:=spec_l1All.mono_l k
  ·intro y0 y1 y2 y3 y4;unfold spec_l1All.l0
   repeat' with_reducible first|exact ih0 _ _ _ _ _|exact LeO.refl _|exact LeO.none _|refine LeO.ite ?_ ?_|refine LeO.bind ?_ (fun _=>?_)
theorem spec_l1All.mono:∀ a0 a1 a2 k,LeO (spec_l1All.f k a0 a1 a2) (spec_l1All.f (k + 1) a0 a1 a2):=by
 intro a0 a1 a2 k;have ih0:=spec_l1All.mono_l k;unfold spec_l1All.f
 repeat' with_reducible first|exact ih0 _ _ _ _ _|exact LeO.refl _|exact LeO.none _|refine LeO.ite ?_ ?_|refine LeO.bind ?_ (fun _=>?_)
set_option maxHeartbeats 8000000 in
set_option maxRecDepth 100000 in
theorem spec_l1All.calls (k:Nat) (A0:Option Addr) (c0:Nat) (l0:List Int) (a1:Int) (a2:Int) (r:Bool) (w:World) (hr0:Kd.C (Kd.int .i64) w A0 l0.length l0) (hc0:l0.length ≤ c0) (h:spec_l1All.f k l0 a1 a2 = some r) :
  Calls Try.prog 103 #[.slice A0 l0.length c0,.int .i64 a1,.int .i64 a2] w fun e w'=>e = .returned (.bool r) ∧ Drawn0 w w':=by
 have HR0:=aM hr0;have HC0:=aM hc0;clear hr0 hc0;have H:(spec_l1All.l0 k a1 a2 l0 (l0.length:Int) 0) = some r:=h;clear h;have H':=aM H;clear H;go_enter Try.func103,Try.ntmps103;go_wp2
 go_loopg [11] k (fun kq v11 w'=>∃ (x11_1:Int),v11 = .int .i64 x11_1 ∧ Aside0 (spec_l1All.l0 kq a1 a2 l0 (l0.length:Int) x11_1 = some r) ∧ Aside0 (kq ≤ k) ∧ Drawn0 w w')
 case atStart=>exact ⟨(0),qrs,H',⟨Nat.le_refl _⟩,by repeat (first|exact Drawn0.refl _|apply Drawn0.step)⟩
 case round =>
  clear H';(try clear c1);(try clear p2)
  obtain ⟨x11_1,rfl,HA,HK1,⟨m1,rfl⟩⟩:=hrel
  cases gk with
  | zero=>exact absurd HA.out (by simp [spec_l1All.l0])
  | succ k1 =>
   have H:=HA.out;clear HA;simp only [spec_l1All.l0] at H;by_cases c4:x11_1 < (l0.length:Int)
   ·rw [if_pos c4] at H;have c4b0:decide (x11_1 < (l0.length:Int)) = true:=decide_eq_true c4;clear c4;by_cases c5:0 ≤ x11_1
    ·rw [if_pos c5] at H;have c5b0:decide (0 ≤ x11_1) = true:=decide_eq_true c5;clear c5;by_cases c6:x11_1 < (l0.length:Int)
     ·rw [if_pos c6] at H;have c6b0:decide (x11_1 < (l0.length:Int)) = true:=decide_eq_true c6;clear c6;replace H:=Option.bind_eq_some_iff.mp H;obtain ⟨t728,A70,H⟩:=H;replace H:(if t728 = true then (spec_l1All.l0 k1 a1 a2 l0 (l0.length:Int) (wrap64 (x11_1 + 1))) else (some false)) = some r:=H;have A7:=aM A70;clear A70;by_cases c8:t728 = true
      ·subst c8;have H1:(spec_l1All.l0 k1 a1 a2 l0 (l0.length:Int) (wrap64 (x11_1 + 1))) = some r:=by rw [if_pos rfl] at H;exact H
       clear H;have H:=H1;clear H1;have H':=aM H;clear H;have p727:0 ≤ (x11_1:Int):=of_decide_eq_true ab;have q727:x11_1 < (l0.length:Int):=of_decide_eq_true ab;obtain ⟨ad727,e727,hx727_0⟩:=Kd.at_int HR0.out x11_1 p727 q727;cases e727
       replace p727:=eq_true p727;replace q727:=eq_true q727;go_wp2_with (first|((with_reducible refine gate_callee (f:=54) rfl ?_);refine goesL_ (some 18) rfl rfl Try.func54 kR rfl #[.int .i64 (rd l0 x11_1),.int .i64 a1,.int .i64 a2] rfl mq ?_;(with_reducible refine (spec_l1In.calls (rd l0 x11_1) a1 a2 true _ A7.out).mono ?_);rintro e w' ⟨rfl,⟨nd,rfl⟩⟩;refine ⟨_,rfl,?_⟩))
       go_roundg k1
       case measure=>have:=HK1.out;omega
       case rel=>exact ⟨(wrap64 (x11_1 + 1)),qrs,H',⟨by have:=HK1.out;omega⟩,by repeat (first|exact Drawn0.refl _|apply Drawn0.step)⟩
      ·replace c8:=Bool.eq_false_iff.mpr c8;subst c8;have H1:(some false) = some r:=by rw [if_neg (show ¬ (false = true) by decide)] at H;exact H
       clear H;have H:=H1;clear H1;obtain rfl:=Option.some.inj H;have p727:0 ≤ (x11_1:Int):=of_decide_eq_true ab;have q727:x11_1 < (l0.length:Int):=of_decide_eq_true ab;obtain ⟨ad727,e727,hx727_0⟩:=Kd.at_int HR0.out x11_1 p727 q727;cases e727
       replace p727:=eq_true p727;replace q727:=eq_true q727;go_wp2_with (first|((with_reducible refine gate_callee (f:=54) rfl ?_);refine goesL_ (some 18) rfl rfl Try.func54 kR rfl #[.int .i64 (rd l0 x11_1),.int .i64 a1,.int .i64 a2] rfl mq ?_;(with_reducible refine (spec_l1In.calls (rd l0 x11_1) a1 a2 false _ A7.out).mono ?_);rintro e w' ⟨rfl,⟨nd,rfl⟩⟩;refine ⟨_,rfl,?_⟩))
       go_ret
       exact ⟨by first|rfl|(simp;done)|(simp [*];done),by repeat (first|exact Drawn0.refl _|apply Drawn0.step)⟩
     ·rw [if_neg c6] at H;exact absurd H (by simp)
    ·rw [if_neg c5] at H;exact absurd H (by simp)
   ·rw [if_neg c4] at H;have c4b0:decide (x11_1 < (l0.length:Int)) = false:=decide_eq_false c4;clear c4;obtain rfl:=Option.some.inj H;go_wp2
    go_ret
    exact ⟨by first|rfl|(simp;done)|(simp [*];done),by repeat (first|exact Drawn0.refl _|apply Drawn0.step)⟩


/-! ### spec_voSum: function 104 -/
def spec_voSum.l0:Nat → Int → List Int → Int → Int → Option (Int)
 | 0,_,_,_,_=>none
 | k + 1,x3,x6,x7,x8=>if x8 < x7 then (if 0 ≤ x8 then (if x8 < (x6.length:Int) then (spec_voSum.l0 k (wrap64 (x3 + (rd x6 x8))) x6 x7 (wrap64 (x8 + 1))) else (none)) else (none)) else (some x3)
def spec_voSum.f (k:Nat) (l0:List Int):Option (Int):=spec_voSum.l0 k 0 l0 (l0.length:Int) 0
theorem spec_voSum.mono_l:∀ k,(∀ y0 y1 y2 y3,LeO (spec_voSum.l0 k y0 y1 y2 y3) (spec_voSum.l0 (k + 1) y0 y1 y2 y3))
 | 0=>fun _ _ _ _ r h=>by simp [spec_voSum.l0] at h
 | k + 1=>by
  have ih0:=spec_voSum.mono_l k
  ·intro y0 y1 y2 y3;unfold spec_voSum.l0
   repeat' with_reducible first|exact ih0 _ _ _ _|exact LeO.refl _|exact LeO.none _|refine LeO.ite ?_ ?_|refine LeO.bind ?_ (fun _=>?_)
theorem spec_voSum.mono:∀ a0 k,LeO (spec_voSum.f k a0) (spec_voSum.f (k + 1) a0):=by
 intro a0 k;have ih0:=spec_voSum.mono_l k;unfold spec_voSum.f
 repeat' with_reducible first|exact ih0 _ _ _ _|exact LeO.refl _|exact LeO.none _|refine LeO.ite ?_ ?_|refine LeO.bind ?_ (fun _=>?_)
set_option maxHeartbeats 8000000 in
set_option maxRecDepth 100000 in
theorem spec_voSum.calls (k:Nat) (A0:Option Addr) (c0:Nat) (l0:List Int) (r:Int) (w:World) (hr0:Kd.C (Kd.int .i64) w A0 l0.length l0) (hc0:l0.length ≤ c0) (h:spec_voSum.f k l0 = some r) :
  Calls Try.prog 104 #[.slice A0 l0.length c0] w fun e w'=>e = .returned (.int .i64 r) ∧ Drawn0 w w':=by
 have HR0:=aM hr0;have HC0:=aM hc0;clear hr0 hc0;have H:(spec_voSum.l0 k 0 l0 (l0.length:Int) 0) = some r:=h;clear h;have H':=aM H;clear H;go_enter Try.func104,Try.ntmps104;go_wp2
 go_loopg [3,8] k (fun kq v3 v8 w'=>∃ (x3_1:Int) (x8_1:Int),v3 = .int .i64 x3_1 ∧ v8 = .int .i64 x8_1 ∧ Aside0 (spec_voSum.l0 kq x3_1 l0 (l0.length:Int) x8_1 = some r) ∧ Aside0 (kq ≤ k) ∧ Drawn0 w w')
 case atStart=>exact ⟨(0),(0),qrs,qrs,H',⟨Nat.le_refl _⟩,by repeat (first|exact Drawn0.refl _|apply Drawn0.step)⟩
 case round =>
  clear H'
  try clear c1
  obtain ⟨x3_1,x8_1,rfl,rfl,HA,HK1,⟨m1,rfl⟩⟩:=hrel
  cases gk with
  | zero=>exact absurd HA.out (by simp [spec_voSum.l0])
  | succ k1 =>
   have H:=HA.out;clear HA;simp only [spec_voSum.l0] at H;by_cases c2:x8_1 < (l0.length:Int)
   ·rw [if_pos c2] at H;have c2b0:decide (x8_1 < (l0.length:Int)) = true:=decide_eq_true c2;clear c2;by_cases c3:0 ≤ x8_1
    ·rw [if_pos c3] at H;have c3b0:decide (0 ≤ x8_1) = true:=decide_eq_true c3;clear c3;by_cases c4:x8_1 < (l0.length:Int)
     ·rw [if_pos c4] at H;have c4b0:decide (x8_1 < (l0.length:Int)) = true:=decide_eq_true c4;clear c4;have H':=aM H;clear H;have p729:0 ≤ (x8_1:Int):=of_decide_eq_true ab;have q729:x8_1 < (l0.length:Int):=of_decide_eq_true ab;obtain ⟨ad729,e729,hx729_0⟩:=Kd.at_int HR0.out x8_1 p729 q729;cases e729
      replace p729:=eq_true p729;replace q729:=eq_true q729;go_wp2
      go_roundg k1
      case measure=>have:=HK1.out;omega
      case rel=>exact ⟨(wrap64 (x3_1 + (rd l0 x8_1))),(wrap64 (x8_1 + 1)),qrs,qrs,H',⟨by have:=HK1.out;omega⟩,by repeat (first|exact Drawn0.refl _|apply Drawn0.step)⟩
     ·rw [if_neg c4] at H;exact absurd H (by simp)
    ·rw [if_neg c3] at H;exact absurd H (by simp)
   ·rw [if_neg c2] at H;have c2b0:decide (x8_1 < (l0.length:Int)) = false:=decide_eq_false c2;clear c2;obtain rfl:=Option.some.inj H;go_wp2
    go_ret
    exact ⟨by first|rfl|(simp;done)|(simp [*];done),by repeat (first|exact Drawn0.refl _|apply Drawn0.step)⟩


/-! ### spec_voGood: function 63 -/
def spec_voGood.j0:Nat → Bool → Int → List Int → Option (Bool)
 | 0,_,_,_=>none
 | k + 1,x13,x731000,x731001=>if x13 = true then (some false) else ((spec_voSum.f k x731001).bind fun t733=>((spec_l1In.f x731000 1 t733).bind fun t734=>(some t734)))
def spec_voGood.f (k:Nat) (a0_0:Int) (l0_1:List Int):Option (Bool):=(spec_l1In.f (l0_1.length:Int) 1 9).bind fun t731=>(if t731 = true then ((spec_l1All.f k l0_1 0 1000).bind fun t732=>(spec_voGood.j0 k (!t732) a0_0 l0_1)) else (spec_voGood.j0 k true a0_0 l0_1))
theorem spec_voGood.mono_l:∀ k,(∀ y0 y1 y2,LeO (spec_voGood.j0 k y0 y1 y2) (spec_voGood.j0 (k + 1) y0 y1 y2))
 | 0=>fun _ _ _ r h=>by simp [spec_voGood.j0] at h
 | k + 1=>by
  have ih0:=spec_voGood.mono_l k
  ·intro y0 y1 y2;unfold spec_voGood.j0
   repeat' with_reducible first|exact ih0 _ _ _|exact spec_l1All.mono _ _ _ _|exact spec_voSum.mono _ _|exact LeO.refl _|exact LeO.none _|refine LeO.ite ?_ ?_|refine LeO.bind ?_ (fun _=>?_)
theorem spec_voGood.mono:∀ a0 a1 k,LeO (spec_voGood.f k a0 a1) (spec_voGood.f (k + 1) a0 a1):=by
 intro a0 a1 k;have ih0:=spec_voGood.mono_l k;unfold spec_voGood.f
 repeat' with_reducible first|exact ih0 _ _ _|exact spec_l1All.mono _ _ _ _|exact spec_voSum.mono _ _|exact LeO.refl _|exact LeO.none _|refine LeO.ite ?_ ?_|refine LeO.bind ?_ (fun _=>?_)
set_option maxHeartbeats 8000000 in
set_option maxRecDepth 100000 in
theorem spec_voGood.calls (k:Nat) (a0_0:Int) (A0_1:Option Addr) (c0_1:Nat) (l0_1:List Int) (r:Bool) (w:World) (hr0_1:Kd.C (Kd.int .i64) w A0_1 l0_1.length l0_1) (hc0_1:l0_1.length ≤ c0_1) (h:spec_voGood.f k a0_0 l0_1 = some r) :
  Calls Try.prog 63 #[.agg #[.int .i64 a0_0,.slice A0_1 l0_1.length c0_1]] w fun e w'=>e = .returned (.bool r) ∧ Below w.heap.size w w':=by
 have hu46:=Try.underlying46;have HR0_1:=aM hr0_1;have HC0_1:=aM hc0_1;clear hr0_1 hc0_1;have HB:=aM (Below.refl w.heap.size w);have H:((spec_l1In.f (l0_1.length:Int) 1 9).bind fun t731=>(if t731 = true then ((spec_l1All.f k l0_1 0 1000).bind fun t732=>(spec_voGood.j0 k (!t732) a0_0 l0_1)) else (spec_voGood.j0 k true a0_0 l0_1))) = some r:=h;clear h;have HC2:=aM H;clear H;go_enter Try.func63,Try.ntmps63;go_upto_region 1 with (first|((with_reducible refine gate_dst (N:=1) rfl ?_);refine box_event ?hg (N:=1) ?hd (cs:=#[.int .i64 a0_0,.slice A0_1 l0_1.length c0_1]) (t:=46) ?hr ?_;(case hd=>rfl);(case hg=>rfl);(case hr=>first|(go_simp;done)|(go_simp;rfl));intro gb730 hg w3 hbox hb;have n0_:=aM (below_step bw hb);have n1_:=aM (hbox);have n2_:=aM ((by rw [hg];exact (below_size bw):w.heap.size ≤ gb730));have n3_:=aM ((by rw [hg];exact (below_size bw):w.heap.size ≤ gb730));clear HB;have HB:=n0_;have BK730:=n1_;have GW730:=n2_;have GE730:=n3_;clear n0_ n1_ n2_ n3_;clear hb hbox hg))
 repeat (go_quiet (first|((with_reducible refine gate_dst (N:=1) rfl ?_);refine box_event ?hg (N:=1) ?hd (cs:=#[.int .i64 a0_0,.slice A0_1 l0_1.length c0_1]) (t:=46) ?hr ?_;(case hd=>rfl);(case hg=>rfl);(case hr=>first|(go_simp;done)|(go_simp;rfl));intro gb730 hg w3 hbox hb;have n0_:=aM (below_step bw hb);have n1_:=aM (hbox);have n2_:=aM ((by rw [hg];exact (below_size bw):w.heap.size ≤ gb730));have n3_:=aM ((by rw [hg];exact (below_size bw):w.heap.size ≤ gb730));clear HB;have HB:=n0_;have BK730:=n1_;have GW730:=n2_;have GE730:=n3_;clear n0_ n1_ n2_ n3_;clear hb hbox hg));go_upto_region 1 with (first|((with_reducible refine gate_dst (N:=1) rfl ?_);refine box_event ?hg (N:=1) ?hd (cs:=#[.int .i64 a0_0,.slice A0_1 l0_1.length c0_1]) (t:=46) ?hr ?_;(case hd=>rfl);(case hg=>rfl);(case hr=>first|(go_simp;done)|(go_simp;rfl));intro gb730 hg w3 hbox hb;have n0_:=aM (below_step bw hb);have n1_:=aM (hbox);have n2_:=aM ((by rw [hg];exact (below_size bw):w.heap.size ≤ gb730));have n3_:=aM ((by rw [hg];exact (below_size bw):w.heap.size ≤ gb730));clear HB;have HB:=n0_;have BK730:=n1_;have GW730:=n2_;have GE730:=n3_;clear n0_ n1_ n2_ n3_;clear hb hbox hg)))
 (try simp only [Act.put,sA,sZ,sS])
 go_cut [13] (fun v13 wc=>∃ (kq:Nat) (x13_1:Bool),v13 = .bool x13_1 ∧ Aside0 (spec_voGood.j0 kq x13_1 a0_0 l0_1 = some r) ∧ Aside0 (kq ≤ k) ∧ Aside0 (wc.heap[gb730]? = some (.cells #[.int .i64 a0_0,(.slice A0_1 l0_1.length c0_1)] 46 (0,0))) ∧ Aside0 (Below w.heap.size w wc))
 case first =>
  have H:=HC2.out;clear HC2;replace H:=Option.bind_eq_some_iff.mp H;obtain ⟨t731,A40,H⟩:=H;replace H:(if t731 = true then ((spec_l1All.f k l0_1 0 1000).bind fun t732=>(spec_voGood.j0 k (!t732) a0_0 l0_1)) else (spec_voGood.j0 k true a0_0 l0_1)) = some r:=H;have A4:=aM A40;clear A40;by_cases c5:t731 = true
  ·subst c5;have H1:((spec_l1All.f k l0_1 0 1000).bind fun t732=>(spec_voGood.j0 k (!t732) a0_0 l0_1)) = some r:=by rw [if_pos rfl] at H;exact H
   clear H;have H:=H1;clear H1;replace H:=Option.bind_eq_some_iff.mp H;obtain ⟨t732,A60,H⟩:=H;replace H:(spec_voGood.j0 k (!t732) a0_0 l0_1) = some r:=H;have A6:=aM A60;clear A60;have H':=aM H;clear H;have hcz7_0:w3.cell? ⟨gb730,0,none⟩ = some (.int .i64 a0_0):=(blk_cell BK730.out 0).trans rfl;have hcz7_1:w3.cell? ⟨gb730,1,none⟩ = some (.slice A0_1 l0_1.length c0_1):=(blk_cell BK730.out 1).trans rfl;have hfz7_0:=blk_frozen BK730.out 0;have hfz7_1:=blk_frozen BK730.out 1;go_wp2_with (first|(go_at_call 54;(with_reducible refine (spec_l1In.calls (l0_1.length:Int) 1 9 true _ A4.out).mono ?_);rintro e w' ⟨rfl,⟨nd,rfl⟩⟩;(try first|exact ⟨rfl,_,World.drewN_drewN _ _ _⟩|exact ⟨rfl,_,Eq.trans (World.drewN_drewN _ _ _) (congrArg (World.drewN _) (Nat.add_assoc _ _ _))⟩))|(go_at_call 103;(with_reducible refine (spec_l1All.calls k _ _ l0_1 0 1000 t732 _ ?side1 ?side2 A6.out).mono ?_);(case side1=>repeat (first|exact (Kd.C_below HR0_1.out bw)|(with_reducible refine Kd.C_alloc ?_ _)|(with_reducible refine Kd.C_drewN ?_ _)|(with_reducible refine Kd.C_drew ?_)));(case side2=>exact HC0_1.out);rintro e w' ⟨rfl,⟨nd,rfl⟩⟩;(try first|exact ⟨rfl,_,World.drewN_drewN _ _ _⟩|exact ⟨rfl,_,Eq.trans (World.drewN_drewN _ _ _) (congrArg (World.drewN _) (Nat.add_assoc _ _ _))⟩)))
   repeat (go_quiet (first|(go_at_call 54;(with_reducible refine (spec_l1In.calls (l0_1.length:Int) 1 9 true _ A4.out).mono ?_);rintro e w' ⟨rfl,⟨nd,rfl⟩⟩;(try first|exact ⟨rfl,_,World.drewN_drewN _ _ _⟩|exact ⟨rfl,_,Eq.trans (World.drewN_drewN _ _ _) (congrArg (World.drewN _) (Nat.add_assoc _ _ _))⟩))|(go_at_call 103;(with_reducible refine (spec_l1All.calls k _ _ l0_1 0 1000 t732 _ ?side1 ?side2 A6.out).mono ?_);(case side1=>repeat (first|exact (Kd.C_below HR0_1.out bw)|(with_reducible refine Kd.C_alloc ?_ _)|(with_reducible refine Kd.C_drewN ?_ _)|(with_reducible refine Kd.C_drew ?_)));(case side2=>exact HC0_1.out);rintro e w' ⟨rfl,⟨nd,rfl⟩⟩;(try first|exact ⟨rfl,_,World.drewN_drewN _ _ _⟩|exact ⟨rfl,_,Eq.trans (World.drewN_drewN _ _ _) (congrArg (World.drewN _) (Nat.add_assoc _ _ _))⟩)));try go_wp2_with (first|(go_at_call 54;(with_reducible refine (spec_l1In.calls (l0_1.length:Int) 1 9 true _ A4.out).mono ?_);rintro e w' ⟨rfl,⟨nd,rfl⟩⟩;(try first|exact ⟨rfl,_,World.drewN_drewN _ _ _⟩|exact ⟨rfl,_,Eq.trans (World.drewN_drewN _ _ _) (congrArg (World.drewN _) (Nat.add_assoc _ _ _))⟩))|(go_at_call 103;(with_reducible refine (spec_l1All.calls k _ _ l0_1 0 1000 t732 _ ?side1 ?side2 A6.out).mono ?_);(case side1=>repeat (first|exact (Kd.C_below HR0_1.out bw)|(with_reducible refine Kd.C_alloc ?_ _)|(with_reducible refine Kd.C_drewN ?_ _)|(with_reducible refine Kd.C_drew ?_)));(case side2=>exact HC0_1.out);rintro e w' ⟨rfl,⟨nd,rfl⟩⟩;(try first|exact ⟨rfl,_,World.drewN_drewN _ _ _⟩|exact ⟨rfl,_,Eq.trans (World.drewN_drewN _ _ _) (congrArg (World.drewN _) (Nat.add_assoc _ _ _))⟩))))
   go_meet
   case rel=>exact ⟨_,(!t732),qrs,H',⟨by first|omega|exact Nat.le_refl _⟩,⟨by (with_reducible repeat (first|refine blk_drewN ?_ _|refine blk_drew ?_|refine blk_alloc ?_ _));exact BK730.out⟩,⟨by exact bw⟩⟩
  ·replace c5:=Bool.eq_false_iff.mpr c5;subst c5;have H1:(spec_voGood.j0 k true a0_0 l0_1) = some r:=by rw [if_neg (show ¬ (false = true) by decide)] at H;exact H
   clear H;have H:=H1;clear H1;have H':=aM H;clear H;have hcz8_0:w3.cell? ⟨gb730,0,none⟩ = some (.int .i64 a0_0):=(blk_cell BK730.out 0).trans rfl;have hcz8_1:w3.cell? ⟨gb730,1,none⟩ = some (.slice A0_1 l0_1.length c0_1):=(blk_cell BK730.out 1).trans rfl;have hfz8_0:=blk_frozen BK730.out 0;have hfz8_1:=blk_frozen BK730.out 1;go_wp2_with (first|(go_at_call 54;(with_reducible refine (spec_l1In.calls (l0_1.length:Int) 1 9 false _ A4.out).mono ?_);rintro e w' ⟨rfl,⟨nd,rfl⟩⟩;(try first|exact ⟨rfl,_,World.drewN_drewN _ _ _⟩|exact ⟨rfl,_,Eq.trans (World.drewN_drewN _ _ _) (congrArg (World.drewN _) (Nat.add_assoc _ _ _))⟩)))
   repeat (go_quiet (first|(go_at_call 54;(with_reducible refine (spec_l1In.calls (l0_1.length:Int) 1 9 false _ A4.out).mono ?_);rintro e w' ⟨rfl,⟨nd,rfl⟩⟩;(try first|exact ⟨rfl,_,World.drewN_drewN _ _ _⟩|exact ⟨rfl,_,Eq.trans (World.drewN_drewN _ _ _) (congrArg (World.drewN _) (Nat.add_assoc _ _ _))⟩)));try go_wp2_with (first|(go_at_call 54;(with_reducible refine (spec_l1In.calls (l0_1.length:Int) 1 9 false _ A4.out).mono ?_);rintro e w' ⟨rfl,⟨nd,rfl⟩⟩;(try first|exact ⟨rfl,_,World.drewN_drewN _ _ _⟩|exact ⟨rfl,_,Eq.trans (World.drewN_drewN _ _ _) (congrArg (World.drewN _) (Nat.add_assoc _ _ _))⟩))))
   go_meet
   case rel=>exact ⟨_,(true),qrs,H',⟨by first|omega|exact Nat.le_refl _⟩,⟨by (with_reducible repeat (first|refine blk_drewN ?_ _|refine blk_drew ?_|refine blk_alloc ?_ _));exact BK730.out⟩,⟨by exact bw⟩⟩
 case rest =>
  clear HC2;(try clear p2);(try clear c5);(try clear c6);(try clear hcz7_0);(try clear hcz7_1);(try clear hcz8_0);(try clear hcz8_1);(try clear hfz7_0);(try clear hfz7_1);(try clear hfz8_0);(try clear hfz8_1)
  obtain ⟨kq,x13_1,rfl,HA,HJ1,BK730,HB⟩:=hcut
  cases kq with
  | zero=>exact absurd HA.out (by simp [spec_voGood.j0])
  | succ kj1 =>
   have H:=HA.out;clear HA;simp only [spec_voGood.j0] at H;by_cases c9:x13_1 = true
   ·subst c9;have H1:(some false) = some r:=by rw [if_pos rfl] at H;exact H
    clear H;have H:=H1;clear H1;obtain rfl:=Option.some.inj H;go_wp2
    repeat (go_quiet (fail);try go_wp2)
    go_ret
    exact ⟨by first|rfl|(simp [errW_none,errW_some] <;> rfl)|(simp [*,errW_none,errW_some] <;> rfl),by exact bw⟩
   ·replace c9:=Bool.eq_false_iff.mpr c9;subst c9;have H1:((spec_voSum.f kj1 l0_1).bind fun t733=>((spec_l1In.f a0_0 1 t733).bind fun t734=>(some t734))) = some r:=by rw [if_neg (show ¬ (false = true) by decide)] at H;exact H
    clear H;have H:=H1;clear H1;replace H:=Option.bind_eq_some_iff.mp H;obtain ⟨t733,A100,H⟩:=H;replace H:((spec_l1In.f a0_0 1 t733).bind fun t734=>(some t734)) = some r:=H;have A10:=aM A100;clear A100;replace H:=Option.bind_eq_some_iff.mp H;obtain ⟨t734,A110,H⟩:=H;replace H:(some t734) = some r:=H;have A11:=aM A110;clear A110;obtain rfl:=Option.some.inj H;have hcz12_0:wc.cell? ⟨gb730,0,none⟩ = some (.int .i64 a0_0):=(blk_cell BK730.out 0).trans rfl;have hcz12_1:wc.cell? ⟨gb730,1,none⟩ = some (.slice A0_1 l0_1.length c0_1):=(blk_cell BK730.out 1).trans rfl;have hfz12_0:=blk_frozen BK730.out 0;have hfz12_1:=blk_frozen BK730.out 1;go_wp2_with (first|(go_at_call 104;(with_reducible refine (spec_voSum.calls kj1 _ _ l0_1 t733 _ ?side1 ?side2 A10.out).mono ?_);(case side1=>exact qcs HR0_1.out HB.out);(case side2=>exact HC0_1.out);rintro e w' ⟨rfl,⟨nd,rfl⟩⟩;(try first|exact ⟨rfl,_,World.drewN_drewN _ _ _⟩|exact ⟨rfl,_,Eq.trans (World.drewN_drewN _ _ _) (congrArg (World.drewN _) (Nat.add_assoc _ _ _))⟩))|(go_at_call 54;(with_reducible refine (spec_l1In.calls a0_0 1 t733 t734 _ A11.out).mono ?_);rintro e w' ⟨rfl,⟨nd,rfl⟩⟩;(try first|exact ⟨rfl,_,World.drewN_drewN _ _ _⟩|exact ⟨rfl,_,Eq.trans (World.drewN_drewN _ _ _) (congrArg (World.drewN _) (Nat.add_assoc _ _ _))⟩)))
    repeat (go_quiet (first|(go_at_call 104;(with_reducible refine (spec_voSum.calls kj1 _ _ l0_1 t733 _ ?side1 ?side2 A10.out).mono ?_);(case side1=>exact qcs HR0_1.out HB.out);(case side2=>exact HC0_1.out);rintro e w' ⟨rfl,⟨nd,rfl⟩⟩;(try first|exact ⟨rfl,_,World.drewN_drewN _ _ _⟩|exact ⟨rfl,_,Eq.trans (World.drewN_drewN _ _ _) (congrArg (World.drewN _) (Nat.add_assoc _ _ _))⟩))|(go_at_call 54;(with_reducible refine (spec_l1In.calls a0_0 1 t733 t734 _ A11.out).mono ?_);rintro e w' ⟨rfl,⟨nd,rfl⟩⟩;(try first|exact ⟨rfl,_,World.drewN_drewN _ _ _⟩|exact ⟨rfl,_,Eq.trans (World.drewN_drewN _ _ _) (congrArg (World.drewN _) (Nat.add_assoc _ _ _))⟩)));try go_wp2_with (first|(go_at_call 104;(with_reducible refine (spec_voSum.calls kj1 _ _ l0_1 t733 _ ?side1 ?side2 A10.out).mono ?_);(case side1=>exact qcs HR0_1.out HB.out);(case side2=>exact HC0_1.out);rintro e w' ⟨rfl,⟨nd,rfl⟩⟩;(try first|exact ⟨rfl,_,World.drewN_drewN _ _ _⟩|exact ⟨rfl,_,Eq.trans (World.drewN_drewN _ _ _) (congrArg (World.drewN _) (Nat.add_assoc _ _ _))⟩))|(go_at_call 54;(with_reducible refine (spec_l1In.calls a0_0 1 t733 t734 _ A11.out).mono ?_);rintro e w' ⟨rfl,⟨nd,rfl⟩⟩;(try first|exact ⟨rfl,_,World.drewN_drewN _ _ _⟩|exact ⟨rfl,_,Eq.trans (World.drewN_drewN _ _ _) (congrArg (World.drewN _) (Nat.add_assoc _ _ _))⟩))))
    go_ret
    exact ⟨by first|rfl|(simp [errW_none,errW_some] <;> rfl)|(simp [*,errW_none,errW_some] <;> rfl),by exact bw⟩


/-! ### laws_szCommittee: function 24 -/
def laws_szCommittee.f (a0_0:Int) (l0_1:List Int) (a1:Int):Option (Int):=(laws_szIntS.f l0_1 a1).bind fun t726=>(if t726 < 0 then (some (-1)) else (some t726))
set_option maxHeartbeats 8000000 in
set_option maxRecDepth 100000 in
theorem laws_szCommittee.calls (a0_0:Int) (A0_1:Option Addr) (c0_1:Nat) (l0_1:List Int) (a1:Int) (r:Int) (w:World) (hr0_1:Kd.C (Kd.int .i64) w A0_1 l0_1.length l0_1) (hc0_1:l0_1.length ≤ c0_1) (h:laws_szCommittee.f a0_0 l0_1 a1 = some r) :
  Calls Try.prog 24 #[.agg #[.int .i64 a0_0,.slice A0_1 l0_1.length c0_1],.int .i64 a1] w fun e w'=>e = .returned (.int .i64 r) ∧ Below w.heap.size w w':=by
 have hu42:=Try.underlying42;have HR0_1:=aM hr0_1;have HC0_1:=aM hc0_1;clear hr0_1 hc0_1;have HB:=aM (Below.refl w.heap.size w);have H:((laws_szIntS.f l0_1 a1).bind fun t726=>(if t726 < 0 then (some (-1)) else (some t726))) = some r:=h;clear h;replace H:=Option.bind_eq_some_iff.mp H;obtain ⟨t726,A30,H⟩:=H;replace H:(if t726 < 0 then (some (-1)) else (some t726)) = some r:=H;have A3:=aM A30;clear A30;by_cases c4:t726 < 0
 ·rw [if_pos c4] at H;have c4b0:decide (t726 < 0) = true:=decide_eq_true c4;clear c4;obtain rfl:=Option.some.inj H;go_enter Try.func24,Try.ntmps24;go_wp2_with (first|((with_reducible refine gate_dst (N:=2) rfl ?_);refine box_event ?hg (N:=2) ?hd (cs:=#[.int .i64 a0_0,.slice A0_1 l0_1.length c0_1]) (t:=42) ?hr ?_;(case hd=>rfl);(case hg=>rfl);(case hr=>first|(go_simp;done)|(go_simp;rfl));intro gb725 hg w5 hbox hb;have n0_:=aM (below_step bw hb);have n1_:=aM (hbox);have n2_:=aM ((by rw [hg];exact (below_size bw):w.heap.size ≤ gb725));have n3_:=aM ((by rw [hg];exact (below_size bw):w.heap.size ≤ gb725));clear HB;have HB:=n0_;have BK725:=n1_;have GW725:=n2_;have GE725:=n3_;clear n0_ n1_ n2_ n3_;clear hb hbox hg;have hcz6_0:w5.cell? ⟨gb725,0,none⟩ = some (.int .i64 a0_0):=(blk_cell BK725.out 0).trans rfl;have hcz6_1:w5.cell? ⟨gb725,1,none⟩ = some (.slice A0_1 l0_1.length c0_1):=(blk_cell BK725.out 1).trans rfl;have hfz6_0:=blk_frozen BK725.out 0;have hfz6_1:=blk_frozen BK725.out 1)|((with_reducible refine gate_callee (f:=62) rfl ?_);refine goesL_ (some 8) rfl rfl Try.func62 kR rfl #[.slice A0_1 l0_1.length c0_1,.int .i64 a1] rfl mq ?_;(with_reducible refine (laws_szIntS.calls _ _ l0_1 a1 t726 _ ?side1 ?side2 A3.out).mono ?_);(case side1=>exact qcs HR0_1.out HB.out);(case side2=>exact HC0_1.out);rintro e w' ⟨rfl,⟨nd,rfl⟩⟩;refine ⟨_,rfl,?_⟩))
  go_ret
  exact ⟨by first|rfl|(simp [errW_none,errW_some] <;> rfl)|(simp [*,errW_none,errW_some] <;> rfl),by exact bw⟩
 ·rw [if_neg c4] at H;have c4b0:decide (t726 < 0) = false:=decide_eq_false c4;clear c4;obtain rfl:=Option.some.inj H;go_enter Try.func24,Try.ntmps24;go_wp2_with (first|((with_reducible refine gate_dst (N:=2) rfl ?_);refine box_event ?hg (N:=2) ?hd (cs:=#[.int .i64 a0_0,.slice A0_1 l0_1.length c0_1]) (t:=42) ?hr ?_;(case hd=>rfl);(case hg=>rfl);(case hr=>first|(go_simp;done)|(go_simp;rfl));intro gb725 hg w7 hbox hb;have n0_:=aM (below_step bw hb);have n1_:=aM (hbox);have n2_:=aM ((by rw [hg];exact (below_size bw):w.heap.size ≤ gb725));have n3_:=aM ((by rw [hg];exact (below_size bw):w.heap.size ≤ gb725));clear HB;have HB:=n0_;have BK725:=n1_;have GW725:=n2_;have GE725:=n3_;clear n0_ n1_ n2_ n3_;clear hb hbox hg;have hcz8_0:w7.cell? ⟨gb725,0,none⟩ = some (.int .i64 a0_0):=(blk_cell BK725.out 0).trans rfl;have hcz8_1:w7.cell? ⟨gb725,1,none⟩ = some (.slice A0_1 l0_1.length c0_1):=(blk_cell BK725.out 1).trans rfl;have hfz8_0:=blk_frozen BK725.out 0;have hfz8_1:=blk_frozen BK725.out 1)|((with_reducible refine gate_callee (f:=62) rfl ?_);refine goesL_ (some 8) rfl rfl Try.func62 kR rfl #[.slice A0_1 l0_1.length c0_1,.int .i64 a1] rfl mq ?_;(with_reducible refine (laws_szIntS.calls _ _ l0_1 a1 t726 _ ?side1 ?side2 A3.out).mono ?_);(case side1=>exact qcs HR0_1.out HB.out);(case side2=>exact HC0_1.out);rintro e w' ⟨rfl,⟨nd,rfl⟩⟩;refine ⟨_,rfl,?_⟩))
  go_ret
  exact ⟨by first|rfl|(simp [errW_none,errW_some] <;> rfl)|(simp [*,errW_none,errW_some] <;> rfl),by exact bw⟩


/-! ### laws_toCommittee: function 26 -/
def laws_toCommittee.f (k:Nat) (a0_0:Int) (l0_1:List Int):Option (Int × List Int):=(laws_toIntS.f k l0_1).bind fun t782=>(some (a0_0,t782))
theorem laws_toCommittee.mono:∀ a0 a1 k,LeO (laws_toCommittee.f k a0 a1) (laws_toCommittee.f (k + 1) a0 a1):=by
 intro a0 a1 k;unfold laws_toCommittee.f
 repeat' with_reducible first|exact laws_toIntS.mono _ _|exact LeO.refl _|exact LeO.none _|refine LeO.ite ?_ ?_|refine LeO.bind ?_ (fun _=>?_)
set_option maxHeartbeats 8000000 in
set_option maxRecDepth 100000 in
theorem laws_toCommittee.calls (k:Nat) (a0_0:Int) (A0_1:Option Addr) (c0_1:Nat) (l0_1:List Int) (r1:Int) (r2:List Int) (w:World) (hr0_1:Kd.C (Kd.int .i64) w A0_1 l0_1.length l0_1) (hc0_1:l0_1.length ≤ c0_1) (h:laws_toCommittee.f k a0_0 l0_1 = some (r1,r2)) :
  Calls Try.prog 26 #[.agg #[.int .i64 a0_0,.slice A0_1 l0_1.length c0_1]] w fun e w'=>∃ v1_:Value,e = .returned (.agg #[.int .i64 r1,v1_]) ∧ Kd.R (Kd.int .i64) 3 w' w.heap.size (fun _=>True) v1_ r2 ∧ Below w.heap.size w w':=by
 have hu42:=Try.underlying42;have hu46:=Try.underlying46;have HR0_1:=aM hr0_1;have HC0_1:=aM hc0_1;clear hr0_1 hc0_1;have HB:=aM (Below.refl w.heap.size w);have H:((laws_toIntS.f k l0_1).bind fun t782=>(some (a0_0,t782))) = some (r1,r2):=h;clear h;replace H:=Option.bind_eq_some_iff.mp H;obtain ⟨t782,A20,H⟩:=H;replace H:(some (a0_0,t782)) = some (r1,r2):=H;have A2:=aM A20;clear A20;simp only [Option.some.injEq,Prod.mk.injEq] at H;obtain ⟨rfl,rfl⟩:=H;go_enter Try.func26,Try.ntmps26;go_wp2_with (first|((with_reducible refine gate_dst (N:=1) rfl ?_);refine box_event ?hg (N:=1) ?hd (cs:=#[.int .i64 a0_0,.slice A0_1 l0_1.length c0_1]) (t:=42) ?hr ?_;(case hd=>rfl);(case hg=>rfl);(case hr=>first|(go_simp;done)|(go_simp;rfl));intro gb779 hg w3 hbox hb;have n0_:=aM (below_step bw hb);have n1_:=aM (hbox);have n2_:=aM ((by rw [hg];exact (below_size bw):w.heap.size ≤ gb779));have n3_:=aM ((by rw [hg];exact (below_size bw):w.heap.size ≤ gb779));clear HB;have HB:=n0_;have BK779:=n1_;have GW779:=n2_;have GE779:=n3_;clear n0_ n1_ n2_ n3_;clear hb hbox hg)|((with_reducible refine gate_dst (N:=2) rfl ?_);refine box_event ?hg (N:=2) ?hd (cs:=#[.int .i64 0,.slice none 0 0]) (t:=46) ?hr ?_;(case hd=>rfl);(case hg=>rfl);(case hr=>first|(go_simp;done)|(go_simp;rfl));intro gb780 hg w4 hbox hb;have n0_:=aM (blk_below (g:=gb779) (o:=.cells #[.int .i64 a0_0,.slice A0_1 l0_1.length c0_1] 42 (0,0)) bk hb);have n1_:=aM (below_step bw hb);have n2_:=aM (hbox);have n3_:=aM ((by rw [hg];exact (below_size bw):w.heap.size ≤ gb780));have n4_:=aM ((by rw [hg];exact (below_size bw):w.heap.size ≤ gb780));have n5_:=aM ((by rw [hg];exact Nat.ne_of_lt (blk_lt (g:=gb779) (o:=.cells #[.int .i64 a0_0,.slice A0_1 l0_1.length c0_1] 42 (0,0)) bk):gb779 ≠ gb780));have n6_:=aM ((by rw [hg];exact Nat.ne_of_gt (blk_lt (g:=gb779) (o:=.cells #[.int .i64 a0_0,.slice A0_1 l0_1.length c0_1] 42 (0,0)) bk):gb780 ≠ gb779));clear BK779;clear HB;have BK779:=n0_;have HB:=n1_;have BK780:=n2_;have GW780:=n3_;have GE780:=n4_;have NB779_780:=n5_;have NB780_779:=n6_;clear n0_ n1_ n2_ n3_ n4_ n5_ n6_;clear hb hbox hg)|((with_reducible refine gate_dst (N:=3) rfl ?_);refine box_event ?hg (N:=3) ?hd (cs:=#[.int .i64 0,.slice none 0 0]) (t:=46) ?hr ?_;(case hd=>rfl);(case hg=>rfl);(case hr=>first|(go_simp;done)|(go_simp;rfl));intro gb781 hg w5 hbox hb;have n0_:=aM (blk_below (g:=gb779) (o:=.cells #[.int .i64 a0_0,.slice A0_1 l0_1.length c0_1] 42 (0,0)) bk hb);have n1_:=aM (blk_below (g:=gb780) (o:=.cells #[.int .i64 0,.slice none 0 0] 46 (0,0)) bk hb);have n2_:=aM (below_step bw hb);have n3_:=aM (hbox);have n4_:=aM ((by rw [hg];exact (below_size bw):w.heap.size ≤ gb781));have n5_:=aM ((by rw [hg];exact (below_size bw):w.heap.size ≤ gb781));have n6_:=aM ((by rw [hg];exact Nat.ne_of_lt (blk_lt (g:=gb779) (o:=.cells #[.int .i64 a0_0,.slice A0_1 l0_1.length c0_1] 42 (0,0)) bk):gb779 ≠ gb781));have n7_:=aM ((by rw [hg];exact Nat.ne_of_gt (blk_lt (g:=gb779) (o:=.cells #[.int .i64 a0_0,.slice A0_1 l0_1.length c0_1] 42 (0,0)) bk):gb781 ≠ gb779));have n8_:=aM ((by rw [hg];exact Nat.ne_of_lt (blk_lt (g:=gb780) (o:=.cells #[.int .i64 0,.slice none 0 0] 46 (0,0)) bk):gb780 ≠ gb781));have n9_:=aM ((by rw [hg];exact Nat.ne_of_gt (blk_lt (g:=gb780) (o:=.cells #[.int .i64 0,.slice none 0 0] 46 (0,0)) bk):gb781 ≠ gb780));clear BK779;clear BK780;clear HB;have BK779:=n0_;have BK780:=n1_;have HB:=n2_;have BK781:=n3_;have GW781:=n4_;have GE781:=n5_;have NB779_781:=n6_;have NB781_779:=n7_;have NB780_781:=n8_;have NB781_780:=n9_;clear n0_ n1_ n2_ n3_ n4_ n5_ n6_ n7_ n8_ n9_;clear hb hbox hg;have hnb6:=NB779_780.out;have hnc6:=NB780_779.out;have hnb7:=NB779_781.out;have hnc7:=NB781_779.out;have hcz8_0:w5.cell? ⟨gb779,0,none⟩ = some (.int .i64 a0_0):=(blk_cell BK779.out 0).trans rfl;have hcz8_1:w5.cell? ⟨gb779,1,none⟩ = some (.slice A0_1 l0_1.length c0_1):=(blk_cell BK779.out 1).trans rfl;have hfz8_0:=blk_frozen BK779.out 0;have hfz8_1:=blk_frozen BK779.out 1;have hnb9:=NB781_780.out;have hnc9:=NB780_781.out;have hcz10_0:w5.cell? ⟨gb781,0,none⟩ = some (.int .i64 0):=(blk_cell BK781.out 0).trans rfl;have hcz10_1:w5.cell? ⟨gb781,1,none⟩ = some (.slice none 0 0):=(blk_cell BK781.out 1).trans rfl;have hfz10_0:=blk_frozen BK781.out 0;have hfz10_1:=blk_frozen BK781.out 1)|((with_reducible refine gate_callee (f:=67) rfl ?_);refine goesL_ (some 9) rfl rfl Try.func67 kR rfl #[.slice A0_1 l0_1.length c0_1] rfl mq ?_;(with_reducible refine (laws_toIntS.calls k _ _ l0_1 t782 _ ?side1 ?side2 A2.out).mono ?_);(case side1=>exact Kd.C_below HR0_1.out bw);(case side2=>exact HC0_1.out);rintro e w11 ⟨v783,rfl,ho0,hb⟩;refine ⟨_,rfl,?_⟩;have n0_:=aM (Kd.R_lower ho0 (below_size bw));have n1_:=aM (blk_below (g:=gb779) (o:=.cells #[.int .i64 a0_0,.slice A0_1 l0_1.length c0_1] 42 (0,0)) (by (with_reducible repeat (first|refine blk_drewN ?_ _|refine blk_drew ?_|refine blk_alloc ?_ _));refine blk_far ?_ NB779_781.out _;(with_reducible repeat (first|refine blk_drewN ?_ _|refine blk_drew ?_|refine blk_alloc ?_ _));exact BK779.out) hb);have n2_:=aM (blk_below (g:=gb780) (o:=.cells #[.int .i64 0,.slice none 0 0] 46 (0,0)) (by (with_reducible repeat (first|refine blk_drewN ?_ _|refine blk_drew ?_|refine blk_alloc ?_ _));refine blk_far ?_ NB780_781.out _;(with_reducible repeat (first|refine blk_drewN ?_ _|refine blk_drew ?_|refine blk_alloc ?_ _));exact BK780.out) hb);have n3_:=aM (blk_below (g:=gb781) (o:=.cells #[.int .i64 a0_0,.slice none 0 0] 46 (0,0)) (by (with_reducible repeat (first|refine blk_drewN ?_ _|refine blk_drew ?_|refine blk_alloc ?_ _));refine blk_put (cs:=#[.int .i64 0,.slice none 0 0]) ?_ 0 _ rfl;(with_reducible repeat (first|refine blk_drewN ?_ _|refine blk_drew ?_|refine blk_alloc ?_ _));exact BK781.out) hb);have n4_:=aM (below_step bw hb);clear BK779;clear BK780;clear BK781;clear HB;have HO784:=n0_;have BK779:=n1_;have BK780:=n2_;have BK781:=n3_;have HB:=n4_;clear n0_ n1_ n2_ n3_ n4_;(try clear hb);(try clear hb2);(try clear hk);(try clear hi);(try clear ho0);obtain ⟨Ao12,co12,eo12⟩:=Kd.R_slice HO784.out;subst eo12;have hcz13_0:w11.cell? ⟨gb781,0,none⟩ = some (.int .i64 a0_0):=(blk_cell BK781.out 0).trans rfl;have hcz13_1:w11.cell? ⟨gb781,1,none⟩ = some (.slice none 0 0):=(blk_cell BK781.out 1).trans rfl;have hfz13_0:=blk_frozen BK781.out 0;have hfz13_1:=blk_frozen BK781.out 1;have hcz14_0:w11.cell? ⟨gb780,0,none⟩ = some (.int .i64 0):=(blk_cell BK780.out 0).trans rfl;have hcz14_1:w11.cell? ⟨gb780,1,none⟩ = some (.slice none 0 0):=(blk_cell BK780.out 1).trans rfl;have hfz14_0:=blk_frozen BK780.out 0;have hfz14_1:=blk_frozen BK780.out 1))
 refine bodyPost_ret (results_cell_row rfl _ _ gb780 46 #[.int .i64 a0_0,.slice Ao12 t782.length co12] (0,0) _ rfl (by (with_reducible repeat (first|refine blk_drewN ?_ _|refine blk_drew ?_|refine blk_alloc ?_ _));refine blk_put (cs:=#[.int .i64 a0_0,.slice none 0 0]) ?_ 1 _ rfl;(with_reducible repeat (first|refine blk_drewN ?_ _|refine blk_drew ?_|refine blk_alloc ?_ _));refine blk_put (cs:=#[.int .i64 0,.slice none 0 0]) ?_ 0 _ rfl;(with_reducible repeat (first|refine blk_drewN ?_ _|refine blk_drew ?_|refine blk_alloc ?_ _));refine blk_far ?_ NB780_781.out _;(with_reducible repeat (first|refine blk_drewN ?_ _|refine blk_drew ?_|refine blk_alloc ?_ _));exact BK780.out) Try.underlying46 rfl kR) rfl ?_;exact ⟨_,by first|rfl|(simp [errW_none,errW_some] <;> rfl)|(simp [*,errW_none,errW_some] <;> rfl),by (with_reducible repeat (first|apply Kd.R_alloc|apply Kd.R_drewN|apply Kd.R_drew));exact Kd.R_mono (Kd.R_far (p:=⟨gb780,1,none⟩) (Kd.R_far (p:=⟨gb780,0,none⟩) (Kd.R_far (p:=⟨gb781,1,none⟩) (Kd.R_types (Kd.R_types HO784.out BK781.out (by decide)) BK780.out (by decide)) (fun _ hk=>hk.1.2) (.slice Ao12 t782.length co12)) (fun _ hk=>hk.2) (.int .i64 a0_0)) (fun _ hk=>hk.2) (.slice Ao12 t782.length co12)) (fun _ hk=>trivial),by exact bw⟩


/-! ### laws_eqCommittee: function 28 -/
def laws_eqCommittee.f (k:Nat) (a0_0:Int) (l0_1:List Int) (a1_0:Int) (l1_1:List Int):Option (Bool):=if a0_0 = a1_0 then ((laws_eqIntS.f k l0_1 l1_1).bind fun t824=>(if t824 = true then (some true) else (some false))) else (some false)
theorem laws_eqCommittee.mono:∀ a0 a1 a2 a3 k,LeO (laws_eqCommittee.f k a0 a1 a2 a3) (laws_eqCommittee.f (k + 1) a0 a1 a2 a3):=by
 intro a0 a1 a2 a3 k;unfold laws_eqCommittee.f
 repeat' with_reducible first|exact laws_eqIntS.mono _ _ _|exact LeO.refl _|exact LeO.none _|refine LeO.ite ?_ ?_|refine LeO.bind ?_ (fun _=>?_)
set_option maxHeartbeats 8000000 in
set_option maxRecDepth 100000 in
theorem laws_eqCommittee.calls (k:Nat) (a0_0:Int) (A0_1:Option Addr) (c0_1:Nat) (l0_1:List Int) (a1_0:Int) (A1_1:Option Addr) (c1_1:Nat) (l1_1:List Int) (r:Bool) (w:World) (hr0_1:Kd.C (Kd.int .i64) w A0_1 l0_1.length l0_1) (hc0_1:l0_1.length ≤ c0_1) (hr1_1:Kd.C (Kd.int .i64) w A1_1 l1_1.length l1_1) (hc1_1:l1_1.length ≤ c1_1) (h:laws_eqCommittee.f k a0_0 l0_1 a1_0 l1_1 = some r) :
  Calls Try.prog 28 #[.agg #[.int .i64 a0_0,.slice A0_1 l0_1.length c0_1],.agg #[.int .i64 a1_0,.slice A1_1 l1_1.length c1_1]] w fun e w'=>e = .returned (.bool r) ∧ Below w.heap.size w w':=by
 have hu46:=Try.underlying46;have HR0_1:=aM hr0_1;have HC0_1:=aM hc0_1;clear hr0_1 hc0_1;have HR1_1:=aM hr1_1;have HC1_1:=aM hc1_1;clear hr1_1 hc1_1;have HB:=aM (Below.refl w.heap.size w);have H:(if a0_0 = a1_0 then ((laws_eqIntS.f k l0_1 l1_1).bind fun t824=>(if t824 = true then (some true) else (some false))) else (some false)) = some r:=h;clear h;by_cases c3:a0_0 = a1_0
 ·rw [if_pos c3] at H;have c3b0:(a0_0 == a1_0) = true:=beq_iff_eq.mpr c3;have c3b1:(a0_0 != a1_0) = false:=bne_eq_false_iff_eq.mpr c3;clear c3;replace H:=Option.bind_eq_some_iff.mp H;obtain ⟨t824,A40,H⟩:=H;replace H:(if t824 = true then (some true) else (some false)) = some r:=H;have A4:=aM A40;clear A40;by_cases c5:t824 = true
  ·subst c5;have H1:(some true) = some r:=by rw [if_pos rfl] at H;exact H
   clear H;have H:=H1;clear H1;obtain rfl:=Option.some.inj H;go_enter Try.func28,Try.ntmps28;go_wp2_with (first|((with_reducible refine gate_dst (N:=2) rfl ?_);refine box_event ?hg (N:=2) ?hd (cs:=#[.int .i64 a0_0,.slice A0_1 l0_1.length c0_1]) (t:=46) ?hr ?_;(case hd=>rfl);(case hg=>rfl);(case hr=>first|(go_simp;done)|(go_simp;rfl));intro gb822 hg w6 hbox hb;have n0_:=aM (below_step bw hb);have n1_:=aM (hbox);have n2_:=aM ((by rw [hg];exact (below_size bw):w.heap.size ≤ gb822));have n3_:=aM ((by rw [hg];exact (below_size bw):w.heap.size ≤ gb822));clear HB;have HB:=n0_;have BK822:=n1_;have GW822:=n2_;have GE822:=n3_;clear n0_ n1_ n2_ n3_;clear hb hbox hg)|((with_reducible refine gate_dst (N:=3) rfl ?_);refine box_event ?hg (N:=3) ?hd (cs:=#[.int .i64 a1_0,.slice A1_1 l1_1.length c1_1]) (t:=46) ?hr ?_;(case hd=>rfl);(case hg=>rfl);(case hr=>first|(go_simp;done)|(go_simp;rfl));intro gb823 hg w7 hbox hb;have n0_:=aM (blk_below (g:=gb822) (o:=.cells #[.int .i64 a0_0,.slice A0_1 l0_1.length c0_1] 46 (0,0)) bk hb);have n1_:=aM (below_step bw hb);have n2_:=aM (hbox);have n3_:=aM ((by rw [hg];exact (below_size bw):w.heap.size ≤ gb823));have n4_:=aM ((by rw [hg];exact (below_size bw):w.heap.size ≤ gb823));have n5_:=aM ((by rw [hg];exact Nat.ne_of_lt (blk_lt (g:=gb822) (o:=.cells #[.int .i64 a0_0,.slice A0_1 l0_1.length c0_1] 46 (0,0)) bk):gb822 ≠ gb823));have n6_:=aM ((by rw [hg];exact Nat.ne_of_gt (blk_lt (g:=gb822) (o:=.cells #[.int .i64 a0_0,.slice A0_1 l0_1.length c0_1] 46 (0,0)) bk):gb823 ≠ gb822));clear BK822;clear HB;have BK822:=n0_;have HB:=n1_;have BK823:=n2_;have GW823:=n3_;have GE823:=n4_;have NB822_823:=n5_;have NB823_822:=n6_;clear n0_ n1_ n2_ n3_ n4_ n5_ n6_;clear hb hbox hg;have hnb8:=NB822_823.out;have hnc8:=NB823_822.out;have hcz9_0:w7.cell? ⟨gb822,0,none⟩ = some (.int .i64 a0_0):=(blk_cell BK822.out 0).trans rfl;have hcz9_1:w7.cell? ⟨gb822,1,none⟩ = some (.slice A0_1 l0_1.length c0_1):=(blk_cell BK822.out 1).trans rfl;have hfz9_0:=blk_frozen BK822.out 0;have hfz9_1:=blk_frozen BK822.out 1;have hcz10_0:w7.cell? ⟨gb823,0,none⟩ = some (.int .i64 a1_0):=(blk_cell BK823.out 0).trans rfl;have hcz10_1:w7.cell? ⟨gb823,1,none⟩ = some (.slice A1_1 l1_1.length c1_1):=(blk_cell BK823.out 1).trans rfl;have hfz10_0:=blk_frozen BK823.out 0;have hfz10_1:=blk_frozen BK823.out 1)|((with_reducible refine gate_callee (f:=51) rfl ?_);refine goesL_ (some 14) rfl rfl Try.func51 kR rfl #[.slice A0_1 l0_1.length c0_1,.slice A1_1 l1_1.length c1_1] rfl mq ?_;(with_reducible refine (laws_eqIntS.calls k _ _ l0_1 _ _ l1_1 true _ ?side1 ?side2 ?side3 ?side4 A4.out).mono ?_);(case side1=>exact qcs HR0_1.out HB.out);(case side2=>exact HC0_1.out);(case side3=>exact qcs HR1_1.out HB.out);(case side4=>exact HC1_1.out);rintro e w' ⟨rfl,⟨nd,rfl⟩⟩;refine ⟨_,rfl,?_⟩))
   go_ret
   exact ⟨by first|rfl|(simp [errW_none,errW_some] <;> rfl)|(simp [*,errW_none,errW_some] <;> rfl),by exact bw⟩
  ·replace c5:=Bool.eq_false_iff.mpr c5;subst c5;have H1:(some false) = some r:=by rw [if_neg (show ¬ (false = true) by decide)] at H;exact H
   clear H;have H:=H1;clear H1;obtain rfl:=Option.some.inj H;go_enter Try.func28,Try.ntmps28;go_wp2_with (first|((with_reducible refine gate_dst (N:=2) rfl ?_);refine box_event ?hg (N:=2) ?hd (cs:=#[.int .i64 a0_0,.slice A0_1 l0_1.length c0_1]) (t:=46) ?hr ?_;(case hd=>rfl);(case hg=>rfl);(case hr=>first|(go_simp;done)|(go_simp;rfl));intro gb822 hg w11 hbox hb;have n0_:=aM (below_step bw hb);have n1_:=aM (hbox);have n2_:=aM ((by rw [hg];exact (below_size bw):w.heap.size ≤ gb822));have n3_:=aM ((by rw [hg];exact (below_size bw):w.heap.size ≤ gb822));clear HB;have HB:=n0_;have BK822:=n1_;have GW822:=n2_;have GE822:=n3_;clear n0_ n1_ n2_ n3_;clear hb hbox hg)|((with_reducible refine gate_dst (N:=3) rfl ?_);refine box_event ?hg (N:=3) ?hd (cs:=#[.int .i64 a1_0,.slice A1_1 l1_1.length c1_1]) (t:=46) ?hr ?_;(case hd=>rfl);(case hg=>rfl);(case hr=>first|(go_simp;done)|(go_simp;rfl));intro gb823 hg w12 hbox hb;have n0_:=aM (blk_below (g:=gb822) (o:=.cells #[.int .i64 a0_0,.slice A0_1 l0_1.length c0_1] 46 (0,0)) bk hb);have n1_:=aM (below_step bw hb);have n2_:=aM (hbox);have n3_:=aM ((by rw [hg];exact (below_size bw):w.heap.size ≤ gb823));have n4_:=aM ((by rw [hg];exact (below_size bw):w.heap.size ≤ gb823));have n5_:=aM ((by rw [hg];exact Nat.ne_of_lt (blk_lt (g:=gb822) (o:=.cells #[.int .i64 a0_0,.slice A0_1 l0_1.length c0_1] 46 (0,0)) bk):gb822 ≠ gb823));have n6_:=aM ((by rw [hg];exact Nat.ne_of_gt (blk_lt (g:=gb822) (o:=.cells #[.int .i64 a0_0,.slice A0_1 l0_1.length c0_1] 46 (0,0)) bk):gb823 ≠ gb822));clear BK822;clear HB;have BK822:=n0_;have HB:=n1_;have BK823:=n2_;have GW823:=n3_;have GE823:=n4_;have NB822_823:=n5_;have NB823_822:=n6_;clear n0_ n1_ n2_ n3_ n4_ n5_ n6_;clear hb hbox hg;have hnb13:=NB822_823.out;have hnc13:=NB823_822.out;have hcz14_0:w12.cell? ⟨gb822,0,none⟩ = some (.int .i64 a0_0):=(blk_cell BK822.out 0).trans rfl;have hcz14_1:w12.cell? ⟨gb822,1,none⟩ = some (.slice A0_1 l0_1.length c0_1):=(blk_cell BK822.out 1).trans rfl;have hfz14_0:=blk_frozen BK822.out 0;have hfz14_1:=blk_frozen BK822.out 1;have hcz15_0:w12.cell? ⟨gb823,0,none⟩ = some (.int .i64 a1_0):=(blk_cell BK823.out 0).trans rfl;have hcz15_1:w12.cell? ⟨gb823,1,none⟩ = some (.slice A1_1 l1_1.length c1_1):=(blk_cell BK823.out 1).trans rfl;have hfz15_0:=blk_frozen BK823.out 0;have hfz15_1:=blk_frozen BK823.out 1)|((with_reducible refine gate_callee (f:=51) rfl ?_);refine goesL_ (some 14) rfl rfl Try.func51 kR rfl #[.slice A0_1 l0_1.length c0_1,.slice A1_1 l1_1.length c1_1] rfl mq ?_;(with_reducible refine (laws_eqIntS.calls k _ _ l0_1 _ _ l1_1 false _ ?side1 ?side2 ?side3 ?side4 A4.out).mono ?_);(case side1=>exact qcs HR0_1.out HB.out);(case side2=>exact HC0_1.out);(case side3=>exact qcs HR1_1.out HB.out);(case side4=>exact HC1_1.out);rintro e w' ⟨rfl,⟨nd,rfl⟩⟩;refine ⟨_,rfl,?_⟩))
   go_ret
   exact ⟨by first|rfl|(simp [errW_none,errW_some] <;> rfl)|(simp [*,errW_none,errW_some] <;> rfl),by exact bw⟩
 ·rw [if_neg c3] at H;have c3b0:(a0_0 == a1_0) = false:=beq_eq_false_iff_ne.mpr c3;have c3b1:(a0_0 != a1_0) = true:=bne_iff_ne.mpr c3;obtain rfl:=Option.some.inj H;go_enter Try.func28,Try.ntmps28;go_wp2_with (first|((with_reducible refine gate_dst (N:=2) rfl ?_);refine box_event ?hg (N:=2) ?hd (cs:=#[.int .i64 a0_0,.slice A0_1 l0_1.length c0_1]) (t:=46) ?hr ?_;(case hd=>rfl);(case hg=>rfl);(case hr=>first|(go_simp;done)|(go_simp;rfl));intro gb822 hg w16 hbox hb;have n0_:=aM (below_step bw hb);have n1_:=aM (hbox);have n2_:=aM ((by rw [hg];exact (below_size bw):w.heap.size ≤ gb822));have n3_:=aM ((by rw [hg];exact (below_size bw):w.heap.size ≤ gb822));clear HB;have HB:=n0_;have BK822:=n1_;have GW822:=n2_;have GE822:=n3_;clear n0_ n1_ n2_ n3_;clear hb hbox hg)|((with_reducible refine gate_dst (N:=3) rfl ?_);refine box_event ?hg (N:=3) ?hd (cs:=#[.int .i64 a1_0,.slice A1_1 l1_1.length c1_1]) (t:=46) ?hr ?_;(case hd=>rfl);(case hg=>rfl);(case hr=>first|(go_simp;done)|(go_simp;rfl));intro gb823 hg w17 hbox hb;have n0_:=aM (blk_below (g:=gb822) (o:=.cells #[.int .i64 a0_0,.slice A0_1 l0_1.length c0_1] 46 (0,0)) bk hb);have n1_:=aM (below_step bw hb);have n2_:=aM (hbox);have n3_:=aM ((by rw [hg];exact (below_size bw):w.heap.size ≤ gb823));have n4_:=aM ((by rw [hg];exact (below_size bw):w.heap.size ≤ gb823));have n5_:=aM ((by rw [hg];exact Nat.ne_of_lt (blk_lt (g:=gb822) (o:=.cells #[.int .i64 a0_0,.slice A0_1 l0_1.length c0_1] 46 (0,0)) bk):gb822 ≠ gb823));have n6_:=aM ((by rw [hg];exact Nat.ne_of_gt (blk_lt (g:=gb822) (o:=.cells #[.int .i64 a0_0,.slice A0_1 l0_1.length c0_1] 46 (0,0)) bk):gb823 ≠ gb822));clear BK822;clear HB;have BK822:=n0_;have HB:=n1_;have BK823:=n2_;have GW823:=n3_;have GE823:=n4_;have NB822_823:=n5_;have NB823_822:=n6_;clear n0_ n1_ n2_ n3_ n4_ n5_ n6_;clear hb hbox hg;have hnb18:=NB822_823.out;have hnc18:=NB823_822.out;have hcz19_0:w17.cell? ⟨gb822,0,none⟩ = some (.int .i64 a0_0):=(blk_cell BK822.out 0).trans rfl;have hcz19_1:w17.cell? ⟨gb822,1,none⟩ = some (.slice A0_1 l0_1.length c0_1):=(blk_cell BK822.out 1).trans rfl;have hfz19_0:=blk_frozen BK822.out 0;have hfz19_1:=blk_frozen BK822.out 1;have hcz20_0:w17.cell? ⟨gb823,0,none⟩ = some (.int .i64 a1_0):=(blk_cell BK823.out 0).trans rfl;have hcz20_1:w17.cell? ⟨gb823,1,none⟩ = some (.slice A1_1 l1_1.length c1_1):=(blk_cell BK823.out 1).trans rfl;have hfz20_0:=blk_frozen BK823.out 0;have hfz20_1:=blk_frozen BK823.out 1))
  go_ret
  exact ⟨by first|rfl|(simp [errW_none,errW_some] <;> rfl)|(simp [*,errW_none,errW_some] <;> rfl),by exact bw⟩


/-! ### impl_has: function 134 -/
def impl_has.f (a0:Int) (a1:Int):Option (Bool):=if 0 ≤ a1 then (some ((Go.bits .and .i64 (shr .i64 a0 a1) 1) == 1)) else (none)
set_option maxHeartbeats 8000000 in
set_option maxRecDepth 100000 in
theorem impl_has.calls (a0:Int) (a1:Int) (r:Bool) (w:World) (h:impl_has.f a0 a1 = some r) :
  Calls Try.prog 134 #[.int .i64 a0,.int .i64 a1] w fun e w'=>e = .returned (.bool r) ∧ Drawn0 w w':=by
 have H:(if 0 ≤ a1 then (some ((Go.bits .and .i64 (shr .i64 a0 a1) 1) == 1)) else (none)) = some r:=h;clear h;by_cases c3:0 ≤ a1
 ·rw [if_pos c3] at H;have c3b0:=eq_true c3;have c3b1:decide (0 ≤ a1) = true:=decide_eq_true c3;clear c3;obtain ⟨ji4,hji4⟩:∃ j_:Int,(shr .i64 a0 a1) = j_:=⟨_,rfl⟩;replace H:(some ((Go.bits .and .i64 (ji4) 1) == 1)) = some r:=by first|(rw [hji4] at H;exact H)|(simp only [hji4] at H ⊢;exact H)
  have hji4_:(a0 / 2 ^ min a1.toNat 64) = ji4:=hji4;have hji4z:a1 ≤ 64 → (a0 / 2 ^ a1.toNat) = ji4:=shr_small hji4;obtain rfl:=Option.some.inj H;go_enter Try.func134,Try.ntmps134;go_wp2
  go_ret
  exact ⟨by first|rfl|(simp;done)|(simp only [← hji4] <;> (first|rfl|simp))|(simp [*];done),by repeat (first|exact Drawn0.refl _|apply Drawn0.step)⟩
 ·rw [if_neg c3] at H;exact absurd H (by simp)


/-! ### impl_votes_isLeast: function 148 -/
def impl_votes_isLeast.l0:Nat → Int → Int → Int → Int → List Bool → Option (Bool)
 | 0,_,_,_,_,_=>none
 | k + 1,x1,x13,x14,x528000,x528001=>if x14 < x13 then ((impl_has.f x1 x14).bind fun t529=>(if t529 = true then (if 0 ≤ x14 then (if 0 ≤ (Go.bits .andNot .i64 x1 (shl .i64 1 x14)) then (if (Go.bits .andNot .i64 x1 (shl .i64 1 x14)) < (x528001.length:Int) then (if rdOf false x528001 (Go.bits .andNot .i64 x1 (shl .i64 1 x14)) = true then (some false) else (impl_votes_isLeast.l0 k x1 x13 (wrap64 (x14 + 1)) x528000 x528001)) else (none)) else (none)) else (none)) else (impl_votes_isLeast.l0 k x1 x13 (wrap64 (x14 + 1)) x528000 x528001))) else (some true)
def impl_votes_isLeast.f (k:Nat) (a0_0:Int) (l0_1:List Bool) (a1:Int):Option (Bool):=if 0 ≤ a1 then (if a1 < (l0_1.length:Int) then (if rdOf false l0_1 a1 = true then (impl_votes_isLeast.l0 k a1 a0_0 0 a0_0 l0_1) else (some false)) else (none)) else (none)
theorem impl_votes_isLeast.mono_l:∀ k,(∀ y0 y1 y2 y3 y4,LeO (impl_votes_isLeast.l0 k y0 y1 y2 y3 y4) (impl_votes_isLeast.l0 (k + 1) y0 y1 y2 y3 y4))
 | 0=>fun _ _ _ _ _ r h=>by simp [impl_votes_isLeast.l0] at h
 | k + 1=>by
  have ih0:=impl_votes_isLeast.mono_l k
  ·intro y0 y1 y2 y3 y4;unfold impl_votes_isLeast.l0
   repeat' with_reducible first|exact ih0 _ _ _ _ _|exact LeO.refl _|exact LeO.none _|refine LeO.ite ?_ ?_|refine LeO.bind ?_ (fun _=>?_)
theorem impl_votes_isLeast.mono:∀ a0 a1 a2 k,LeO (impl_votes_isLeast.f k a0 a1 a2) (impl_votes_isLeast.f (k + 1) a0 a1 a2):=by
 intro a0 a1 a2 k;have ih0:=impl_votes_isLeast.mono_l k;unfold impl_votes_isLeast.f
 repeat' with_reducible first|exact ih0 _ _ _ _ _|exact LeO.refl _|exact LeO.none _|refine LeO.ite ?_ ?_|refine LeO.bind ?_ (fun _=>?_)
set_option maxHeartbeats 8000000 in
set_option maxRecDepth 100000 in
theorem impl_votes_isLeast.calls (k:Nat) (a0_0:Int) (A0_1:Option Addr) (c0_1:Nat) (l0_1:List Bool) (a1:Int) (r:Bool) (w:World) (hr0_1:Kd.C Kd.bool w A0_1 l0_1.length l0_1) (hc0_1:l0_1.length ≤ c0_1) (h:impl_votes_isLeast.f k a0_0 l0_1 a1 = some r) :
  Calls Try.prog 148 #[.agg #[.int .i64 a0_0,.slice A0_1 l0_1.length c0_1],.int .i64 a1] w fun e w'=>e = .returned (.bool r) ∧ Below w.heap.size w w':=by
 have hu68:=Try.underlying68;have HR0_1:=aM hr0_1;have HC0_1:=aM hc0_1;clear hr0_1 hc0_1;have HB:=aM (Below.refl w.heap.size w);have H:(if 0 ≤ a1 then (if a1 < (l0_1.length:Int) then (if rdOf false l0_1 a1 = true then (impl_votes_isLeast.l0 k a1 a0_0 0 a0_0 l0_1) else (some false)) else (none)) else (none)) = some r:=h;clear h;by_cases c3:0 ≤ a1
 ·rw [if_pos c3] at H;have c3b0:decide (0 ≤ a1) = true:=decide_eq_true c3;clear c3;by_cases c4:a1 < (l0_1.length:Int)
  ·rw [if_pos c4] at H;have c4b0:decide (a1 < (l0_1.length:Int)) = true:=decide_eq_true c4;clear c4;obtain ⟨bq5,hbq5⟩:∃ b_:Bool,b_ = (rdOf false l0_1 a1):=⟨_,rfl⟩;replace H:(if bq5 = true then (impl_votes_isLeast.l0 k a1 a0_0 0 a0_0 l0_1) else (some false)) = some r:=by rw [← hbq5] at H;exact H
   have Nbq5:=aM hbq5;clear hbq5;by_cases c6:bq5 = true
   ·subst c6;have H1:(impl_votes_isLeast.l0 k a1 a0_0 0 a0_0 l0_1) = some r:=by rw [if_pos rfl] at H;exact H
    clear H;have H:=H1;clear H1;have H':=aM H;clear H;go_enter Try.func148,Try.ntmps148;go_wp2_with (first|((with_reducible refine gate_dst (N:=2) rfl ?_);refine box_event ?hg (N:=2) ?hd (cs:=#[.int .i64 a0_0,.slice A0_1 l0_1.length c0_1]) (t:=68) ?hr ?_;(case hd=>rfl);(case hg=>rfl);(case hr=>first|(go_simp;done)|(go_simp;rfl));intro gb527 hg w7 hbox hb;have n0_:=aM (below_step bw hb);have n1_:=aM (hbox);have n2_:=aM ((by rw [hg];exact (below_size bw):w.heap.size ≤ gb527));have n3_:=aM ((by rw [hg];exact (below_size bw):w.heap.size ≤ gb527));clear HB;have HB:=n0_;have BK527:=n1_;have GW527:=n2_;have GE527:=n3_;clear n0_ n1_ n2_ n3_;clear hb hbox hg;have hcz8_0:w7.cell? ⟨gb527,0,none⟩ = some (.int .i64 a0_0):=(blk_cell BK527.out 0).trans rfl;have hcz8_1:w7.cell? ⟨gb527,1,none⟩ = some (.slice A0_1 l0_1.length c0_1):=(blk_cell BK527.out 1).trans rfl;have hfz8_0:=blk_frozen BK527.out 0;have hfz8_1:=blk_frozen BK527.out 1;have p528:0 ≤ (a1:Int):=of_decide_eq_true ab;have q528:a1 < (l0_1.length:Int):=of_decide_eq_true ab;obtain ⟨ad528,e528,hx528_0⟩:=Kd.at_bool HR0_1.out a1 p528 q528;(try rw [← Nbq5.out] at hx528_0);cases e528;replace hx528_0:=(HB.out.cell (World.block_lt_of_cell? w _ hx528_0)).trans hx528_0;replace p528:=eq_true p528;replace q528:=eq_true q528))
    repeat (go_quiet (first|((with_reducible refine gate_dst (N:=2) rfl ?_);refine box_event ?hg (N:=2) ?hd (cs:=#[.int .i64 a0_0,.slice A0_1 l0_1.length c0_1]) (t:=68) ?hr ?_;(case hd=>rfl);(case hg=>rfl);(case hr=>first|(go_simp;done)|(go_simp;rfl));intro gb527 hg w7 hbox hb;have n0_:=aM (below_step bw hb);have n1_:=aM (hbox);have n2_:=aM ((by rw [hg];exact (below_size bw):w.heap.size ≤ gb527));have n3_:=aM ((by rw [hg];exact (below_size bw):w.heap.size ≤ gb527));clear HB;have HB:=n0_;have BK527:=n1_;have GW527:=n2_;have GE527:=n3_;clear n0_ n1_ n2_ n3_;clear hb hbox hg;have hcz8_0:w7.cell? ⟨gb527,0,none⟩ = some (.int .i64 a0_0):=(blk_cell BK527.out 0).trans rfl;have hcz8_1:w7.cell? ⟨gb527,1,none⟩ = some (.slice A0_1 l0_1.length c0_1):=(blk_cell BK527.out 1).trans rfl;have hfz8_0:=blk_frozen BK527.out 0;have hfz8_1:=blk_frozen BK527.out 1;have p528:0 ≤ (a1:Int):=of_decide_eq_true ab;have q528:a1 < (l0_1.length:Int):=of_decide_eq_true ab;obtain ⟨ad528,e528,hx528_0⟩:=Kd.at_bool HR0_1.out a1 p528 q528;(try rw [← Nbq5.out] at hx528_0);cases e528;replace hx528_0:=(HB.out.cell (World.block_lt_of_cell? w _ hx528_0)).trans hx528_0;replace p528:=eq_true p528;replace q528:=eq_true q528));try go_wp2_with (first|((with_reducible refine gate_dst (N:=2) rfl ?_);refine box_event ?hg (N:=2) ?hd (cs:=#[.int .i64 a0_0,.slice A0_1 l0_1.length c0_1]) (t:=68) ?hr ?_;(case hd=>rfl);(case hg=>rfl);(case hr=>first|(go_simp;done)|(go_simp;rfl));intro gb527 hg w7 hbox hb;have n0_:=aM (below_step bw hb);have n1_:=aM (hbox);have n2_:=aM ((by rw [hg];exact (below_size bw):w.heap.size ≤ gb527));have n3_:=aM ((by rw [hg];exact (below_size bw):w.heap.size ≤ gb527));clear HB;have HB:=n0_;have BK527:=n1_;have GW527:=n2_;have GE527:=n3_;clear n0_ n1_ n2_ n3_;clear hb hbox hg;have hcz8_0:w7.cell? ⟨gb527,0,none⟩ = some (.int .i64 a0_0):=(blk_cell BK527.out 0).trans rfl;have hcz8_1:w7.cell? ⟨gb527,1,none⟩ = some (.slice A0_1 l0_1.length c0_1):=(blk_cell BK527.out 1).trans rfl;have hfz8_0:=blk_frozen BK527.out 0;have hfz8_1:=blk_frozen BK527.out 1;have p528:0 ≤ (a1:Int):=of_decide_eq_true ab;have q528:a1 < (l0_1.length:Int):=of_decide_eq_true ab;obtain ⟨ad528,e528,hx528_0⟩:=Kd.at_bool HR0_1.out a1 p528 q528;(try rw [← Nbq5.out] at hx528_0);cases e528;replace hx528_0:=(HB.out.cell (World.block_lt_of_cell? w _ hx528_0)).trans hx528_0;replace p528:=eq_true p528;replace q528:=eq_true q528)))
    go_loopg [14] k (fun kq v14 w'=>∃ (x14_1:Int),v14 = .int .i64 x14_1 ∧ Aside0 (impl_votes_isLeast.l0 kq a1 a0_0 x14_1 a0_0 l0_1 = some r) ∧ Aside0 (kq ≤ k) ∧ Aside0 (w'.heap[gb527]? = some (.cells #[.int .i64 a0_0,(.slice (some ad528) l0_1.length c0_1)] 68 (0,0))) ∧ Aside0 (Below w.heap.size w w'))
    case atStart=>exact ⟨(0),qrs,H',⟨Nat.le_refl _⟩,⟨by (with_reducible repeat (first|refine blk_drewN ?_ _|refine blk_drew ?_|refine blk_alloc ?_ _));exact BK527.out⟩,⟨by exact bw⟩⟩
    case round =>
     clear H';(try clear c1);(try clear p2);(try clear c3);(try clear c3b0);(try clear c4);(try clear c4b0);(try clear p5);(try clear q5);(try clear hx5);(try clear c6);(try clear hcz8_0);(try clear hcz8_1);(try clear hfz8_0);(try clear hfz8_1);(try clear hx528_0);(try clear p528);(try clear q528)
     obtain ⟨x14_1,rfl,HA,HK1,BK527,HB⟩:=hrel
     cases gk with
     | zero=>exact absurd HA.out (by simp [impl_votes_isLeast.l0])
     | succ k1 =>
      have H:=HA.out;clear HA;simp only [impl_votes_isLeast.l0] at H;by_cases c9:x14_1 < a0_0
      ·rw [if_pos c9] at H;have c9b0:decide (x14_1 < a0_0) = true:=decide_eq_true c9;clear c9;replace H:=Option.bind_eq_some_iff.mp H;obtain ⟨t529,A100,H⟩:=H;replace H:(if t529 = true then (if 0 ≤ x14_1 then (if 0 ≤ (Go.bits .andNot .i64 a1 (shl .i64 1 x14_1)) then (if (Go.bits .andNot .i64 a1 (shl .i64 1 x14_1)) < (l0_1.length:Int) then (if rdOf false l0_1 (Go.bits .andNot .i64 a1 (shl .i64 1 x14_1)) = true then (some false) else (impl_votes_isLeast.l0 k1 a1 a0_0 (wrap64 (x14_1 + 1)) a0_0 l0_1)) else (none)) else (none)) else (none)) else (impl_votes_isLeast.l0 k1 a1 a0_0 (wrap64 (x14_1 + 1)) a0_0 l0_1)) = some r:=H;have A10:=aM A100;clear A100;by_cases c11:t529 = true
       ·subst c11;have H1:(if 0 ≤ x14_1 then (if 0 ≤ (Go.bits .andNot .i64 a1 (shl .i64 1 x14_1)) then (if (Go.bits .andNot .i64 a1 (shl .i64 1 x14_1)) < (l0_1.length:Int) then (if rdOf false l0_1 (Go.bits .andNot .i64 a1 (shl .i64 1 x14_1)) = true then (some false) else (impl_votes_isLeast.l0 k1 a1 a0_0 (wrap64 (x14_1 + 1)) a0_0 l0_1)) else (none)) else (none)) else (none)) = some r:=by rw [if_pos rfl] at H;exact H
        clear H;have H:=H1;clear H1;by_cases c12:0 ≤ x14_1
        ·rw [if_pos c12] at H;have c12b0:=eq_true c12;have c12b1:decide (0 ≤ x14_1) = true:=decide_eq_true c12;clear c12;obtain ⟨ji13,hji13⟩:∃ j_:Int,(shl .i64 1 x14_1) = j_:=⟨_,rfl⟩;replace H:(if 0 ≤ (Go.bits .andNot .i64 a1 (ji13)) then (if (Go.bits .andNot .i64 a1 (ji13)) < (l0_1.length:Int) then (if rdOf false l0_1 (Go.bits .andNot .i64 a1 (ji13)) = true then (some false) else (impl_votes_isLeast.l0 k1 a1 a0_0 (wrap64 (x14_1 + 1)) a0_0 l0_1)) else (none)) else (none)) = some r:=by first|(rw [hji13] at H;exact H)|(simp only [hji13] at H ⊢;exact H)
         (try rw [hji13] at A10)
         have hji13_:(IntKind.i64.wrap (1 * 2 ^ min x14_1.toNat 64)) = ji13:=hji13;have hji13z:x14_1 ≤ 64 → (IntKind.i64.wrap (1 * 2 ^ x14_1.toNat)) = ji13:=shl_small hji13;have hji13u:(IntKind.i64.wrap (2 ^ min x14_1.toNat 64)) = ji13:=by have h_:=hji13_;rw [Int.one_mul] at h_;exact h_
         have hji13v:x14_1 ≤ 64 → (IntKind.i64.wrap (2 ^ x14_1.toNat)) = ji13:=fun hle_=>by have h_:=hji13z hle_;rw [Int.one_mul] at h_;exact h_
         have hji13y:(wrap64 (1 * 2 ^ min x14_1.toNat 64)) = ji13:=(i64_w _).symm.trans hji13_;have hji13x:x14_1 ≤ 64 → (wrap64 (1 * 2 ^ x14_1.toNat)) = ji13:=fun h_=>(i64_w _).symm.trans (hji13z h_)
         by_cases c14:0 ≤ (Go.bits .andNot .i64 a1 (ji13))
         ·rw [if_pos c14] at H;have c14b0:decide (0 ≤ (Go.bits .andNot .i64 a1 (ji13))) = true:=decide_eq_true c14;clear c14;by_cases c15:(Go.bits .andNot .i64 a1 (ji13)) < (l0_1.length:Int)
          ·rw [if_pos c15] at H;have c15b0:decide ((Go.bits .andNot .i64 a1 (ji13)) < (l0_1.length:Int)) = true:=decide_eq_true c15;clear c15;obtain ⟨bq16,hbq16⟩:∃ b_:Bool,b_ = (rdOf false l0_1 (Go.bits .andNot .i64 a1 (ji13))):=⟨_,rfl⟩;replace H:(if bq16 = true then (some false) else (impl_votes_isLeast.l0 k1 a1 a0_0 (wrap64 (x14_1 + 1)) a0_0 l0_1)) = some r:=by rw [← hbq16] at H;exact H
           have Nbq16:=aM hbq16;clear hbq16;by_cases c17:bq16 = true
           ·subst c17;have H1:(some false) = some r:=by rw [if_pos rfl] at H;exact H
            clear H;have H:=H1;clear H1;obtain rfl:=Option.some.inj H;go_wp2_with (first|(go_at_call 134;(with_reducible refine (impl_has.calls a1 x14_1 true _ A10.out).mono ?_);rintro e w' ⟨rfl,⟨nd,rfl⟩⟩;(try first|exact ⟨rfl,_,World.drewN_drewN _ _ _⟩|exact ⟨rfl,_,Eq.trans (World.drewN_drewN _ _ _) (congrArg (World.drewN _) (Nat.add_assoc _ _ _))⟩);have hcz18_0:wr.cell? ⟨gb527,0,none⟩ = some (.int .i64 a0_0):=(blk_cell BK527.out 0).trans rfl;have hcz18_1:wr.cell? ⟨gb527,1,none⟩ = some (.slice (some ad528) l0_1.length c0_1):=(blk_cell BK527.out 1).trans rfl;have hfz18_0:=blk_frozen BK527.out 0;have hfz18_1:=blk_frozen BK527.out 1;have p530:0 ≤ ((Go.bits .andNot .i64 a1 (ji13)):Int):=of_decide_eq_true ab;have q530:(Go.bits .andNot .i64 a1 (ji13)) < (l0_1.length:Int):=of_decide_eq_true ab;obtain ⟨ad530,e530,hx530_0⟩:=Kd.at_bool HR0_1.out (Go.bits .andNot .i64 a1 (ji13)) p530 q530;(try rw [← Nbq5.out] at hx530_0);(try rw [← Nbq16.out] at hx530_0);obtain rfl:ad528 = ad530:=(by injection e530);replace hx530_0:=(HB.out.cell (World.block_lt_of_cell? w _ hx530_0)).trans hx530_0;replace p530:=eq_true p530;replace q530:=eq_true q530))
            repeat (go_quiet (first|(go_at_call 134;(with_reducible refine (impl_has.calls a1 x14_1 true _ A10.out).mono ?_);rintro e w' ⟨rfl,⟨nd,rfl⟩⟩;(try first|exact ⟨rfl,_,World.drewN_drewN _ _ _⟩|exact ⟨rfl,_,Eq.trans (World.drewN_drewN _ _ _) (congrArg (World.drewN _) (Nat.add_assoc _ _ _))⟩);have hcz18_0:wr.cell? ⟨gb527,0,none⟩ = some (.int .i64 a0_0):=(blk_cell BK527.out 0).trans rfl;have hcz18_1:wr.cell? ⟨gb527,1,none⟩ = some (.slice (some ad528) l0_1.length c0_1):=(blk_cell BK527.out 1).trans rfl;have hfz18_0:=blk_frozen BK527.out 0;have hfz18_1:=blk_frozen BK527.out 1;have p530:0 ≤ ((Go.bits .andNot .i64 a1 (ji13)):Int):=of_decide_eq_true ab;have q530:(Go.bits .andNot .i64 a1 (ji13)) < (l0_1.length:Int):=of_decide_eq_true ab;obtain ⟨ad530,e530,hx530_0⟩:=Kd.at_bool HR0_1.out (Go.bits .andNot .i64 a1 (ji13)) p530 q530;(try rw [← Nbq5.out] at hx530_0);(try rw [← Nbq16.out] at hx530_0);obtain rfl:ad528 = ad530:=(by injection e530);replace hx530_0:=(HB.out.cell (World.block_lt_of_cell? w _ hx530_0)).trans hx530_0;replace p530:=eq_true p530;replace q530:=eq_true q530));try go_wp2_with (first|(go_at_call 134;(with_reducible refine (impl_has.calls a1 x14_1 true _ A10.out).mono ?_);rintro e w' ⟨rfl,⟨nd,rfl⟩⟩;(try first|exact ⟨rfl,_,World.drewN_drewN _ _ _⟩|exact ⟨rfl,_,Eq.trans (World.drewN_drewN _ _ _) (congrArg (World.drewN _) (Nat.add_assoc _ _ _))⟩);have hcz18_0:wr.cell? ⟨gb527,0,none⟩ = some (.int .i64 a0_0):=(blk_cell BK527.out 0).trans rfl;have hcz18_1:wr.cell? ⟨gb527,1,none⟩ = some (.slice (some ad528) l0_1.length c0_1):=(blk_cell BK527.out 1).trans rfl;have hfz18_0:=blk_frozen BK527.out 0;have hfz18_1:=blk_frozen BK527.out 1;have p530:0 ≤ ((Go.bits .andNot .i64 a1 (ji13)):Int):=of_decide_eq_true ab;have q530:(Go.bits .andNot .i64 a1 (ji13)) < (l0_1.length:Int):=of_decide_eq_true ab;obtain ⟨ad530,e530,hx530_0⟩:=Kd.at_bool HR0_1.out (Go.bits .andNot .i64 a1 (ji13)) p530 q530;(try rw [← Nbq5.out] at hx530_0);(try rw [← Nbq16.out] at hx530_0);obtain rfl:ad528 = ad530:=(by injection e530);replace hx530_0:=(HB.out.cell (World.block_lt_of_cell? w _ hx530_0)).trans hx530_0;replace p530:=eq_true p530;replace q530:=eq_true q530)))
            go_ret
            exact ⟨by first|rfl|(simp [errW_none,errW_some] <;> rfl)|(simp only [← hji13];first|rfl|(simp [errW_none,errW_some] <;> rfl))|(simp [*,errW_none,errW_some] <;> rfl),by exact bw⟩
           ·replace c17:=Bool.eq_false_iff.mpr c17;subst c17;have H1:(impl_votes_isLeast.l0 k1 a1 a0_0 (wrap64 (x14_1 + 1)) a0_0 l0_1) = some r:=by rw [if_neg (show ¬ (false = true) by decide)] at H;exact H
            clear H;have H:=H1;clear H1;have H':=aM H;clear H;go_wp2_with (first|(go_at_call 134;(with_reducible refine (impl_has.calls a1 x14_1 true _ A10.out).mono ?_);rintro e w' ⟨rfl,⟨nd,rfl⟩⟩;(try first|exact ⟨rfl,_,World.drewN_drewN _ _ _⟩|exact ⟨rfl,_,Eq.trans (World.drewN_drewN _ _ _) (congrArg (World.drewN _) (Nat.add_assoc _ _ _))⟩);have hcz19_0:wr.cell? ⟨gb527,0,none⟩ = some (.int .i64 a0_0):=(blk_cell BK527.out 0).trans rfl;have hcz19_1:wr.cell? ⟨gb527,1,none⟩ = some (.slice (some ad528) l0_1.length c0_1):=(blk_cell BK527.out 1).trans rfl;have hfz19_0:=blk_frozen BK527.out 0;have hfz19_1:=blk_frozen BK527.out 1;have p530:0 ≤ ((Go.bits .andNot .i64 a1 (ji13)):Int):=of_decide_eq_true ab;have q530:(Go.bits .andNot .i64 a1 (ji13)) < (l0_1.length:Int):=of_decide_eq_true ab;obtain ⟨ad530,e530,hx530_0⟩:=Kd.at_bool HR0_1.out (Go.bits .andNot .i64 a1 (ji13)) p530 q530;(try rw [← Nbq5.out] at hx530_0);(try rw [← Nbq16.out] at hx530_0);obtain rfl:ad528 = ad530:=(by injection e530);replace hx530_0:=(HB.out.cell (World.block_lt_of_cell? w _ hx530_0)).trans hx530_0;replace p530:=eq_true p530;replace q530:=eq_true q530))
            repeat (go_quiet (first|(go_at_call 134;(with_reducible refine (impl_has.calls a1 x14_1 true _ A10.out).mono ?_);rintro e w' ⟨rfl,⟨nd,rfl⟩⟩;(try first|exact ⟨rfl,_,World.drewN_drewN _ _ _⟩|exact ⟨rfl,_,Eq.trans (World.drewN_drewN _ _ _) (congrArg (World.drewN _) (Nat.add_assoc _ _ _))⟩);have hcz19_0:wr.cell? ⟨gb527,0,none⟩ = some (.int .i64 a0_0):=(blk_cell BK527.out 0).trans rfl;have hcz19_1:wr.cell? ⟨gb527,1,none⟩ = some (.slice (some ad528) l0_1.length c0_1):=(blk_cell BK527.out 1).trans rfl;have hfz19_0:=blk_frozen BK527.out 0;have hfz19_1:=blk_frozen BK527.out 1;have p530:0 ≤ ((Go.bits .andNot .i64 a1 (ji13)):Int):=of_decide_eq_true ab;have q530:(Go.bits .andNot .i64 a1 (ji13)) < (l0_1.length:Int):=of_decide_eq_true ab;obtain ⟨ad530,e530,hx530_0⟩:=Kd.at_bool HR0_1.out (Go.bits .andNot .i64 a1 (ji13)) p530 q530;(try rw [← Nbq5.out] at hx530_0);(try rw [← Nbq16.out] at hx530_0);obtain rfl:ad528 = ad530:=(by injection e530);replace hx530_0:=(HB.out.cell (World.block_lt_of_cell? w _ hx530_0)).trans hx530_0;replace p530:=eq_true p530;replace q530:=eq_true q530));try go_wp2_with (first|(go_at_call 134;(with_reducible refine (impl_has.calls a1 x14_1 true _ A10.out).mono ?_);rintro e w' ⟨rfl,⟨nd,rfl⟩⟩;(try first|exact ⟨rfl,_,World.drewN_drewN _ _ _⟩|exact ⟨rfl,_,Eq.trans (World.drewN_drewN _ _ _) (congrArg (World.drewN _) (Nat.add_assoc _ _ _))⟩);have hcz19_0:wr.cell? ⟨gb527,0,none⟩ = some (.int .i64 a0_0):=(blk_cell BK527.out 0).trans rfl;have hcz19_1:wr.cell? ⟨gb527,1,none⟩ = some (.slice (some ad528) l0_1.length c0_1):=(blk_cell BK527.out 1).trans rfl;have hfz19_0:=blk_frozen BK527.out 0;have hfz19_1:=blk_frozen BK527.out 1;have p530:0 ≤ ((Go.bits .andNot .i64 a1 (ji13)):Int):=of_decide_eq_true ab;have q530:(Go.bits .andNot .i64 a1 (ji13)) < (l0_1.length:Int):=of_decide_eq_true ab;obtain ⟨ad530,e530,hx530_0⟩:=Kd.at_bool HR0_1.out (Go.bits .andNot .i64 a1 (ji13)) p530 q530;(try rw [← Nbq5.out] at hx530_0);(try rw [← Nbq16.out] at hx530_0);obtain rfl:ad528 = ad530:=(by injection e530);replace hx530_0:=(HB.out.cell (World.block_lt_of_cell? w _ hx530_0)).trans hx530_0;replace p530:=eq_true p530;replace q530:=eq_true q530)))
            go_roundg k1
            case measure=>have:=HK1.out;omega
            case rel=>exact ⟨(wrap64 (x14_1 + 1)),qrs,H',⟨by have:=HK1.out;omega⟩,⟨by (with_reducible repeat (first|refine blk_drewN ?_ _|refine blk_drew ?_|refine blk_alloc ?_ _));exact BK527.out⟩,⟨by exact bw⟩⟩
          ·rw [if_neg c15] at H;exact absurd H (by simp)
         ·rw [if_neg c14] at H;exact absurd H (by simp)
        ·rw [if_neg c12] at H;exact absurd H (by simp)
       ·replace c11:=Bool.eq_false_iff.mpr c11;subst c11;have H1:(impl_votes_isLeast.l0 k1 a1 a0_0 (wrap64 (x14_1 + 1)) a0_0 l0_1) = some r:=by rw [if_neg (show ¬ (false = true) by decide)] at H;exact H
        clear H;have H:=H1;clear H1;have H':=aM H;clear H;go_wp2_with (first|(go_at_call 134;(with_reducible refine (impl_has.calls a1 x14_1 false _ A10.out).mono ?_);rintro e w' ⟨rfl,⟨nd,rfl⟩⟩;(try first|exact ⟨rfl,_,World.drewN_drewN _ _ _⟩|exact ⟨rfl,_,Eq.trans (World.drewN_drewN _ _ _) (congrArg (World.drewN _) (Nat.add_assoc _ _ _))⟩)))
        repeat (go_quiet (first|(go_at_call 134;(with_reducible refine (impl_has.calls a1 x14_1 false _ A10.out).mono ?_);rintro e w' ⟨rfl,⟨nd,rfl⟩⟩;(try first|exact ⟨rfl,_,World.drewN_drewN _ _ _⟩|exact ⟨rfl,_,Eq.trans (World.drewN_drewN _ _ _) (congrArg (World.drewN _) (Nat.add_assoc _ _ _))⟩)));try go_wp2_with (first|(go_at_call 134;(with_reducible refine (impl_has.calls a1 x14_1 false _ A10.out).mono ?_);rintro e w' ⟨rfl,⟨nd,rfl⟩⟩;(try first|exact ⟨rfl,_,World.drewN_drewN _ _ _⟩|exact ⟨rfl,_,Eq.trans (World.drewN_drewN _ _ _) (congrArg (World.drewN _) (Nat.add_assoc _ _ _))⟩))))
        go_roundg k1
        case measure=>have:=HK1.out;omega
        case rel=>exact ⟨(wrap64 (x14_1 + 1)),qrs,H',⟨by have:=HK1.out;omega⟩,⟨by (with_reducible repeat (first|refine blk_drewN ?_ _|refine blk_drew ?_|refine blk_alloc ?_ _));exact BK527.out⟩,⟨by exact bw⟩⟩
      ·rw [if_neg c9] at H;have c9b0:decide (x14_1 < a0_0) = false:=decide_eq_false c9;clear c9;obtain rfl:=Option.some.inj H;go_wp2
       repeat (go_quiet (fail);try go_wp2)
       go_ret
       exact ⟨by first|rfl|(simp [errW_none,errW_some] <;> rfl)|(simp [*,errW_none,errW_some] <;> rfl),by exact bw⟩
   ·replace c6:=Bool.eq_false_iff.mpr c6;subst c6;have H1:(some false) = some r:=by rw [if_neg (show ¬ (false = true) by decide)] at H;exact H
    clear H;have H:=H1;clear H1;obtain rfl:=Option.some.inj H;go_enter Try.func148,Try.ntmps148;go_wp2_with (first|((with_reducible refine gate_dst (N:=2) rfl ?_);refine box_event ?hg (N:=2) ?hd (cs:=#[.int .i64 a0_0,.slice A0_1 l0_1.length c0_1]) (t:=68) ?hr ?_;(case hd=>rfl);(case hg=>rfl);(case hr=>first|(go_simp;done)|(go_simp;rfl));intro gb527 hg w20 hbox hb;have n0_:=aM (below_step bw hb);have n1_:=aM (hbox);have n2_:=aM ((by rw [hg];exact (below_size bw):w.heap.size ≤ gb527));have n3_:=aM ((by rw [hg];exact (below_size bw):w.heap.size ≤ gb527));clear HB;have HB:=n0_;have BK527:=n1_;have GW527:=n2_;have GE527:=n3_;clear n0_ n1_ n2_ n3_;clear hb hbox hg;have hcz21_0:w20.cell? ⟨gb527,0,none⟩ = some (.int .i64 a0_0):=(blk_cell BK527.out 0).trans rfl;have hcz21_1:w20.cell? ⟨gb527,1,none⟩ = some (.slice A0_1 l0_1.length c0_1):=(blk_cell BK527.out 1).trans rfl;have hfz21_0:=blk_frozen BK527.out 0;have hfz21_1:=blk_frozen BK527.out 1;have p528:0 ≤ (a1:Int):=of_decide_eq_true ab;have q528:a1 < (l0_1.length:Int):=of_decide_eq_true ab;obtain ⟨ad528,e528,hx528_0⟩:=Kd.at_bool HR0_1.out a1 p528 q528;(try rw [← Nbq5.out] at hx528_0);cases e528;replace hx528_0:=(HB.out.cell (World.block_lt_of_cell? w _ hx528_0)).trans hx528_0;replace p528:=eq_true p528;replace q528:=eq_true q528))
    repeat (go_quiet (first|((with_reducible refine gate_dst (N:=2) rfl ?_);refine box_event ?hg (N:=2) ?hd (cs:=#[.int .i64 a0_0,.slice A0_1 l0_1.length c0_1]) (t:=68) ?hr ?_;(case hd=>rfl);(case hg=>rfl);(case hr=>first|(go_simp;done)|(go_simp;rfl));intro gb527 hg w20 hbox hb;have n0_:=aM (below_step bw hb);have n1_:=aM (hbox);have n2_:=aM ((by rw [hg];exact (below_size bw):w.heap.size ≤ gb527));have n3_:=aM ((by rw [hg];exact (below_size bw):w.heap.size ≤ gb527));clear HB;have HB:=n0_;have BK527:=n1_;have GW527:=n2_;have GE527:=n3_;clear n0_ n1_ n2_ n3_;clear hb hbox hg;have hcz21_0:w20.cell? ⟨gb527,0,none⟩ = some (.int .i64 a0_0):=(blk_cell BK527.out 0).trans rfl;have hcz21_1:w20.cell? ⟨gb527,1,none⟩ = some (.slice A0_1 l0_1.length c0_1):=(blk_cell BK527.out 1).trans rfl;have hfz21_0:=blk_frozen BK527.out 0;have hfz21_1:=blk_frozen BK527.out 1;have p528:0 ≤ (a1:Int):=of_decide_eq_true ab;have q528:a1 < (l0_1.length:Int):=of_decide_eq_true ab;obtain ⟨ad528,e528,hx528_0⟩:=Kd.at_bool HR0_1.out a1 p528 q528;(try rw [← Nbq5.out] at hx528_0);cases e528;replace hx528_0:=(HB.out.cell (World.block_lt_of_cell? w _ hx528_0)).trans hx528_0;replace p528:=eq_true p528;replace q528:=eq_true q528));try go_wp2_with (first|((with_reducible refine gate_dst (N:=2) rfl ?_);refine box_event ?hg (N:=2) ?hd (cs:=#[.int .i64 a0_0,.slice A0_1 l0_1.length c0_1]) (t:=68) ?hr ?_;(case hd=>rfl);(case hg=>rfl);(case hr=>first|(go_simp;done)|(go_simp;rfl));intro gb527 hg w20 hbox hb;have n0_:=aM (below_step bw hb);have n1_:=aM (hbox);have n2_:=aM ((by rw [hg];exact (below_size bw):w.heap.size ≤ gb527));have n3_:=aM ((by rw [hg];exact (below_size bw):w.heap.size ≤ gb527));clear HB;have HB:=n0_;have BK527:=n1_;have GW527:=n2_;have GE527:=n3_;clear n0_ n1_ n2_ n3_;clear hb hbox hg;have hcz21_0:w20.cell? ⟨gb527,0,none⟩ = some (.int .i64 a0_0):=(blk_cell BK527.out 0).trans rfl;have hcz21_1:w20.cell? ⟨gb527,1,none⟩ = some (.slice A0_1 l0_1.length c0_1):=(blk_cell BK527.out 1).trans rfl;have hfz21_0:=blk_frozen BK527.out 0;have hfz21_1:=blk_frozen BK527.out 1;have p528:0 ≤ (a1:Int):=of_decide_eq_true ab;have q528:a1 < (l0_1.length:Int):=of_decide_eq_true ab;obtain ⟨ad528,e528,hx528_0⟩:=Kd.at_bool HR0_1.out a1 p528 q528;(try rw [← Nbq5.out] at hx528_0);cases e528;replace hx528_0:=(HB.out.cell (World.block_lt_of_cell? w _ hx528_0)).trans hx528_0;replace p528:=eq_true p528;replace q528:=eq_true q528)))
    go_ret
    exact ⟨by first|rfl|(simp [errW_none,errW_some] <;> rfl)|(simp [*,errW_none,errW_some] <;> rfl),by exact bw⟩
  ·rw [if_neg c4] at H;exact absurd H (by simp)
 ·rw [if_neg c3] at H;exact absurd H (by simp)

end Go.Proofs.Ytokelcedamegbaa.P
