/- Part 3 of the texts below the law FnExactCountWeighted. Printed by this session's driver over the kit's printer, but for the hand contracts and the plain laws. -/
import Derived.Test.YtokelcedamegbaaCCountWeighted1
import Derived.Test.YtokelcedamegbaaCCountWeighted2
set_option linter.unusedVariables false
set_option linter.unusedSimpArgs false
namespace Go.Proofs.Ytokelcedamegbaa.P
open Go.RowKit Go.Proofs.YtokelcedamegbaaW.PrintWords Go.Proofs.YtokelcedamegbaaW.PrintLast Go.Proofs.YtokelcedamegbaaW.PrintMore
attribute [local go_sem] max2_int min2_int max_two min_two max_three min_three max_four min_four   -- for this text's walks alone
set_option linter.unusedVariables false
set_option linter.unusedSimpArgs false

/-! ### spec_gmGood: function 79 -/
mutual
def spec_gmGood.l0:Nat → List (List Int) → Int → Int → Int → List (List Int) → Option (Bool)
 | 0,_,_,_,_,_=>none
 | k + 1,x16,x17,x18,x137000,x137001=>if x18 < x17 then (if 0 ≤ x18 then (if x18 < (x16.length:Int) then (if x18 > 0 then (if 0 ≤ (wrap64 (x18 - 1)) then (if (wrap64 (x18 - 1)) < (x137001.length:Int) then ((spec_voBefore.f k (rd_LI x137001 (wrap64 (x18 - 1))) (rd_LI x16 x18)).bind fun t140=>(spec_gmGood.j1 k x18 (rd_LI x16 x18) x16 x17 x18 (!t140) x137000 x137001)) else (none)) else (none)) else (spec_gmGood.j1 k x18 (rd_LI x16 x18) x16 x17 x18 false x137000 x137001)) else (none)) else (none)) else (some true)
def spec_gmGood.j1:Nat → Int → List Int → List (List Int) → Int → Int → Bool → Int → List (List Int) → Option (Bool)
 | 0,_,_,_,_,_,_,_,_=>none
 | k + 1,x3,x4,x16,x17,x18,x35,x137000,x137001=>if x35 = true then (some false) else ((spec_voBits.f k x4).bind fun t141=>(if 0 ≤ x3 then (if x3 ≤ (x137001.length:Int) then ((some (x137001.take (x3:Int).toNat:List (List Int))).bind fun y142=>(spec_gmGood.l1 k t141 x16 x17 x18 y142 (y142.length:Int) 0 x137000 x137001)) else (none)) else (none)))
def spec_gmGood.l1:Nat → Int → List (List Int) → Int → Int → List (List Int) → Int → Int → Int → List (List Int) → Option (Bool)
 | 0,_,_,_,_,_,_,_,_,_=>none
 | k + 1,x5,x16,x17,x18,x41,x42,x43,x137000,x137001=>if x43 < x42 then (if 0 ≤ x43 then (if x43 < (x41.length:Int) then ((spec_voBits.f k (rd_LI x41 x43)).bind fun t147=>(if (Go.bits .and .i64 x5 t147) = x5 then (some false) else (if (Go.bits .and .i64 x5 t147) = t147 then (some false) else (spec_gmGood.l1 k x5 x16 x17 x18 x41 x42 (wrap64 (x43 + 1)) x137000 x137001)))) else (none)) else (none)) else (spec_gmGood.l0 k x16 x17 (wrap64 (x18 + 1)) x137000 x137001)
end
def spec_gmGood.f (k:Nat) (a0_0:Int) (l0_1:List (List Int)):Option (Bool):=(spec_gmSets.f k a0_0 l0_1 126).bind fun t137=>(if t137 = true then (spec_gmGood.l0 k l0_1 (l0_1.length:Int) 0 a0_0 l0_1) else (some false))
theorem spec_gmGood.mono_l:∀ k,(∀ y0 y1 y2 y3 y4,LeO (spec_gmGood.l0 k y0 y1 y2 y3 y4) (spec_gmGood.l0 (k + 1) y0 y1 y2 y3 y4)) ∧ (∀ y0 y1 y2 y3 y4 y5 y6 y7,LeO (spec_gmGood.j1 k y0 y1 y2 y3 y4 y5 y6 y7) (spec_gmGood.j1 (k + 1) y0 y1 y2 y3 y4 y5 y6 y7)) ∧ (∀ y0 y1 y2 y3 y4 y5 y6 y7 y8,LeO (spec_gmGood.l1 k y0 y1 y2 y3 y4 y5 y6 y7 y8) (spec_gmGood.l1 (k + 1) y0 y1 y2 y3 y4 y5 y6 y7 y8))
 | 0=>⟨fun _ _ _ _ _ r h=>by simp [spec_gmGood.l0] at h,fun _ _ _ _ _ _ _ _ r h=>by simp [spec_gmGood.j1] at h,fun _ _ _ _ _ _ _ _ _ r h=>by simp [spec_gmGood.l1] at h⟩
 | k + 1=>by
  obtain ⟨ih0,ih1,ih2⟩:=spec_gmGood.mono_l k;refine ⟨?_,?_,?_⟩
  ·intro y0 y1 y2 y3 y4;unfold spec_gmGood.l0
   repeat' with_reducible first|exact ih0 _ _ _ _ _|exact ih1 _ _ _ _ _ _ _ _|exact ih2 _ _ _ _ _ _ _ _ _|exact spec_gmSets.mono _ _ _ _|exact spec_voBefore.mono _ _ _|exact spec_voBits.mono _ _|exact LeO.refl _|exact LeO.none _|refine LeO.ite ?_ ?_|refine LeO.bind ?_ (fun _=>?_)
  ·intro y0 y1 y2 y3 y4 y5 y6 y7;unfold spec_gmGood.j1
   repeat' with_reducible first|exact ih0 _ _ _ _ _|exact ih1 _ _ _ _ _ _ _ _|exact ih2 _ _ _ _ _ _ _ _ _|exact spec_gmSets.mono _ _ _ _|exact spec_voBefore.mono _ _ _|exact spec_voBits.mono _ _|exact LeO.refl _|exact LeO.none _|refine LeO.ite ?_ ?_|refine LeO.bind ?_ (fun _=>?_)
  ·intro y0 y1 y2 y3 y4 y5 y6 y7 y8;unfold spec_gmGood.l1
   repeat' with_reducible first|exact ih0 _ _ _ _ _|exact ih1 _ _ _ _ _ _ _ _|exact ih2 _ _ _ _ _ _ _ _ _|exact spec_gmSets.mono _ _ _ _|exact spec_voBefore.mono _ _ _|exact spec_voBits.mono _ _|exact LeO.refl _|exact LeO.none _|refine LeO.ite ?_ ?_|refine LeO.bind ?_ (fun _=>?_)
theorem spec_gmGood.mono:∀ a0 a1 k,LeO (spec_gmGood.f k a0 a1) (spec_gmGood.f (k + 1) a0 a1):=by
 intro a0 a1 k;obtain ⟨ih0,ih1,ih2⟩:=spec_gmGood.mono_l k;unfold spec_gmGood.f
 repeat' with_reducible first|exact ih0 _ _ _ _ _|exact ih1 _ _ _ _ _ _ _ _|exact ih2 _ _ _ _ _ _ _ _ _|exact spec_gmSets.mono _ _ _ _|exact spec_voBefore.mono _ _ _|exact spec_voBits.mono _ _|exact LeO.refl _|exact LeO.none _|refine LeO.ite ?_ ?_|refine LeO.bind ?_ (fun _=>?_)
set_option maxHeartbeats 8000000 in
set_option maxRecDepth 100000 in
theorem spec_gmGood.calls (k:Nat) (a0_0:Int) (A0_1:Option Addr) (c0_1:Nat) (l0_1:List (List Int)) (r:Bool) (w:World) (hr0_1:Kd.C (Kd.slice 3 (Kd.int .i64)) w A0_1 l0_1.length l0_1) (hc0_1:l0_1.length ≤ c0_1) (h:spec_gmGood.f k a0_0 l0_1 = some r) :
  Calls Try.prog 79 #[.agg #[.int .i64 a0_0,.slice A0_1 l0_1.length c0_1]] w fun e w'=>e = .returned (.bool r) ∧ Below w.heap.size w w':=by
 have hu28:=Try.underlying28;have HR0_1:=aM hr0_1;have HC0_1:=aM hc0_1;clear hr0_1 hc0_1;have HB:=aM (Below.refl w.heap.size w);have H:((spec_gmSets.f k a0_0 l0_1 126).bind fun t137=>(if t137 = true then (spec_gmGood.l0 k l0_1 (l0_1.length:Int) 0 a0_0 l0_1) else (some false))) = some r:=h;clear h;replace H:=Option.bind_eq_some_iff.mp H;obtain ⟨t137,A20,H⟩:=H;replace H:(if t137 = true then (spec_gmGood.l0 k l0_1 (l0_1.length:Int) 0 a0_0 l0_1) else (some false)) = some r:=H;have A2:=aM A20;clear A20;by_cases c3:t137 = true
 ·subst c3;have H1:(spec_gmGood.l0 k l0_1 (l0_1.length:Int) 0 a0_0 l0_1) = some r:=by rw [if_pos rfl] at H;exact H
  clear H;have H:=H1;clear H1;have H':=aM H;clear H;go_enter Try.func79,Try.ntmps79;go_wp2_with (first|((with_reducible refine gate_dst (N:=1) rfl ?_);refine box_event ?hg (N:=1) ?hd (cs:=#[.int .i64 a0_0,.slice A0_1 l0_1.length c0_1]) (t:=28) ?hr ?_;(case hd=>rfl);(case hg=>rfl);(case hr=>first|(go_simp;done)|(go_simp;rfl));intro gb136 hg w4 hbox hb;have n0_:=aM (below_step bw hb);have n1_:=aM (hbox);have n2_:=aM ((by rw [hg];exact (below_size bw):w.heap.size ≤ gb136));have n3_:=aM ((by rw [hg];exact (below_size bw):w.heap.size ≤ gb136));clear HB;have HB:=n0_;have BK136:=n1_;have GW136:=n2_;have GE136:=n3_;clear n0_ n1_ n2_ n3_;clear hb hbox hg;have hcz5_0:w4.cell? ⟨gb136,0,none⟩ = some (.int .i64 a0_0):=(blk_cell BK136.out 0).trans rfl;have hcz5_1:w4.cell? ⟨gb136,1,none⟩ = some (.slice A0_1 l0_1.length c0_1):=(blk_cell BK136.out 1).trans rfl;have hfz5_0:=blk_frozen BK136.out 0;have hfz5_1:=blk_frozen BK136.out 1)|((with_reducible refine gate_callee (f:=119) rfl ?_);refine goesL_ (some 13) rfl rfl Try.func119 kR rfl #[.int .i64 a0_0,.slice A0_1 l0_1.length c0_1,.int .i64 126] rfl mq ?_;(with_reducible refine (spec_gmSets.calls k a0_0 _ _ l0_1 126 true _ ?side1 ?side2 A2.out).mono ?_);(case side1=>exact qcs HR0_1.out HB.out);(case side2=>exact HC0_1.out);rintro e w' ⟨rfl,⟨nd,rfl⟩⟩;refine ⟨_,rfl,?_⟩))
  go_loopg [18] k (fun kq v18 w'=>∃ (x18_1:Int),v18 = .int .i64 x18_1 ∧ Aside0 (spec_gmGood.l0 kq l0_1 (l0_1.length:Int) x18_1 a0_0 l0_1 = some r) ∧ Aside0 (kq ≤ k) ∧ Aside0 (w'.heap[gb136]? = some (.cells #[.int .i64 a0_0,(.slice A0_1 l0_1.length c0_1)] 28 (0,0))) ∧ Aside0 (Below w.heap.size w w'))
  case atStart=>exact ⟨(0),qrs,H',⟨Nat.le_refl _⟩,⟨by (with_reducible repeat (first|refine blk_drewN ?_ _|refine blk_drew ?_|refine blk_alloc ?_ _));exact BK136.out⟩,⟨by exact bw⟩⟩
  case round =>
   clear H';(try clear c1);(try clear p2);(try clear c3);(try clear hcz5_0);(try clear hcz5_1);(try clear hfz5_0);(try clear hfz5_1)
   obtain ⟨x18_1,rfl,HA,HK1,BK136,HB⟩:=hrel
   cases gk with
   | zero=>exact absurd HA.out (by simp [spec_gmGood.l0])
   | succ k1 =>
    have H:=HA.out;clear HA;simp only [spec_gmGood.l0] at H;by_cases c6:x18_1 < (l0_1.length:Int)
    ·rw [if_pos c6] at H;have c6b0:decide (x18_1 < (l0_1.length:Int)) = true:=decide_eq_true c6;clear c6;by_cases c7:0 ≤ x18_1
     ·rw [if_pos c7] at H;have c7b0:decide (0 ≤ x18_1) = true:=decide_eq_true c7;clear c7;by_cases c8:x18_1 < (l0_1.length:Int)
      ·rw [if_pos c8] at H;have c8b0:decide (x18_1 < (l0_1.length:Int)) = true:=decide_eq_true c8;clear c8;have HC9:=aM H;clear H;have p138:0 ≤ (x18_1:Int):=of_decide_eq_true ab;have q138:x18_1 < (l0_1.length:Int):=of_decide_eq_true ab;obtain ⟨ad138,A138_0,c138_0,e138,hx138_0,hl138_0,hi138_0⟩:=at_LI HR0_1.out x18_1 p138 q138;cases e138
       replace hx138_0:=(HB.out.cell (World.block_lt_of_cell? w _ hx138_0)).trans hx138_0;have HR138_0:=aM hi138_0;have HC138_0:=aM hl138_0;clear hi138_0 hl138_0;replace p138:=eq_true p138;replace q138:=eq_true q138;go_upto_region 6 with (fail)
       go_cut [35] (fun v35 wc=>∃ (kq:Nat) (x35_8:Bool),v35 = .bool x35_8 ∧ Aside0 (spec_gmGood.j1 kq x18_1 (rd_LI l0_1 x18_1) l0_1 (l0_1.length:Int) x18_1 x35_8 a0_0 l0_1 = some r) ∧ Aside0 (kq ≤ k1) ∧ Aside0 (wc.heap[gb136]? = some (.cells #[.int .i64 a0_0,(.slice (some ad138) l0_1.length c0_1)] 28 (0,0))) ∧ Aside0 (Below w.heap.size w wc))
       case first =>
        have H:=HC9.out;clear HC9;by_cases c10:x18_1 > 0
        ·rw [if_pos c10] at H;have c10b0:decide (0 < x18_1) = true:=decide_eq_true c10;clear c10;(first|rw [c10b0]|(simp only [i64_w,i32_w];rw [c10b0])|skip)
         obtain ⟨ji11,hji11⟩:∃ j_:Int,(wrap64 (x18_1 - 1)) = j_:=⟨_,rfl⟩;replace H:(if 0 ≤ (ji11) then (if (ji11) < (l0_1.length:Int) then ((spec_voBefore.f k1 (rd_LI l0_1 (ji11)) (rd_LI l0_1 x18_1)).bind fun t140=>(spec_gmGood.j1 k1 x18_1 (rd_LI l0_1 x18_1) l0_1 (l0_1.length:Int) x18_1 (!t140) a0_0 l0_1)) else (none)) else (none)) = some r:=by first|(rw [hji11] at H;exact H)|(simp only [hji11] at H ⊢;exact H)
         have hji11w:(IntKind.i64.wrap (x18_1 - 1)) = ji11:=(i64_w _).trans hji11;by_cases c12:0 ≤ (ji11)
         ·rw [if_pos c12] at H;have c12b0:decide (0 ≤ (ji11)) = true:=decide_eq_true c12;clear c12;by_cases c13:(ji11) < (l0_1.length:Int)
          ·rw [if_pos c13] at H;have c13b0:decide ((ji11) < (l0_1.length:Int)) = true:=decide_eq_true c13;clear c13;replace H:=Option.bind_eq_some_iff.mp H;obtain ⟨t140,A140,H⟩:=H;replace H:(spec_gmGood.j1 k1 x18_1 (rd_LI l0_1 x18_1) l0_1 (l0_1.length:Int) x18_1 (!t140) a0_0 l0_1) = some r:=H;have A14:=aM A140;clear A140;have H':=aM H;clear H;have hcz15_0:wr.cell? ⟨gb136,0,none⟩ = some (.int .i64 a0_0):=(blk_cell BK136.out 0).trans rfl;have hcz15_1:wr.cell? ⟨gb136,1,none⟩ = some (.slice (some ad138) l0_1.length c0_1):=(blk_cell BK136.out 1).trans rfl;have hfz15_0:=blk_frozen BK136.out 0;have hfz15_1:=blk_frozen BK136.out 1;have p139:0 ≤ ((ji11):Int):=of_decide_eq_true ab;have q139:(ji11) < (l0_1.length:Int):=of_decide_eq_true ab;obtain ⟨ad139,A139_0,c139_0,e139,hx139_0,hl139_0,hi139_0⟩:=at_LI HR0_1.out (ji11) p139 q139;obtain rfl:ad138 = ad139:=(by injection e139);replace hx139_0:=(HB.out.cell (World.block_lt_of_cell? w _ hx139_0)).trans hx139_0;have HR139_0:=aM hi139_0;have HC139_0:=aM hl139_0;clear hi139_0 hl139_0;replace p139:=eq_true p139;replace q139:=eq_true q139;go_wp2_with (first|(go_at_call 120;(with_reducible refine (spec_voBefore.calls k1 _ _ (rd_LI l0_1 (ji11)) _ _ (rd_LI l0_1 x18_1) t140 _ ?side1 ?side2 ?side3 ?side4 A14.out).mono ?_);(case side1=>exact qcs HR139_0.out HB.out);(case side2=>exact HC139_0.out);(case side3=>exact qcs HR138_0.out HB.out);(case side4=>exact HC138_0.out);rintro e w' ⟨rfl,⟨nd,rfl⟩⟩))
           go_meet
           case rel=>exact ⟨_,(!t140),qrs,H',⟨by have:=HK1.out;first|omega|exact Nat.le_refl _⟩,⟨by (with_reducible repeat (first|refine blk_drewN ?_ _|refine blk_drew ?_|refine blk_alloc ?_ _));exact BK136.out⟩,⟨by exact bw⟩⟩
          ·rw [if_neg c13] at H;exact absurd H (by simp)
         ·rw [if_neg c12] at H;exact absurd H (by simp)
        ·rw [if_neg c10] at H;have c10b0:decide (0 < x18_1) = false:=decide_eq_false c10;clear c10;(first|rw [c10b0]|(simp only [i64_w,i32_w];rw [c10b0])|skip)
         have H':=aM H;clear H;go_wp2
         go_meet
         case rel=>exact ⟨_,(false),qrs,H',⟨by have:=HK1.out;first|omega|exact Nat.le_refl _⟩,⟨by (with_reducible repeat (first|refine blk_drewN ?_ _|refine blk_drew ?_|refine blk_alloc ?_ _));exact BK136.out⟩,⟨by exact bw⟩⟩
       case rest =>
        clear HC9;(try clear c1);(try clear p1);(try clear q1);(try clear hx1);(try clear p2);(try clear c3);(try clear c6);(try clear c6b0);(try clear p6);(try clear c7);(try clear c7b0);(try clear c8);(try clear c8b0);(try clear c10);(try clear c10b0);(try clear c11);(try clear c12);(try clear c12b0);(try clear c13);(try clear c13b0);(try clear p13);(try clear q13);(try clear hx13);(try clear hcz15_0);(try clear hcz15_1);(try clear hcz5_0);(try clear hcz5_1);(try clear hfz15_0);(try clear hfz15_1);(try clear hfz5_0);(try clear hfz5_1);(try clear hx138_0);(try clear hx139_0);(try clear p138);(try clear p139);(try clear p2);(try clear q138);(try clear q139)
        obtain ⟨kq,x35_8,rfl,HA,HJ8,BK136,HB⟩:=hcut
        cases kq with
        | zero=>exact absurd HA.out (by simp [spec_gmGood.j1])
        | succ kj8 =>
         have H:=HA.out;clear HA;simp only [spec_gmGood.j1] at H;by_cases c16:x35_8 = true
         ·subst c16;have H1:(some false) = some r:=by rw [if_pos rfl] at H;exact H
          clear H;have H:=H1;clear H1;obtain rfl:=Option.some.inj H;go_wp2
          go_ret
          exact ⟨by first|rfl|(simp [errW_none,errW_some] <;> rfl)|(simp [*,errW_none,errW_some] <;> rfl),by exact bw⟩
         ·replace c16:=Bool.eq_false_iff.mpr c16;subst c16;have H1:((spec_voBits.f kj8 (rd_LI l0_1 x18_1)).bind fun t141=>(if 0 ≤ x18_1 then (if x18_1 ≤ (l0_1.length:Int) then ((some (l0_1.take (x18_1:Int).toNat:List (List Int))).bind fun y142=>(spec_gmGood.l1 kj8 t141 l0_1 (l0_1.length:Int) x18_1 y142 (y142.length:Int) 0 a0_0 l0_1)) else (none)) else (none))) = some r:=by rw [if_neg (show ¬ (false = true) by decide)] at H;exact H
          clear H;have H:=H1;clear H1;replace H:=Option.bind_eq_some_iff.mp H;obtain ⟨t141,A170,H⟩:=H;replace H:(if 0 ≤ x18_1 then (if x18_1 ≤ (l0_1.length:Int) then ((some (l0_1.take (x18_1:Int).toNat:List (List Int))).bind fun y142=>(spec_gmGood.l1 kj8 t141 l0_1 (l0_1.length:Int) x18_1 y142 (y142.length:Int) 0 a0_0 l0_1)) else (none)) else (none)) = some r:=H;have A17:=aM A170;clear A170;by_cases c18:0 ≤ x18_1
          ·rw [if_pos c18] at H;have c18b0:=eq_true c18;have c18b1:decide (0 ≤ x18_1) = true:=decide_eq_true c18;clear c18;by_cases c19:x18_1 ≤ (l0_1.length:Int)
           ·rw [if_pos c19] at H;have c19b0:=eq_true c19;have c19b1:decide (x18_1 ≤ (l0_1.length:Int)) = true:=decide_eq_true c19;clear c19;obtain ⟨y142,hy142⟩:∃ y_:List (List Int),y_ = (l0_1.take (x18_1:Int).toNat):=⟨_,rfl⟩;replace H:(spec_gmGood.l1 kj8 t141 l0_1 (l0_1.length:Int) x18_1 y142 (y142.length:Int) 0 a0_0 l0_1) = some r:=by first|(rw [hy142];with_reducible exact H)|(have H2_:=(Option.bind_some _ _).symm.trans H;rw [hy142];with_reducible exact H2_)|(have H2_:=(Option.bind_some _ _).symm.trans H;with_reducible exact H2_)|with_reducible exact H|(rw [hy142];exact H)|exact H
            have Ny142:=aM hy142;clear hy142;have H':=aM H;clear H;go_wp2_with (first|((with_reducible refine gate_callee (f:=121) rfl ?_);refine goesL_ (some 37) rfl rfl Try.func121 kR rfl #[.slice A138_0 (rd_LI l0_1 x18_1).length c138_0] rfl mq ?_;(with_reducible refine (spec_voBits.calls kj8 _ _ (rd_LI l0_1 x18_1) t141 _ ?side1 ?side2 A17.out).mono ?_);(case side1=>exact qcs HR138_0.out HB.out);(case side2=>exact HC138_0.out);rintro e w' ⟨rfl,⟨nd,rfl⟩⟩;refine ⟨_,rfl,?_⟩;have hcz20_0:wc.cell? ⟨gb136,0,none⟩ = some (.int .i64 a0_0):=(blk_cell BK136.out 0).trans rfl;have hcz20_1:wc.cell? ⟨gb136,1,none⟩ = some (.slice (some ad138) l0_1.length c0_1):=(blk_cell BK136.out 1).trans rfl;have hfz20_0:=blk_frozen BK136.out 0;have hfz20_1:=blk_frozen BK136.out 1;have q21:(x18_1:Int) ≤ ((l0_1.length:Int):Int):=of_decide_eq_true ab;obtain ⟨i021,hi021,_,hsz21,_⟩:=info_parts info40;have hroom21:l0_1.length ≤ c0_1:=HC0_1.out;have hC21:Kd.C (Kd.slice 3 (Kd.int .i64)) _ (some ad138) l0_1.length l0_1:=HR0_1.out;have hcut21:=cut_to (P:=Try.prog) 22 40 .i64 Try.underlying22 hi021 (some ad138) l0_1.length c0_1 x18_1 (of_decide_eq_true ab) q21 hroom21;have hr21:=Kd.C_take (m:=(x18_1:Int).toNat) hC21 (by omega);have hy21:y142.length = (x18_1:Int).toNat:=(by rw [Ny142.out,List.length_take];omega);rw [← Ny142.out] at hr21;rw [← hy21] at hcut21;have HR145:=aM hr21;have HC145:=aM (show y142.length ≤ c0_1 from by omega);clear hr21 hC21 hroom21 hi021 hsz21;have KY21:=aM hy21;clear hy21;replace q21:=eq_true q21))
            go_loopg [43] kj8 (fun kq v43 w'=>∃ (x43_3:Int),v43 = .int .i64 x43_3 ∧ Aside0 (spec_gmGood.l1 kq t141 l0_1 (l0_1.length:Int) x18_1 y142 (y142.length:Int) x43_3 a0_0 l0_1 = some r) ∧ Aside0 (kq ≤ kj8) ∧ Aside0 (w'.heap[gb136]? = some (.cells #[.int .i64 a0_0,(.slice (some ad138) l0_1.length c0_1)] 28 (0,0))) ∧ Aside0 (Below w.heap.size w w'))
            case atStart=>exact ⟨(0),qrs,H',⟨Nat.le_refl _⟩,⟨by (with_reducible repeat (first|refine blk_drewN ?_ _|refine blk_drew ?_|refine blk_alloc ?_ _));exact BK136.out⟩,⟨by exact bw⟩⟩
            case round =>
             clear H';(try clear c1);(try clear p1);(try clear q1);(try clear hx1);(try clear p2);(try clear q2);(try clear c3);(try clear c6);(try clear c6b0);(try clear p6);(try clear c7);(try clear c7b0);(try clear c8);(try clear c8b0);(try clear c10);(try clear c10b0);(try clear c11);(try clear c12);(try clear c12b0);(try clear c13);(try clear c13b0);(try clear p13);(try clear q13);(try clear hx13);(try clear c16);(try clear c18);(try clear c18b0);(try clear c18b1);(try clear c19);(try clear c19b0);(try clear c19b1);(try clear q21);(try clear hcz15_0);(try clear hcz15_1);(try clear hcz20_0);(try clear hcz20_1);(try clear hcz5_0);(try clear hcz5_1);(try clear hfz15_0);(try clear hfz15_1);(try clear hfz20_0);(try clear hfz20_1);(try clear hfz5_0);(try clear hfz5_1);(try clear hx138_0);(try clear hx139_0);(try clear p1);(try clear p13);(try clear p138);(try clear p139);(try clear p2);(try clear p6);(try clear q1);(try clear q13);(try clear q138);(try clear q139);(try clear q21)
             obtain ⟨x43_3,rfl,HA,HK3,BK136,HB⟩:=hrel
             cases gk with
             | zero=>exact absurd HA.out (by simp [spec_gmGood.l1])
             | succ k3 =>
              have H:=HA.out;clear HA;simp only [spec_gmGood.l1] at H;by_cases c22:x43_3 < (y142.length:Int)
              ·rw [if_pos c22] at H;have c22b0:decide (x43_3 < (y142.length:Int)) = true:=decide_eq_true c22;clear c22;by_cases c23:0 ≤ x43_3
               ·rw [if_pos c23] at H;have c23b0:decide (0 ≤ x43_3) = true:=decide_eq_true c23;clear c23;by_cases c24:x43_3 < (y142.length:Int)
                ·rw [if_pos c24] at H;have c24b0:decide (x43_3 < (y142.length:Int)) = true:=decide_eq_true c24;clear c24;replace H:=Option.bind_eq_some_iff.mp H;obtain ⟨t147,A250,H⟩:=H;replace H:(if (Go.bits .and .i64 t141 t147) = t141 then (some false) else (if (Go.bits .and .i64 t141 t147) = t147 then (some false) else (spec_gmGood.l1 k3 t141 l0_1 (l0_1.length:Int) x18_1 y142 (y142.length:Int) (wrap64 (x43_3 + 1)) a0_0 l0_1))) = some r:=H;have A25:=aM A250;clear A250;by_cases c26:(Go.bits .and .i64 t141 t147) = t141
                 ·rw [if_pos c26] at H;have c26b0:((Go.bits .and .i64 t141 t147) == t141) = true:=beq_iff_eq.mpr c26;have c26b1:((Go.bits .and .i64 t141 t147) != t141) = false:=bne_eq_false_iff_eq.mpr c26;clear c26;obtain rfl:=Option.some.inj H;have p146:0 ≤ (x43_3:Int):=of_decide_eq_true ab;have q146:x43_3 < (y142.length:Int):=of_decide_eq_true ab;obtain ⟨ad146,A146_0,c146_0,e146,hx146_0,hl146_0,hi146_0⟩:=at_LI HR145.out x43_3 p146 q146;obtain rfl:ad138 = ad146:=(by injection e146);replace hx146_0:=(HB.out.cell (World.block_lt_of_cell? w _ hx146_0)).trans hx146_0;have HR146_0:=aM hi146_0;have HC146_0:=aM hl146_0;clear hi146_0 hl146_0;replace p146:=eq_true p146;replace q146:=eq_true q146;go_wp2_with (first|((with_reducible refine gate_callee (f:=121) rfl ?_);refine goesL_ (some 48) rfl rfl Try.func121 kR rfl #[.slice A146_0 (rd_LI y142 x43_3).length c146_0] rfl mq ?_;(with_reducible refine (spec_voBits.calls k3 _ _ (rd_LI y142 x43_3) t147 _ ?side1 ?side2 A25.out).mono ?_);(case side1=>exact qcs HR146_0.out HB.out);(case side2=>exact HC146_0.out);rintro e w' ⟨rfl,⟨nd,rfl⟩⟩;refine ⟨_,rfl,?_⟩))
                  go_ret
                  exact ⟨by first|rfl|(simp [errW_none,errW_some] <;> rfl)|(simp [*,errW_none,errW_some] <;> rfl),by exact bw⟩
                 ·rw [if_neg c26] at H;have c26b0:((Go.bits .and .i64 t141 t147) == t141) = false:=beq_eq_false_iff_ne.mpr c26;have c26b1:((Go.bits .and .i64 t141 t147) != t141) = true:=bne_iff_ne.mpr c26;by_cases c27:(Go.bits .and .i64 t141 t147) = t147
                  ·rw [if_pos c27] at H;have c27b0:((Go.bits .and .i64 t141 t147) == t147) = true:=beq_iff_eq.mpr c27;have c27b1:((Go.bits .and .i64 t141 t147) != t147) = false:=bne_eq_false_iff_eq.mpr c27;clear c27;obtain rfl:=Option.some.inj H;have p146:0 ≤ (x43_3:Int):=of_decide_eq_true ab;have q146:x43_3 < (y142.length:Int):=of_decide_eq_true ab;obtain ⟨ad146,A146_0,c146_0,e146,hx146_0,hl146_0,hi146_0⟩:=at_LI HR145.out x43_3 p146 q146;obtain rfl:ad138 = ad146:=(by injection e146);replace hx146_0:=(HB.out.cell (World.block_lt_of_cell? w _ hx146_0)).trans hx146_0;have HR146_0:=aM hi146_0;have HC146_0:=aM hl146_0;clear hi146_0 hl146_0;replace p146:=eq_true p146;replace q146:=eq_true q146;go_wp2_with (first|((with_reducible refine gate_callee (f:=121) rfl ?_);refine goesL_ (some 48) rfl rfl Try.func121 kR rfl #[.slice A146_0 (rd_LI y142 x43_3).length c146_0] rfl mq ?_;(with_reducible refine (spec_voBits.calls k3 _ _ (rd_LI y142 x43_3) t147 _ ?side1 ?side2 A25.out).mono ?_);(case side1=>exact qcs HR146_0.out HB.out);(case side2=>exact HC146_0.out);rintro e w' ⟨rfl,⟨nd,rfl⟩⟩;refine ⟨_,rfl,?_⟩))
                   go_ret
                   exact ⟨by first|rfl|(simp [errW_none,errW_some] <;> rfl)|(simp [*,errW_none,errW_some] <;> rfl),by exact bw⟩
                  ·rw [if_neg c27] at H;have c27b0:((Go.bits .and .i64 t141 t147) == t147) = false:=beq_eq_false_iff_ne.mpr c27;have c27b1:((Go.bits .and .i64 t141 t147) != t147) = true:=bne_iff_ne.mpr c27;have H':=aM H;clear H;have p146:0 ≤ (x43_3:Int):=of_decide_eq_true ab;have q146:x43_3 < (y142.length:Int):=of_decide_eq_true ab;obtain ⟨ad146,A146_0,c146_0,e146,hx146_0,hl146_0,hi146_0⟩:=at_LI HR145.out x43_3 p146 q146;obtain rfl:ad138 = ad146:=(by injection e146);replace hx146_0:=(HB.out.cell (World.block_lt_of_cell? w _ hx146_0)).trans hx146_0;have HR146_0:=aM hi146_0;have HC146_0:=aM hl146_0;clear hi146_0 hl146_0;replace p146:=eq_true p146;replace q146:=eq_true q146;go_wp2_with (first|((with_reducible refine gate_callee (f:=121) rfl ?_);refine goesL_ (some 48) rfl rfl Try.func121 kR rfl #[.slice A146_0 (rd_LI y142 x43_3).length c146_0] rfl mq ?_;(with_reducible refine (spec_voBits.calls k3 _ _ (rd_LI y142 x43_3) t147 _ ?side1 ?side2 A25.out).mono ?_);(case side1=>exact qcs HR146_0.out HB.out);(case side2=>exact HC146_0.out);rintro e w' ⟨rfl,⟨nd,rfl⟩⟩;refine ⟨_,rfl,?_⟩))
                   go_roundg k3
                   case measure=>have:=HK1.out;have:=HJ8.out;have:=HK3.out;omega
                   case rel=>exact ⟨(wrap64 (x43_3 + 1)),qrs,H',⟨by have:=HK1.out;have:=HJ8.out;have:=HK3.out;omega⟩,⟨by (with_reducible repeat (first|refine blk_drewN ?_ _|refine blk_drew ?_|refine blk_alloc ?_ _));exact BK136.out⟩,⟨by exact bw⟩⟩
                ·rw [if_neg c24] at H;exact absurd H (by simp)
               ·rw [if_neg c23] at H;exact absurd H (by simp)
              ·rw [if_neg c22] at H;have c22b0:decide (x43_3 < (y142.length:Int)) = false:=decide_eq_false c22;clear c22;have H':=aM H;clear H;go_wp2
               go_roundg k3
               case measure=>have:=HK1.out;have:=HJ8.out;have:=HK3.out;omega
               case rel=>exact ⟨(wrap64 (x18_1 + 1)),qrs,H',⟨by have:=HK1.out;have:=HJ8.out;have:=HK3.out;omega⟩,⟨by (with_reducible repeat (first|refine blk_drewN ?_ _|refine blk_drew ?_|refine blk_alloc ?_ _));exact BK136.out⟩,⟨by exact bw⟩⟩
           ·rw [if_neg c19] at H;exact absurd H (by simp)
          ·rw [if_neg c18] at H;exact absurd H (by simp)
      ·rw [if_neg c8] at H;exact absurd H (by simp)
     ·rw [if_neg c7] at H;exact absurd H (by simp)
    ·rw [if_neg c6] at H;have c6b0:decide (x18_1 < (l0_1.length:Int)) = false:=decide_eq_false c6;clear c6;obtain rfl:=Option.some.inj H;go_wp2
     go_ret
     exact ⟨by first|rfl|(simp [errW_none,errW_some] <;> rfl)|(simp [*,errW_none,errW_some] <;> rfl),by exact bw⟩
 ·replace c3:=Bool.eq_false_iff.mpr c3;subst c3;have H1:(some false) = some r:=by rw [if_neg (show ¬ (false = true) by decide)] at H;exact H
  clear H;have H:=H1;clear H1;obtain rfl:=Option.some.inj H;go_enter Try.func79,Try.ntmps79;go_wp2_with (first|((with_reducible refine gate_dst (N:=1) rfl ?_);refine box_event ?hg (N:=1) ?hd (cs:=#[.int .i64 a0_0,.slice A0_1 l0_1.length c0_1]) (t:=28) ?hr ?_;(case hd=>rfl);(case hg=>rfl);(case hr=>first|(go_simp;done)|(go_simp;rfl));intro gb136 hg w28 hbox hb;have n0_:=aM (below_step bw hb);have n1_:=aM (hbox);have n2_:=aM ((by rw [hg];exact (below_size bw):w.heap.size ≤ gb136));have n3_:=aM ((by rw [hg];exact (below_size bw):w.heap.size ≤ gb136));clear HB;have HB:=n0_;have BK136:=n1_;have GW136:=n2_;have GE136:=n3_;clear n0_ n1_ n2_ n3_;clear hb hbox hg;have hcz29_0:w28.cell? ⟨gb136,0,none⟩ = some (.int .i64 a0_0):=(blk_cell BK136.out 0).trans rfl;have hcz29_1:w28.cell? ⟨gb136,1,none⟩ = some (.slice A0_1 l0_1.length c0_1):=(blk_cell BK136.out 1).trans rfl;have hfz29_0:=blk_frozen BK136.out 0;have hfz29_1:=blk_frozen BK136.out 1)|((with_reducible refine gate_callee (f:=119) rfl ?_);refine goesL_ (some 13) rfl rfl Try.func119 kR rfl #[.int .i64 a0_0,.slice A0_1 l0_1.length c0_1,.int .i64 126] rfl mq ?_;(with_reducible refine (spec_gmSets.calls k a0_0 _ _ l0_1 126 false _ ?side1 ?side2 A2.out).mono ?_);(case side1=>exact qcs HR0_1.out HB.out);(case side2=>exact HC0_1.out);rintro e w' ⟨rfl,⟨nd,rfl⟩⟩;refine ⟨_,rfl,?_⟩))
  go_ret
  exact ⟨by first|rfl|(simp [errW_none,errW_some] <;> rfl)|(simp [*,errW_none,errW_some] <;> rfl),by exact bw⟩


/-! ### spec_voAll: function 105 -/
def spec_voAll.f (a0:Int):Option (Int):=if 0 ≤ a0 then (some (wrap64 ((shl .i64 1 a0) - 1))) else (none)
set_option maxHeartbeats 8000000 in
set_option maxRecDepth 100000 in
theorem spec_voAll.calls (a0:Int) (r:Int) (w:World) (h:spec_voAll.f a0 = some r) :
  Calls Try.prog 105 #[.int .i64 a0] w fun e w'=>e = .returned (.int .i64 r) ∧ Drawn0 w w':=by
 have H:(if 0 ≤ a0 then (some (wrap64 ((shl .i64 1 a0) - 1))) else (none)) = some r:=h;clear h;by_cases c2:0 ≤ a0
 ·rw [if_pos c2] at H;have c2b0:=eq_true c2;have c2b1:decide (0 ≤ a0) = true:=decide_eq_true c2;clear c2;obtain ⟨ji3,hji3⟩:∃ j_:Int,(shl .i64 1 a0) = j_:=⟨_,rfl⟩;replace H:(some (wrap64 ((ji3) - 1))) = some r:=by first|(rw [hji3] at H;exact H)|(simp only [hji3] at H ⊢;exact H)
  have hji3_:(IntKind.i64.wrap (1 * 2 ^ min a0.toNat 64)) = ji3:=hji3;have hji3z:a0 ≤ 64 → (IntKind.i64.wrap (1 * 2 ^ a0.toNat)) = ji3:=shl_small hji3;have hji3u:(IntKind.i64.wrap (2 ^ min a0.toNat 64)) = ji3:=by have h_:=hji3_;rw [Int.one_mul] at h_;exact h_
  have hji3v:a0 ≤ 64 → (IntKind.i64.wrap (2 ^ a0.toNat)) = ji3:=fun hle_=>by have h_:=hji3z hle_;rw [Int.one_mul] at h_;exact h_
  have hji3y:(wrap64 (1 * 2 ^ min a0.toNat 64)) = ji3:=(i64_w _).symm.trans hji3_;have hji3x:a0 ≤ 64 → (wrap64 (1 * 2 ^ a0.toNat)) = ji3:=fun h_=>(i64_w _).symm.trans (hji3z h_)
  obtain rfl:=Option.some.inj H;go_enter Try.func105,Try.ntmps105;go_wp2
  go_ret
  exact ⟨by first|rfl|(simp;done)|(simp only [← hji3] <;> (first|rfl|simp))|(simp [*];done),by repeat (first|exact Drawn0.refl _|apply Drawn0.step)⟩
 ·rw [if_neg c2] at H;exact absurd H (by simp)


/-! ### spec_gmWins: function 89 -/
mutual
def spec_gmWins.l0:Nat → List (List Int) → List Bool → Int → Int → Option (List Bool)
 | 0,_,_,_,_=>none
 | k + 1,x1,x5,x15,x16=>if x16 < x15 then (spec_gmWins.l1 k x1 x5 x16 x15 x16 x1 (x1.length:Int) 0) else (some x5)
def spec_gmWins.l1:Nat → List (List Int) → List Bool → Int → Int → Int → List (List Int) → Int → Int → Option (List Bool)
 | 0,_,_,_,_,_,_,_,_=>none
 | k + 1,x1,x5,x6,x15,x16,x19,x20,x21=>if x21 < x20 then (if 0 ≤ x21 then (if x21 < (x19.length:Int) then ((spec_voBits.f k (rd_LI x19 x21)).bind fun t111=>(if 0 ≤ x6 then (if x6 < (x5.length:Int) then (if rdOf false x5 x6 = true then (spec_gmWins.l1 k x1 (x5.set (x6:Int).toNat true) x6 x15 x16 x19 x20 (wrap64 (x21 + 1))) else (spec_gmWins.l1 k x1 (x5.set (x6:Int).toNat ((Go.bits .and .i64 x6 t111) == t111)) x6 x15 x16 x19 x20 (wrap64 (x21 + 1)))) else (none)) else (none))) else (none)) else (none)) else (spec_gmWins.l0 k x1 x5 x15 (wrap64 (x16 + 1)))
end
def spec_gmWins.f (k:Nat) (a0:Int) (l1:List (List Int)):Option (List Bool):=(spec_voAll.f a0).bind fun t106=>(if 0 ≤ (wrap64 (t106 + 1)) then (if (wrap64 (t106 + 1):Int).toNat ≤ 281474976710656 then ((some (List.replicate (wrap64 (t106 + 1):Int).toNat false:List Bool)).bind fun y107=>(spec_gmWins.l0 k l1 y107 (y107.length:Int) 0)) else (none)) else (none))
theorem spec_gmWins.mono_l:∀ k,(∀ y0 y1 y2 y3,LeO (spec_gmWins.l0 k y0 y1 y2 y3) (spec_gmWins.l0 (k + 1) y0 y1 y2 y3)) ∧ (∀ y0 y1 y2 y3 y4 y5 y6 y7,LeO (spec_gmWins.l1 k y0 y1 y2 y3 y4 y5 y6 y7) (spec_gmWins.l1 (k + 1) y0 y1 y2 y3 y4 y5 y6 y7))
 | 0=>⟨fun _ _ _ _ r h=>by simp [spec_gmWins.l0] at h,fun _ _ _ _ _ _ _ _ r h=>by simp [spec_gmWins.l1] at h⟩
 | k + 1=>by
  obtain ⟨ih0,ih1⟩:=spec_gmWins.mono_l k;refine ⟨?_,?_⟩
  ·intro y0 y1 y2 y3;unfold spec_gmWins.l0
   repeat' with_reducible first|exact ih0 _ _ _ _|exact ih1 _ _ _ _ _ _ _ _|exact spec_voBits.mono _ _|exact LeO.refl _|exact LeO.none _|refine LeO.ite ?_ ?_|refine LeO.bind ?_ (fun _=>?_)
  ·intro y0 y1 y2 y3 y4 y5 y6 y7;unfold spec_gmWins.l1
   repeat' with_reducible first|exact ih0 _ _ _ _|exact ih1 _ _ _ _ _ _ _ _|exact spec_voBits.mono _ _|exact LeO.refl _|exact LeO.none _|refine LeO.ite ?_ ?_|refine LeO.bind ?_ (fun _=>?_)
theorem spec_gmWins.mono:∀ a0 a1 k,LeO (spec_gmWins.f k a0 a1) (spec_gmWins.f (k + 1) a0 a1):=by
 intro a0 a1 k;obtain ⟨ih0,ih1⟩:=spec_gmWins.mono_l k;unfold spec_gmWins.f
 repeat' with_reducible first|exact ih0 _ _ _ _|exact ih1 _ _ _ _ _ _ _ _|exact spec_voBits.mono _ _|exact LeO.refl _|exact LeO.none _|refine LeO.ite ?_ ?_|refine LeO.bind ?_ (fun _=>?_)
set_option maxHeartbeats 8000000 in
set_option maxRecDepth 100000 in
theorem spec_gmWins.calls (k:Nat) (a0:Int) (A1:Option Addr) (c1:Nat) (l1:List (List Int)) (r:List Bool) (w:World) (hr1:Kd.C (Kd.slice 3 (Kd.int .i64)) w A1 l1.length l1) (hc1:l1.length ≤ c1) (h:spec_gmWins.f k a0 l1 = some r) :
  Calls Try.prog 89 #[.int .i64 a0,.slice A1 l1.length c1] w fun e w'=>∃ v0_:Value,e = .returned (v0_) ∧ Kd.R Kd.bool 4 w' w.heap.size (fun _=>True) v0_ r ∧ Below w.heap.size w w':=by
 have HR1:=aM hr1;have HC1:=aM hc1;clear hr1 hc1;have HB:=aM (Below.refl w.heap.size w);have H:((spec_voAll.f a0).bind fun t106=>(if 0 ≤ (wrap64 (t106 + 1)) then (if (wrap64 (t106 + 1):Int).toNat ≤ 281474976710656 then ((some (List.replicate (wrap64 (t106 + 1):Int).toNat false:List Bool)).bind fun y107=>(spec_gmWins.l0 k l1 y107 (y107.length:Int) 0)) else (none)) else (none))) = some r:=h;clear h;replace H:=Option.bind_eq_some_iff.mp H;obtain ⟨t106,A30,H⟩:=H;replace H:(if 0 ≤ (wrap64 (t106 + 1)) then (if (wrap64 (t106 + 1):Int).toNat ≤ 281474976710656 then ((some (List.replicate (wrap64 (t106 + 1):Int).toNat false:List Bool)).bind fun y107=>(spec_gmWins.l0 k l1 y107 (y107.length:Int) 0)) else (none)) else (none)) = some r:=H;have A3:=aM A30;clear A30;obtain ⟨ji4,hji4⟩:∃ j_:Int,(wrap64 (t106 + 1)) = j_:=⟨_,rfl⟩;replace H:(if 0 ≤ (ji4) then (if (ji4:Int).toNat ≤ 281474976710656 then ((some (List.replicate (ji4:Int).toNat false:List Bool)).bind fun y107=>(spec_gmWins.l0 k l1 y107 (y107.length:Int) 0)) else (none)) else (none)) = some r:=by first|(rw [hji4] at H;exact H)|(simp only [hji4] at H ⊢;exact H)
 (try rw [hji4] at A3)
 have hji4w:(IntKind.i64.wrap (t106 + 1)) = ji4:=(i64_w _).trans hji4;by_cases c5:0 ≤ (ji4)
 ·rw [if_pos c5] at H;have c5b0:=eq_true c5;have c5b1:decide (0 ≤ (ji4)) = true:=decide_eq_true c5;clear c5;by_cases c6:(ji4:Int).toNat ≤ 281474976710656
  ·rw [if_pos c6] at H;have c6b0:=eq_true c6;have c6b1:decide ((ji4:Int).toNat ≤ 281474976710656) = true:=decide_eq_true c6;clear c6;obtain ⟨y107,hy107⟩:∃ y_:List Bool,y_ = (List.replicate (ji4:Int).toNat false):=⟨_,rfl⟩;replace H:(spec_gmWins.l0 k l1 y107 (y107.length:Int) 0) = some r:=by first|(rw [hy107];with_reducible exact H)|(have H2_:=(Option.bind_some _ _).symm.trans H;rw [hy107];with_reducible exact H2_)|(have H2_:=(Option.bind_some _ _).symm.trans H;with_reducible exact H2_)|with_reducible exact H|(rw [hy107];exact H)|exact H
   have Ny107:=aM hy107;clear hy107;have H':=aM H;clear H;go_enter Try.func89,Try.ntmps89;go_wp2_with (first|((with_reducible refine gate_callee (f:=105) rfl ?_);refine goesL_ (some 11) rfl rfl Try.func105 kR rfl #[.int .i64 a0] rfl mq ?_;(with_reducible refine (spec_voAll.calls a0 t106 _ A3.out).mono ?_);rintro e w' ⟨rfl,⟨nd,rfl⟩⟩;refine ⟨_,rfl,?_⟩)|((with_reducible refine gate_dst (N:=13) rfl ?_);refine Kd.R_make Kd.bool _ 4 rfl (N:=13) rfl 63 _ _ rfl ji4 rfl rfl Try.underlying63 (.bool false) 1 info4 rfl (by decide) (by omega) false (ok:=fun _=>True) (okp:=fun _=>True) rfl (fun _ hk=>hk) trivial (of_decide_eq_true ab) (Nat.le_trans (Nat.mul_le_mul_right _ (of_decide_eq_true ab:ji4.toNat ≤ 281474976710656)) (by omega)) (Below.refl _ _) (Nat.le_refl _) ?_;intro v108 w7 ho8 hb hg_ hnew_;clear hg_ hnew_;(first|rw [← Ny107.out] at ho8|(simp only [Int.reduceToNat] at ho8;rw [← Ny107.out] at ho8));have n0_:=aM (Kd.R_lower ho8 (below_size bw));have n1_:=aM (below_step bw hb);clear HB;have HO109:=n0_;have HB:=n1_;clear n0_ n1_;clear hb ho8;obtain ⟨Ao9,co9,eo9⟩:=Kd.R_slice HO109.out;subst eo9))
   go_loopg [16] k (fun kq v16 w'=>∃ (x5_1:List Bool) (x16_1:Int),v16 = .int .i64 x16_1 ∧ Aside0 (spec_gmWins.l0 kq l1 x5_1 (y107.length:Int) x16_1 = some r) ∧ Aside0 (kq ≤ k) ∧ Aside0 (Kd.R Kd.bool 4 w' w.heap.size (fun _=>True) (.slice Ao9 y107.length co9) x5_1) ∧ Aside0 (Below w.heap.size w w'))
   case atStart=>exact ⟨(y107),(0),qrs,H',⟨Nat.le_refl _⟩,⟨qra HO109.out⟩,⟨by exact bw⟩⟩
   case round =>
    clear H';(try clear c1);(try clear p2);(try clear c5);(try clear c5b0);(try clear c5b1);(try clear c6);(try clear c6b0);(try clear c6b1);(try clear p6);(try clear c8)
    obtain ⟨x5_1,x16_1,rfl,HA,HK1,HO_5,HB⟩:=hrel;have hl5_1:=(Kd.R_reads' HO_5.out).1;rw [hl5_1] at HO_5;(try simp only [hl5_1])
    cases gk with
    | zero=>exact absurd HA.out (by simp [spec_gmWins.l0])
    | succ k1 =>
     have H:=HA.out;clear HA;simp only [spec_gmWins.l0] at H;by_cases c10:x16_1 < (y107.length:Int)
     ·rw [if_pos c10] at H;have c10b0:decide (x16_1 < (y107.length:Int)) = true:=decide_eq_true c10;(try simp only [hl5_1] at c10b0)
      clear c10;have H':=aM H;clear H;go_wp2
      go_loopg [21] k1 (fun kq v21 w'=>∃ (x5_2:List Bool) (x21_2:Int),v21 = .int .i64 x21_2 ∧ Aside0 (spec_gmWins.l1 kq l1 x5_2 x16_1 (y107.length:Int) x16_1 l1 (l1.length:Int) x21_2 = some r) ∧ Aside0 (kq ≤ k1) ∧ Aside0 (Kd.R Kd.bool 4 w' w.heap.size (fun _=>True) (.slice Ao9 x5_1.length co9) x5_2) ∧ Aside0 (Below w.heap.size w w'))
      case atStart=>exact ⟨(x5_1),(0),qrs,H',⟨Nat.le_refl _⟩,⟨by (try simp only [hl5_1]);(with_reducible repeat (first|apply Kd.R_alloc|apply Kd.R_drewN|apply Kd.R_drew));exact HO_5.out⟩,⟨by exact bw⟩⟩
      case round =>
       clear H';(try clear c1);(try clear p2);(try clear c5);(try clear c5b0);(try clear c5b1);(try clear c6);(try clear c6b0);(try clear c6b1);(try clear p6);(try clear c8);(try clear c10);(try clear c10b0);(try clear p2);(try clear p6)
       obtain ⟨x5_2,x21_2,rfl,HA,HK2,HO_5,HB⟩:=hrel;have hl5_2:=(Kd.R_reads' HO_5.out).1;rw [hl5_2] at HO_5;(try simp only [hl5_2])
       cases gk with
       | zero=>exact absurd HA.out (by simp [spec_gmWins.l1])
       | succ k2 =>
        have H:=HA.out;clear HA;simp only [spec_gmWins.l1] at H;by_cases c11:x21_2 < (l1.length:Int)
        ·rw [if_pos c11] at H;have c11b0:decide (x21_2 < (l1.length:Int)) = true:=decide_eq_true c11;(try simp only [hl5_1,hl5_2] at c11b0)
         clear c11;by_cases c12:0 ≤ x21_2
         ·rw [if_pos c12] at H;have c12b0:decide (0 ≤ x21_2) = true:=decide_eq_true c12;clear c12;by_cases c13:x21_2 < (l1.length:Int)
          ·rw [if_pos c13] at H;have c13b0:decide (x21_2 < (l1.length:Int)) = true:=decide_eq_true c13;(try simp only [hl5_1,hl5_2] at c13b0)
           clear c13;replace H:=Option.bind_eq_some_iff.mp H;obtain ⟨t111,A140,H⟩:=H;replace H:(if 0 ≤ x16_1 then (if x16_1 < (x5_2.length:Int) then (if rdOf false x5_2 x16_1 = true then (spec_gmWins.l1 k2 l1 (x5_2.set (x16_1:Int).toNat true) x16_1 (y107.length:Int) x16_1 l1 (l1.length:Int) (wrap64 (x21_2 + 1))) else (spec_gmWins.l1 k2 l1 (x5_2.set (x16_1:Int).toNat ((Go.bits .and .i64 x16_1 t111) == t111)) x16_1 (y107.length:Int) x16_1 l1 (l1.length:Int) (wrap64 (x21_2 + 1)))) else (none)) else (none)) = some r:=H;have A14:=aM A140;clear A140;by_cases c15:0 ≤ x16_1
           ·rw [if_pos c15] at H;have c15b0:decide (0 ≤ x16_1) = true:=decide_eq_true c15;clear c15;by_cases c16:x16_1 < (x5_2.length:Int)
            ·rw [if_pos c16] at H;have c16b0:decide (x16_1 < (x5_2.length:Int)) = true:=decide_eq_true c16;(try simp only [hl5_1,hl5_2] at c16b0)
             clear c16;obtain ⟨bq17,hbq17⟩:∃ b_:Bool,b_ = (rdOf false x5_2 x16_1):=⟨_,rfl⟩;replace H:(if bq17 = true then (spec_gmWins.l1 k2 l1 (x5_2.set (x16_1:Int).toNat true) x16_1 (y107.length:Int) x16_1 l1 (l1.length:Int) (wrap64 (x21_2 + 1))) else (spec_gmWins.l1 k2 l1 (x5_2.set (x16_1:Int).toNat ((Go.bits .and .i64 x16_1 t111) == t111)) x16_1 (y107.length:Int) x16_1 l1 (l1.length:Int) (wrap64 (x21_2 + 1)))) = some r:=by rw [← hbq17] at H;exact H
             have Nbq17:=aM hbq17;clear hbq17;by_cases c18:bq17 = true
             ·subst c18;have H1:(spec_gmWins.l1 k2 l1 (x5_2.set (x16_1:Int).toNat true) x16_1 (y107.length:Int) x16_1 l1 (l1.length:Int) (wrap64 (x21_2 + 1))) = some r:=by rw [if_pos rfl] at H;exact H
              clear H;have H:=H1;clear H1;obtain ⟨y113,hy113⟩:∃ y_:List Bool,y_ = (x5_2.set (x16_1:Int).toNat true):=⟨_,rfl⟩;replace H:(spec_gmWins.l1 k2 l1 y113 x16_1 (y107.length:Int) x16_1 l1 (l1.length:Int) (wrap64 (x21_2 + 1))) = some r:=by first|(rw [hy113];with_reducible exact H)|(have H2_:=(Option.bind_some _ _).symm.trans H;rw [hy113];with_reducible exact H2_)|(have H2_:=(Option.bind_some _ _).symm.trans H;with_reducible exact H2_)|with_reducible exact H|(rw [hy113];exact H)|exact H
              have Ny113:=aM hy113;clear hy113;have H':=aM H;clear H;have p110:0 ≤ (x21_2:Int):=of_decide_eq_true ab;have q110:x21_2 < (l1.length:Int):=of_decide_eq_true ab;obtain ⟨ad110,A110_0,c110_0,e110,hx110_0,hl110_0,hi110_0⟩:=at_LI HR1.out x21_2 p110 q110;cases e110
              replace hx110_0:=(HB.out.cell (World.block_lt_of_cell? w _ hx110_0)).trans hx110_0;have HR110_0:=aM hi110_0;have HC110_0:=aM hl110_0;clear hi110_0 hl110_0;replace p110:=eq_true p110;replace q110:=eq_true q110;go_wp2_with (first|((with_reducible refine gate_callee (f:=121) rfl ?_);refine goesL_ (some 26) rfl rfl Try.func121 kR rfl #[.slice A110_0 (rd_LI l1 x21_2).length c110_0] rfl mq ?_;(with_reducible refine (spec_voBits.calls k2 _ _ (rd_LI l1 x21_2) t111 _ ?side1 ?side2 A14.out).mono ?_);(case side1=>exact qcs HR110_0.out HB.out);(case side2=>exact HC110_0.out);rintro e w' ⟨rfl,⟨nd,rfl⟩⟩;refine ⟨_,rfl,?_⟩;(try (rw [drewN_self wr];generalize hq_:World.drewN wr _ = wr;have n0_:Aside0 (Kd.R Kd.bool 4 wr w.heap.size (fun _=>True) (.slice Ao9 x5_2.length co9) x5_2):=⟨by rw [← hq_];exact (qra HO_5.out)⟩;have n1_:Aside0 (Below w.heap.size w wr):=⟨by rw [← hq_];exact bw⟩;clear HO_5 HB hq_;have HO_5:=n0_;have HB:=n1_;clear n0_ n1_));have p112:0 ≤ (x16_1:Int):=of_decide_eq_true ab;have q112:x16_1 < (x5_2.length:Int):=of_decide_eq_true ab;obtain ⟨ad112,e112,hx112_0⟩:=Kd.at_bool (Kd.R_reads' HO_5.out).2.2 x16_1 p112 q112;(try rw [← Nbq17.out] at hx112_0);cases e112;replace p112:=eq_true p112;replace q112:=eq_true q112;have p19:0 ≤ (x16_1:Int):=of_decide_eq_true ab;have q19:(x16_1:Int) < ((x5_2.length:Int):Int):=of_decide_eq_true ab;obtain ⟨go19,co19,eo19,gb19,gl19,cl19,HG19⟩:=Kd.R_form HO_5.out (by omega);(first|cases eo19|(injection eo19 with ea_ en_ ec_;(first|subst ea_|(injection ea_ with ea_;subst ea_));subst ec_;clear en_));have GB19:=aM gb19;have GG19:=aM HG19;clear gb19 gl19 HG19;(first|simp only [add_plain] at hx112_0|skip);obtain ⟨hx19_0,hf19_0⟩:=Kd.R_celln false HO_5.out (x16_1:Int) p19 q19;replace p19:=eq_true p19;replace q19:=eq_true q19;obtain ⟨hy20_,hz20_⟩:=Kd.R_celln false HO_5.out (x16_1:Int) (of_decide_eq_true ab) (of_decide_eq_true ab);have HP20:=Kd.R_putg HO_5.out (x16_1:Int) true)|((with_reducible refine gate_store (t:=4) (p:=40) rfl ?_);refine store_event (t:=4) (p:=40) (v:=?vo_w21) (w1:=(wr.setCell ⟨go19,(x16_1:Int).toNat,none⟩ (.bool true))) ?hg ?ho ?hn ?hr ?_;(case ho=>rfl);(case hg=>rfl);(case hn=>rfl);(case hr=>first|(go_simp;done)|(go_simp;rfl));intro w21 hw;have hg:wr.grownBy w21 (some go19):=(by rw [hw];exact HP20.2);have hp_:Kd.R Kd.bool 4 w21 w.heap.size (fun _=>True) (.slice (some ⟨go19,0,none⟩) x5_2.length co9) y113:=(by rw [hw,Ny113.out];exact HP20.1);clear HP20;have n0_:=aM (hp_);have n1_:=aM ((by rw [hw];exact below_set (HB.out) GB19.out:Below w.heap.size w w21));clear HO_5;clear HB;have HO_5:=n0_;have HB:=n1_;clear n0_ n1_;clear hg hw hp_))
              (try simp only [← hl5_2])
              go_roundg k2
              case measure=>have:=HK1.out;have:=HK2.out;omega
              case rel=>exact ⟨(y113),(wrap64 (x21_2 + 1)),qrs,H',⟨by have:=HK1.out;have:=HK2.out;omega⟩,⟨by (try simp only [hl5_1]);(try simp only [hl5_2]);(with_reducible repeat (first|apply Kd.R_alloc|apply Kd.R_drewN|apply Kd.R_drew));exact HO_5.out⟩,⟨by exact bw⟩⟩
             ·replace c18:=Bool.eq_false_iff.mpr c18;subst c18;have H1:(spec_gmWins.l1 k2 l1 (x5_2.set (x16_1:Int).toNat ((Go.bits .and .i64 x16_1 t111) == t111)) x16_1 (y107.length:Int) x16_1 l1 (l1.length:Int) (wrap64 (x21_2 + 1))) = some r:=by rw [if_neg (show ¬ (false = true) by decide)] at H;exact H
              clear H;have H:=H1;clear H1;obtain ⟨y114,hy114⟩:∃ y_:List Bool,y_ = (x5_2.set (x16_1:Int).toNat ((Go.bits .and .i64 x16_1 t111) == t111)):=⟨_,rfl⟩;replace H:(spec_gmWins.l1 k2 l1 y114 x16_1 (y107.length:Int) x16_1 l1 (l1.length:Int) (wrap64 (x21_2 + 1))) = some r:=by first|(rw [hy114];with_reducible exact H)|(have H2_:=(Option.bind_some _ _).symm.trans H;rw [hy114];with_reducible exact H2_)|(have H2_:=(Option.bind_some _ _).symm.trans H;with_reducible exact H2_)|with_reducible exact H|(rw [hy114];exact H)|exact H
              have Ny114:=aM hy114;clear hy114;have H':=aM H;clear H;have p110:0 ≤ (x21_2:Int):=of_decide_eq_true ab;have q110:x21_2 < (l1.length:Int):=of_decide_eq_true ab;obtain ⟨ad110,A110_0,c110_0,e110,hx110_0,hl110_0,hi110_0⟩:=at_LI HR1.out x21_2 p110 q110;cases e110
              replace hx110_0:=(HB.out.cell (World.block_lt_of_cell? w _ hx110_0)).trans hx110_0;have HR110_0:=aM hi110_0;have HC110_0:=aM hl110_0;clear hi110_0 hl110_0;replace p110:=eq_true p110;replace q110:=eq_true q110;go_wp2_with (first|((with_reducible refine gate_callee (f:=121) rfl ?_);refine goesL_ (some 26) rfl rfl Try.func121 kR rfl #[.slice A110_0 (rd_LI l1 x21_2).length c110_0] rfl mq ?_;(with_reducible refine (spec_voBits.calls k2 _ _ (rd_LI l1 x21_2) t111 _ ?side1 ?side2 A14.out).mono ?_);(case side1=>exact qcs HR110_0.out HB.out);(case side2=>exact HC110_0.out);rintro e w' ⟨rfl,⟨nd,rfl⟩⟩;refine ⟨_,rfl,?_⟩;(try (rw [drewN_self wr];generalize hq_:World.drewN wr _ = wr;have n0_:Aside0 (Kd.R Kd.bool 4 wr w.heap.size (fun _=>True) (.slice Ao9 x5_2.length co9) x5_2):=⟨by rw [← hq_];exact (qra HO_5.out)⟩;have n1_:Aside0 (Below w.heap.size w wr):=⟨by rw [← hq_];exact bw⟩;clear HO_5 HB hq_;have HO_5:=n0_;have HB:=n1_;clear n0_ n1_));have p112:0 ≤ (x16_1:Int):=of_decide_eq_true ab;have q112:x16_1 < (x5_2.length:Int):=of_decide_eq_true ab;obtain ⟨ad112,e112,hx112_0⟩:=Kd.at_bool (Kd.R_reads' HO_5.out).2.2 x16_1 p112 q112;(try rw [← Nbq17.out] at hx112_0);cases e112;replace p112:=eq_true p112;replace q112:=eq_true q112;have p22:0 ≤ (x16_1:Int):=of_decide_eq_true ab;have q22:(x16_1:Int) < ((x5_2.length:Int):Int):=of_decide_eq_true ab;obtain ⟨go22,co22,eo22,gb22,gl22,cl22,HG22⟩:=Kd.R_form HO_5.out (by omega);(first|cases eo22|(injection eo22 with ea_ en_ ec_;(first|subst ea_|(injection ea_ with ea_;subst ea_));subst ec_;clear en_));have GB22:=aM gb22;have GG22:=aM HG22;clear gb22 gl22 HG22;(first|simp only [add_plain] at hx112_0|skip);obtain ⟨hx22_0,hf22_0⟩:=Kd.R_celln false HO_5.out (x16_1:Int) p22 q22;replace p22:=eq_true p22;replace q22:=eq_true q22;obtain ⟨hy23_,hz23_⟩:=Kd.R_celln false HO_5.out (x16_1:Int) (of_decide_eq_true ab) (of_decide_eq_true ab);have HP23:=Kd.R_putg HO_5.out (x16_1:Int) ((Go.bits .and .i64 x16_1 t111) == t111))|((with_reducible refine gate_store (t:=4) (p:=40) rfl ?_);refine store_event (t:=4) (p:=40) (v:=?vo_w24) (w1:=(wr.setCell ⟨go22,(x16_1:Int).toNat,none⟩ (.bool ((Go.bits .and .i64 x16_1 t111) == t111)))) ?hg ?ho ?hn ?hr ?_;(case ho=>rfl);(case hg=>rfl);(case hn=>rfl);(case hr=>first|(go_simp;done)|(go_simp;rfl));intro w24 hw;have hg:wr.grownBy w24 (some go22):=(by rw [hw];exact HP23.2);have hp_:Kd.R Kd.bool 4 w24 w.heap.size (fun _=>True) (.slice (some ⟨go22,0,none⟩) x5_2.length co9) y114:=(by rw [hw,Ny114.out];exact HP23.1);clear HP23;have n0_:=aM (hp_);have n1_:=aM ((by rw [hw];exact below_set (HB.out) GB22.out:Below w.heap.size w w24));clear HO_5;clear HB;have HO_5:=n0_;have HB:=n1_;clear n0_ n1_;clear hg hw hp_))
              (try simp only [← hl5_2])
              go_roundg k2
              case measure=>have:=HK1.out;have:=HK2.out;omega
              case rel=>exact ⟨(y114),(wrap64 (x21_2 + 1)),qrs,H',⟨by have:=HK1.out;have:=HK2.out;omega⟩,⟨by (try simp only [hl5_1]);(try simp only [hl5_2]);(with_reducible repeat (first|apply Kd.R_alloc|apply Kd.R_drewN|apply Kd.R_drew));exact HO_5.out⟩,⟨by exact bw⟩⟩
            ·rw [if_neg c16] at H;exact absurd H (by simp)
           ·rw [if_neg c15] at H;exact absurd H (by simp)
          ·rw [if_neg c13] at H;exact absurd H (by simp)
         ·rw [if_neg c12] at H;exact absurd H (by simp)
        ·rw [if_neg c11] at H;have c11b0:decide (x21_2 < (l1.length:Int)) = false:=decide_eq_false c11;(try simp only [hl5_1,hl5_2] at c11b0)
         clear c11;have H':=aM H;clear H;go_wp2
         (try simp only [← hl5_1,← hl5_2])
         go_roundg k2
         case measure=>have:=HK1.out;have:=HK2.out;omega
         case rel=>exact ⟨(x5_2),(wrap64 (x16_1 + 1)),qrs,H',⟨by have:=HK1.out;have:=HK2.out;omega⟩,⟨by (try simp only [hl5_1]);(try simp only [hl5_2]);(with_reducible repeat (first|apply Kd.R_alloc|apply Kd.R_drewN|apply Kd.R_drew));exact HO_5.out⟩,⟨by exact bw⟩⟩
     ·rw [if_neg c10] at H;have c10b0:decide (x16_1 < (y107.length:Int)) = false:=decide_eq_false c10;(try simp only [hl5_1] at c10b0)
      clear c10;obtain rfl:=Option.some.inj H;go_wp2
      go_ret
      exact ⟨_,by first|rfl|(simp [errW_none,errW_some] <;> rfl)|(simp only [← hji4];first|rfl|(simp [errW_none,errW_some] <;> rfl))|(simp [*,errW_none,errW_some] <;> rfl),by (with_reducible repeat (first|apply Kd.R_alloc|apply Kd.R_drewN|apply Kd.R_drew));exact HO_5.out,by exact bw⟩
  ·rw [if_neg c6] at H;exact absurd H (by simp)
 ·rw [if_neg c5] at H;exact absurd H (by simp)


/-! ### spec_gmAll: function 45 -/
def spec_gmAll.f (k:Nat) (a0_0:Int) (l0_1:List (List Int)):Option (List Bool):=(spec_gmWins.f k a0_0 l0_1).bind fun t116=>(some t116)
theorem spec_gmAll.mono:∀ a0 a1 k,LeO (spec_gmAll.f k a0 a1) (spec_gmAll.f (k + 1) a0 a1):=by
 intro a0 a1 k;unfold spec_gmAll.f
 repeat' with_reducible first|exact spec_gmWins.mono _ _ _|exact LeO.refl _|exact LeO.none _|refine LeO.ite ?_ ?_|refine LeO.bind ?_ (fun _=>?_)
set_option maxHeartbeats 8000000 in
set_option maxRecDepth 100000 in
theorem spec_gmAll.calls (k:Nat) (a0_0:Int) (A0_1:Option Addr) (c0_1:Nat) (l0_1:List (List Int)) (r:List Bool) (w:World) (hr0_1:Kd.C (Kd.slice 3 (Kd.int .i64)) w A0_1 l0_1.length l0_1) (hc0_1:l0_1.length ≤ c0_1) (h:spec_gmAll.f k a0_0 l0_1 = some r) :
  Calls Try.prog 45 #[.agg #[.int .i64 a0_0,.slice A0_1 l0_1.length c0_1]] w fun e w'=>∃ v0_:Value,e = .returned (v0_) ∧ Kd.R Kd.bool 4 w' w.heap.size (fun _=>True) v0_ r ∧ Below w.heap.size w w':=by
 have hu28:=Try.underlying28;have HR0_1:=aM hr0_1;have HC0_1:=aM hc0_1;clear hr0_1 hc0_1;have HB:=aM (Below.refl w.heap.size w);have H:((spec_gmWins.f k a0_0 l0_1).bind fun t116=>(some t116)) = some r:=h;clear h;replace H:=Option.bind_eq_some_iff.mp H;obtain ⟨t116,A20,H⟩:=H;replace H:(some t116) = some r:=H;have A2:=aM A20;clear A20;obtain rfl:=Option.some.inj H;go_enter Try.func45,Try.ntmps45;go_wp2_with (first|((with_reducible refine gate_dst (N:=1) rfl ?_);refine box_event ?hg (N:=1) ?hd (cs:=#[.int .i64 a0_0,.slice A0_1 l0_1.length c0_1]) (t:=28) ?hr ?_;(case hd=>rfl);(case hg=>rfl);(case hr=>first|(go_simp;done)|(go_simp;rfl));intro gb115 hg w3 hbox hb;have n0_:=aM (below_step bw hb);have n1_:=aM (hbox);have n2_:=aM ((by rw [hg];exact (below_size bw):w.heap.size ≤ gb115));have n3_:=aM ((by rw [hg];exact (below_size bw):w.heap.size ≤ gb115));clear HB;have HB:=n0_;have BK115:=n1_;have GW115:=n2_;have GE115:=n3_;clear n0_ n1_ n2_ n3_;clear hb hbox hg;have hcz4_0:w3.cell? ⟨gb115,0,none⟩ = some (.int .i64 a0_0):=(blk_cell BK115.out 0).trans rfl;have hcz4_1:w3.cell? ⟨gb115,1,none⟩ = some (.slice A0_1 l0_1.length c0_1):=(blk_cell BK115.out 1).trans rfl;have hfz4_0:=blk_frozen BK115.out 0;have hfz4_1:=blk_frozen BK115.out 1)|((with_reducible refine gate_callee (f:=89) rfl ?_);refine goesL_ (some 7) rfl rfl Try.func89 kR rfl #[.int .i64 a0_0,.slice A0_1 l0_1.length c0_1] rfl mq ?_;(with_reducible refine (spec_gmWins.calls k a0_0 _ _ l0_1 t116 _ ?side1 ?side2 A2.out).mono ?_);(case side1=>exact qcs HR0_1.out HB.out);(case side2=>exact HC0_1.out);rintro e w5 ⟨v117,rfl,ho0,hb⟩;refine ⟨_,rfl,?_⟩;have n0_:=aM (Kd.R_lower ho0 (below_size bw));have n1_:=aM (blk_below (g:=gb115) (o:=.cells #[.int .i64 a0_0,.slice A0_1 l0_1.length c0_1] 28 (0,0)) bk hb);have n2_:=aM (below_step bw hb);clear BK115;clear HB;have HO118:=n0_;have BK115:=n1_;have HB:=n2_;clear n0_ n1_ n2_;(try clear hb);(try clear hb2);(try clear hk);(try clear hi);(try clear ho0)))
 go_ret
 exact ⟨_,by first|rfl|(simp [errW_none,errW_some] <;> rfl)|(simp [*,errW_none,errW_some] <;> rfl),by (with_reducible repeat (first|apply Kd.R_alloc|apply Kd.R_drewN|apply Kd.R_drew));exact HO118.out,by exact bw⟩


/-! ### impl_votes_isWorth: function 98 -/
def impl_votes_isWorth.l0:Nat → Int → Int → Int → Int → Int → List Bool → Option (Bool)
 | 0,_,_,_,_,_,_=>none
 | k + 1,x1,x2,x10,x11,x311000,x311001=>if x11 < x10 then ((impl_has.f x11 x1).bind fun t311=>(if t311 = true then (impl_votes_isWorth.l0 k x1 x2 x10 (wrap64 (x11 + 1)) x311000 x311001) else ((impl_has.f x11 x2).bind fun t312=>(if t312 = true then (impl_votes_isWorth.l0 k x1 x2 x10 (wrap64 (x11 + 1)) x311000 x311001) else (if 0 ≤ x2 then (if 0 ≤ (Go.bits .or .i64 x11 (shl .i64 1 x2)) then (if (Go.bits .or .i64 x11 (shl .i64 1 x2)) < (x311001.length:Int) then (if rdOf false x311001 (Go.bits .or .i64 x11 (shl .i64 1 x2)) = true then (if 0 ≤ x1 then (if 0 ≤ (Go.bits .or .i64 x11 (shl .i64 1 x1)) then (if (Go.bits .or .i64 x11 (shl .i64 1 x1)) < (x311001.length:Int) then (if (rdOf false x311001 (Go.bits .or .i64 x11 (shl .i64 1 x1)) = true) then (impl_votes_isWorth.l0 k x1 x2 x10 (wrap64 (x11 + 1)) x311000 x311001) else (some false)) else (none)) else (none)) else (none)) else (impl_votes_isWorth.l0 k x1 x2 x10 (wrap64 (x11 + 1)) x311000 x311001)) else (none)) else (none)) else (none)))))) else (some true)
def impl_votes_isWorth.f (k:Nat) (a0_0:Int) (l0_1:List Bool) (a1:Int) (a2:Int):Option (Bool):=impl_votes_isWorth.l0 k a1 a2 (l0_1.length:Int) 0 a0_0 l0_1
theorem impl_votes_isWorth.mono_l:∀ k,(∀ y0 y1 y2 y3 y4 y5,LeO (impl_votes_isWorth.l0 k y0 y1 y2 y3 y4 y5) (impl_votes_isWorth.l0 (k + 1) y0 y1 y2 y3 y4 y5))
 | 0=>fun _ _ _ _ _ _ r h=>by simp [impl_votes_isWorth.l0] at h
 | k + 1=>by
  have ih0:=impl_votes_isWorth.mono_l k
  ·intro y0 y1 y2 y3 y4 y5;unfold impl_votes_isWorth.l0
   repeat' with_reducible first|exact ih0 _ _ _ _ _ _|exact LeO.refl _|exact LeO.none _|refine LeO.ite ?_ ?_|refine LeO.bind ?_ (fun _=>?_)
theorem impl_votes_isWorth.mono:∀ a0 a1 a2 a3 k,LeO (impl_votes_isWorth.f k a0 a1 a2 a3) (impl_votes_isWorth.f (k + 1) a0 a1 a2 a3):=by
 intro a0 a1 a2 a3 k;have ih0:=impl_votes_isWorth.mono_l k;unfold impl_votes_isWorth.f
 repeat' with_reducible first|exact ih0 _ _ _ _ _ _|exact LeO.refl _|exact LeO.none _|refine LeO.ite ?_ ?_|refine LeO.bind ?_ (fun _=>?_)
def impl_votes_isWorth.T4:Bool × List (List Nat × List Nat):=(true,[([],[]),([],[]),([0,1],[0,1]),([2],[2]),([3,2],[3]),([4],[4]),([4],[4]),([5,6,4,4],[4,5,6]),([7,4],[4,7]),([4,8],[4,8]),([9,7],[9]),([10],[10]),([11,10],[10,11]),([10],[10]),([10],[10]),([14,10],[10,14]),([13,15,10],[10,13,15]),([12,16,10],[10,12,16]),([17,10],[10,17]),([10,18],[10,18]),([19,10],[19]),([20],[20]),([21,20],[20,21]),([20],[20]),([20],[20]),([24,20],[20,24]),([23,25,20],[20,23,25]),([22,26,20],[20,22,26]),([27,20],[20,27]),([28,20],[20,28]),([20,29],[20,29])])
def impl_votes_isWorth.B4:List Nat:=[0,0,3,7,15,31,31,127,255,511,1023,2047,4095,2047,2047,18431,59391,131071,262143,524287,1048575,2097151,4194303,2097151,2097151,18874367,60817407,134217727,268435455,536870911,1073741823]
theorem impl_votes_isWorth.tab4:rtab .any (opsOf Try.f98 4) = impl_votes_isWorth.T4:=by kernel_rfl
theorem impl_votes_isWorth.bits4:waitsOk impl_votes_isWorth.T4.2 impl_votes_isWorth.B4 = true:=by kernel_rfl
set_option maxHeartbeats 8000000 in
set_option maxRecDepth 100000 in
theorem impl_votes_isWorth.calls (k:Nat) (a0_0:Int) (A0_1:Option Addr) (c0_1:Nat) (l0_1:List Bool) (a1:Int) (a2:Int) (r:Bool) (w:World) (hr0_1:Kd.C Kd.bool w A0_1 l0_1.length l0_1) (hc0_1:l0_1.length ≤ c0_1) (h:impl_votes_isWorth.f k a0_0 l0_1 a1 a2 = some r) :
  Calls Try.prog 98 #[.agg #[.int .i64 a0_0,.slice A0_1 l0_1.length c0_1],.int .i64 a1,.int .i64 a2] w fun e w'=>e = .returned (.bool r) ∧ Below w.heap.size w w':=by
 have hu68:=Try.underlying68;have HR0_1:=aM hr0_1;have HC0_1:=aM hc0_1;clear hr0_1 hc0_1;have HB:=aM (Below.refl w.heap.size w);have H:(impl_votes_isWorth.l0 k a1 a2 (l0_1.length:Int) 0 a0_0 l0_1) = some r:=h;clear h;have H':=aM H;clear H;go_enter Try.func98,Try.ntmps98;go_wp2_with (first|((with_reducible refine gate_dst (N:=3) rfl ?_);refine box_event ?hg (N:=3) ?hd (cs:=#[.int .i64 a0_0,.slice A0_1 l0_1.length c0_1]) (t:=68) ?hr ?_;(case hd=>rfl);(case hg=>rfl);(case hr=>first|(go_simp;done)|(go_simp;rfl));intro gb310 hg w4 hbox hb;have n0_:=aM (below_step bw hb);have n1_:=aM (hbox);have n2_:=aM ((by rw [hg];exact (below_size bw):w.heap.size ≤ gb310));have n3_:=aM ((by rw [hg];exact (below_size bw):w.heap.size ≤ gb310));clear HB;have HB:=n0_;have BK310:=n1_;have GW310:=n2_;have GE310:=n3_;clear n0_ n1_ n2_ n3_;clear hb hbox hg;have hcz5_0:w4.cell? ⟨gb310,0,none⟩ = some (.int .i64 a0_0):=(blk_cell BK310.out 0).trans rfl;have hcz5_1:w4.cell? ⟨gb310,1,none⟩ = some (.slice A0_1 l0_1.length c0_1):=(blk_cell BK310.out 1).trans rfl;have hfz5_0:=blk_frozen BK310.out 0;have hfz5_1:=blk_frozen BK310.out 1))
 go_loopg [11] k (fun kq v11 w'=>∃ (x11_1:Int),v11 = .int .i64 x11_1 ∧ Aside0 (impl_votes_isWorth.l0 kq a1 a2 (l0_1.length:Int) x11_1 a0_0 l0_1 = some r) ∧ Aside0 (kq ≤ k) ∧ Aside0 (w'.heap[gb310]? = some (.cells #[.int .i64 a0_0,(.slice A0_1 l0_1.length c0_1)] 68 (0,0))) ∧ Aside0 (Below w.heap.size w w'))
 case atStart=>exact ⟨(0),qrs,H',⟨Nat.le_refl _⟩,⟨by (with_reducible repeat (first|refine blk_drewN ?_ _|refine blk_drew ?_|refine blk_alloc ?_ _));exact BK310.out⟩,⟨by exact bw⟩⟩
 case round =>
  clear H';(try clear p2);(try clear hcz5_0);(try clear hcz5_1);(try clear hfz5_0);(try clear hfz5_1)
  obtain ⟨x11_1,rfl,HA,HK1,BK310,HB⟩:=hrel
  cases gk with
  | zero=>exact absurd HA.out (by simp [impl_votes_isWorth.l0])
  | succ k1 =>
   have H:=HA.out;clear HA;simp only [impl_votes_isWorth.l0] at H;by_cases c6:x11_1 < (l0_1.length:Int)
   ·rw [if_pos c6] at H;have c6b0:decide (x11_1 < (l0_1.length:Int)) = true:=decide_eq_true c6;clear c6;replace H:=Option.bind_eq_some_iff.mp H;obtain ⟨t311,A70,H⟩:=H;replace H:(if t311 = true then (impl_votes_isWorth.l0 k1 a1 a2 (l0_1.length:Int) (wrap64 (x11_1 + 1)) a0_0 l0_1) else ((impl_has.f x11_1 a2).bind fun t312=>(if t312 = true then (impl_votes_isWorth.l0 k1 a1 a2 (l0_1.length:Int) (wrap64 (x11_1 + 1)) a0_0 l0_1) else (if 0 ≤ a2 then (if 0 ≤ (Go.bits .or .i64 x11_1 (shl .i64 1 a2)) then (if (Go.bits .or .i64 x11_1 (shl .i64 1 a2)) < (l0_1.length:Int) then (if rdOf false l0_1 (Go.bits .or .i64 x11_1 (shl .i64 1 a2)) = true then (if 0 ≤ a1 then (if 0 ≤ (Go.bits .or .i64 x11_1 (shl .i64 1 a1)) then (if (Go.bits .or .i64 x11_1 (shl .i64 1 a1)) < (l0_1.length:Int) then (if (rdOf false l0_1 (Go.bits .or .i64 x11_1 (shl .i64 1 a1)) = true) then (impl_votes_isWorth.l0 k1 a1 a2 (l0_1.length:Int) (wrap64 (x11_1 + 1)) a0_0 l0_1) else (some false)) else (none)) else (none)) else (none)) else (impl_votes_isWorth.l0 k1 a1 a2 (l0_1.length:Int) (wrap64 (x11_1 + 1)) a0_0 l0_1)) else (none)) else (none)) else (none))))) = some r:=H;have A7:=aM A70;clear A70;by_cases c8:t311 = true
    ·subst c8;have H1:(impl_votes_isWorth.l0 k1 a1 a2 (l0_1.length:Int) (wrap64 (x11_1 + 1)) a0_0 l0_1) = some r:=by rw [if_pos rfl] at H;exact H
     clear H;have H:=H1;clear H1;have H':=aM H;clear H
     try go_wp2
     have n0_:=aM (blk_drew BK310.out);have n1_:=aM (below_drew1 HB.out);clear BK310;clear HB;have BK310:=n0_;have HB:=n1_;clear n0_ n1_;refine start_ (n:=31) (S:=fun w'=>True) (ds:=[]) (mA 31 0) kR rfl rfl trivial (fun hHeld=>?_);refine with_tabW impl_votes_isWorth.tab4 impl_votes_isWorth.bits4 (fun HT_ HW_=>?_)
     generalize wr.drew = w9 at BK310 HB hHeld ⊢
     refine pure_ (i:=0) (N:=some 14) (v:=?_) (a':=?_) (mA 31 1) rfl rfl (any_of HT_.out kR) (fun _ _ _ h=>h) (Or.inl ⟨by rfl,?_⟩) ?_ ?_;rotate_left
     ·intro w';go_simp
      with_reducible rfl
     rotate_left
     ·simp only [Act.put,sA,sZ,sS,i64_w,i32_w];rfl
     refine pure_ (i:=1) (N:=some 15) (v:=?_) (a':=?_) (mA 31 3) rfl rfl (any_of HT_.out kR) (fun _ _ _ h=>h) (Or.inl ⟨by rfl,?_⟩) ?_ ?_;rotate_left
     ·intro w';go_simp
      with_reducible rfl
     rotate_left
     ·simp only [Act.put,sA,sZ,sS,i64_w,i32_w];rfl
     refine one_ (i:=2) (N:=some 16) (mA 31 7) rfl rfl (one_of HT_.out kR) (by decide) (fun K hK=>?_);refine goes_ Try.func134 kR rfl #[.int .i64 x11_1,.int .i64 a1] (by rfl) rfl rfl mq ?_
     with_reducible refine (impl_has.calls x11_1 a1 true _ A7.out).mono ?_
     rintro e w' ⟨rfl,⟨nd,rfl⟩⟩
     refine ⟨_,rfl,?_⟩;refine hK.out _ _ trivial (fun hHeld=>?_);clear hK K;refine norm_ (a':=?_) ?_ ?_;rotate_left
     ·show Act.put _ (some 16) _ = _;simp only [Act.put,sA,sZ,sS,i64_w,i32_w];rfl
     refine pure_ (i:=3) (N:=some 17) (v:=?_) (a':=?_) (mA 31 15) rfl rfl (any_of HT_.out kR) (fun _ _ _ h=>h) (Or.inl ⟨by rfl,?_⟩) ?_ ?_;rotate_left
     ·intro w';go_simp
      with_reducible rfl
     rotate_left
     ·simp only [Act.put,sA,sZ,sS,i64_w,i32_w];rfl
     refine pure_ (i:=4) (N:=some 18) (v:=?_) (a':=?_) (mA 31 31) rfl rfl (any_of HT_.out kR) (fun _ _ _ h=>h) (Or.inl ⟨by rfl,?_⟩) ?_ ?_;rotate_left
     ·intro w';go_simp
      with_reducible rfl
     rotate_left
     ·simp only [Act.put,sA,sZ,sS,i64_w,i32_w];rfl
     refine pure_ (i:=5) (N:=some 19) (v:=undef) (a':=?_) (mA 31 63) rfl rfl (any_of HT_.out kR) (fun _ _ _ h=>h) (Or.inr ⟨by rfl,rfl⟩) ?_ ?_;rotate_left
     ·simp only [Act.put,sA,sZ,sS,i64_w,i32_w];rfl
     refine pure_ (i:=6) (N:=some 20) (v:=undef) (a':=?_) (mA 31 127) rfl rfl (any_of HT_.out kR) (fun _ _ _ h=>h) (Or.inr ⟨by rfl,rfl⟩) ?_ ?_;rotate_left
     ·simp only [Act.put,sA,sZ,sS,i64_w,i32_w];rfl
     refine pure_ (i:=7) (N:=some 21) (v:=undef) (a':=?_) (mA 31 255) rfl rfl (any_of HT_.out kR) (fun _ _ _ h=>h) (Or.inr ⟨by rfl,rfl⟩) ?_ ?_;rotate_left
     ·simp only [Act.put,sA,sZ,sS,i64_w,i32_w];rfl
     refine pure_ (i:=8) (N:=some 22) (v:=undef) (a':=?_) (mA 31 511) rfl rfl (any_of HT_.out kR) (fun _ _ _ h=>h) (Or.inr ⟨by rfl,rfl⟩) ?_ ?_;rotate_left
     ·simp only [Act.put,sA,sZ,sS,i64_w,i32_w];rfl
     refine pure_ (i:=9) (N:=some 23) (v:=?_) (a':=?_) (mA 31 1023) rfl rfl (any_of HT_.out kR) (fun _ _ _ h=>h) (Or.inl ⟨by rfl,?_⟩) ?_ ?_;rotate_left
     ·intro w';go_simp
      with_reducible rfl
     rotate_left
     ·simp only [Act.put,sA,sZ,sS,i64_w,i32_w];rfl
     refine pure_ (i:=10) (N:=some 24) (v:=?_) (a':=?_) (mA 31 2047) rfl rfl (any_of HT_.out kR) (fun _ _ _ h=>h) (Or.inl ⟨by rfl,?_⟩) ?_ ?_;rotate_left
     ·intro w';go_simp
      with_reducible rfl
     rotate_left
     ·simp only [Act.put,sA,sZ,sS,i64_w,i32_w];rfl
     refine pure_ (i:=11) (N:=some 25) (v:=undef) (a':=?_) (mA 31 4095) rfl rfl (any_of HT_.out kR) (fun _ _ _ h=>h) (Or.inr ⟨by rfl,rfl⟩) ?_ ?_;rotate_left
     ·simp only [Act.put,sA,sZ,sS,i64_w,i32_w];rfl
     refine pure_ (i:=12) (N:=some 26) (v:=undef) (a':=?_) (mA 31 8191) rfl rfl (any_of HT_.out kR) (fun _ _ _ h=>h) (Or.inr ⟨by rfl,rfl⟩) ?_ ?_;rotate_left
     ·simp only [Act.put,sA,sZ,sS,i64_w,i32_w];rfl
     refine pure_ (i:=13) (N:=some 27) (v:=undef) (a':=?_) (mA 31 16383) rfl rfl (any_of HT_.out kR) (fun _ _ _ h=>h) (Or.inr ⟨by rfl,rfl⟩) ?_ ?_;rotate_left
     ·simp only [Act.put,sA,sZ,sS,i64_w,i32_w];rfl
     refine pure_ (i:=14) (N:=some 28) (v:=undef) (a':=?_) (mA 31 32767) rfl rfl (any_of HT_.out kR) (fun _ _ _ h=>h) (Or.inr ⟨by rfl,rfl⟩) ?_ ?_;rotate_left
     ·simp only [Act.put,sA,sZ,sS,i64_w,i32_w];rfl
     refine pure_ (i:=15) (N:=some 29) (v:=undef) (a':=?_) (mA 31 65535) rfl rfl (any_of HT_.out kR) (fun _ _ _ h=>h) (Or.inr ⟨by rfl,rfl⟩) ?_ ?_;rotate_left
     ·simp only [Act.put,sA,sZ,sS,i64_w,i32_w];rfl
     refine pure_ (i:=16) (N:=some 30) (v:=undef) (a':=?_) (mA 31 131071) rfl rfl (any_of HT_.out kR) (fun _ _ _ h=>h) (Or.inr ⟨by rfl,rfl⟩) ?_ ?_;rotate_left
     ·simp only [Act.put,sA,sZ,sS,i64_w,i32_w];rfl
     refine pure_ (i:=17) (N:=some 31) (v:=undef) (a':=?_) (mA 31 262143) rfl rfl (any_of HT_.out kR) (fun _ _ _ h=>h) (Or.inr ⟨by rfl,rfl⟩) ?_ ?_;rotate_left
     ·simp only [Act.put,sA,sZ,sS,i64_w,i32_w];rfl
     refine pure_ (i:=18) (N:=some 32) (v:=undef) (a':=?_) (mA 31 524287) rfl rfl (any_of HT_.out kR) (fun _ _ _ h=>h) (Or.inr ⟨by rfl,rfl⟩) ?_ ?_;rotate_left
     ·simp only [Act.put,sA,sZ,sS,i64_w,i32_w];rfl
     refine pure_ (i:=19) (N:=some 33) (v:=?_) (a':=?_) (mA 31 1048575) rfl rfl (any_of HT_.out kR) (fun _ _ _ h=>h) (Or.inl ⟨by rfl,?_⟩) ?_ ?_;rotate_left
     ·intro w';go_simp
      with_reducible rfl
     rotate_left
     ·simp only [Act.put,sA,sZ,sS,i64_w,i32_w];rfl
     refine pure_ (i:=20) (N:=some 34) (v:=?_) (a':=?_) (mA 31 2097151) rfl rfl (any_of HT_.out kR) (fun _ _ _ h=>h) (Or.inl ⟨by rfl,?_⟩) ?_ ?_;rotate_left
     ·intro w';go_simp
      with_reducible rfl
     rotate_left
     ·simp only [Act.put,sA,sZ,sS,i64_w,i32_w];rfl
     refine pure_ (i:=21) (N:=some 35) (v:=undef) (a':=?_) (mA 31 4194303) rfl rfl (any_of HT_.out kR) (fun _ _ _ h=>h) (Or.inr ⟨by rfl,rfl⟩) ?_ ?_;rotate_left
     ·simp only [Act.put,sA,sZ,sS,i64_w,i32_w];rfl
     refine pure_ (i:=22) (N:=some 36) (v:=undef) (a':=?_) (mA 31 8388607) rfl rfl (any_of HT_.out kR) (fun _ _ _ h=>h) (Or.inr ⟨by rfl,rfl⟩) ?_ ?_;rotate_left
     ·simp only [Act.put,sA,sZ,sS,i64_w,i32_w];rfl
     refine pure_ (i:=23) (N:=some 37) (v:=undef) (a':=?_) (mA 31 16777215) rfl rfl (any_of HT_.out kR) (fun _ _ _ h=>h) (Or.inr ⟨by rfl,rfl⟩) ?_ ?_;rotate_left
     ·simp only [Act.put,sA,sZ,sS,i64_w,i32_w];rfl
     refine pure_ (i:=24) (N:=some 38) (v:=undef) (a':=?_) (mA 31 33554431) rfl rfl (any_of HT_.out kR) (fun _ _ _ h=>h) (Or.inr ⟨by rfl,rfl⟩) ?_ ?_;rotate_left
     ·simp only [Act.put,sA,sZ,sS,i64_w,i32_w];rfl
     refine pure_ (i:=25) (N:=some 39) (v:=undef) (a':=?_) (mA 31 67108863) rfl rfl (any_of HT_.out kR) (fun _ _ _ h=>h) (Or.inr ⟨by rfl,rfl⟩) ?_ ?_;rotate_left
     ·simp only [Act.put,sA,sZ,sS,i64_w,i32_w];rfl
     refine pure_ (i:=26) (N:=some 40) (v:=undef) (a':=?_) (mA 31 134217727) rfl rfl (any_of HT_.out kR) (fun _ _ _ h=>h) (Or.inr ⟨by rfl,rfl⟩) ?_ ?_;rotate_left
     ·simp only [Act.put,sA,sZ,sS,i64_w,i32_w];rfl
     refine pure_ (i:=27) (N:=some 41) (v:=undef) (a':=?_) (mA 31 268435455) rfl rfl (any_of HT_.out kR) (fun _ _ _ h=>h) (Or.inr ⟨by rfl,rfl⟩) ?_ ?_;rotate_left
     ·simp only [Act.put,sA,sZ,sS,i64_w,i32_w];rfl
     refine pure_ (i:=28) (N:=some 42) (v:=undef) (a':=?_) (mA 31 536870911) rfl rfl (any_of HT_.out kR) (fun _ _ _ h=>h) (Or.inr ⟨by rfl,rfl⟩) ?_ ?_;rotate_left
     ·simp only [Act.put,sA,sZ,sS,i64_w,i32_w];rfl
     refine pure_ (i:=29) (N:=some 43) (v:=undef) (a':=?_) (mA 31 1073741823) rfl rfl (any_of HT_.out kR) (fun _ _ _ h=>h) (Or.inr ⟨by rfl,rfl⟩) ?_ ?_;rotate_left
     ·simp only [Act.put,sA,sZ,sS,i64_w,i32_w];rfl
     refine pure_ (i:=30) (N:=some 44) (v:=?_) (a':=?_) (mA 31 2147483647) rfl rfl (any_of HT_.out kR) (fun _ _ _ h=>h) (Or.inl ⟨by rfl,?_⟩) ?_ ?_;rotate_left
     ·intro w';go_simp
      with_reducible rfl
     rotate_left
     ·simp only [Act.put,sA,sZ,sS,i64_w,i32_w];rfl
     refine done_ (done_of HT_.out kR) ?_
     try go_wp2
     go_roundg k1
     case measure=>have:=HK1.out;omega
     case rel=>exact ⟨(wrap64 (x11_1 + 1)),qrs,H',⟨by have:=HK1.out;omega⟩,⟨by (with_reducible repeat (first|refine blk_drewN ?_ _|refine blk_drew ?_|refine blk_alloc ?_ _));exact BK310.out⟩,⟨by exact bw⟩⟩
    ·replace c8:=Bool.eq_false_iff.mpr c8;subst c8;have H1:((impl_has.f x11_1 a2).bind fun t312=>(if t312 = true then (impl_votes_isWorth.l0 k1 a1 a2 (l0_1.length:Int) (wrap64 (x11_1 + 1)) a0_0 l0_1) else (if 0 ≤ a2 then (if 0 ≤ (Go.bits .or .i64 x11_1 (shl .i64 1 a2)) then (if (Go.bits .or .i64 x11_1 (shl .i64 1 a2)) < (l0_1.length:Int) then (if rdOf false l0_1 (Go.bits .or .i64 x11_1 (shl .i64 1 a2)) = true then (if 0 ≤ a1 then (if 0 ≤ (Go.bits .or .i64 x11_1 (shl .i64 1 a1)) then (if (Go.bits .or .i64 x11_1 (shl .i64 1 a1)) < (l0_1.length:Int) then (if (rdOf false l0_1 (Go.bits .or .i64 x11_1 (shl .i64 1 a1)) = true) then (impl_votes_isWorth.l0 k1 a1 a2 (l0_1.length:Int) (wrap64 (x11_1 + 1)) a0_0 l0_1) else (some false)) else (none)) else (none)) else (none)) else (impl_votes_isWorth.l0 k1 a1 a2 (l0_1.length:Int) (wrap64 (x11_1 + 1)) a0_0 l0_1)) else (none)) else (none)) else (none)))) = some r:=by rw [if_neg (show ¬ (false = true) by decide)] at H;exact H
     clear H;have H:=H1;clear H1;replace H:=Option.bind_eq_some_iff.mp H;obtain ⟨t312,A100,H⟩:=H;replace H:(if t312 = true then (impl_votes_isWorth.l0 k1 a1 a2 (l0_1.length:Int) (wrap64 (x11_1 + 1)) a0_0 l0_1) else (if 0 ≤ a2 then (if 0 ≤ (Go.bits .or .i64 x11_1 (shl .i64 1 a2)) then (if (Go.bits .or .i64 x11_1 (shl .i64 1 a2)) < (l0_1.length:Int) then (if rdOf false l0_1 (Go.bits .or .i64 x11_1 (shl .i64 1 a2)) = true then (if 0 ≤ a1 then (if 0 ≤ (Go.bits .or .i64 x11_1 (shl .i64 1 a1)) then (if (Go.bits .or .i64 x11_1 (shl .i64 1 a1)) < (l0_1.length:Int) then (if (rdOf false l0_1 (Go.bits .or .i64 x11_1 (shl .i64 1 a1)) = true) then (impl_votes_isWorth.l0 k1 a1 a2 (l0_1.length:Int) (wrap64 (x11_1 + 1)) a0_0 l0_1) else (some false)) else (none)) else (none)) else (none)) else (impl_votes_isWorth.l0 k1 a1 a2 (l0_1.length:Int) (wrap64 (x11_1 + 1)) a0_0 l0_1)) else (none)) else (none)) else (none))) = some r:=H;have A10:=aM A100;clear A100;by_cases c11:t312 = true
     ·subst c11;have H1:(impl_votes_isWorth.l0 k1 a1 a2 (l0_1.length:Int) (wrap64 (x11_1 + 1)) a0_0 l0_1) = some r:=by rw [if_pos rfl] at H;exact H
      clear H;have H:=H1;clear H1;have H':=aM H;clear H
      try go_wp2
      have n0_:=aM (blk_drew BK310.out);have n1_:=aM (below_drew1 HB.out);clear BK310;clear HB;have BK310:=n0_;have HB:=n1_;clear n0_ n1_;refine start_ (n:=31) (S:=fun w'=>True) (ds:=[]) (mA 31 0) kR rfl rfl trivial (fun hHeld=>?_);refine with_tabW impl_votes_isWorth.tab4 impl_votes_isWorth.bits4 (fun HT_ HW_=>?_)
      generalize wr.drew = w12 at BK310 HB hHeld ⊢
      refine pure_ (i:=0) (N:=some 14) (v:=?_) (a':=?_) (mA 31 1) rfl rfl (any_of HT_.out kR) (fun _ _ _ h=>h) (Or.inl ⟨by rfl,?_⟩) ?_ ?_;rotate_left
      ·intro w';go_simp
       with_reducible rfl
      rotate_left
      ·simp only [Act.put,sA,sZ,sS,i64_w,i32_w];rfl
      refine pure_ (i:=1) (N:=some 15) (v:=?_) (a':=?_) (mA 31 3) rfl rfl (any_of HT_.out kR) (fun _ _ _ h=>h) (Or.inl ⟨by rfl,?_⟩) ?_ ?_;rotate_left
      ·intro w';go_simp
       with_reducible rfl
      rotate_left
      ·simp only [Act.put,sA,sZ,sS,i64_w,i32_w];rfl
      refine one_ (i:=2) (N:=some 16) (mA 31 7) rfl rfl (one_of HT_.out kR) (by decide) (fun K hK=>?_);refine goes_ Try.func134 kR rfl #[.int .i64 x11_1,.int .i64 a1] (by rfl) rfl rfl mq ?_
      with_reducible refine (impl_has.calls x11_1 a1 false _ A7.out).mono ?_
      rintro e w' ⟨rfl,⟨nd,rfl⟩⟩
      refine ⟨_,rfl,?_⟩;refine hK.out _ _ trivial (fun hHeld=>?_);clear hK K;refine norm_ (a':=?_) ?_ ?_;rotate_left
      ·show Act.put _ (some 16) _ = _;simp only [Act.put,sA,sZ,sS,i64_w,i32_w];rfl
      refine pure_ (i:=3) (N:=some 17) (v:=?_) (a':=?_) (mA 31 15) rfl rfl (any_of HT_.out kR) (fun _ _ _ h=>h) (Or.inl ⟨by rfl,?_⟩) ?_ ?_;rotate_left
      ·intro w';go_simp
       with_reducible rfl
      rotate_left
      ·simp only [Act.put,sA,sZ,sS,i64_w,i32_w];rfl
      refine pure_ (i:=4) (N:=some 18) (v:=?_) (a':=?_) (mA 31 31) rfl rfl (any_of HT_.out kR) (fun _ _ _ h=>h) (Or.inl ⟨by rfl,?_⟩) ?_ ?_;rotate_left
      ·intro w';go_simp
       with_reducible rfl
      rotate_left
      ·simp only [Act.put,sA,sZ,sS,i64_w,i32_w];rfl
      refine pure_ (i:=5) (N:=some 19) (v:=?_) (a':=?_) (mA 31 63) rfl rfl (any_of HT_.out kR) (fun _ _ _ h=>h) (Or.inl ⟨by rfl,?_⟩) ?_ ?_;rotate_left
      ·intro w';go_simp
       with_reducible rfl
      rotate_left
      ·simp only [Act.put,sA,sZ,sS,i64_w,i32_w];rfl
      refine pure_ (i:=6) (N:=some 20) (v:=?_) (a':=?_) (mA 31 127) rfl rfl (any_of HT_.out kR) (fun _ _ _ h=>h) (Or.inl ⟨by rfl,?_⟩) ?_ ?_;rotate_left
      ·intro w';go_simp
       with_reducible rfl
      rotate_left
      ·simp only [Act.put,sA,sZ,sS,i64_w,i32_w];rfl
      refine one_ (i:=7) (N:=some 21) (mA 31 255) rfl rfl (one_of HT_.out kR) (by decide) (fun K hK=>?_);refine goes_ Try.func134 kR rfl #[.int .i64 x11_1,.int .i64 a2] (by rfl) rfl rfl mq ?_
      with_reducible refine (impl_has.calls x11_1 a2 true _ A10.out).mono ?_
      rintro e w' ⟨rfl,⟨nd,rfl⟩⟩
      refine ⟨_,rfl,?_⟩;refine hK.out _ _ trivial (fun hHeld=>?_);clear hK K;refine norm_ (a':=?_) ?_ ?_;rotate_left
      ·show Act.put _ (some 21) _ = _;simp only [Act.put,sA,sZ,sS,i64_w,i32_w];rfl
      refine pure_ (i:=8) (N:=some 22) (v:=?_) (a':=?_) (mA 31 511) rfl rfl (any_of HT_.out kR) (fun _ _ _ h=>h) (Or.inl ⟨by rfl,?_⟩) ?_ ?_;rotate_left
      ·intro w';go_simp
       with_reducible rfl
      rotate_left
      ·simp only [Act.put,sA,sZ,sS,i64_w,i32_w];rfl
      refine pure_ (i:=9) (N:=some 23) (v:=?_) (a':=?_) (mA 31 1023) rfl rfl (any_of HT_.out kR) (fun _ _ _ h=>h) (Or.inl ⟨by rfl,?_⟩) ?_ ?_;rotate_left
      ·intro w';go_simp
       with_reducible rfl
      rotate_left
      ·simp only [Act.put,sA,sZ,sS,i64_w,i32_w];rfl
      refine pure_ (i:=10) (N:=some 24) (v:=?_) (a':=?_) (mA 31 2047) rfl rfl (any_of HT_.out kR) (fun _ _ _ h=>h) (Or.inl ⟨by rfl,?_⟩) ?_ ?_;rotate_left
      ·intro w';go_simp
       with_reducible rfl
      rotate_left
      ·simp only [Act.put,sA,sZ,sS,i64_w,i32_w];rfl
      refine pure_ (i:=11) (N:=some 25) (v:=undef) (a':=?_) (mA 31 4095) rfl rfl (any_of HT_.out kR) (fun _ _ _ h=>h) (Or.inr ⟨by rfl,rfl⟩) ?_ ?_;rotate_left
      ·simp only [Act.put,sA,sZ,sS,i64_w,i32_w];rfl
      refine pure_ (i:=12) (N:=some 26) (v:=undef) (a':=?_) (mA 31 8191) rfl rfl (any_of HT_.out kR) (fun _ _ _ h=>h) (Or.inr ⟨by rfl,rfl⟩) ?_ ?_;rotate_left
      ·simp only [Act.put,sA,sZ,sS,i64_w,i32_w];rfl
      refine pure_ (i:=13) (N:=some 27) (v:=undef) (a':=?_) (mA 31 16383) rfl rfl (any_of HT_.out kR) (fun _ _ _ h=>h) (Or.inr ⟨by rfl,rfl⟩) ?_ ?_;rotate_left
      ·simp only [Act.put,sA,sZ,sS,i64_w,i32_w];rfl
      refine pure_ (i:=14) (N:=some 28) (v:=undef) (a':=?_) (mA 31 32767) rfl rfl (any_of HT_.out kR) (fun _ _ _ h=>h) (Or.inr ⟨by rfl,rfl⟩) ?_ ?_;rotate_left
      ·simp only [Act.put,sA,sZ,sS,i64_w,i32_w];rfl
      refine pure_ (i:=15) (N:=some 29) (v:=undef) (a':=?_) (mA 31 65535) rfl rfl (any_of HT_.out kR) (fun _ _ _ h=>h) (Or.inr ⟨by rfl,rfl⟩) ?_ ?_;rotate_left
      ·simp only [Act.put,sA,sZ,sS,i64_w,i32_w];rfl
      refine pure_ (i:=16) (N:=some 30) (v:=undef) (a':=?_) (mA 31 131071) rfl rfl (any_of HT_.out kR) (fun _ _ _ h=>h) (Or.inr ⟨by rfl,rfl⟩) ?_ ?_;rotate_left
      ·simp only [Act.put,sA,sZ,sS,i64_w,i32_w];rfl
      refine pure_ (i:=17) (N:=some 31) (v:=undef) (a':=?_) (mA 31 262143) rfl rfl (any_of HT_.out kR) (fun _ _ _ h=>h) (Or.inr ⟨by rfl,rfl⟩) ?_ ?_;rotate_left
      ·simp only [Act.put,sA,sZ,sS,i64_w,i32_w];rfl
      refine pure_ (i:=18) (N:=some 32) (v:=undef) (a':=?_) (mA 31 524287) rfl rfl (any_of HT_.out kR) (fun _ _ _ h=>h) (Or.inr ⟨by rfl,rfl⟩) ?_ ?_;rotate_left
      ·simp only [Act.put,sA,sZ,sS,i64_w,i32_w];rfl
      refine pure_ (i:=19) (N:=some 33) (v:=?_) (a':=?_) (mA 31 1048575) rfl rfl (any_of HT_.out kR) (fun _ _ _ h=>h) (Or.inl ⟨by rfl,?_⟩) ?_ ?_;rotate_left
      ·intro w';go_simp
       with_reducible rfl
      rotate_left
      ·simp only [Act.put,sA,sZ,sS,i64_w,i32_w];rfl
      refine pure_ (i:=20) (N:=some 34) (v:=?_) (a':=?_) (mA 31 2097151) rfl rfl (any_of HT_.out kR) (fun _ _ _ h=>h) (Or.inl ⟨by rfl,?_⟩) ?_ ?_;rotate_left
      ·intro w';go_simp
       with_reducible rfl
      rotate_left
      ·simp only [Act.put,sA,sZ,sS,i64_w,i32_w];rfl
      refine pure_ (i:=21) (N:=some 35) (v:=undef) (a':=?_) (mA 31 4194303) rfl rfl (any_of HT_.out kR) (fun _ _ _ h=>h) (Or.inr ⟨by rfl,rfl⟩) ?_ ?_;rotate_left
      ·simp only [Act.put,sA,sZ,sS,i64_w,i32_w];rfl
      refine pure_ (i:=22) (N:=some 36) (v:=undef) (a':=?_) (mA 31 8388607) rfl rfl (any_of HT_.out kR) (fun _ _ _ h=>h) (Or.inr ⟨by rfl,rfl⟩) ?_ ?_;rotate_left
      ·simp only [Act.put,sA,sZ,sS,i64_w,i32_w];rfl
      refine pure_ (i:=23) (N:=some 37) (v:=undef) (a':=?_) (mA 31 16777215) rfl rfl (any_of HT_.out kR) (fun _ _ _ h=>h) (Or.inr ⟨by rfl,rfl⟩) ?_ ?_;rotate_left
      ·simp only [Act.put,sA,sZ,sS,i64_w,i32_w];rfl
      refine pure_ (i:=24) (N:=some 38) (v:=undef) (a':=?_) (mA 31 33554431) rfl rfl (any_of HT_.out kR) (fun _ _ _ h=>h) (Or.inr ⟨by rfl,rfl⟩) ?_ ?_;rotate_left
      ·simp only [Act.put,sA,sZ,sS,i64_w,i32_w];rfl
      refine pure_ (i:=25) (N:=some 39) (v:=undef) (a':=?_) (mA 31 67108863) rfl rfl (any_of HT_.out kR) (fun _ _ _ h=>h) (Or.inr ⟨by rfl,rfl⟩) ?_ ?_;rotate_left
      ·simp only [Act.put,sA,sZ,sS,i64_w,i32_w];rfl
      refine pure_ (i:=26) (N:=some 40) (v:=undef) (a':=?_) (mA 31 134217727) rfl rfl (any_of HT_.out kR) (fun _ _ _ h=>h) (Or.inr ⟨by rfl,rfl⟩) ?_ ?_;rotate_left
      ·simp only [Act.put,sA,sZ,sS,i64_w,i32_w];rfl
      refine pure_ (i:=27) (N:=some 41) (v:=undef) (a':=?_) (mA 31 268435455) rfl rfl (any_of HT_.out kR) (fun _ _ _ h=>h) (Or.inr ⟨by rfl,rfl⟩) ?_ ?_;rotate_left
      ·simp only [Act.put,sA,sZ,sS,i64_w,i32_w];rfl
      refine pure_ (i:=28) (N:=some 42) (v:=undef) (a':=?_) (mA 31 536870911) rfl rfl (any_of HT_.out kR) (fun _ _ _ h=>h) (Or.inr ⟨by rfl,rfl⟩) ?_ ?_;rotate_left
      ·simp only [Act.put,sA,sZ,sS,i64_w,i32_w];rfl
      refine pure_ (i:=29) (N:=some 43) (v:=undef) (a':=?_) (mA 31 1073741823) rfl rfl (any_of HT_.out kR) (fun _ _ _ h=>h) (Or.inr ⟨by rfl,rfl⟩) ?_ ?_;rotate_left
      ·simp only [Act.put,sA,sZ,sS,i64_w,i32_w];rfl
      refine pure_ (i:=30) (N:=some 44) (v:=?_) (a':=?_) (mA 31 2147483647) rfl rfl (any_of HT_.out kR) (fun _ _ _ h=>h) (Or.inl ⟨by rfl,?_⟩) ?_ ?_;rotate_left
      ·intro w';go_simp
       with_reducible rfl
      rotate_left
      ·simp only [Act.put,sA,sZ,sS,i64_w,i32_w];rfl
      refine done_ (done_of HT_.out kR) ?_
      try go_wp2
      go_roundg k1
      case measure=>have:=HK1.out;omega
      case rel=>exact ⟨(wrap64 (x11_1 + 1)),qrs,H',⟨by have:=HK1.out;omega⟩,⟨by (with_reducible repeat (first|refine blk_drewN ?_ _|refine blk_drew ?_|refine blk_alloc ?_ _));exact BK310.out⟩,⟨by exact bw⟩⟩
     ·replace c11:=Bool.eq_false_iff.mpr c11;subst c11;have H1:(if 0 ≤ a2 then (if 0 ≤ (Go.bits .or .i64 x11_1 (shl .i64 1 a2)) then (if (Go.bits .or .i64 x11_1 (shl .i64 1 a2)) < (l0_1.length:Int) then (if rdOf false l0_1 (Go.bits .or .i64 x11_1 (shl .i64 1 a2)) = true then (if 0 ≤ a1 then (if 0 ≤ (Go.bits .or .i64 x11_1 (shl .i64 1 a1)) then (if (Go.bits .or .i64 x11_1 (shl .i64 1 a1)) < (l0_1.length:Int) then (if (rdOf false l0_1 (Go.bits .or .i64 x11_1 (shl .i64 1 a1)) = true) then (impl_votes_isWorth.l0 k1 a1 a2 (l0_1.length:Int) (wrap64 (x11_1 + 1)) a0_0 l0_1) else (some false)) else (none)) else (none)) else (none)) else (impl_votes_isWorth.l0 k1 a1 a2 (l0_1.length:Int) (wrap64 (x11_1 + 1)) a0_0 l0_1)) else (none)) else (none)) else (none)) = some r:=by rw [if_neg (show ¬ (false = true) by decide)] at H;exact H
      clear H;have H:=H1;clear H1;by_cases c13:0 ≤ a2
      ·rw [if_pos c13] at H;have c13b0:=eq_true c13;have c13b1:decide (0 ≤ a2) = true:=decide_eq_true c13;clear c13;obtain ⟨ji14,hji14⟩:∃ j_:Int,(shl .i64 1 a2) = j_:=⟨_,rfl⟩;replace H:(if 0 ≤ (Go.bits .or .i64 x11_1 (ji14)) then (if (Go.bits .or .i64 x11_1 (ji14)) < (l0_1.length:Int) then (if rdOf false l0_1 (Go.bits .or .i64 x11_1 (ji14)) = true then (if 0 ≤ a1 then (if 0 ≤ (Go.bits .or .i64 x11_1 (shl .i64 1 a1)) then (if (Go.bits .or .i64 x11_1 (shl .i64 1 a1)) < (l0_1.length:Int) then (if (rdOf false l0_1 (Go.bits .or .i64 x11_1 (shl .i64 1 a1)) = true) then (impl_votes_isWorth.l0 k1 a1 a2 (l0_1.length:Int) (wrap64 (x11_1 + 1)) a0_0 l0_1) else (some false)) else (none)) else (none)) else (none)) else (impl_votes_isWorth.l0 k1 a1 a2 (l0_1.length:Int) (wrap64 (x11_1 + 1)) a0_0 l0_1)) else (none)) else (none)) = some r:=by first|(rw [hji14] at H;exact H)|(simp only [hji14] at H ⊢;exact H)
       (try rw [hji14] at A7)
       (try rw [hji14] at A10)
       have hji14_:(IntKind.i64.wrap (1 * 2 ^ min a2.toNat 64)) = ji14:=hji14;have hji14z:a2 ≤ 64 → (IntKind.i64.wrap (1 * 2 ^ a2.toNat)) = ji14:=shl_small hji14;have hji14u:(IntKind.i64.wrap (2 ^ min a2.toNat 64)) = ji14:=by have h_:=hji14_;rw [Int.one_mul] at h_;exact h_
       have hji14v:a2 ≤ 64 → (IntKind.i64.wrap (2 ^ a2.toNat)) = ji14:=fun hle_=>by have h_:=hji14z hle_;rw [Int.one_mul] at h_;exact h_
       have hji14y:(wrap64 (1 * 2 ^ min a2.toNat 64)) = ji14:=(i64_w _).symm.trans hji14_;have hji14x:a2 ≤ 64 → (wrap64 (1 * 2 ^ a2.toNat)) = ji14:=fun h_=>(i64_w _).symm.trans (hji14z h_)
       by_cases c15:0 ≤ (Go.bits .or .i64 x11_1 (ji14))
       ·rw [if_pos c15] at H;have c15b0:decide (0 ≤ (Go.bits .or .i64 x11_1 (ji14))) = true:=decide_eq_true c15;clear c15;by_cases c16:(Go.bits .or .i64 x11_1 (ji14)) < (l0_1.length:Int)
        ·rw [if_pos c16] at H;have c16b0:decide ((Go.bits .or .i64 x11_1 (ji14)) < (l0_1.length:Int)) = true:=decide_eq_true c16;clear c16;obtain ⟨bq17,hbq17⟩:∃ b_:Bool,b_ = (rdOf false l0_1 (Go.bits .or .i64 x11_1 (ji14))):=⟨_,rfl⟩;replace H:(if bq17 = true then (if 0 ≤ a1 then (if 0 ≤ (Go.bits .or .i64 x11_1 (shl .i64 1 a1)) then (if (Go.bits .or .i64 x11_1 (shl .i64 1 a1)) < (l0_1.length:Int) then (if (rdOf false l0_1 (Go.bits .or .i64 x11_1 (shl .i64 1 a1)) = true) then (impl_votes_isWorth.l0 k1 a1 a2 (l0_1.length:Int) (wrap64 (x11_1 + 1)) a0_0 l0_1) else (some false)) else (none)) else (none)) else (none)) else (impl_votes_isWorth.l0 k1 a1 a2 (l0_1.length:Int) (wrap64 (x11_1 + 1)) a0_0 l0_1)) = some r:=by rw [← hbq17] at H;exact H
         have Nbq17:=aM hbq17;clear hbq17;by_cases c18:bq17 = true
         ·subst c18;have H1:(if 0 ≤ a1 then (if 0 ≤ (Go.bits .or .i64 x11_1 (shl .i64 1 a1)) then (if (Go.bits .or .i64 x11_1 (shl .i64 1 a1)) < (l0_1.length:Int) then (if (rdOf false l0_1 (Go.bits .or .i64 x11_1 (shl .i64 1 a1)) = true) then (impl_votes_isWorth.l0 k1 a1 a2 (l0_1.length:Int) (wrap64 (x11_1 + 1)) a0_0 l0_1) else (some false)) else (none)) else (none)) else (none)) = some r:=by rw [if_pos rfl] at H;exact H
          clear H;have H:=H1;clear H1;by_cases c19:0 ≤ a1
          ·rw [if_pos c19] at H;have c19b0:=eq_true c19;have c19b1:decide (0 ≤ a1) = true:=decide_eq_true c19;clear c19;obtain ⟨ji20,hji20⟩:∃ j_:Int,(shl .i64 1 a1) = j_:=⟨_,rfl⟩;replace H:(if 0 ≤ (Go.bits .or .i64 x11_1 (ji20)) then (if (Go.bits .or .i64 x11_1 (ji20)) < (l0_1.length:Int) then (if (rdOf false l0_1 (Go.bits .or .i64 x11_1 (ji20)) = true) then (impl_votes_isWorth.l0 k1 a1 a2 (l0_1.length:Int) (wrap64 (x11_1 + 1)) a0_0 l0_1) else (some false)) else (none)) else (none)) = some r:=by first|(rw [hji20] at H;exact H)|(simp only [hji20] at H ⊢;exact H)
           (try rw [hji20] at A7)
           (try rw [hji20] at A10)
           have hji20_:(IntKind.i64.wrap (1 * 2 ^ min a1.toNat 64)) = ji20:=hji20;have hji20z:a1 ≤ 64 → (IntKind.i64.wrap (1 * 2 ^ a1.toNat)) = ji20:=shl_small hji20;have hji20u:(IntKind.i64.wrap (2 ^ min a1.toNat 64)) = ji20:=by have h_:=hji20_;rw [Int.one_mul] at h_;exact h_
           have hji20v:a1 ≤ 64 → (IntKind.i64.wrap (2 ^ a1.toNat)) = ji20:=fun hle_=>by have h_:=hji20z hle_;rw [Int.one_mul] at h_;exact h_
           have hji20y:(wrap64 (1 * 2 ^ min a1.toNat 64)) = ji20:=(i64_w _).symm.trans hji20_;have hji20x:a1 ≤ 64 → (wrap64 (1 * 2 ^ a1.toNat)) = ji20:=fun h_=>(i64_w _).symm.trans (hji20z h_)
           by_cases c21:0 ≤ (Go.bits .or .i64 x11_1 (ji20))
           ·rw [if_pos c21] at H;have c21b0:decide (0 ≤ (Go.bits .or .i64 x11_1 (ji20))) = true:=decide_eq_true c21;clear c21;by_cases c22:(Go.bits .or .i64 x11_1 (ji20)) < (l0_1.length:Int)
            ·rw [if_pos c22] at H;have c22b0:decide ((Go.bits .or .i64 x11_1 (ji20)) < (l0_1.length:Int)) = true:=decide_eq_true c22;clear c22;obtain ⟨bq23,hbq23⟩:∃ b_:Bool,b_ = (rdOf false l0_1 (Go.bits .or .i64 x11_1 (ji20))):=⟨_,rfl⟩;replace H:(if (bq23 = true) then (impl_votes_isWorth.l0 k1 a1 a2 (l0_1.length:Int) (wrap64 (x11_1 + 1)) a0_0 l0_1) else (some false)) = some r:=by rw [← hbq23] at H;exact H
             have Nbq23:=aM hbq23;clear hbq23;by_cases c24:(bq23 = true)
             ·subst c24;have H1:(impl_votes_isWorth.l0 k1 a1 a2 (l0_1.length:Int) (wrap64 (x11_1 + 1)) a0_0 l0_1) = some r:=by rw [if_pos rfl] at H;exact H
              clear H;have H:=H1;clear H1;have H':=aM H;clear H
              try go_wp2
              have n0_:=aM (blk_drew BK310.out);have n1_:=aM (below_drew1 HB.out);clear BK310;clear HB;have BK310:=n0_;have HB:=n1_;clear n0_ n1_;have p313:0 ≤ ((Go.bits .or .i64 x11_1 (ji14)):Int):=of_decide_eq_true ab;have q313:(Go.bits .or .i64 x11_1 (ji14)) < (l0_1.length:Int):=of_decide_eq_true ab;obtain ⟨ad313,e313,hx313_0⟩:=Kd.at_bool HR0_1.out (Go.bits .or .i64 x11_1 (ji14)) p313 q313;have hw313_0:=hx313_0;(try rw [← Nbq17.out] at hw313_0)
              (try rw [← Nbq23.out] at hw313_0)
              (try rw [← Nbq17.out] at hx313_0)
              (try rw [← Nbq23.out] at hx313_0)
              cases e313
              replace hx313_0:=(HB.out.cell (World.block_lt_of_cell? w _ hx313_0)).trans hx313_0;replace p313:=eq_true p313;replace q313:=eq_true q313;have p314:0 ≤ ((Go.bits .or .i64 x11_1 (ji20)):Int):=of_decide_eq_true ab;have q314:(Go.bits .or .i64 x11_1 (ji20)) < (l0_1.length:Int):=of_decide_eq_true ab;obtain ⟨ad314,e314,hx314_0⟩:=Kd.at_bool HR0_1.out (Go.bits .or .i64 x11_1 (ji20)) p314 q314;have hw314_0:=hx314_0;(try rw [← Nbq17.out] at hw314_0)
              (try rw [← Nbq23.out] at hw314_0)
              (try rw [← Nbq17.out] at hx314_0)
              (try rw [← Nbq23.out] at hx314_0)
              obtain rfl:ad313 = ad314:=(by injection e314);replace hx314_0:=(HB.out.cell (World.block_lt_of_cell? w _ hx314_0)).trans hx314_0;replace p314:=eq_true p314;replace q314:=eq_true q314;refine start_ (n:=31) (S:=fun w'=>w'.cell? ⟨gb310,0,none⟩ = some (.int .i64 a0_0) ∧ w'.cell? ⟨gb310,1,none⟩ = some (.slice (some ad313) l0_1.length c0_1) ∧ w'.cell? (ad313.add ((Go.bits .or .i64 x11_1 (ji14))).toNat) = some (.bool true) ∧ w'.cell? (ad313.add ((Go.bits .or .i64 x11_1 (ji20))).toNat) = some (.bool true)) (ds:=[]) (mA 31 0) kR rfl rfl ⟨(blk_cell BK310.out 0).trans rfl,(blk_cell BK310.out 1).trans rfl,((HB.out.cell (World.block_lt_of_cell? w _ hw313_0)).trans hw313_0),((HB.out.cell (World.block_lt_of_cell? w _ hw314_0)).trans hw314_0)⟩ (fun hHeld=>?_);refine with_tabW impl_votes_isWorth.tab4 impl_votes_isWorth.bits4 (fun HT_ HW_=>?_)
              generalize wr.drew = w25 at BK310 HB hx313_0 hx314_0 hHeld ⊢
              refine pure_ (i:=0) (N:=some 14) (v:=?_) (a':=?_) (mA 31 1) rfl rfl (any_of HT_.out kR) (fun _ _ _ h=>h) (Or.inl ⟨by rfl,?_⟩) ?_ ?_;rotate_left
              ·intro w';go_simp
               with_reducible rfl
              rotate_left
              ·simp only [Act.put,sA,sZ,sS,i64_w,i32_w];rfl
              refine pure_ (i:=1) (N:=some 15) (v:=?_) (a':=?_) (mA 31 3) rfl rfl (any_of HT_.out kR) (fun _ _ _ h=>h) (Or.inl ⟨by rfl,?_⟩) ?_ ?_;rotate_left
              ·intro w';go_simp
               with_reducible rfl
              rotate_left
              ·simp only [Act.put,sA,sZ,sS,i64_w,i32_w];rfl
              refine one_ (i:=2) (N:=some 16) (mA 31 7) rfl rfl (one_of HT_.out kR) (by decide) (fun K hK=>?_);refine goes_ Try.func134 kR rfl #[.int .i64 x11_1,.int .i64 a1] (by rfl) rfl rfl mq ?_
              with_reducible refine (impl_has.calls x11_1 a1 false _ A7.out).mono ?_
              rintro e w' ⟨rfl,⟨nd,rfl⟩⟩
              refine ⟨_,rfl,?_⟩;refine hK.out _ _ ⟨(blk_cell BK310.out 0).trans rfl,(blk_cell BK310.out 1).trans rfl,((HB.out.cell (World.block_lt_of_cell? w _ hw313_0)).trans hw313_0),((HB.out.cell (World.block_lt_of_cell? w _ hw314_0)).trans hw314_0)⟩ (fun hHeld=>?_);clear hK K;refine norm_ (a':=?_) ?_ ?_;rotate_left
              ·show Act.put _ (some 16) _ = _;simp only [Act.put,sA,sZ,sS,i64_w,i32_w];rfl
              refine pure_ (i:=3) (N:=some 17) (v:=?_) (a':=?_) (mA 31 15) rfl rfl (any_of HT_.out kR) (fun _ _ _ h=>h) (Or.inl ⟨by rfl,?_⟩) ?_ ?_;rotate_left
              ·intro w';go_simp
               with_reducible rfl
              rotate_left
              ·simp only [Act.put,sA,sZ,sS,i64_w,i32_w];rfl
              refine pure_ (i:=4) (N:=some 18) (v:=?_) (a':=?_) (mA 31 31) rfl rfl (any_of HT_.out kR) (fun _ _ _ h=>h) (Or.inl ⟨by rfl,?_⟩) ?_ ?_;rotate_left
              ·intro w';go_simp
               with_reducible rfl
              rotate_left
              ·simp only [Act.put,sA,sZ,sS,i64_w,i32_w];rfl
              refine pure_ (i:=5) (N:=some 19) (v:=?_) (a':=?_) (mA 31 63) rfl rfl (any_of HT_.out kR) (fun _ _ _ h=>h) (Or.inl ⟨by rfl,?_⟩) ?_ ?_;rotate_left
              ·intro w';go_simp
               with_reducible rfl
              rotate_left
              ·simp only [Act.put,sA,sZ,sS,i64_w,i32_w];rfl
              refine pure_ (i:=6) (N:=some 20) (v:=?_) (a':=?_) (mA 31 127) rfl rfl (any_of HT_.out kR) (fun _ _ _ h=>h) (Or.inl ⟨by rfl,?_⟩) ?_ ?_;rotate_left
              ·intro w';go_simp
               with_reducible rfl
              rotate_left
              ·simp only [Act.put,sA,sZ,sS,i64_w,i32_w];rfl
              refine one_ (i:=7) (N:=some 21) (mA 31 255) rfl rfl (one_of HT_.out kR) (by decide) (fun K hK=>?_);refine goes_ Try.func134 kR rfl #[.int .i64 x11_1,.int .i64 a2] (by rfl) rfl rfl mq ?_
              with_reducible refine (impl_has.calls x11_1 a2 false _ A10.out).mono ?_
              rintro e w' ⟨rfl,⟨nd,rfl⟩⟩
              refine ⟨_,rfl,?_⟩;refine hK.out _ _ ⟨(blk_cell BK310.out 0).trans rfl,(blk_cell BK310.out 1).trans rfl,((HB.out.cell (World.block_lt_of_cell? w _ hw313_0)).trans hw313_0),((HB.out.cell (World.block_lt_of_cell? w _ hw314_0)).trans hw314_0)⟩ (fun hHeld=>?_);clear hK K;refine norm_ (a':=?_) ?_ ?_;rotate_left
              ·show Act.put _ (some 21) _ = _;simp only [Act.put,sA,sZ,sS,i64_w,i32_w];rfl
              refine pure_ (i:=8) (N:=some 22) (v:=?_) (a':=?_) (mA 31 511) rfl rfl (any_of HT_.out kR) (fun _ _ _ h=>h) (Or.inl ⟨by rfl,?_⟩) ?_ ?_;rotate_left
              ·intro w';go_simp
               with_reducible rfl
              rotate_left
              ·simp only [Act.put,sA,sZ,sS,i64_w,i32_w];rfl
              refine pure_ (i:=9) (N:=some 23) (v:=?_) (a':=?_) (mA 31 1023) rfl rfl (any_of HT_.out kR) (fun _ _ _ h=>h) (Or.inl ⟨by rfl,?_⟩) ?_ ?_;rotate_left
              ·intro w';go_simp
               with_reducible rfl
              rotate_left
              ·simp only [Act.put,sA,sZ,sS,i64_w,i32_w];rfl
              refine pure_ (i:=10) (N:=some 24) (v:=?_) (a':=?_) (mA 31 2047) rfl rfl (any_of HT_.out kR) (fun _ _ _ h=>h) (Or.inl ⟨by rfl,?_⟩) ?_ ?_;rotate_left
              ·intro w';go_simp
               with_reducible rfl
              rotate_left
              ·simp only [Act.put,sA,sZ,sS,i64_w,i32_w];rfl
              refine pure_ (i:=11) (N:=some 25) (v:=?_) (a':=?_) (mA 31 4095) rfl rfl (any_of HT_.out kR) (fun _ _ _ h=>h) (Or.inl ⟨by rfl,?_⟩) ?_ ?_;rotate_left
              ·intro w';go_simp
               with_reducible rfl
              rotate_left
              ·simp only [Act.put,sA,sZ,sS,i64_w,i32_w];rfl
              refine pure_ (i:=13) (N:=some 27) (v:=?_) (a':=?_) (mA 31 12287) rfl rfl (any_of HT_.out kR) (fun _ _ _ h=>h) (Or.inl ⟨by rfl,?_⟩) ?_ ?_;rotate_left
              ·intro w';go_simp
               with_reducible rfl
              rotate_left
              ·simp only [Act.put,sA,sZ,sS,i64_w,i32_w];rfl
              refine pure_ (i:=14) (N:=some 28) (v:=?_) (a':=?_) (mA 31 28671) rfl rfl (any_of HT_.out kR) (fun _ _ _ h=>h) (Or.inl ⟨by rfl,?_⟩) ?_ ?_;rotate_left
              ·intro w';go_simp
               with_reducible rfl
              rotate_left
              ·simp only [Act.put,sA,sZ,sS,i64_w,i32_w];rfl
              refine pure_ (i:=15) (N:=some 29) (v:=?_) (a':=?_) (mA 31 61439) rfl rfl (any_of HT_.out kR) (fun _ _ _ h=>h) (Or.inl ⟨by rfl,?_⟩) ?_ ?_;rotate_left
              ·intro w';go_simp
               with_reducible rfl
              rotate_left
              ·simp only [Act.put,sA,sZ,sS,i64_w,i32_w];rfl
              refine pure_ (i:=16) (N:=some 30) (v:=?_) (a':=?_) (mA 31 126975) rfl rfl (any_of HT_.out kR) (fun _ _ _ h=>h) (Or.inl ⟨by rfl,?_⟩) ?_ ?_;rotate_left
              ·intro w';go_simp
               with_reducible rfl
              rotate_left
              ·simp only [Act.put,sA,sZ,sS,i64_w,i32_w];rfl
              refine take_ (i:=12) (N:=some 26) (v:=?_) (a':=?_) (mA 31 131071) rfl rfl (take_ofW HT_.out HW_.out kR) (fun _ _ _ h=>h) (Or.inl ⟨by rfl,?_⟩) hHeld ?_ ?_;rotate_left
              ·rintro w' ⟨s0,s1,s2,s3⟩
               go_simp
               with_reducible rfl
              rotate_left
              ·simp only [Act.put,sA,sZ,sS,i64_w,i32_w];rfl
              refine pure_ (i:=17) (N:=some 31) (v:=?_) (a':=?_) (mA 31 262143) rfl rfl (any_of HT_.out kR) (fun _ _ _ h=>h) (Or.inl ⟨by rfl,?_⟩) ?_ ?_;rotate_left
              ·intro w';go_simp
               with_reducible rfl
              rotate_left
              ·simp only [Act.put,sA,sZ,sS,i64_w,i32_w];rfl
              refine take_ (i:=18) (N:=some 32) (v:=?_) (a':=?_) (mA 31 524287) rfl rfl (take_ofW HT_.out HW_.out kR) (fun _ _ _ h=>h) (Or.inl ⟨by rfl,?_⟩) hHeld ?_ ?_;rotate_left
              ·rintro w' ⟨s0,s1,s2,s3⟩
               go_simp
               with_reducible rfl
              rotate_left
              ·simp only [Act.put,sA,sZ,sS,i64_w,i32_w];rfl
              refine pure_ (i:=19) (N:=some 33) (v:=?_) (a':=?_) (mA 31 1048575) rfl rfl (any_of HT_.out kR) (fun _ _ _ h=>h) (Or.inl ⟨by rfl,?_⟩) ?_ ?_;rotate_left
              ·intro w';go_simp
               with_reducible rfl
              rotate_left
              ·simp only [Act.put,sA,sZ,sS,i64_w,i32_w];rfl
              refine pure_ (i:=20) (N:=some 34) (v:=?_) (a':=?_) (mA 31 2097151) rfl rfl (any_of HT_.out kR) (fun _ _ _ h=>h) (Or.inl ⟨by rfl,?_⟩) ?_ ?_;rotate_left
              ·intro w';go_simp
               with_reducible rfl
              rotate_left
              ·simp only [Act.put,sA,sZ,sS,i64_w,i32_w];rfl
              refine pure_ (i:=21) (N:=some 35) (v:=?_) (a':=?_) (mA 31 4194303) rfl rfl (any_of HT_.out kR) (fun _ _ _ h=>h) (Or.inl ⟨by rfl,?_⟩) ?_ ?_;rotate_left
              ·intro w';go_simp
               with_reducible rfl
              rotate_left
              ·simp only [Act.put,sA,sZ,sS,i64_w,i32_w];rfl
              refine pure_ (i:=23) (N:=some 37) (v:=?_) (a':=?_) (mA 31 12582911) rfl rfl (any_of HT_.out kR) (fun _ _ _ h=>h) (Or.inl ⟨by rfl,?_⟩) ?_ ?_;rotate_left
              ·intro w';go_simp
               with_reducible rfl
              rotate_left
              ·simp only [Act.put,sA,sZ,sS,i64_w,i32_w];rfl
              refine pure_ (i:=24) (N:=some 38) (v:=?_) (a':=?_) (mA 31 29360127) rfl rfl (any_of HT_.out kR) (fun _ _ _ h=>h) (Or.inl ⟨by rfl,?_⟩) ?_ ?_;rotate_left
              ·intro w';go_simp
               with_reducible rfl
              rotate_left
              ·simp only [Act.put,sA,sZ,sS,i64_w,i32_w];rfl
              refine pure_ (i:=25) (N:=some 39) (v:=?_) (a':=?_) (mA 31 62914559) rfl rfl (any_of HT_.out kR) (fun _ _ _ h=>h) (Or.inl ⟨by rfl,?_⟩) ?_ ?_;rotate_left
              ·intro w';go_simp
               with_reducible rfl
              rotate_left
              ·simp only [Act.put,sA,sZ,sS,i64_w,i32_w];rfl
              refine pure_ (i:=26) (N:=some 40) (v:=?_) (a':=?_) (mA 31 130023423) rfl rfl (any_of HT_.out kR) (fun _ _ _ h=>h) (Or.inl ⟨by rfl,?_⟩) ?_ ?_;rotate_left
              ·intro w';go_simp
               with_reducible rfl
              rotate_left
              ·simp only [Act.put,sA,sZ,sS,i64_w,i32_w];rfl
              refine take_ (i:=22) (N:=some 36) (v:=?_) (a':=?_) (mA 31 134217727) rfl rfl (take_ofW HT_.out HW_.out kR) (fun _ _ _ h=>h) (Or.inl ⟨by rfl,?_⟩) hHeld ?_ ?_;rotate_left
              ·rintro w' ⟨s0,s1,s2,s3⟩
               go_simp
               with_reducible rfl
              rotate_left
              ·simp only [Act.put,sA,sZ,sS,i64_w,i32_w];rfl
              refine pure_ (i:=27) (N:=some 41) (v:=?_) (a':=?_) (mA 31 268435455) rfl rfl (any_of HT_.out kR) (fun _ _ _ h=>h) (Or.inl ⟨by rfl,?_⟩) ?_ ?_;rotate_left
              ·intro w';go_simp
               with_reducible rfl
              rotate_left
              ·simp only [Act.put,sA,sZ,sS,i64_w,i32_w];rfl
              refine take_ (i:=28) (N:=some 42) (v:=?_) (a':=?_) (mA 31 536870911) rfl rfl (take_ofW HT_.out HW_.out kR) (fun _ _ _ h=>h) (Or.inl ⟨by rfl,?_⟩) hHeld ?_ ?_;rotate_left
              ·rintro w' ⟨s0,s1,s2,s3⟩
               go_simp
               with_reducible rfl
              rotate_left
              ·simp only [Act.put,sA,sZ,sS,i64_w,i32_w];rfl
              refine pure_ (i:=29) (N:=some 43) (v:=?_) (a':=?_) (mA 31 1073741823) rfl rfl (any_of HT_.out kR) (fun _ _ _ h=>h) (Or.inl ⟨by rfl,?_⟩) ?_ ?_;rotate_left
              ·intro w';go_simp
               with_reducible rfl
              rotate_left
              ·simp only [Act.put,sA,sZ,sS,i64_w,i32_w];rfl
              refine pure_ (i:=30) (N:=some 44) (v:=?_) (a':=?_) (mA 31 2147483647) rfl rfl (any_of HT_.out kR) (fun _ _ _ h=>h) (Or.inl ⟨by rfl,?_⟩) ?_ ?_;rotate_left
              ·intro w';go_simp
               with_reducible rfl
              rotate_left
              ·simp only [Act.put,sA,sZ,sS,i64_w,i32_w];rfl
              refine done_ (done_of HT_.out kR) ?_
              try go_wp2
              go_roundg k1
              case measure=>have:=HK1.out;omega
              case rel=>exact ⟨(wrap64 (x11_1 + 1)),qrs,H',⟨by have:=HK1.out;omega⟩,⟨by (with_reducible repeat (first|refine blk_drewN ?_ _|refine blk_drew ?_|refine blk_alloc ?_ _));exact BK310.out⟩,⟨by exact bw⟩⟩
             ·replace c24:=Bool.eq_false_iff.mpr c24;subst c24;have H1:(some false) = some r:=by rw [if_neg (show ¬ (false = true) by decide)] at H;exact H
              clear H;have H:=H1;clear H1;obtain rfl:=Option.some.inj H
              try go_wp2
              have n0_:=aM (blk_drew BK310.out);have n1_:=aM (below_drew1 HB.out);clear BK310;clear HB;have BK310:=n0_;have HB:=n1_;clear n0_ n1_;have p313:0 ≤ ((Go.bits .or .i64 x11_1 (ji14)):Int):=of_decide_eq_true ab;have q313:(Go.bits .or .i64 x11_1 (ji14)) < (l0_1.length:Int):=of_decide_eq_true ab;obtain ⟨ad313,e313,hx313_0⟩:=Kd.at_bool HR0_1.out (Go.bits .or .i64 x11_1 (ji14)) p313 q313;have hw313_0:=hx313_0;(try rw [← Nbq17.out] at hw313_0)
              (try rw [← Nbq23.out] at hw313_0)
              (try rw [← Nbq17.out] at hx313_0)
              (try rw [← Nbq23.out] at hx313_0)
              cases e313
              replace hx313_0:=(HB.out.cell (World.block_lt_of_cell? w _ hx313_0)).trans hx313_0;replace p313:=eq_true p313;replace q313:=eq_true q313;have p314:0 ≤ ((Go.bits .or .i64 x11_1 (ji20)):Int):=of_decide_eq_true ab;have q314:(Go.bits .or .i64 x11_1 (ji20)) < (l0_1.length:Int):=of_decide_eq_true ab;obtain ⟨ad314,e314,hx314_0⟩:=Kd.at_bool HR0_1.out (Go.bits .or .i64 x11_1 (ji20)) p314 q314;have hw314_0:=hx314_0;(try rw [← Nbq17.out] at hw314_0)
              (try rw [← Nbq23.out] at hw314_0)
              (try rw [← Nbq17.out] at hx314_0)
              (try rw [← Nbq23.out] at hx314_0)
              obtain rfl:ad313 = ad314:=(by injection e314);replace hx314_0:=(HB.out.cell (World.block_lt_of_cell? w _ hx314_0)).trans hx314_0;replace p314:=eq_true p314;replace q314:=eq_true q314;refine start_ (n:=31) (S:=fun w'=>w'.cell? ⟨gb310,0,none⟩ = some (.int .i64 a0_0) ∧ w'.cell? ⟨gb310,1,none⟩ = some (.slice (some ad313) l0_1.length c0_1) ∧ w'.cell? (ad313.add ((Go.bits .or .i64 x11_1 (ji14))).toNat) = some (.bool true) ∧ w'.cell? (ad313.add ((Go.bits .or .i64 x11_1 (ji20))).toNat) = some (.bool false)) (ds:=[]) (mA 31 0) kR rfl rfl ⟨(blk_cell BK310.out 0).trans rfl,(blk_cell BK310.out 1).trans rfl,((HB.out.cell (World.block_lt_of_cell? w _ hw313_0)).trans hw313_0),((HB.out.cell (World.block_lt_of_cell? w _ hw314_0)).trans hw314_0)⟩ (fun hHeld=>?_);refine with_tabW impl_votes_isWorth.tab4 impl_votes_isWorth.bits4 (fun HT_ HW_=>?_)
              generalize wr.drew = w26 at BK310 HB hx313_0 hx314_0 hHeld ⊢
              refine pure_ (i:=0) (N:=some 14) (v:=?_) (a':=?_) (mA 31 1) rfl rfl (any_of HT_.out kR) (fun _ _ _ h=>h) (Or.inl ⟨by rfl,?_⟩) ?_ ?_;rotate_left
              ·intro w';go_simp
               with_reducible rfl
              rotate_left
              ·simp only [Act.put,sA,sZ,sS,i64_w,i32_w];rfl
              refine pure_ (i:=1) (N:=some 15) (v:=?_) (a':=?_) (mA 31 3) rfl rfl (any_of HT_.out kR) (fun _ _ _ h=>h) (Or.inl ⟨by rfl,?_⟩) ?_ ?_;rotate_left
              ·intro w';go_simp
               with_reducible rfl
              rotate_left
              ·simp only [Act.put,sA,sZ,sS,i64_w,i32_w];rfl
              refine one_ (i:=2) (N:=some 16) (mA 31 7) rfl rfl (one_of HT_.out kR) (by decide) (fun K hK=>?_);refine goes_ Try.func134 kR rfl #[.int .i64 x11_1,.int .i64 a1] (by rfl) rfl rfl mq ?_
              with_reducible refine (impl_has.calls x11_1 a1 false _ A7.out).mono ?_
              rintro e w' ⟨rfl,⟨nd,rfl⟩⟩
              refine ⟨_,rfl,?_⟩;refine hK.out _ _ ⟨(blk_cell BK310.out 0).trans rfl,(blk_cell BK310.out 1).trans rfl,((HB.out.cell (World.block_lt_of_cell? w _ hw313_0)).trans hw313_0),((HB.out.cell (World.block_lt_of_cell? w _ hw314_0)).trans hw314_0)⟩ (fun hHeld=>?_);clear hK K;refine norm_ (a':=?_) ?_ ?_;rotate_left
              ·show Act.put _ (some 16) _ = _;simp only [Act.put,sA,sZ,sS,i64_w,i32_w];rfl
              refine pure_ (i:=3) (N:=some 17) (v:=?_) (a':=?_) (mA 31 15) rfl rfl (any_of HT_.out kR) (fun _ _ _ h=>h) (Or.inl ⟨by rfl,?_⟩) ?_ ?_;rotate_left
              ·intro w';go_simp
               with_reducible rfl
              rotate_left
              ·simp only [Act.put,sA,sZ,sS,i64_w,i32_w];rfl
              refine pure_ (i:=4) (N:=some 18) (v:=?_) (a':=?_) (mA 31 31) rfl rfl (any_of HT_.out kR) (fun _ _ _ h=>h) (Or.inl ⟨by rfl,?_⟩) ?_ ?_;rotate_left
              ·intro w';go_simp
               with_reducible rfl
              rotate_left
              ·simp only [Act.put,sA,sZ,sS,i64_w,i32_w];rfl
              refine pure_ (i:=5) (N:=some 19) (v:=?_) (a':=?_) (mA 31 63) rfl rfl (any_of HT_.out kR) (fun _ _ _ h=>h) (Or.inl ⟨by rfl,?_⟩) ?_ ?_;rotate_left
              ·intro w';go_simp
               with_reducible rfl
              rotate_left
              ·simp only [Act.put,sA,sZ,sS,i64_w,i32_w];rfl
              refine pure_ (i:=6) (N:=some 20) (v:=?_) (a':=?_) (mA 31 127) rfl rfl (any_of HT_.out kR) (fun _ _ _ h=>h) (Or.inl ⟨by rfl,?_⟩) ?_ ?_;rotate_left
              ·intro w';go_simp
               with_reducible rfl
              rotate_left
              ·simp only [Act.put,sA,sZ,sS,i64_w,i32_w];rfl
              refine one_ (i:=7) (N:=some 21) (mA 31 255) rfl rfl (one_of HT_.out kR) (by decide) (fun K hK=>?_);refine goes_ Try.func134 kR rfl #[.int .i64 x11_1,.int .i64 a2] (by rfl) rfl rfl mq ?_
              with_reducible refine (impl_has.calls x11_1 a2 false _ A10.out).mono ?_
              rintro e w' ⟨rfl,⟨nd,rfl⟩⟩
              refine ⟨_,rfl,?_⟩;refine hK.out _ _ ⟨(blk_cell BK310.out 0).trans rfl,(blk_cell BK310.out 1).trans rfl,((HB.out.cell (World.block_lt_of_cell? w _ hw313_0)).trans hw313_0),((HB.out.cell (World.block_lt_of_cell? w _ hw314_0)).trans hw314_0)⟩ (fun hHeld=>?_);clear hK K;refine norm_ (a':=?_) ?_ ?_;rotate_left
              ·show Act.put _ (some 21) _ = _;simp only [Act.put,sA,sZ,sS,i64_w,i32_w];rfl
              refine pure_ (i:=8) (N:=some 22) (v:=?_) (a':=?_) (mA 31 511) rfl rfl (any_of HT_.out kR) (fun _ _ _ h=>h) (Or.inl ⟨by rfl,?_⟩) ?_ ?_;rotate_left
              ·intro w';go_simp
               with_reducible rfl
              rotate_left
              ·simp only [Act.put,sA,sZ,sS,i64_w,i32_w];rfl
              refine pure_ (i:=9) (N:=some 23) (v:=?_) (a':=?_) (mA 31 1023) rfl rfl (any_of HT_.out kR) (fun _ _ _ h=>h) (Or.inl ⟨by rfl,?_⟩) ?_ ?_;rotate_left
              ·intro w';go_simp
               with_reducible rfl
              rotate_left
              ·simp only [Act.put,sA,sZ,sS,i64_w,i32_w];rfl
              refine pure_ (i:=10) (N:=some 24) (v:=?_) (a':=?_) (mA 31 2047) rfl rfl (any_of HT_.out kR) (fun _ _ _ h=>h) (Or.inl ⟨by rfl,?_⟩) ?_ ?_;rotate_left
              ·intro w';go_simp
               with_reducible rfl
              rotate_left
              ·simp only [Act.put,sA,sZ,sS,i64_w,i32_w];rfl
              refine pure_ (i:=11) (N:=some 25) (v:=?_) (a':=?_) (mA 31 4095) rfl rfl (any_of HT_.out kR) (fun _ _ _ h=>h) (Or.inl ⟨by rfl,?_⟩) ?_ ?_;rotate_left
              ·intro w';go_simp
               with_reducible rfl
              rotate_left
              ·simp only [Act.put,sA,sZ,sS,i64_w,i32_w];rfl
              refine pure_ (i:=13) (N:=some 27) (v:=?_) (a':=?_) (mA 31 12287) rfl rfl (any_of HT_.out kR) (fun _ _ _ h=>h) (Or.inl ⟨by rfl,?_⟩) ?_ ?_;rotate_left
              ·intro w';go_simp
               with_reducible rfl
              rotate_left
              ·simp only [Act.put,sA,sZ,sS,i64_w,i32_w];rfl
              refine pure_ (i:=14) (N:=some 28) (v:=?_) (a':=?_) (mA 31 28671) rfl rfl (any_of HT_.out kR) (fun _ _ _ h=>h) (Or.inl ⟨by rfl,?_⟩) ?_ ?_;rotate_left
              ·intro w';go_simp
               with_reducible rfl
              rotate_left
              ·simp only [Act.put,sA,sZ,sS,i64_w,i32_w];rfl
              refine pure_ (i:=15) (N:=some 29) (v:=?_) (a':=?_) (mA 31 61439) rfl rfl (any_of HT_.out kR) (fun _ _ _ h=>h) (Or.inl ⟨by rfl,?_⟩) ?_ ?_;rotate_left
              ·intro w';go_simp
               with_reducible rfl
              rotate_left
              ·simp only [Act.put,sA,sZ,sS,i64_w,i32_w];rfl
              refine pure_ (i:=16) (N:=some 30) (v:=?_) (a':=?_) (mA 31 126975) rfl rfl (any_of HT_.out kR) (fun _ _ _ h=>h) (Or.inl ⟨by rfl,?_⟩) ?_ ?_;rotate_left
              ·intro w';go_simp
               with_reducible rfl
              rotate_left
              ·simp only [Act.put,sA,sZ,sS,i64_w,i32_w];rfl
              refine take_ (i:=12) (N:=some 26) (v:=?_) (a':=?_) (mA 31 131071) rfl rfl (take_ofW HT_.out HW_.out kR) (fun _ _ _ h=>h) (Or.inl ⟨by rfl,?_⟩) hHeld ?_ ?_;rotate_left
              ·rintro w' ⟨s0,s1,s2,s3⟩
               go_simp
               with_reducible rfl
              rotate_left
              ·simp only [Act.put,sA,sZ,sS,i64_w,i32_w];rfl
              refine pure_ (i:=17) (N:=some 31) (v:=?_) (a':=?_) (mA 31 262143) rfl rfl (any_of HT_.out kR) (fun _ _ _ h=>h) (Or.inl ⟨by rfl,?_⟩) ?_ ?_;rotate_left
              ·intro w';go_simp
               with_reducible rfl
              rotate_left
              ·simp only [Act.put,sA,sZ,sS,i64_w,i32_w];rfl
              refine take_ (i:=18) (N:=some 32) (v:=?_) (a':=?_) (mA 31 524287) rfl rfl (take_ofW HT_.out HW_.out kR) (fun _ _ _ h=>h) (Or.inl ⟨by rfl,?_⟩) hHeld ?_ ?_;rotate_left
              ·rintro w' ⟨s0,s1,s2,s3⟩
               go_simp
               with_reducible rfl
              rotate_left
              ·simp only [Act.put,sA,sZ,sS,i64_w,i32_w];rfl
              refine pure_ (i:=19) (N:=some 33) (v:=?_) (a':=?_) (mA 31 1048575) rfl rfl (any_of HT_.out kR) (fun _ _ _ h=>h) (Or.inl ⟨by rfl,?_⟩) ?_ ?_;rotate_left
              ·intro w';go_simp
               with_reducible rfl
              rotate_left
              ·simp only [Act.put,sA,sZ,sS,i64_w,i32_w];rfl
              refine pure_ (i:=20) (N:=some 34) (v:=?_) (a':=?_) (mA 31 2097151) rfl rfl (any_of HT_.out kR) (fun _ _ _ h=>h) (Or.inl ⟨by rfl,?_⟩) ?_ ?_;rotate_left
              ·intro w';go_simp
               with_reducible rfl
              rotate_left
              ·simp only [Act.put,sA,sZ,sS,i64_w,i32_w];rfl
              refine pure_ (i:=21) (N:=some 35) (v:=?_) (a':=?_) (mA 31 4194303) rfl rfl (any_of HT_.out kR) (fun _ _ _ h=>h) (Or.inl ⟨by rfl,?_⟩) ?_ ?_;rotate_left
              ·intro w';go_simp
               with_reducible rfl
              rotate_left
              ·simp only [Act.put,sA,sZ,sS,i64_w,i32_w];rfl
              refine pure_ (i:=23) (N:=some 37) (v:=?_) (a':=?_) (mA 31 12582911) rfl rfl (any_of HT_.out kR) (fun _ _ _ h=>h) (Or.inl ⟨by rfl,?_⟩) ?_ ?_;rotate_left
              ·intro w';go_simp
               with_reducible rfl
              rotate_left
              ·simp only [Act.put,sA,sZ,sS,i64_w,i32_w];rfl
              refine pure_ (i:=24) (N:=some 38) (v:=?_) (a':=?_) (mA 31 29360127) rfl rfl (any_of HT_.out kR) (fun _ _ _ h=>h) (Or.inl ⟨by rfl,?_⟩) ?_ ?_;rotate_left
              ·intro w';go_simp
               with_reducible rfl
              rotate_left
              ·simp only [Act.put,sA,sZ,sS,i64_w,i32_w];rfl
              refine pure_ (i:=25) (N:=some 39) (v:=?_) (a':=?_) (mA 31 62914559) rfl rfl (any_of HT_.out kR) (fun _ _ _ h=>h) (Or.inl ⟨by rfl,?_⟩) ?_ ?_;rotate_left
              ·intro w';go_simp
               with_reducible rfl
              rotate_left
              ·simp only [Act.put,sA,sZ,sS,i64_w,i32_w];rfl
              refine pure_ (i:=26) (N:=some 40) (v:=?_) (a':=?_) (mA 31 130023423) rfl rfl (any_of HT_.out kR) (fun _ _ _ h=>h) (Or.inl ⟨by rfl,?_⟩) ?_ ?_;rotate_left
              ·intro w';go_simp
               with_reducible rfl
              rotate_left
              ·simp only [Act.put,sA,sZ,sS,i64_w,i32_w];rfl
              refine take_ (i:=22) (N:=some 36) (v:=?_) (a':=?_) (mA 31 134217727) rfl rfl (take_ofW HT_.out HW_.out kR) (fun _ _ _ h=>h) (Or.inl ⟨by rfl,?_⟩) hHeld ?_ ?_;rotate_left
              ·rintro w' ⟨s0,s1,s2,s3⟩
               go_simp
               with_reducible rfl
              rotate_left
              ·simp only [Act.put,sA,sZ,sS,i64_w,i32_w];rfl
              refine pure_ (i:=27) (N:=some 41) (v:=?_) (a':=?_) (mA 31 268435455) rfl rfl (any_of HT_.out kR) (fun _ _ _ h=>h) (Or.inl ⟨by rfl,?_⟩) ?_ ?_;rotate_left
              ·intro w';go_simp
               with_reducible rfl
              rotate_left
              ·simp only [Act.put,sA,sZ,sS,i64_w,i32_w];rfl
              refine take_ (i:=28) (N:=some 42) (v:=?_) (a':=?_) (mA 31 536870911) rfl rfl (take_ofW HT_.out HW_.out kR) (fun _ _ _ h=>h) (Or.inl ⟨by rfl,?_⟩) hHeld ?_ ?_;rotate_left
              ·rintro w' ⟨s0,s1,s2,s3⟩
               go_simp
               with_reducible rfl
              rotate_left
              ·simp only [Act.put,sA,sZ,sS,i64_w,i32_w];rfl
              refine pure_ (i:=29) (N:=some 43) (v:=?_) (a':=?_) (mA 31 1073741823) rfl rfl (any_of HT_.out kR) (fun _ _ _ h=>h) (Or.inl ⟨by rfl,?_⟩) ?_ ?_;rotate_left
              ·intro w';go_simp
               with_reducible rfl
              rotate_left
              ·simp only [Act.put,sA,sZ,sS,i64_w,i32_w];rfl
              refine pure_ (i:=30) (N:=some 44) (v:=?_) (a':=?_) (mA 31 2147483647) rfl rfl (any_of HT_.out kR) (fun _ _ _ h=>h) (Or.inl ⟨by rfl,?_⟩) ?_ ?_;rotate_left
              ·intro w';go_simp
               with_reducible rfl
              rotate_left
              ·simp only [Act.put,sA,sZ,sS,i64_w,i32_w];rfl
              refine done_ (done_of HT_.out kR) ?_
              try go_wp2
              go_ret
              exact ⟨by first|rfl|(simp [errW_none,errW_some] <;> rfl)|(simp only [← hji14,← hji20];first|rfl|(simp [errW_none,errW_some] <;> rfl))|(simp [*,errW_none,errW_some] <;> rfl),by exact bw⟩
            ·rw [if_neg c22] at H;exact absurd H (by simp)
           ·rw [if_neg c21] at H;exact absurd H (by simp)
          ·rw [if_neg c19] at H;exact absurd H (by simp)
         ·replace c18:=Bool.eq_false_iff.mpr c18;subst c18;have H1:(impl_votes_isWorth.l0 k1 a1 a2 (l0_1.length:Int) (wrap64 (x11_1 + 1)) a0_0 l0_1) = some r:=by rw [if_neg (show ¬ (false = true) by decide)] at H;exact H
          clear H;have H:=H1;clear H1;have H':=aM H;clear H
          try go_wp2
          have n0_:=aM (blk_drew BK310.out);have n1_:=aM (below_drew1 HB.out);clear BK310;clear HB;have BK310:=n0_;have HB:=n1_;clear n0_ n1_;have p313:0 ≤ ((Go.bits .or .i64 x11_1 (ji14)):Int):=of_decide_eq_true ab;have q313:(Go.bits .or .i64 x11_1 (ji14)) < (l0_1.length:Int):=of_decide_eq_true ab;obtain ⟨ad313,e313,hx313_0⟩:=Kd.at_bool HR0_1.out (Go.bits .or .i64 x11_1 (ji14)) p313 q313;have hw313_0:=hx313_0;(try rw [← Nbq17.out] at hw313_0)
          (try rw [← Nbq17.out] at hx313_0)
          cases e313
          replace hx313_0:=(HB.out.cell (World.block_lt_of_cell? w _ hx313_0)).trans hx313_0;replace p313:=eq_true p313;replace q313:=eq_true q313;refine start_ (n:=31) (S:=fun w'=>w'.cell? ⟨gb310,0,none⟩ = some (.int .i64 a0_0) ∧ w'.cell? ⟨gb310,1,none⟩ = some (.slice (some ad313) l0_1.length c0_1) ∧ w'.cell? (ad313.add ((Go.bits .or .i64 x11_1 (ji14))).toNat) = some (.bool false)) (ds:=[]) (mA 31 0) kR rfl rfl ⟨(blk_cell BK310.out 0).trans rfl,(blk_cell BK310.out 1).trans rfl,((HB.out.cell (World.block_lt_of_cell? w _ hw313_0)).trans hw313_0)⟩ (fun hHeld=>?_);refine with_tabW impl_votes_isWorth.tab4 impl_votes_isWorth.bits4 (fun HT_ HW_=>?_)
          generalize wr.drew = w27 at BK310 HB hx313_0 hHeld ⊢
          refine pure_ (i:=0) (N:=some 14) (v:=?_) (a':=?_) (mA 31 1) rfl rfl (any_of HT_.out kR) (fun _ _ _ h=>h) (Or.inl ⟨by rfl,?_⟩) ?_ ?_;rotate_left
          ·intro w';go_simp
           with_reducible rfl
          rotate_left
          ·simp only [Act.put,sA,sZ,sS,i64_w,i32_w];rfl
          refine pure_ (i:=1) (N:=some 15) (v:=?_) (a':=?_) (mA 31 3) rfl rfl (any_of HT_.out kR) (fun _ _ _ h=>h) (Or.inl ⟨by rfl,?_⟩) ?_ ?_;rotate_left
          ·intro w';go_simp
           with_reducible rfl
          rotate_left
          ·simp only [Act.put,sA,sZ,sS,i64_w,i32_w];rfl
          refine one_ (i:=2) (N:=some 16) (mA 31 7) rfl rfl (one_of HT_.out kR) (by decide) (fun K hK=>?_);refine goes_ Try.func134 kR rfl #[.int .i64 x11_1,.int .i64 a1] (by rfl) rfl rfl mq ?_
          with_reducible refine (impl_has.calls x11_1 a1 false _ A7.out).mono ?_
          rintro e w' ⟨rfl,⟨nd,rfl⟩⟩
          refine ⟨_,rfl,?_⟩;refine hK.out _ _ ⟨(blk_cell BK310.out 0).trans rfl,(blk_cell BK310.out 1).trans rfl,((HB.out.cell (World.block_lt_of_cell? w _ hw313_0)).trans hw313_0)⟩ (fun hHeld=>?_);clear hK K;refine norm_ (a':=?_) ?_ ?_;rotate_left
          ·show Act.put _ (some 16) _ = _;simp only [Act.put,sA,sZ,sS,i64_w,i32_w];rfl
          refine pure_ (i:=3) (N:=some 17) (v:=?_) (a':=?_) (mA 31 15) rfl rfl (any_of HT_.out kR) (fun _ _ _ h=>h) (Or.inl ⟨by rfl,?_⟩) ?_ ?_;rotate_left
          ·intro w';go_simp
           with_reducible rfl
          rotate_left
          ·simp only [Act.put,sA,sZ,sS,i64_w,i32_w];rfl
          refine pure_ (i:=4) (N:=some 18) (v:=?_) (a':=?_) (mA 31 31) rfl rfl (any_of HT_.out kR) (fun _ _ _ h=>h) (Or.inl ⟨by rfl,?_⟩) ?_ ?_;rotate_left
          ·intro w';go_simp
           with_reducible rfl
          rotate_left
          ·simp only [Act.put,sA,sZ,sS,i64_w,i32_w];rfl
          refine pure_ (i:=5) (N:=some 19) (v:=?_) (a':=?_) (mA 31 63) rfl rfl (any_of HT_.out kR) (fun _ _ _ h=>h) (Or.inl ⟨by rfl,?_⟩) ?_ ?_;rotate_left
          ·intro w';go_simp
           with_reducible rfl
          rotate_left
          ·simp only [Act.put,sA,sZ,sS,i64_w,i32_w];rfl
          refine pure_ (i:=6) (N:=some 20) (v:=?_) (a':=?_) (mA 31 127) rfl rfl (any_of HT_.out kR) (fun _ _ _ h=>h) (Or.inl ⟨by rfl,?_⟩) ?_ ?_;rotate_left
          ·intro w';go_simp
           with_reducible rfl
          rotate_left
          ·simp only [Act.put,sA,sZ,sS,i64_w,i32_w];rfl
          refine one_ (i:=7) (N:=some 21) (mA 31 255) rfl rfl (one_of HT_.out kR) (by decide) (fun K hK=>?_);refine goes_ Try.func134 kR rfl #[.int .i64 x11_1,.int .i64 a2] (by rfl) rfl rfl mq ?_
          with_reducible refine (impl_has.calls x11_1 a2 false _ A10.out).mono ?_
          rintro e w' ⟨rfl,⟨nd,rfl⟩⟩
          refine ⟨_,rfl,?_⟩;refine hK.out _ _ ⟨(blk_cell BK310.out 0).trans rfl,(blk_cell BK310.out 1).trans rfl,((HB.out.cell (World.block_lt_of_cell? w _ hw313_0)).trans hw313_0)⟩ (fun hHeld=>?_);clear hK K;refine norm_ (a':=?_) ?_ ?_;rotate_left
          ·show Act.put _ (some 21) _ = _;simp only [Act.put,sA,sZ,sS,i64_w,i32_w];rfl
          refine pure_ (i:=8) (N:=some 22) (v:=?_) (a':=?_) (mA 31 511) rfl rfl (any_of HT_.out kR) (fun _ _ _ h=>h) (Or.inl ⟨by rfl,?_⟩) ?_ ?_;rotate_left
          ·intro w';go_simp
           with_reducible rfl
          rotate_left
          ·simp only [Act.put,sA,sZ,sS,i64_w,i32_w];rfl
          refine pure_ (i:=9) (N:=some 23) (v:=?_) (a':=?_) (mA 31 1023) rfl rfl (any_of HT_.out kR) (fun _ _ _ h=>h) (Or.inl ⟨by rfl,?_⟩) ?_ ?_;rotate_left
          ·intro w';go_simp
           with_reducible rfl
          rotate_left
          ·simp only [Act.put,sA,sZ,sS,i64_w,i32_w];rfl
          refine pure_ (i:=10) (N:=some 24) (v:=?_) (a':=?_) (mA 31 2047) rfl rfl (any_of HT_.out kR) (fun _ _ _ h=>h) (Or.inl ⟨by rfl,?_⟩) ?_ ?_;rotate_left
          ·intro w';go_simp
           with_reducible rfl
          rotate_left
          ·simp only [Act.put,sA,sZ,sS,i64_w,i32_w];rfl
          refine pure_ (i:=11) (N:=some 25) (v:=?_) (a':=?_) (mA 31 4095) rfl rfl (any_of HT_.out kR) (fun _ _ _ h=>h) (Or.inl ⟨by rfl,?_⟩) ?_ ?_;rotate_left
          ·intro w';go_simp
           with_reducible rfl
          rotate_left
          ·simp only [Act.put,sA,sZ,sS,i64_w,i32_w];rfl
          refine pure_ (i:=13) (N:=some 27) (v:=?_) (a':=?_) (mA 31 12287) rfl rfl (any_of HT_.out kR) (fun _ _ _ h=>h) (Or.inl ⟨by rfl,?_⟩) ?_ ?_;rotate_left
          ·intro w';go_simp
           with_reducible rfl
          rotate_left
          ·simp only [Act.put,sA,sZ,sS,i64_w,i32_w];rfl
          refine pure_ (i:=14) (N:=some 28) (v:=?_) (a':=?_) (mA 31 28671) rfl rfl (any_of HT_.out kR) (fun _ _ _ h=>h) (Or.inl ⟨by rfl,?_⟩) ?_ ?_;rotate_left
          ·intro w';go_simp
           with_reducible rfl
          rotate_left
          ·simp only [Act.put,sA,sZ,sS,i64_w,i32_w];rfl
          refine pure_ (i:=15) (N:=some 29) (v:=?_) (a':=?_) (mA 31 61439) rfl rfl (any_of HT_.out kR) (fun _ _ _ h=>h) (Or.inl ⟨by rfl,?_⟩) ?_ ?_;rotate_left
          ·intro w';go_simp
           with_reducible rfl
          rotate_left
          ·simp only [Act.put,sA,sZ,sS,i64_w,i32_w];rfl
          refine pure_ (i:=16) (N:=some 30) (v:=?_) (a':=?_) (mA 31 126975) rfl rfl (any_of HT_.out kR) (fun _ _ _ h=>h) (Or.inl ⟨by rfl,?_⟩) ?_ ?_;rotate_left
          ·intro w';go_simp
           with_reducible rfl
          rotate_left
          ·simp only [Act.put,sA,sZ,sS,i64_w,i32_w];rfl
          refine take_ (i:=12) (N:=some 26) (v:=?_) (a':=?_) (mA 31 131071) rfl rfl (take_ofW HT_.out HW_.out kR) (fun _ _ _ h=>h) (Or.inl ⟨by rfl,?_⟩) hHeld ?_ ?_;rotate_left
          ·rintro w' ⟨s0,s1,s2⟩
           go_simp
           with_reducible rfl
          rotate_left
          ·simp only [Act.put,sA,sZ,sS,i64_w,i32_w];rfl
          refine pure_ (i:=17) (N:=some 31) (v:=?_) (a':=?_) (mA 31 262143) rfl rfl (any_of HT_.out kR) (fun _ _ _ h=>h) (Or.inl ⟨by rfl,?_⟩) ?_ ?_;rotate_left
          ·intro w';go_simp
           with_reducible rfl
          rotate_left
          ·simp only [Act.put,sA,sZ,sS,i64_w,i32_w];rfl
          refine take_ (i:=18) (N:=some 32) (v:=?_) (a':=?_) (mA 31 524287) rfl rfl (take_ofW HT_.out HW_.out kR) (fun _ _ _ h=>h) (Or.inl ⟨by rfl,?_⟩) hHeld ?_ ?_;rotate_left
          ·rintro w' ⟨s0,s1,s2⟩
           go_simp
           with_reducible rfl
          rotate_left
          ·simp only [Act.put,sA,sZ,sS,i64_w,i32_w];rfl
          refine pure_ (i:=19) (N:=some 33) (v:=?_) (a':=?_) (mA 31 1048575) rfl rfl (any_of HT_.out kR) (fun _ _ _ h=>h) (Or.inl ⟨by rfl,?_⟩) ?_ ?_;rotate_left
          ·intro w';go_simp
           with_reducible rfl
          rotate_left
          ·simp only [Act.put,sA,sZ,sS,i64_w,i32_w];rfl
          refine pure_ (i:=20) (N:=some 34) (v:=?_) (a':=?_) (mA 31 2097151) rfl rfl (any_of HT_.out kR) (fun _ _ _ h=>h) (Or.inl ⟨by rfl,?_⟩) ?_ ?_;rotate_left
          ·intro w';go_simp
           with_reducible rfl
          rotate_left
          ·simp only [Act.put,sA,sZ,sS,i64_w,i32_w];rfl
          refine pure_ (i:=21) (N:=some 35) (v:=undef) (a':=?_) (mA 31 4194303) rfl rfl (any_of HT_.out kR) (fun _ _ _ h=>h) (Or.inr ⟨by rfl,rfl⟩) ?_ ?_;rotate_left
          ·simp only [Act.put,sA,sZ,sS,i64_w,i32_w];rfl
          refine pure_ (i:=22) (N:=some 36) (v:=undef) (a':=?_) (mA 31 8388607) rfl rfl (any_of HT_.out kR) (fun _ _ _ h=>h) (Or.inr ⟨by rfl,rfl⟩) ?_ ?_;rotate_left
          ·simp only [Act.put,sA,sZ,sS,i64_w,i32_w];rfl
          refine pure_ (i:=23) (N:=some 37) (v:=undef) (a':=?_) (mA 31 16777215) rfl rfl (any_of HT_.out kR) (fun _ _ _ h=>h) (Or.inr ⟨by rfl,rfl⟩) ?_ ?_;rotate_left
          ·simp only [Act.put,sA,sZ,sS,i64_w,i32_w];rfl
          refine pure_ (i:=24) (N:=some 38) (v:=undef) (a':=?_) (mA 31 33554431) rfl rfl (any_of HT_.out kR) (fun _ _ _ h=>h) (Or.inr ⟨by rfl,rfl⟩) ?_ ?_;rotate_left
          ·simp only [Act.put,sA,sZ,sS,i64_w,i32_w];rfl
          refine pure_ (i:=25) (N:=some 39) (v:=undef) (a':=?_) (mA 31 67108863) rfl rfl (any_of HT_.out kR) (fun _ _ _ h=>h) (Or.inr ⟨by rfl,rfl⟩) ?_ ?_;rotate_left
          ·simp only [Act.put,sA,sZ,sS,i64_w,i32_w];rfl
          refine pure_ (i:=26) (N:=some 40) (v:=undef) (a':=?_) (mA 31 134217727) rfl rfl (any_of HT_.out kR) (fun _ _ _ h=>h) (Or.inr ⟨by rfl,rfl⟩) ?_ ?_;rotate_left
          ·simp only [Act.put,sA,sZ,sS,i64_w,i32_w];rfl
          refine pure_ (i:=27) (N:=some 41) (v:=undef) (a':=?_) (mA 31 268435455) rfl rfl (any_of HT_.out kR) (fun _ _ _ h=>h) (Or.inr ⟨by rfl,rfl⟩) ?_ ?_;rotate_left
          ·simp only [Act.put,sA,sZ,sS,i64_w,i32_w];rfl
          refine pure_ (i:=28) (N:=some 42) (v:=undef) (a':=?_) (mA 31 536870911) rfl rfl (any_of HT_.out kR) (fun _ _ _ h=>h) (Or.inr ⟨by rfl,rfl⟩) ?_ ?_;rotate_left
          ·simp only [Act.put,sA,sZ,sS,i64_w,i32_w];rfl
          refine pure_ (i:=29) (N:=some 43) (v:=undef) (a':=?_) (mA 31 1073741823) rfl rfl (any_of HT_.out kR) (fun _ _ _ h=>h) (Or.inr ⟨by rfl,rfl⟩) ?_ ?_;rotate_left
          ·simp only [Act.put,sA,sZ,sS,i64_w,i32_w];rfl
          refine pure_ (i:=30) (N:=some 44) (v:=?_) (a':=?_) (mA 31 2147483647) rfl rfl (any_of HT_.out kR) (fun _ _ _ h=>h) (Or.inl ⟨by rfl,?_⟩) ?_ ?_;rotate_left
          ·intro w';go_simp
           with_reducible rfl
          rotate_left
          ·simp only [Act.put,sA,sZ,sS,i64_w,i32_w];rfl
          refine done_ (done_of HT_.out kR) ?_
          try go_wp2
          go_roundg k1
          case measure=>have:=HK1.out;omega
          case rel=>exact ⟨(wrap64 (x11_1 + 1)),qrs,H',⟨by have:=HK1.out;omega⟩,⟨by (with_reducible repeat (first|refine blk_drewN ?_ _|refine blk_drew ?_|refine blk_alloc ?_ _));exact BK310.out⟩,⟨by exact bw⟩⟩
        ·rw [if_neg c16] at H;exact absurd H (by simp)
       ·rw [if_neg c15] at H;exact absurd H (by simp)
      ·rw [if_neg c13] at H;exact absurd H (by simp)
   ·rw [if_neg c6] at H;have c6b0:decide (x11_1 < (l0_1.length:Int)) = false:=decide_eq_false c6;clear c6;obtain rfl:=Option.some.inj H;go_wp2
    go_ret
    exact ⟨by first|rfl|(simp [errW_none,errW_some] <;> rfl)|(simp [*,errW_none,errW_some] <;> rfl),by exact bw⟩


/-! ### impl_votes_isComplete: function 92 -/
mutual
def impl_votes_isComplete.l0:Nat → Int → Int → Int → List Bool → Option (Bool)
 | 0,_,_,_,_=>none
 | k + 1,x6,x7,x316000,x316001=>if x7 < x6 then (impl_votes_isComplete.l1 k x7 x6 x7 x7 0 x316000 x316001) else (some true)
def impl_votes_isComplete.l1:Nat → Int → Int → Int → Int → Int → Int → List Bool → Option (Bool)
 | 0,_,_,_,_,_,_,_=>none
 | k + 1,x3,x6,x7,x10,x11,x316000,x316001=>if x11 < x10 then ((impl_votes_isWorth.f k x316000 x316001 x3 x11).bind fun t316=>(if t316 = true then (impl_votes_isComplete.l1 k x3 x6 x7 x10 (wrap64 (x11 + 1)) x316000 x316001) else ((impl_votes_isWorth.f k x316000 x316001 x11 x3).bind fun t317=>(if t317 = true then (impl_votes_isComplete.l1 k x3 x6 x7 x10 (wrap64 (x11 + 1)) x316000 x316001) else (some false))))) else (impl_votes_isComplete.l0 k x6 (wrap64 (x7 + 1)) x316000 x316001)
end
def impl_votes_isComplete.f (k:Nat) (a0_0:Int) (l0_1:List Bool):Option (Bool):=impl_votes_isComplete.l0 k a0_0 0 a0_0 l0_1
theorem impl_votes_isComplete.mono_l:∀ k,(∀ y0 y1 y2 y3,LeO (impl_votes_isComplete.l0 k y0 y1 y2 y3) (impl_votes_isComplete.l0 (k + 1) y0 y1 y2 y3)) ∧ (∀ y0 y1 y2 y3 y4 y5 y6,LeO (impl_votes_isComplete.l1 k y0 y1 y2 y3 y4 y5 y6) (impl_votes_isComplete.l1 (k + 1) y0 y1 y2 y3 y4 y5 y6))
 | 0=>⟨fun _ _ _ _ r h=>by simp [impl_votes_isComplete.l0] at h,fun _ _ _ _ _ _ _ r h=>by simp [impl_votes_isComplete.l1] at h⟩
 | k + 1=>by
  obtain ⟨ih0,ih1⟩:=impl_votes_isComplete.mono_l k;refine ⟨?_,?_⟩
  ·intro y0 y1 y2 y3;unfold impl_votes_isComplete.l0
   repeat' with_reducible first|exact ih0 _ _ _ _|exact ih1 _ _ _ _ _ _ _|exact impl_votes_isWorth.mono _ _ _ _ _|exact LeO.refl _|exact LeO.none _|refine LeO.ite ?_ ?_|refine LeO.bind ?_ (fun _=>?_)
  ·intro y0 y1 y2 y3 y4 y5 y6;unfold impl_votes_isComplete.l1
   repeat' with_reducible first|exact ih0 _ _ _ _|exact ih1 _ _ _ _ _ _ _|exact impl_votes_isWorth.mono _ _ _ _ _|exact LeO.refl _|exact LeO.none _|refine LeO.ite ?_ ?_|refine LeO.bind ?_ (fun _=>?_)
theorem impl_votes_isComplete.mono:∀ a0 a1 k,LeO (impl_votes_isComplete.f k a0 a1) (impl_votes_isComplete.f (k + 1) a0 a1):=by
 intro a0 a1 k;obtain ⟨ih0,ih1⟩:=impl_votes_isComplete.mono_l k;unfold impl_votes_isComplete.f
 repeat' with_reducible first|exact ih0 _ _ _ _|exact ih1 _ _ _ _ _ _ _|exact impl_votes_isWorth.mono _ _ _ _ _|exact LeO.refl _|exact LeO.none _|refine LeO.ite ?_ ?_|refine LeO.bind ?_ (fun _=>?_)
set_option maxHeartbeats 8000000 in
set_option maxRecDepth 100000 in
theorem impl_votes_isComplete.calls (k:Nat) (a0_0:Int) (A0_1:Option Addr) (c0_1:Nat) (l0_1:List Bool) (r:Bool) (w:World) (hr0_1:Kd.C Kd.bool w A0_1 l0_1.length l0_1) (hc0_1:l0_1.length ≤ c0_1) (h:impl_votes_isComplete.f k a0_0 l0_1 = some r) :
  Calls Try.prog 92 #[.agg #[.int .i64 a0_0,.slice A0_1 l0_1.length c0_1]] w fun e w'=>e = .returned (.bool r) ∧ Below w.heap.size w w':=by
 have hu68:=Try.underlying68;have HR0_1:=aM hr0_1;have HC0_1:=aM hc0_1;clear hr0_1 hc0_1;have HB:=aM (Below.refl w.heap.size w);have H:(impl_votes_isComplete.l0 k a0_0 0 a0_0 l0_1) = some r:=h;clear h;have H':=aM H;clear H;go_enter Try.func92,Try.ntmps92;go_wp2_with (first|((with_reducible refine gate_dst (N:=1) rfl ?_);refine box_event ?hg (N:=1) ?hd (cs:=#[.int .i64 a0_0,.slice A0_1 l0_1.length c0_1]) (t:=68) ?hr ?_;(case hd=>rfl);(case hg=>rfl);(case hr=>first|(go_simp;done)|(go_simp;rfl));intro gb315 hg w2 hbox hb;have n0_:=aM (below_step bw hb);have n1_:=aM (hbox);have n2_:=aM ((by rw [hg];exact (below_size bw):w.heap.size ≤ gb315));have n3_:=aM ((by rw [hg];exact (below_size bw):w.heap.size ≤ gb315));clear HB;have HB:=n0_;have BK315:=n1_;have GW315:=n2_;have GE315:=n3_;clear n0_ n1_ n2_ n3_;clear hb hbox hg;have hcz3_0:w2.cell? ⟨gb315,0,none⟩ = some (.int .i64 a0_0):=(blk_cell BK315.out 0).trans rfl;have hcz3_1:w2.cell? ⟨gb315,1,none⟩ = some (.slice A0_1 l0_1.length c0_1):=(blk_cell BK315.out 1).trans rfl;have hfz3_0:=blk_frozen BK315.out 0;have hfz3_1:=blk_frozen BK315.out 1))
 go_loopg [7] k (fun kq v7 w'=>∃ (x7_1:Int),v7 = .int .i64 x7_1 ∧ Aside0 (impl_votes_isComplete.l0 kq a0_0 x7_1 a0_0 l0_1 = some r) ∧ Aside0 (kq ≤ k) ∧ Aside0 (w'.heap[gb315]? = some (.cells #[.int .i64 a0_0,(.slice A0_1 l0_1.length c0_1)] 68 (0,0))) ∧ Aside0 (Below w.heap.size w w'))
 case atStart=>exact ⟨(0),qrs,H',⟨Nat.le_refl _⟩,⟨by (with_reducible repeat (first|refine blk_drewN ?_ _|refine blk_drew ?_|refine blk_alloc ?_ _));exact BK315.out⟩,⟨by exact bw⟩⟩
 case round =>
  clear H';(try clear p2);(try clear hcz3_0);(try clear hcz3_1);(try clear hfz3_0);(try clear hfz3_1)
  obtain ⟨x7_1,rfl,HA,HK1,BK315,HB⟩:=hrel
  cases gk with
  | zero=>exact absurd HA.out (by simp [impl_votes_isComplete.l0])
  | succ k1 =>
   have H:=HA.out;clear HA;simp only [impl_votes_isComplete.l0] at H;by_cases c4:x7_1 < a0_0
   ·rw [if_pos c4] at H;have c4b0:decide (x7_1 < a0_0) = true:=decide_eq_true c4;clear c4;have H':=aM H;clear H;go_wp2
    go_loopg [11] k1 (fun kq v11 w'=>∃ (x11_2:Int),v11 = .int .i64 x11_2 ∧ Aside0 (impl_votes_isComplete.l1 kq x7_1 a0_0 x7_1 x7_1 x11_2 a0_0 l0_1 = some r) ∧ Aside0 (kq ≤ k1) ∧ Aside0 (w'.heap[gb315]? = some (.cells #[.int .i64 a0_0,(.slice A0_1 l0_1.length c0_1)] 68 (0,0))) ∧ Aside0 (Below w.heap.size w w'))
    case atStart=>exact ⟨(0),qrs,H',⟨Nat.le_refl _⟩,⟨by (with_reducible repeat (first|refine blk_drewN ?_ _|refine blk_drew ?_|refine blk_alloc ?_ _));exact BK315.out⟩,⟨by exact bw⟩⟩
    case round =>
     clear H';(try clear p2);(try clear c4);(try clear c4b0);(try clear hcz3_0);(try clear hcz3_1);(try clear hfz3_0);(try clear hfz3_1);(try clear p2)
     obtain ⟨x11_2,rfl,HA,HK2,BK315,HB⟩:=hrel
     cases gk with
     | zero=>exact absurd HA.out (by simp [impl_votes_isComplete.l1])
     | succ k2 =>
      have H:=HA.out;clear HA;simp only [impl_votes_isComplete.l1] at H;by_cases c5:x11_2 < x7_1
      ·rw [if_pos c5] at H;have c5b0:decide (x11_2 < x7_1) = true:=decide_eq_true c5;clear c5;replace H:=Option.bind_eq_some_iff.mp H;obtain ⟨t316,A60,H⟩:=H;replace H:(if t316 = true then (impl_votes_isComplete.l1 k2 x7_1 a0_0 x7_1 x7_1 (wrap64 (x11_2 + 1)) a0_0 l0_1) else ((impl_votes_isWorth.f k2 a0_0 l0_1 x11_2 x7_1).bind fun t317=>(if t317 = true then (impl_votes_isComplete.l1 k2 x7_1 a0_0 x7_1 x7_1 (wrap64 (x11_2 + 1)) a0_0 l0_1) else (some false)))) = some r:=H;have A6:=aM A60;clear A60;by_cases c7:t316 = true
       ·subst c7;have H1:(impl_votes_isComplete.l1 k2 x7_1 a0_0 x7_1 x7_1 (wrap64 (x11_2 + 1)) a0_0 l0_1) = some r:=by rw [if_pos rfl] at H;exact H
        clear H;have H:=H1;clear H1;have H':=aM H;clear H;have hcz8_0:wr.cell? ⟨gb315,0,none⟩ = some (.int .i64 a0_0):=(blk_cell BK315.out 0).trans rfl;have hcz8_1:wr.cell? ⟨gb315,1,none⟩ = some (.slice A0_1 l0_1.length c0_1):=(blk_cell BK315.out 1).trans rfl;have hfz8_0:=blk_frozen BK315.out 0;have hfz8_1:=blk_frozen BK315.out 1;go_wp2_with (first|((with_reducible refine gate_callee (f:=98) rfl ?_);refine goesL_ (some 17) rfl rfl Try.func98 kR rfl #[.agg #[.int .i64 a0_0,.slice A0_1 l0_1.length c0_1],.int .i64 x7_1,.int .i64 x11_2] rfl mq ?_;(with_reducible refine (impl_votes_isWorth.calls k2 a0_0 _ _ l0_1 x7_1 x11_2 true _ ?side1 ?side2 A6.out).mono ?_);(case side1=>exact qcs HR0_1.out HB.out);(case side2=>exact HC0_1.out);rintro e w9 ⟨rfl,hb⟩;refine ⟨_,rfl,?_⟩;have n0_:=aM (blk_below (g:=gb315) (o:=.cells #[.int .i64 a0_0,.slice A0_1 l0_1.length c0_1] 68 (0,0)) bk hb);have n1_:=aM (below_step bw hb);clear BK315;clear HB;have BK315:=n0_;have HB:=n1_;clear n0_ n1_;(try clear hb);(try clear hb2);(try clear hk);(try clear hi)))
        go_roundg k2
        case measure=>have:=HK1.out;have:=HK2.out;omega
        case rel=>exact ⟨(wrap64 (x11_2 + 1)),qrs,H',⟨by have:=HK1.out;have:=HK2.out;omega⟩,⟨by (with_reducible repeat (first|refine blk_drewN ?_ _|refine blk_drew ?_|refine blk_alloc ?_ _));exact BK315.out⟩,⟨by exact bw⟩⟩
       ·replace c7:=Bool.eq_false_iff.mpr c7;subst c7;have H1:((impl_votes_isWorth.f k2 a0_0 l0_1 x11_2 x7_1).bind fun t317=>(if t317 = true then (impl_votes_isComplete.l1 k2 x7_1 a0_0 x7_1 x7_1 (wrap64 (x11_2 + 1)) a0_0 l0_1) else (some false))) = some r:=by rw [if_neg (show ¬ (false = true) by decide)] at H;exact H
        clear H;have H:=H1;clear H1;replace H:=Option.bind_eq_some_iff.mp H;obtain ⟨t317,A100,H⟩:=H;replace H:(if t317 = true then (impl_votes_isComplete.l1 k2 x7_1 a0_0 x7_1 x7_1 (wrap64 (x11_2 + 1)) a0_0 l0_1) else (some false)) = some r:=H;have A10:=aM A100;clear A100;by_cases c11:t317 = true
        ·subst c11;have H1:(impl_votes_isComplete.l1 k2 x7_1 a0_0 x7_1 x7_1 (wrap64 (x11_2 + 1)) a0_0 l0_1) = some r:=by rw [if_pos rfl] at H;exact H
         clear H;have H:=H1;clear H1;have H':=aM H;clear H;have hcz12_0:wr.cell? ⟨gb315,0,none⟩ = some (.int .i64 a0_0):=(blk_cell BK315.out 0).trans rfl;have hcz12_1:wr.cell? ⟨gb315,1,none⟩ = some (.slice A0_1 l0_1.length c0_1):=(blk_cell BK315.out 1).trans rfl;have hfz12_0:=blk_frozen BK315.out 0;have hfz12_1:=blk_frozen BK315.out 1;go_wp2_with (first|((with_reducible refine gate_callee (f:=98) rfl ?_);refine goesL_ (some 17) rfl rfl Try.func98 kR rfl #[.agg #[.int .i64 a0_0,.slice A0_1 l0_1.length c0_1],.int .i64 x7_1,.int .i64 x11_2] rfl mq ?_;(with_reducible refine (impl_votes_isWorth.calls k2 a0_0 _ _ l0_1 x7_1 x11_2 false _ ?side1 ?side2 A6.out).mono ?_);(case side1=>exact qcs HR0_1.out HB.out);(case side2=>exact HC0_1.out);rintro e w13 ⟨rfl,hb⟩;refine ⟨_,rfl,?_⟩;have n0_:=aM (blk_below (g:=gb315) (o:=.cells #[.int .i64 a0_0,.slice A0_1 l0_1.length c0_1] 68 (0,0)) bk hb);have n1_:=aM (below_step bw hb);clear BK315;clear HB;have BK315:=n0_;have HB:=n1_;clear n0_ n1_;(try clear hb);(try clear hb2);(try clear hk);(try clear hi);have hcz14_0:w13.cell? ⟨gb315,0,none⟩ = some (.int .i64 a0_0):=(blk_cell BK315.out 0).trans rfl;have hcz14_1:w13.cell? ⟨gb315,1,none⟩ = some (.slice A0_1 l0_1.length c0_1):=(blk_cell BK315.out 1).trans rfl;have hfz14_0:=blk_frozen BK315.out 0;have hfz14_1:=blk_frozen BK315.out 1)|(go_at_call 98;(with_reducible refine (impl_votes_isWorth.calls k2 a0_0 _ _ l0_1 x11_2 x7_1 true _ ?side1 ?side2 A10.out).mono ?_);(case side1=>exact qcs HR0_1.out HB.out);(case side2=>exact HC0_1.out);rintro e w15 ⟨rfl,hb⟩;have n0_:=aM (blk_below (g:=gb315) (o:=.cells #[.int .i64 a0_0,.slice A0_1 l0_1.length c0_1] 68 (0,0)) bk hb);have n1_:=aM (below_step bw hb);clear BK315;clear HB;have BK315:=n0_;have HB:=n1_;clear n0_ n1_;(try clear hb);(try clear hb2);(try clear hk);(try clear hi)))
         go_roundg k2
         case measure=>have:=HK1.out;have:=HK2.out;omega
         case rel=>exact ⟨(wrap64 (x11_2 + 1)),qrs,H',⟨by have:=HK1.out;have:=HK2.out;omega⟩,⟨by (with_reducible repeat (first|refine blk_drewN ?_ _|refine blk_drew ?_|refine blk_alloc ?_ _));exact BK315.out⟩,⟨by exact bw⟩⟩
        ·replace c11:=Bool.eq_false_iff.mpr c11;subst c11;have H1:(some false) = some r:=by rw [if_neg (show ¬ (false = true) by decide)] at H;exact H
         clear H;have H:=H1;clear H1;obtain rfl:=Option.some.inj H;have hcz16_0:wr.cell? ⟨gb315,0,none⟩ = some (.int .i64 a0_0):=(blk_cell BK315.out 0).trans rfl;have hcz16_1:wr.cell? ⟨gb315,1,none⟩ = some (.slice A0_1 l0_1.length c0_1):=(blk_cell BK315.out 1).trans rfl;have hfz16_0:=blk_frozen BK315.out 0;have hfz16_1:=blk_frozen BK315.out 1;go_wp2_with (first|((with_reducible refine gate_callee (f:=98) rfl ?_);refine goesL_ (some 17) rfl rfl Try.func98 kR rfl #[.agg #[.int .i64 a0_0,.slice A0_1 l0_1.length c0_1],.int .i64 x7_1,.int .i64 x11_2] rfl mq ?_;(with_reducible refine (impl_votes_isWorth.calls k2 a0_0 _ _ l0_1 x7_1 x11_2 false _ ?side1 ?side2 A6.out).mono ?_);(case side1=>exact qcs HR0_1.out HB.out);(case side2=>exact HC0_1.out);rintro e w17 ⟨rfl,hb⟩;refine ⟨_,rfl,?_⟩;have n0_:=aM (blk_below (g:=gb315) (o:=.cells #[.int .i64 a0_0,.slice A0_1 l0_1.length c0_1] 68 (0,0)) bk hb);have n1_:=aM (below_step bw hb);clear BK315;clear HB;have BK315:=n0_;have HB:=n1_;clear n0_ n1_;(try clear hb);(try clear hb2);(try clear hk);(try clear hi);have hcz18_0:w17.cell? ⟨gb315,0,none⟩ = some (.int .i64 a0_0):=(blk_cell BK315.out 0).trans rfl;have hcz18_1:w17.cell? ⟨gb315,1,none⟩ = some (.slice A0_1 l0_1.length c0_1):=(blk_cell BK315.out 1).trans rfl;have hfz18_0:=blk_frozen BK315.out 0;have hfz18_1:=blk_frozen BK315.out 1)|(go_at_call 98;(with_reducible refine (impl_votes_isWorth.calls k2 a0_0 _ _ l0_1 x11_2 x7_1 false _ ?side1 ?side2 A10.out).mono ?_);(case side1=>exact qcs HR0_1.out HB.out);(case side2=>exact HC0_1.out);rintro e w19 ⟨rfl,hb⟩;have n0_:=aM (blk_below (g:=gb315) (o:=.cells #[.int .i64 a0_0,.slice A0_1 l0_1.length c0_1] 68 (0,0)) bk hb);have n1_:=aM (below_step bw hb);clear BK315;clear HB;have BK315:=n0_;have HB:=n1_;clear n0_ n1_;(try clear hb);(try clear hb2);(try clear hk);(try clear hi)))
         go_ret
         exact ⟨by first|rfl|(simp [errW_none,errW_some] <;> rfl)|(simp [*,errW_none,errW_some] <;> rfl),by exact bw⟩
      ·rw [if_neg c5] at H;have c5b0:decide (x11_2 < x7_1) = false:=decide_eq_false c5;clear c5;have H':=aM H;clear H;go_wp2
       go_roundg k2
       case measure=>have:=HK1.out;have:=HK2.out;omega
       case rel=>exact ⟨(wrap64 (x7_1 + 1)),qrs,H',⟨by have:=HK1.out;have:=HK2.out;omega⟩,⟨by (with_reducible repeat (first|refine blk_drewN ?_ _|refine blk_drew ?_|refine blk_alloc ?_ _));exact BK315.out⟩,⟨by exact bw⟩⟩
   ·rw [if_neg c4] at H;have c4b0:decide (x7_1 < a0_0) = false:=decide_eq_false c4;clear c4;obtain rfl:=Option.some.inj H;go_wp2
    go_ret
    exact ⟨by first|rfl|(simp [errW_none,errW_some] <;> rfl)|(simp [*,errW_none,errW_some] <;> rfl),by exact bw⟩

end Go.Proofs.Ytokelcedamegbaa.P
