/- Part 2 of the texts below the law FnExactCouncilGame. Printed by this session's driver over the kit's printer, but for the hand contracts and the plain laws. -/
import Derived.Test.YtokelcedamegbaaCCouncilGame1
set_option linter.unusedVariables false
set_option linter.unusedSimpArgs false
namespace Go.Proofs.Ytokelcedamegbaa.P
open Go.RowKit Go.Proofs.YtokelcedamegbaaW.PrintWords Go.Proofs.YtokelcedamegbaaW.PrintLast Go.Proofs.YtokelcedamegbaaW.PrintMore
attribute [local go_sem] max2_int min2_int max_two min_two max_three min_three max_four min_four   -- for this text's walks alone
set_option linter.unusedVariables false
set_option linter.unusedSimpArgs false

/-! ### spec_chCouncil: function 85 -/
mutual
def spec_chCouncil.l0:Nat → List (S_impl_Committee) → List Bool → Int → Int → Int → List Int → Option (List Bool)
 | 0,_,_,_,_,_,_=>none
 | k + 1,x1,x5,x18,x19,x1191000,x1191001=>if x19 < x18 then (spec_chCouncil.l1 k x1 x5 x19 x19 0 x18 x19 x1 (x1.length:Int) 0 x1191000 x1191001) else (some x5)
def spec_chCouncil.l1:Nat → List (S_impl_Committee) → List Bool → Int → Int → Int → Int → Int → List (S_impl_Committee) → Int → Int → Int → List Int → Option (List Bool)
 | 0,_,_,_,_,_,_,_,_,_,_,_,_=>none
 | k + 1,x1,x5,x6,x7,x8,x18,x19,x23,x24,x25,x1191000,x1191001=>if x25 < x24 then (if 0 ≤ x25 then (if x25 < (x23.length:Int) then ((spec_voAll.f (((rd_impl_Committee x23 x25).f1).length:Int)).bind fun t1200=>(if (wrap64 (t1200 + 1)) = 0 then (none) else ((spec_voWeight.f k ((rd_impl_Committee x23 x25).f0) ((rd_impl_Committee x23 x25).f1) (Int.tmod x7 (wrap64 (t1200 + 1)))).bind fun t1201=>(if t1201 ≥ ((rd_impl_Committee x23 x25).f0) then (spec_chCouncil.l1 k x1 x5 x6 (wrap64 (Int.tdiv x7 (wrap64 (t1200 + 1)))) (Go.bits .or .i64 x8 (shl .i64 1 x25)) x18 x19 x23 x24 (wrap64 (x25 + 1)) x1191000 x1191001) else (spec_chCouncil.l1 k x1 x5 x6 (wrap64 (Int.tdiv x7 (wrap64 (t1200 + 1)))) x8 x18 x19 x23 x24 (wrap64 (x25 + 1)) x1191000 x1191001))))) else (none)) else (none)) else ((spec_voWeight.f k x1191000 x1191001 x8).bind fun t1196=>(if 0 ≤ x6 then (if x6 < (x5.length:Int) then (spec_chCouncil.l0 k x1 (x5.set (x6:Int).toNat (decide (t1196 ≥ x1191000))) x18 (wrap64 (x19 + 1)) x1191000 x1191001) else (none)) else (none)))
end
def spec_chCouncil.f (k:Nat) (a0_0:Int) (l0_1:List Int) (l1:List (S_impl_Committee)):Option (List Bool):=(spec_chMembers.f k l1).bind fun t1191=>((spec_voAll.f t1191).bind fun t1192=>(if 0 ≤ (wrap64 (t1192 + 1)) then (if (wrap64 (t1192 + 1):Int).toNat ≤ 281474976710656 then ((some (List.replicate (wrap64 (t1192 + 1):Int).toNat false:List Bool)).bind fun y1193=>(spec_chCouncil.l0 k l1 y1193 (y1193.length:Int) 0 a0_0 l0_1)) else (none)) else (none)))
theorem spec_chCouncil.mono_l:∀ k,(∀ y0 y1 y2 y3 y4 y5,LeO (spec_chCouncil.l0 k y0 y1 y2 y3 y4 y5) (spec_chCouncil.l0 (k + 1) y0 y1 y2 y3 y4 y5)) ∧ (∀ y0 y1 y2 y3 y4 y5 y6 y7 y8 y9 y10 y11,LeO (spec_chCouncil.l1 k y0 y1 y2 y3 y4 y5 y6 y7 y8 y9 y10 y11) (spec_chCouncil.l1 (k + 1) y0 y1 y2 y3 y4 y5 y6 y7 y8 y9 y10 y11))
 | 0=>⟨fun _ _ _ _ _ _ r h=>by simp [spec_chCouncil.l0] at h,fun _ _ _ _ _ _ _ _ _ _ _ _ r h=>by simp [spec_chCouncil.l1] at h⟩
 | k + 1=>by
  obtain ⟨ih0,ih1⟩:=spec_chCouncil.mono_l k;refine ⟨?_,?_⟩
  ·intro y0 y1 y2 y3 y4 y5;unfold spec_chCouncil.l0
   repeat' with_reducible first|exact ih0 _ _ _ _ _ _|exact ih1 _ _ _ _ _ _ _ _ _ _ _ _|exact spec_chMembers.mono _ _|exact spec_voWeight.mono _ _ _ _|exact LeO.refl _|exact LeO.none _|refine LeO.ite ?_ ?_|refine LeO.bind ?_ (fun _=>?_)
  ·intro y0 y1 y2 y3 y4 y5 y6 y7 y8 y9 y10 y11;unfold spec_chCouncil.l1
   repeat' with_reducible first|exact ih0 _ _ _ _ _ _|exact ih1 _ _ _ _ _ _ _ _ _ _ _ _|exact spec_chMembers.mono _ _|exact spec_voWeight.mono _ _ _ _|exact LeO.refl _|exact LeO.none _|refine LeO.ite ?_ ?_|refine LeO.bind ?_ (fun _=>?_)
theorem spec_chCouncil.mono:∀ a0 a1 a2 k,LeO (spec_chCouncil.f k a0 a1 a2) (spec_chCouncil.f (k + 1) a0 a1 a2):=by
 intro a0 a1 a2 k;obtain ⟨ih0,ih1⟩:=spec_chCouncil.mono_l k;unfold spec_chCouncil.f
 repeat' with_reducible first|exact ih0 _ _ _ _ _ _|exact ih1 _ _ _ _ _ _ _ _ _ _ _ _|exact spec_chMembers.mono _ _|exact spec_voWeight.mono _ _ _ _|exact LeO.refl _|exact LeO.none _|refine LeO.ite ?_ ?_|refine LeO.bind ?_ (fun _=>?_)
def spec_chCouncil.T10:Bool × List (List Nat × List Nat):=(true,[([],[]),([],[]),([],[]),([1,2],[1,2]),([0,3],[0,3]),([],[]),([5],[5]),([4,6],[4,6])])
def spec_chCouncil.B10:List Nat:=[0,0,0,6,15,0,32,127]
theorem spec_chCouncil.tab10:rtab .any (opsOf Try.f85 10) = spec_chCouncil.T10:=by kernel_rfl
theorem spec_chCouncil.bits10:waitsOk spec_chCouncil.T10.2 spec_chCouncil.B10 = true:=by kernel_rfl
def spec_chCouncil.T14:Bool × List (List Nat × List Nat):=(true,[([],[]),([],[]),([],[]),([],[]),([2,3],[2,3]),([],[]),([5],[5]),([4,6],[4,6]),([0,1,0,1,2,3,4,5,6,7],[0,1]),([8,7,4,0,1,2,3,4,5,6,7],[7,8])])
def spec_chCouncil.B14:List Nat:=[0,0,0,0,12,0,32,124,255,511]
theorem spec_chCouncil.tab14:rtab .any (opsOf Try.f85 14) = spec_chCouncil.T14:=by kernel_rfl
theorem spec_chCouncil.bits14:waitsOk spec_chCouncil.T14.2 spec_chCouncil.B14 = true:=by kernel_rfl
set_option maxHeartbeats 8000000 in
set_option maxRecDepth 100000 in
theorem spec_chCouncil.calls (k:Nat) (a0_0:Int) (A0_1:Option Addr) (c0_1:Nat) (l0_1:List Int) (A1:Option Addr) (c1:Nat) (l1:List (S_impl_Committee)) (r:List Bool) (w:World) (hr0_1:Kd.C (Kd.int .i64) w A0_1 l0_1.length l0_1) (hc0_1:l0_1.length ≤ c0_1) (hr1:Kd.C k_impl_Committee w A1 l1.length l1) (hc1:l1.length ≤ c1) (h:spec_chCouncil.f k a0_0 l0_1 l1 = some r) :
  Calls Try.prog 85 #[.agg #[.int .i64 a0_0,.slice A0_1 l0_1.length c0_1],.slice A1 l1.length c1] w fun e w'=>∃ v0_:Value,e = .returned (v0_) ∧ Kd.R Kd.bool 4 w' w.heap.size (fun _=>True) v0_ r ∧ Below w.heap.size w w':=by
 have hu46:=Try.underlying46;have HR0_1:=Aside0.mk hr0_1;have HC0_1:=Aside0.mk hc0_1;clear hr0_1 hc0_1;have HR1:=Aside0.mk hr1;have HC1:=Aside0.mk hc1;clear hr1 hc1;have HB:=Aside0.mk (Below.refl w.heap.size w);have H:((spec_chMembers.f k l1).bind fun t1191=>((spec_voAll.f t1191).bind fun t1192=>(if 0 ≤ (wrap64 (t1192 + 1)) then (if (wrap64 (t1192 + 1):Int).toNat ≤ 281474976710656 then ((some (List.replicate (wrap64 (t1192 + 1):Int).toNat false:List Bool)).bind fun y1193=>(spec_chCouncil.l0 k l1 y1193 (y1193.length:Int) 0 a0_0 l0_1)) else (none)) else (none)))) = some r:=h;clear h;replace H:=Option.bind_eq_some_iff.mp H;obtain ⟨t1191,A30,H⟩:=H;replace H:((spec_voAll.f t1191).bind fun t1192=>(if 0 ≤ (wrap64 (t1192 + 1)) then (if (wrap64 (t1192 + 1):Int).toNat ≤ 281474976710656 then ((some (List.replicate (wrap64 (t1192 + 1):Int).toNat false:List Bool)).bind fun y1193=>(spec_chCouncil.l0 k l1 y1193 (y1193.length:Int) 0 a0_0 l0_1)) else (none)) else (none))) = some r:=H;have A3:=Aside0.mk A30;clear A30;replace H:=Option.bind_eq_some_iff.mp H;obtain ⟨t1192,A40,H⟩:=H;replace H:(if 0 ≤ (wrap64 (t1192 + 1)) then (if (wrap64 (t1192 + 1):Int).toNat ≤ 281474976710656 then ((some (List.replicate (wrap64 (t1192 + 1):Int).toNat false:List Bool)).bind fun y1193=>(spec_chCouncil.l0 k l1 y1193 (y1193.length:Int) 0 a0_0 l0_1)) else (none)) else (none)) = some r:=H;have A4:=Aside0.mk A40;clear A40;obtain ⟨ji5,hji5⟩:∃ j_:Int,(wrap64 (t1192 + 1)) = j_:=⟨_,rfl⟩;replace H:(if 0 ≤ (ji5) then (if (ji5:Int).toNat ≤ 281474976710656 then ((some (List.replicate (ji5:Int).toNat false:List Bool)).bind fun y1193=>(spec_chCouncil.l0 k l1 y1193 (y1193.length:Int) 0 a0_0 l0_1)) else (none)) else (none)) = some r:=by first|(rw [hji5] at H;exact H)|(simp only [hji5] at H ⊢;exact H)
 (try rw [hji5] at A3)
 (try rw [hji5] at A4)
 have hji5w:(IntKind.i64.wrap (t1192 + 1)) = ji5:=(i64_w _).trans hji5;by_cases c6:0 ≤ (ji5)
 ·rw [if_pos c6] at H;have c6b0:=eq_true c6;have c6b1:decide (0 ≤ (ji5)) = true:=decide_eq_true c6;clear c6;by_cases c7:(ji5:Int).toNat ≤ 281474976710656
  ·rw [if_pos c7] at H;have c7b0:=eq_true c7;have c7b1:decide ((ji5:Int).toNat ≤ 281474976710656) = true:=decide_eq_true c7;clear c7;obtain ⟨y1193,hy1193⟩:∃ y_:List Bool,y_ = (List.replicate (ji5:Int).toNat false):=⟨_,rfl⟩;replace H:(spec_chCouncil.l0 k l1 y1193 (y1193.length:Int) 0 a0_0 l0_1) = some r:=by first|(rw [hy1193];with_reducible exact H)|(have H2_:=(Option.bind_some _ _).symm.trans H;rw [hy1193];with_reducible exact H2_)|(have H2_:=(Option.bind_some _ _).symm.trans H;with_reducible exact H2_)|with_reducible exact H|(rw [hy1193];exact H)|exact H
   have Ny1193:=Aside0.mk hy1193;clear hy1193;have H':=Aside0.mk H;clear H;go_enter Try.func85,Try.ntmps85;go_wp2_with (first|((with_reducible refine gate_dst (N:=2) rfl ?_);refine box_event ?hg (N:=2) ?hd (cs:=#[.int .i64 a0_0,.slice A0_1 l0_1.length c0_1]) (t:=46) ?hr ?_;(case hd=>rfl);(case hg=>rfl);(case hr=>first|(go_simp;done)|(go_simp;rfl));intro gb1190 hg w8 hbox hb;have n0_:=Aside0.mk (below_step bw hb);have n1_:=Aside0.mk (hbox);have n2_:=Aside0.mk ((by rw [hg];exact (below_size bw):w.heap.size ≤ gb1190));have n3_:=Aside0.mk ((by rw [hg];exact (below_size bw):w.heap.size ≤ gb1190));clear HB;have HB:=n0_;have BK1190:=n1_;have GW1190:=n2_;have GE1190:=n3_;clear n0_ n1_ n2_ n3_;clear hb hbox hg)|((with_reducible refine gate_callee (f:=84) rfl ?_);refine goesL_ (some 13) rfl rfl Try.func84 (by kernel_rfl) rfl #[.slice A1 l1.length c1] rfl mq ?_;(with_reducible refine (spec_chMembers.calls k _ _ l1 t1191 _ ?side1 ?side2 A3.out).mono ?_);(case side1=>repeat (first|exact (Kd.C_below HR1.out HB.out)|(with_reducible refine Kd.C_alloc ?_ _)|(with_reducible refine Kd.C_drewN ?_ _)|(with_reducible refine Kd.C_drew ?_)));(case side2=>exact HC1.out);rintro e w9 ⟨rfl,hb⟩;refine ⟨_,rfl,?_⟩;have n0_:=Aside0.mk (blk_below (g:=gb1190) (o:=.cells #[.int .i64 a0_0,.slice A0_1 l0_1.length c0_1] 46 (0,0)) bk hb);have n1_:=Aside0.mk (below_step bw hb);clear BK1190;clear HB;have BK1190:=n0_;have HB:=n1_;clear n0_ n1_;(try clear hb);(try clear hb2);(try clear hk);(try clear hi))|((with_reducible refine gate_callee (f:=105) rfl ?_);refine goesL_ (some 14) rfl rfl Try.func105 (by kernel_rfl) rfl #[.int .i64 t1191] rfl mq ?_;(with_reducible refine (spec_voAll.calls t1191 t1192 _ A4.out).mono ?_);rintro e w' ⟨rfl,⟨nd,rfl⟩⟩;refine ⟨_,rfl,?_⟩)|((with_reducible refine gate_dst (N:=16) rfl ?_);refine Kd.R_make Kd.bool _ 4 rfl (N:=16) rfl 63 _ _ rfl ji5 rfl rfl Try.underlying63 (.bool false) 1 info4 rfl (by decide) (by omega) false (ok:=fun _=>True) (okp:=fun _=>True) rfl (fun _ hk=>hk) trivial (of_decide_eq_true ab) (Nat.le_trans (Nat.mul_le_mul_right _ (of_decide_eq_true ab:ji5.toNat ≤ 281474976710656)) (by omega)) (Below.refl _ _) (Nat.le_refl _) ?_;intro v1194 w10 ho11 hb hg_ hnew_;clear hg_ hnew_;(first|rw [← Ny1193.out] at ho11|(simp only [Int.reduceToNat] at ho11;rw [← Ny1193.out] at ho11));have n0_:=Aside0.mk (Kd.R_lower ho11 (below_size bw));have n1_:=Aside0.mk (blk_below (g:=gb1190) (o:=.cells #[.int .i64 a0_0,.slice A0_1 l0_1.length c0_1] 46 (0,0)) bk hb);have n2_:=Aside0.mk (below_step bw hb);clear BK1190;clear HB;have HO1195:=n0_;have BK1190:=n1_;have HB:=n2_;clear n0_ n1_ n2_;clear hb ho11;obtain ⟨Ao12,co12,eo12⟩:=Kd.R_slice HO1195.out;subst eo12))
   go_loopg [19] k (fun kq v19 w'=>∃ (x5_1:List Bool) (x19_1:Int),v19 = .int .i64 x19_1 ∧ Aside0 (spec_chCouncil.l0 kq l1 x5_1 (y1193.length:Int) x19_1 a0_0 l0_1 = some r) ∧ Aside0 (kq ≤ k) ∧ Aside0 (Kd.R Kd.bool 4 w' w.heap.size (fun _=>True) (.slice Ao12 y1193.length co12) x5_1) ∧ Aside0 (w'.heap[gb1190]? = some (.cells #[.int .i64 a0_0,(.slice A0_1 l0_1.length c0_1)] 46 (0,0))) ∧ Aside0 (Below w.heap.size w w'))
   case atStart=>exact ⟨(y1193),(0),(by first|rfl|(simp;done)|(simp [*];done)),H',⟨Nat.le_refl _⟩,⟨by (with_reducible repeat (first|apply Kd.R_alloc|apply Kd.R_drewN|apply Kd.R_drew));exact HO1195.out⟩,⟨by (with_reducible repeat (first|refine blk_drewN ?_ _|refine blk_drew ?_|refine blk_alloc ?_ _));exact BK1190.out⟩,⟨by repeat (first|(with_reducible first|exact HB.out|apply below_alloc|apply pw_below_drewN|apply below_drew1|refine below_set ?_ GE1190.out)|exact HB.out)⟩⟩
   case round =>
    clear H'
    try clear c1
    try clear p2
    try clear c6
    try clear c6b0
    try clear c6b1
    try clear p6
    try clear c7
    try clear c7b0
    try clear c7b1
    try clear c8
    try clear c10
    obtain ⟨x5_1,x19_1,rfl,HA,HK1,HO_5,BK1190,HB⟩:=hrel;have hl5_1:=(Kd.R_reads' HO_5.out).1;rw [hl5_1] at HO_5;(try simp only [hl5_1])
    (try simp only [hl5_1] at BK1190)
    cases gk with
    | zero=>exact absurd HA.out (by simp [spec_chCouncil.l0])
    | succ k1 =>
     have H:=HA.out;clear HA;simp only [spec_chCouncil.l0] at H;by_cases c13:x19_1 < (y1193.length:Int)
     ·rw [if_pos c13] at H;have c13b0:decide (x19_1 < (y1193.length:Int)) = true:=decide_eq_true c13;(try simp only [hl5_1] at c13b0)
      clear c13;have H':=Aside0.mk H;clear H;go_wp2
      go_loopg [7,8,25] k1 (fun kq v7 v8 v25 w'=>∃ (x7_2:Int) (x8_2:Int) (x25_2:Int),v7 = .int .i64 x7_2 ∧ v8 = .int .i64 x8_2 ∧ v25 = .int .i64 x25_2 ∧ Aside0 (spec_chCouncil.l1 kq l1 x5_1 x19_1 x7_2 x8_2 (y1193.length:Int) x19_1 l1 (l1.length:Int) x25_2 a0_0 l0_1 = some r) ∧ Aside0 (kq ≤ k1) ∧ Aside0 (Kd.R Kd.bool 4 w' w.heap.size (fun _=>True) (.slice Ao12 x5_1.length co12) x5_1) ∧ Aside0 (w'.heap[gb1190]? = some (.cells #[.int .i64 a0_0,(.slice A0_1 l0_1.length c0_1)] 46 (0,0))) ∧ Aside0 (Below w.heap.size w w'))
      case atStart=>exact ⟨(x19_1),(0),(0),(by first|rfl|(simp;done)|(simp [*];done)),(by first|rfl|(simp;done)|(simp [*];done)),(by first|rfl|(simp;done)|(simp [*];done)),H',⟨Nat.le_refl _⟩,⟨by (try simp only [hl5_1]);(with_reducible repeat (first|apply Kd.R_alloc|apply Kd.R_drewN|apply Kd.R_drew));exact HO_5.out⟩,⟨by (try simp only [hl5_1]);(with_reducible repeat (first|refine blk_drewN ?_ _|refine blk_drew ?_|refine blk_alloc ?_ _));exact BK1190.out⟩,⟨by repeat (first|(with_reducible first|exact HB.out|apply below_alloc|apply pw_below_drewN|apply below_drew1|refine below_set ?_ GE1190.out)|exact HB.out)⟩⟩
      case round =>
       clear H'
       try clear c1
       try clear p2
       try clear c6
       try clear c6b0
       try clear c6b1
       try clear p6
       try clear c7
       try clear c7b0
       try clear c7b1
       try clear c8
       try clear c10
       try clear c13
       try clear c13b0
       try clear p2
       try clear p6
       obtain ⟨x7_2,x8_2,x25_2,rfl,rfl,rfl,HA,HK2,HO_5,BK1190,HB⟩:=hrel
       cases gk with
       | zero=>exact absurd HA.out (by simp [spec_chCouncil.l1])
       | succ k2 =>
        have H:=HA.out;clear HA;simp only [spec_chCouncil.l1] at H;by_cases c14:x25_2 < (l1.length:Int)
        ·rw [if_pos c14] at H;have c14b0:decide (x25_2 < (l1.length:Int)) = true:=decide_eq_true c14;(try simp only [hl5_1] at c14b0)
         clear c14;by_cases c15:0 ≤ x25_2
         ·rw [if_pos c15] at H;have c15b0:decide (0 ≤ x25_2) = true:=decide_eq_true c15;clear c15;by_cases c16:x25_2 < (l1.length:Int)
          ·rw [if_pos c16] at H;have c16b0:decide (x25_2 < (l1.length:Int)) = true:=decide_eq_true c16;(try simp only [hl5_1] at c16b0)
           clear c16;replace H:=Option.bind_eq_some_iff.mp H;obtain ⟨t1200,A170,H⟩:=H;replace H:(if (wrap64 (t1200 + 1)) = 0 then (none) else ((spec_voWeight.f k2 ((rd_impl_Committee l1 x25_2).f0) ((rd_impl_Committee l1 x25_2).f1) (Int.tmod x7_2 (wrap64 (t1200 + 1)))).bind fun t1201=>(if t1201 ≥ ((rd_impl_Committee l1 x25_2).f0) then (spec_chCouncil.l1 k2 l1 x5_1 x19_1 (wrap64 (Int.tdiv x7_2 (wrap64 (t1200 + 1)))) (Go.bits .or .i64 x8_2 (shl .i64 1 x25_2)) (y1193.length:Int) x19_1 l1 (l1.length:Int) (wrap64 (x25_2 + 1)) a0_0 l0_1) else (spec_chCouncil.l1 k2 l1 x5_1 x19_1 (wrap64 (Int.tdiv x7_2 (wrap64 (t1200 + 1)))) x8_2 (y1193.length:Int) x19_1 l1 (l1.length:Int) (wrap64 (x25_2 + 1)) a0_0 l0_1)))) = some r:=H;have A17:=Aside0.mk A170;clear A170;by_cases c18:(wrap64 (t1200 + 1)) = 0
           ·rw [if_pos c18] at H;exact absurd H (by simp)
           ·rw [if_neg c18] at H;have c18b0:((wrap64 (t1200 + 1)) == 0) = false:=beq_eq_false_iff_ne.mpr c18;have c18b1:((wrap64 (t1200 + 1)) != 0) = true:=bne_iff_ne.mpr c18;replace H:=Option.bind_eq_some_iff.mp H;obtain ⟨t1201,A190,H⟩:=H;replace H:(if t1201 ≥ ((rd_impl_Committee l1 x25_2).f0) then (spec_chCouncil.l1 k2 l1 x5_1 x19_1 (wrap64 (Int.tdiv x7_2 (wrap64 (t1200 + 1)))) (Go.bits .or .i64 x8_2 (shl .i64 1 x25_2)) (y1193.length:Int) x19_1 l1 (l1.length:Int) (wrap64 (x25_2 + 1)) a0_0 l0_1) else (spec_chCouncil.l1 k2 l1 x5_1 x19_1 (wrap64 (Int.tdiv x7_2 (wrap64 (t1200 + 1)))) x8_2 (y1193.length:Int) x19_1 l1 (l1.length:Int) (wrap64 (x25_2 + 1)) a0_0 l0_1)) = some r:=H;have A19:=Aside0.mk A190;clear A190;by_cases c20:t1201 ≥ ((rd_impl_Committee l1 x25_2).f0)
            ·rw [if_pos c20] at H;have c20b0:decide (((rd_impl_Committee l1 x25_2).f0) ≤ t1201) = true:=decide_eq_true c20;clear c20;have c21b0:=eq_true (of_decide_eq_true ab:0 ≤ x25_2);obtain ⟨ji22,hji22⟩:∃ j_:Int,(shl .i64 1 x25_2) = j_:=⟨_,rfl⟩;replace H:(spec_chCouncil.l1 k2 l1 x5_1 x19_1 (wrap64 (Int.tdiv x7_2 (wrap64 (t1200 + 1)))) (Go.bits .or .i64 x8_2 (ji22)) (y1193.length:Int) x19_1 l1 (l1.length:Int) (wrap64 (x25_2 + 1)) a0_0 l0_1) = some r:=by first|(rw [hji22] at H;exact H)|(simp only [hji22] at H ⊢;exact H)
             (try rw [hji22] at A17)
             (try rw [hji22] at A19)
             have hji22_:(IntKind.i64.wrap (1 * 2 ^ min x25_2.toNat 64)) = ji22:=hji22;have hji22z:x25_2 ≤ 64 → (IntKind.i64.wrap (1 * 2 ^ x25_2.toNat)) = ji22:=shl_small hji22;have hji22u:(IntKind.i64.wrap (2 ^ min x25_2.toNat 64)) = ji22:=by have h_:=hji22_;rw [Int.one_mul] at h_;exact h_
             have hji22v:x25_2 ≤ 64 → (IntKind.i64.wrap (2 ^ x25_2.toNat)) = ji22:=fun hle_=>by have h_:=hji22z hle_;rw [Int.one_mul] at h_;exact h_
             have hji22y:(wrap64 (1 * 2 ^ min x25_2.toNat 64)) = ji22:=(i64_w _).symm.trans hji22_;have hji22x:x25_2 ≤ 64 → (wrap64 (1 * 2 ^ x25_2.toNat)) = ji22:=fun h_=>(i64_w _).symm.trans (hji22z h_)
             have H':=Aside0.mk H;clear H;have p1198:0 ≤ (x25_2:Int):=of_decide_eq_true ab;have q1198:x25_2 < (l1.length:Int):=of_decide_eq_true ab;obtain ⟨ad1198,A1198_1,c1198_1,e1198,hx1198_0,hx1198_1,hl1198_1,hi1198_1⟩:=at_impl_Committee HR1.out x25_2 p1198 q1198;cases e1198
             replace hx1198_0:=(HB.out.cell (World.block_lt_of_cell? w _ hx1198_0)).trans hx1198_0;replace hx1198_1:=(HB.out.cell (World.block_lt_of_cell? w _ hx1198_1)).trans hx1198_1;have HR1198_1:=Aside0.mk hi1198_1;have HC1198_1:=Aside0.mk hl1198_1;clear hi1198_1 hl1198_1;replace p1198:=eq_true p1198;replace q1198:=eq_true q1198
             try go_wp2_with (first|((with_reducible refine gate_dst (N:=10) rfl ?_);refine box_event ?hg (N:=10) ?hd (cs:=#[.int .i64 0,.slice none 0 0]) (t:=46) ?hr ?_;(case hd=>rfl);(case hg=>rfl);(case hr=>first|(go_simp;done)|(go_simp;rfl));intro gb1199 hg w23 hbox hb;have n0_:=Aside0.mk (Kd.R_below (by (with_reducible repeat (first|apply Kd.R_alloc|apply Kd.R_drewN|apply Kd.R_drew));exact HO_5.out) hb);have n1_:=Aside0.mk (blk_below (g:=gb1190) (o:=.cells #[.int .i64 a0_0,.slice A0_1 l0_1.length c0_1] 46 (0,0)) bk hb);have n2_:=Aside0.mk (below_step bw hb);have n3_:=Aside0.mk (hbox);have n4_:=Aside0.mk ((by rw [hg];exact (below_size bw):w.heap.size ≤ gb1199));have n5_:=Aside0.mk ((by rw [hg];exact (below_size bw):w.heap.size ≤ gb1199));have n6_:=Aside0.mk ((by rw [hg];exact Nat.ne_of_lt (blk_lt (g:=gb1190) (o:=.cells #[.int .i64 a0_0,.slice A0_1 l0_1.length c0_1] 46 (0,0)) bk):gb1190 ≠ gb1199));have n7_:=Aside0.mk ((by rw [hg];exact Nat.ne_of_gt (blk_lt (g:=gb1190) (o:=.cells #[.int .i64 a0_0,.slice A0_1 l0_1.length c0_1] 46 (0,0)) bk):gb1199 ≠ gb1190));clear HO_5;clear BK1190;clear HB;have HO_5:=n0_;have BK1190:=n1_;have HB:=n2_;have BK1199:=n3_;have GW1199:=n4_;have GE1199:=n5_;have NB1190_1199:=n6_;have NB1199_1190:=n7_;clear n0_ n1_ n2_ n3_ n4_ n5_ n6_ n7_;clear hb hbox hg;have hnb24:=NB1199_1190.out;have hnc24:=NB1190_1199.out;have hcz25_0:w23.cell? ⟨gb1199,0,none⟩ = some (.int .i64 0):=(blk_cell BK1199.out 0).trans rfl;have hcz25_1:w23.cell? ⟨gb1199,1,none⟩ = some (.slice none 0 0):=(blk_cell BK1199.out 1).trans rfl;have hfz25_0:=blk_frozen BK1199.out 0;have hfz25_1:=blk_frozen BK1199.out 1)|((with_reducible refine gate_callee (f:=105) rfl ?_);refine goesL_ (some 33) rfl rfl Try.func105 (by kernel_rfl) rfl #[.int .i64 (((rd_impl_Committee l1 x25_2).f1).length:Int)] rfl mq ?_;(with_reducible refine (spec_voAll.calls (((rd_impl_Committee l1 x25_2).f1).length:Int) t1200 _ A17.out).mono ?_);rintro e w' ⟨rfl,⟨nd,rfl⟩⟩;refine ⟨_,rfl,?_⟩))
             have n0_:Aside0 (Kd.R Kd.bool 4 ((w23.setCell ⟨gb1199,0,none⟩ (.int .i64 ((rd_impl_Committee l1 x25_2).f0))).setCell ⟨gb1199,1,none⟩ (.slice A1198_1 ((rd_impl_Committee l1 x25_2).f1).length c1198_1)) w.heap.size (fun _=>True) (.slice Ao12 x5_1.length co12) x5_1):=⟨by (with_reducible repeat (first|apply Kd.R_alloc|apply Kd.R_drewN|apply Kd.R_drew));exact Kd.R_mono (Kd.R_far (p:=⟨gb1199,1,none⟩) (Kd.R_far (p:=⟨gb1199,0,none⟩) (Kd.R_types HO_5.out BK1199.out (by decide)) (fun _ hk=>hk.2) (.int .i64 ((rd_impl_Committee l1 x25_2).f0))) (fun _ hk=>hk.2) (.slice A1198_1 ((rd_impl_Committee l1 x25_2).f1).length c1198_1)) (fun _ hk=>trivial)⟩;have n1_:Aside0 (((w23.setCell ⟨gb1199,0,none⟩ (.int .i64 ((rd_impl_Committee l1 x25_2).f0))).setCell ⟨gb1199,1,none⟩ (.slice A1198_1 ((rd_impl_Committee l1 x25_2).f1).length c1198_1)).heap[gb1190]? = some (.cells #[.int .i64 a0_0,.slice A0_1 l0_1.length c0_1] 46 (0,0))):=⟨by (with_reducible repeat (first|refine blk_drewN ?_ _|refine blk_drew ?_|refine blk_alloc ?_ _));refine blk_far ?_ NB1190_1199.out _;(with_reducible repeat (first|refine blk_drewN ?_ _|refine blk_drew ?_|refine blk_alloc ?_ _));refine blk_far ?_ NB1190_1199.out _;(with_reducible repeat (first|refine blk_drewN ?_ _|refine blk_drew ?_|refine blk_alloc ?_ _));exact BK1190.out⟩;have n2_:Aside0 (((w23.setCell ⟨gb1199,0,none⟩ (.int .i64 ((rd_impl_Committee l1 x25_2).f0))).setCell ⟨gb1199,1,none⟩ (.slice A1198_1 ((rd_impl_Committee l1 x25_2).f1).length c1198_1)).heap[gb1199]? = some (.cells #[.int .i64 ((rd_impl_Committee l1 x25_2).f0),.slice A1198_1 ((rd_impl_Committee l1 x25_2).f1).length c1198_1] 46 (0,0))):=⟨by (with_reducible repeat (first|refine blk_drewN ?_ _|refine blk_drew ?_|refine blk_alloc ?_ _));refine blk_put (cs:=#[.int .i64 ((rd_impl_Committee l1 x25_2).f0),.slice none 0 0]) ?_ 1 _ rfl;(with_reducible repeat (first|refine blk_drewN ?_ _|refine blk_drew ?_|refine blk_alloc ?_ _));refine blk_put (cs:=#[.int .i64 0,.slice none 0 0]) ?_ 0 _ rfl;(with_reducible repeat (first|refine blk_drewN ?_ _|refine blk_drew ?_|refine blk_alloc ?_ _));exact BK1199.out⟩;have n3_:Aside0 (Below w.heap.size w ((w23.setCell ⟨gb1199,0,none⟩ (.int .i64 ((rd_impl_Committee l1 x25_2).f0))).setCell ⟨gb1199,1,none⟩ (.slice A1198_1 ((rd_impl_Committee l1 x25_2).f1).length c1198_1))):=⟨by repeat (first|(with_reducible first|exact HB.out|apply below_alloc|apply pw_below_drewN|apply below_drew1|refine below_set ?_ GE1190.out|refine below_set ?_ GE1199.out)|exact HB.out)⟩;(try clear HO_5)
             (try clear BK1190)
             (try clear BK1199)
             (try clear HB)
             generalize ((w23.setCell ⟨gb1199,0,none⟩ (.int .i64 ((rd_impl_Committee l1 x25_2).f0))).setCell ⟨gb1199,1,none⟩ (.slice A1198_1 ((rd_impl_Committee l1 x25_2).f1).length c1198_1)) = w26 at n0_ n1_ n2_ n3_ ⊢
             have HO_5:=n0_;have BK1190:=n1_;have BK1199:=n2_;have HB:=n3_;clear n0_ n1_ n2_ n3_;(try (rw [drewN_self w26];generalize hq_:World.drewN w26 _ = w26;have n0_:Aside0 (Kd.R Kd.bool 4 w26 w.heap.size (fun _=>True) (.slice Ao12 x5_1.length co12) x5_1):=⟨by rw [← hq_];exact (by (with_reducible repeat (first|apply Kd.R_alloc|apply Kd.R_drewN|apply Kd.R_drew));exact HO_5.out)⟩;have n1_:Aside0 (w26.heap[gb1190]? = some (.cells #[.int .i64 a0_0,.slice A0_1 l0_1.length c0_1] 46 (0,0))):=⟨by rw [← hq_];exact bk⟩;have n2_:Aside0 (w26.heap[gb1199]? = some (.cells #[.int .i64 ((rd_impl_Committee l1 x25_2).f0),.slice A1198_1 ((rd_impl_Committee l1 x25_2).f1).length c1198_1] 46 (0,0))):=⟨by rw [← hq_];exact bk⟩;have n3_:Aside0 (Below w.heap.size w w26):=⟨by rw [← hq_];exact bw⟩;clear HO_5 BK1190 BK1199 HB hq_;have HO_5:=n0_;have BK1190:=n1_;have BK1199:=n2_;have HB:=n3_;clear n0_ n1_ n2_ n3_))
             have n0_:=Aside0.mk (Kd.R_drew HO_5.out);have n1_:=Aside0.mk (blk_drew BK1190.out);have n2_:=Aside0.mk (blk_drew BK1199.out);have n3_:=Aside0.mk (below_drew1 HB.out);clear HO_5;clear BK1190;clear BK1199;clear HB;have HO_5:=n0_;have BK1190:=n1_;have BK1199:=n2_;have HB:=n3_;clear n0_ n1_ n2_ n3_;refine start_ (n:=8) (S:=fun w'=>w'.cell? ⟨gb1199,0,none⟩ = some (.int .i64 ((rd_impl_Committee l1 x25_2).f0)) ∧ w'.cell? ⟨gb1199,1,none⟩ = some (.slice A1198_1 ((rd_impl_Committee l1 x25_2).f1).length c1198_1)) (ds:=[]) #[false,false,false,false,false,false,false,false] (by kernel_rfl) rfl rfl ⟨(blk_cell BK1199.out 0).trans rfl,(blk_cell BK1199.out 1).trans rfl⟩ (fun hHeld=>?_);refine with_tabW spec_chCouncil.tab10 spec_chCouncil.bits10 (fun HT_ HW_=>?_)
             generalize w26.drew = w27 at HO_5 BK1190 BK1199 HB hHeld ⊢
             refine pure_ (i:=1) (N:=some 36) (v:=?_) (a':=?_) #[false,true,false,false,false,false,false,false] rfl rfl (any_of HT_.out (by kernel_rfl)) (fun _ _ _ h=>h) (Or.inl ⟨by rfl,?_⟩) ?_ ?_;rotate_left
             ·intro w';go_simp
              with_reducible rfl
             rotate_left
             ·simp only [Act.put,sA,sZ,sS,i64_w,i32_w];rfl
             refine pure_ (i:=2) (N:=some 37) (v:=?_) (a':=?_) #[false,true,true,false,false,false,false,false] rfl rfl (any_of HT_.out (by kernel_rfl)) (fun _ _ _ h=>h) (Or.inl ⟨by rfl,?_⟩) ?_ ?_;rotate_left
             ·intro w';go_simp
              with_reducible rfl
             rotate_left
             ·simp only [Act.put,sA,sZ,sS,i64_w,i32_w];rfl
             refine pure_ (i:=3) (N:=some 38) (v:=?_) (a':=?_) #[false,true,true,true,false,false,false,false] rfl rfl (any_of HT_.out (by kernel_rfl)) (fun _ _ _ h=>h) (Or.inl ⟨by rfl,?_⟩) ?_ ?_;rotate_left
             ·intro w';go_simp
              with_reducible rfl
             rotate_left
             ·simp only [Act.put,sA,sZ,sS,i64_w,i32_w];rfl
             refine pure_ (i:=5) (N:=some 40) (v:=?_) (a':=?_) #[false,true,true,true,false,true,false,false] rfl rfl (any_of HT_.out (by kernel_rfl)) (fun _ _ _ h=>h) (Or.inl ⟨by rfl,?_⟩) ?_ ?_;rotate_left
             ·intro w';go_simp
              with_reducible rfl
             rotate_left
             ·simp only [Act.put,sA,sZ,sS,i64_w,i32_w];rfl
             refine take_ (i:=0) (N:=some 35) (v:=?_) (a':=?_) #[true,true,true,true,false,true,false,false] rfl rfl (take_ofW HT_.out HW_.out (by kernel_rfl)) (fun _ _ _ h=>h) (Or.inl ⟨by rfl,?_⟩) hHeld ?_ ?_;rotate_left
             ·rintro w' ⟨s0,s1⟩
              go_simp
              with_reducible rfl
             rotate_left
             ·simp only [Act.put,sA,sZ,sS,i64_w,i32_w];rfl
             refine take_ (i:=6) (N:=some 41) (v:=?_) (a':=?_) #[true,true,true,true,false,true,true,false] rfl rfl (take_ofW HT_.out HW_.out (by kernel_rfl)) (fun _ _ _ h=>h) (Or.inl ⟨by rfl,?_⟩) hHeld ?_ ?_;rotate_left
             ·rintro w' ⟨s0,s1⟩
              go_simp
              with_reducible rfl
             rotate_left
             ·simp only [Act.put,sA,sZ,sS,i64_w,i32_w];rfl
             refine one_ (i:=4) (N:=some 39) #[true,true,true,true,true,true,true,false] rfl rfl (one_of HT_.out (by kernel_rfl)) (by decide) (fun K hK=>?_);refine goes_ Try.func106 (by kernel_rfl) rfl #[.agg #[.int .i64 ((rd_impl_Committee l1 x25_2).f0),.slice A1198_1 ((rd_impl_Committee l1 x25_2).f1).length c1198_1],.int .i64 (Int.tmod x7_2 (wrap64 (t1200 + 1)))] (by rfl) rfl rfl mq ?_
             with_reducible refine (spec_voWeight.calls k2 ((rd_impl_Committee l1 x25_2).f0) _ _ ((rd_impl_Committee l1 x25_2).f1) (Int.tmod x7_2 (wrap64 (t1200 + 1))) t1201 _ ?side1 ?side2 A19.out).mono ?_
             (case side1=>repeat (first|exact (Kd.C_below HR1198_1.out HB.out)|(with_reducible refine Kd.C_alloc ?_ _)|(with_reducible refine Kd.C_drewN ?_ _)|(with_reducible refine Kd.C_drew ?_)))
             (case side2=>exact HC1198_1.out)
             rintro e w28 ⟨rfl,hb⟩
             refine ⟨_,rfl,?_⟩;have n0_:=Aside0.mk (Kd.R_below (by (with_reducible repeat (first|apply Kd.R_alloc|apply Kd.R_drewN|apply Kd.R_drew));exact HO_5.out) hb);have n1_:=Aside0.mk (blk_below (g:=gb1190) (o:=.cells #[.int .i64 a0_0,.slice A0_1 l0_1.length c0_1] 46 (0,0)) bk hb);have n2_:=Aside0.mk (blk_below (g:=gb1199) (o:=.cells #[.int .i64 ((rd_impl_Committee l1 x25_2).f0),.slice A1198_1 ((rd_impl_Committee l1 x25_2).f1).length c1198_1] 46 (0,0)) bk hb);have n3_:=Aside0.mk (below_step bw hb);clear HO_5;clear BK1190;clear BK1199;clear HB;have HO_5:=n0_;have BK1190:=n1_;have BK1199:=n2_;have HB:=n3_;clear n0_ n1_ n2_ n3_;(try clear hb)
             (try clear hb2)
             (try clear hk)
             (try clear hi)
             refine hK.out _ _ ⟨(blk_cell BK1199.out 0).trans rfl,(blk_cell BK1199.out 1).trans rfl⟩ (fun hHeld=>?_);clear hK K;refine norm_ (a':=?_) ?_ ?_;rotate_left
             ·show Act.put _ (some 39) _ = _;simp only [Act.put,sA,sZ,sS,i64_w,i32_w];rfl
             refine pure_ (i:=7) (N:=some 42) (v:=?_) (a':=?_) #[true,true,true,true,true,true,true,true] rfl rfl (any_of HT_.out (by kernel_rfl)) (fun _ _ _ h=>h) (Or.inl ⟨by rfl,?_⟩) ?_ ?_;rotate_left
             ·intro w';go_simp
              with_reducible rfl
             rotate_left
             ·simp only [Act.put,sA,sZ,sS,i64_w,i32_w];rfl
             refine done_ (done_of HT_.out (by kernel_rfl)) ?_
             try go_wp2
             go_roundg k2
             case measure=>have:=HK1.out;have:=HK2.out;omega
             case rel=>exact ⟨(wrap64 (Int.tdiv x7_2 (wrap64 (t1200 + 1)))),(Go.bits .or .i64 x8_2 (ji22)),(wrap64 (x25_2 + 1)),(by first|rfl|(simp;done)|(simp [*];done)),(by first|rfl|(simp;done)|(simp only [← hji22] <;> (first|rfl|simp))|(simp [*];done)),(by first|rfl|(simp;done)|(simp [*];done)),H',⟨by have:=HK1.out;have:=HK2.out;omega⟩,⟨by (try simp only [hl5_1]);(with_reducible repeat (first|apply Kd.R_alloc|apply Kd.R_drewN|apply Kd.R_drew));exact HO_5.out⟩,⟨by (try simp only [hl5_1]);(with_reducible repeat (first|refine blk_drewN ?_ _|refine blk_drew ?_|refine blk_alloc ?_ _));exact BK1190.out⟩,⟨by repeat (first|(with_reducible first|exact HB.out|apply below_alloc|apply pw_below_drewN|apply below_drew1|refine below_set ?_ GE1190.out|refine below_set ?_ GE1199.out)|exact HB.out)⟩⟩
            ·rw [if_neg c20] at H;have c20b0:decide (((rd_impl_Committee l1 x25_2).f0) ≤ t1201) = false:=decide_eq_false c20;clear c20;have H':=Aside0.mk H;clear H;have p1198:0 ≤ (x25_2:Int):=of_decide_eq_true ab;have q1198:x25_2 < (l1.length:Int):=of_decide_eq_true ab;obtain ⟨ad1198,A1198_1,c1198_1,e1198,hx1198_0,hx1198_1,hl1198_1,hi1198_1⟩:=at_impl_Committee HR1.out x25_2 p1198 q1198;cases e1198
             replace hx1198_0:=(HB.out.cell (World.block_lt_of_cell? w _ hx1198_0)).trans hx1198_0;replace hx1198_1:=(HB.out.cell (World.block_lt_of_cell? w _ hx1198_1)).trans hx1198_1;have HR1198_1:=Aside0.mk hi1198_1;have HC1198_1:=Aside0.mk hl1198_1;clear hi1198_1 hl1198_1;replace p1198:=eq_true p1198;replace q1198:=eq_true q1198
             try go_wp2_with (first|((with_reducible refine gate_dst (N:=10) rfl ?_);refine box_event ?hg (N:=10) ?hd (cs:=#[.int .i64 0,.slice none 0 0]) (t:=46) ?hr ?_;(case hd=>rfl);(case hg=>rfl);(case hr=>first|(go_simp;done)|(go_simp;rfl));intro gb1199 hg w29 hbox hb;have n0_:=Aside0.mk (Kd.R_below (by (with_reducible repeat (first|apply Kd.R_alloc|apply Kd.R_drewN|apply Kd.R_drew));exact HO_5.out) hb);have n1_:=Aside0.mk (blk_below (g:=gb1190) (o:=.cells #[.int .i64 a0_0,.slice A0_1 l0_1.length c0_1] 46 (0,0)) bk hb);have n2_:=Aside0.mk (below_step bw hb);have n3_:=Aside0.mk (hbox);have n4_:=Aside0.mk ((by rw [hg];exact (below_size bw):w.heap.size ≤ gb1199));have n5_:=Aside0.mk ((by rw [hg];exact (below_size bw):w.heap.size ≤ gb1199));have n6_:=Aside0.mk ((by rw [hg];exact Nat.ne_of_lt (blk_lt (g:=gb1190) (o:=.cells #[.int .i64 a0_0,.slice A0_1 l0_1.length c0_1] 46 (0,0)) bk):gb1190 ≠ gb1199));have n7_:=Aside0.mk ((by rw [hg];exact Nat.ne_of_gt (blk_lt (g:=gb1190) (o:=.cells #[.int .i64 a0_0,.slice A0_1 l0_1.length c0_1] 46 (0,0)) bk):gb1199 ≠ gb1190));clear HO_5;clear BK1190;clear HB;have HO_5:=n0_;have BK1190:=n1_;have HB:=n2_;have BK1199:=n3_;have GW1199:=n4_;have GE1199:=n5_;have NB1190_1199:=n6_;have NB1199_1190:=n7_;clear n0_ n1_ n2_ n3_ n4_ n5_ n6_ n7_;clear hb hbox hg;have hnb30:=NB1199_1190.out;have hnc30:=NB1190_1199.out;have hcz31_0:w29.cell? ⟨gb1199,0,none⟩ = some (.int .i64 0):=(blk_cell BK1199.out 0).trans rfl;have hcz31_1:w29.cell? ⟨gb1199,1,none⟩ = some (.slice none 0 0):=(blk_cell BK1199.out 1).trans rfl;have hfz31_0:=blk_frozen BK1199.out 0;have hfz31_1:=blk_frozen BK1199.out 1)|((with_reducible refine gate_callee (f:=105) rfl ?_);refine goesL_ (some 33) rfl rfl Try.func105 (by kernel_rfl) rfl #[.int .i64 (((rd_impl_Committee l1 x25_2).f1).length:Int)] rfl mq ?_;(with_reducible refine (spec_voAll.calls (((rd_impl_Committee l1 x25_2).f1).length:Int) t1200 _ A17.out).mono ?_);rintro e w' ⟨rfl,⟨nd,rfl⟩⟩;refine ⟨_,rfl,?_⟩))
             have n0_:Aside0 (Kd.R Kd.bool 4 ((w29.setCell ⟨gb1199,0,none⟩ (.int .i64 ((rd_impl_Committee l1 x25_2).f0))).setCell ⟨gb1199,1,none⟩ (.slice A1198_1 ((rd_impl_Committee l1 x25_2).f1).length c1198_1)) w.heap.size (fun _=>True) (.slice Ao12 x5_1.length co12) x5_1):=⟨by (with_reducible repeat (first|apply Kd.R_alloc|apply Kd.R_drewN|apply Kd.R_drew));exact Kd.R_mono (Kd.R_far (p:=⟨gb1199,1,none⟩) (Kd.R_far (p:=⟨gb1199,0,none⟩) (Kd.R_types HO_5.out BK1199.out (by decide)) (fun _ hk=>hk.2) (.int .i64 ((rd_impl_Committee l1 x25_2).f0))) (fun _ hk=>hk.2) (.slice A1198_1 ((rd_impl_Committee l1 x25_2).f1).length c1198_1)) (fun _ hk=>trivial)⟩;have n1_:Aside0 (((w29.setCell ⟨gb1199,0,none⟩ (.int .i64 ((rd_impl_Committee l1 x25_2).f0))).setCell ⟨gb1199,1,none⟩ (.slice A1198_1 ((rd_impl_Committee l1 x25_2).f1).length c1198_1)).heap[gb1190]? = some (.cells #[.int .i64 a0_0,.slice A0_1 l0_1.length c0_1] 46 (0,0))):=⟨by (with_reducible repeat (first|refine blk_drewN ?_ _|refine blk_drew ?_|refine blk_alloc ?_ _));refine blk_far ?_ NB1190_1199.out _;(with_reducible repeat (first|refine blk_drewN ?_ _|refine blk_drew ?_|refine blk_alloc ?_ _));refine blk_far ?_ NB1190_1199.out _;(with_reducible repeat (first|refine blk_drewN ?_ _|refine blk_drew ?_|refine blk_alloc ?_ _));exact BK1190.out⟩;have n2_:Aside0 (((w29.setCell ⟨gb1199,0,none⟩ (.int .i64 ((rd_impl_Committee l1 x25_2).f0))).setCell ⟨gb1199,1,none⟩ (.slice A1198_1 ((rd_impl_Committee l1 x25_2).f1).length c1198_1)).heap[gb1199]? = some (.cells #[.int .i64 ((rd_impl_Committee l1 x25_2).f0),.slice A1198_1 ((rd_impl_Committee l1 x25_2).f1).length c1198_1] 46 (0,0))):=⟨by (with_reducible repeat (first|refine blk_drewN ?_ _|refine blk_drew ?_|refine blk_alloc ?_ _));refine blk_put (cs:=#[.int .i64 ((rd_impl_Committee l1 x25_2).f0),.slice none 0 0]) ?_ 1 _ rfl;(with_reducible repeat (first|refine blk_drewN ?_ _|refine blk_drew ?_|refine blk_alloc ?_ _));refine blk_put (cs:=#[.int .i64 0,.slice none 0 0]) ?_ 0 _ rfl;(with_reducible repeat (first|refine blk_drewN ?_ _|refine blk_drew ?_|refine blk_alloc ?_ _));exact BK1199.out⟩;have n3_:Aside0 (Below w.heap.size w ((w29.setCell ⟨gb1199,0,none⟩ (.int .i64 ((rd_impl_Committee l1 x25_2).f0))).setCell ⟨gb1199,1,none⟩ (.slice A1198_1 ((rd_impl_Committee l1 x25_2).f1).length c1198_1))):=⟨by repeat (first|(with_reducible first|exact HB.out|apply below_alloc|apply pw_below_drewN|apply below_drew1|refine below_set ?_ GE1190.out|refine below_set ?_ GE1199.out)|exact HB.out)⟩;(try clear HO_5)
             (try clear BK1190)
             (try clear BK1199)
             (try clear HB)
             generalize ((w29.setCell ⟨gb1199,0,none⟩ (.int .i64 ((rd_impl_Committee l1 x25_2).f0))).setCell ⟨gb1199,1,none⟩ (.slice A1198_1 ((rd_impl_Committee l1 x25_2).f1).length c1198_1)) = w32 at n0_ n1_ n2_ n3_ ⊢
             have HO_5:=n0_;have BK1190:=n1_;have BK1199:=n2_;have HB:=n3_;clear n0_ n1_ n2_ n3_;(try (rw [drewN_self w32];generalize hq_:World.drewN w32 _ = w32;have n0_:Aside0 (Kd.R Kd.bool 4 w32 w.heap.size (fun _=>True) (.slice Ao12 x5_1.length co12) x5_1):=⟨by rw [← hq_];exact (by (with_reducible repeat (first|apply Kd.R_alloc|apply Kd.R_drewN|apply Kd.R_drew));exact HO_5.out)⟩;have n1_:Aside0 (w32.heap[gb1190]? = some (.cells #[.int .i64 a0_0,.slice A0_1 l0_1.length c0_1] 46 (0,0))):=⟨by rw [← hq_];exact bk⟩;have n2_:Aside0 (w32.heap[gb1199]? = some (.cells #[.int .i64 ((rd_impl_Committee l1 x25_2).f0),.slice A1198_1 ((rd_impl_Committee l1 x25_2).f1).length c1198_1] 46 (0,0))):=⟨by rw [← hq_];exact bk⟩;have n3_:Aside0 (Below w.heap.size w w32):=⟨by rw [← hq_];exact bw⟩;clear HO_5 BK1190 BK1199 HB hq_;have HO_5:=n0_;have BK1190:=n1_;have BK1199:=n2_;have HB:=n3_;clear n0_ n1_ n2_ n3_))
             have n0_:=Aside0.mk (Kd.R_drew HO_5.out);have n1_:=Aside0.mk (blk_drew BK1190.out);have n2_:=Aside0.mk (blk_drew BK1199.out);have n3_:=Aside0.mk (below_drew1 HB.out);clear HO_5;clear BK1190;clear BK1199;clear HB;have HO_5:=n0_;have BK1190:=n1_;have BK1199:=n2_;have HB:=n3_;clear n0_ n1_ n2_ n3_;refine start_ (n:=8) (S:=fun w'=>w'.cell? ⟨gb1199,0,none⟩ = some (.int .i64 ((rd_impl_Committee l1 x25_2).f0)) ∧ w'.cell? ⟨gb1199,1,none⟩ = some (.slice A1198_1 ((rd_impl_Committee l1 x25_2).f1).length c1198_1)) (ds:=[]) #[false,false,false,false,false,false,false,false] (by kernel_rfl) rfl rfl ⟨(blk_cell BK1199.out 0).trans rfl,(blk_cell BK1199.out 1).trans rfl⟩ (fun hHeld=>?_);refine with_tabW spec_chCouncil.tab10 spec_chCouncil.bits10 (fun HT_ HW_=>?_)
             generalize w32.drew = w33 at HO_5 BK1190 BK1199 HB hHeld ⊢
             refine pure_ (i:=1) (N:=some 36) (v:=?_) (a':=?_) #[false,true,false,false,false,false,false,false] rfl rfl (any_of HT_.out (by kernel_rfl)) (fun _ _ _ h=>h) (Or.inl ⟨by rfl,?_⟩) ?_ ?_;rotate_left
             ·intro w';go_simp
              with_reducible rfl
             rotate_left
             ·simp only [Act.put,sA,sZ,sS,i64_w,i32_w];rfl
             refine pure_ (i:=2) (N:=some 37) (v:=?_) (a':=?_) #[false,true,true,false,false,false,false,false] rfl rfl (any_of HT_.out (by kernel_rfl)) (fun _ _ _ h=>h) (Or.inl ⟨by rfl,?_⟩) ?_ ?_;rotate_left
             ·intro w';go_simp
              with_reducible rfl
             rotate_left
             ·simp only [Act.put,sA,sZ,sS,i64_w,i32_w];rfl
             refine pure_ (i:=3) (N:=some 38) (v:=?_) (a':=?_) #[false,true,true,true,false,false,false,false] rfl rfl (any_of HT_.out (by kernel_rfl)) (fun _ _ _ h=>h) (Or.inl ⟨by rfl,?_⟩) ?_ ?_;rotate_left
             ·intro w';go_simp
              with_reducible rfl
             rotate_left
             ·simp only [Act.put,sA,sZ,sS,i64_w,i32_w];rfl
             refine pure_ (i:=5) (N:=some 40) (v:=?_) (a':=?_) #[false,true,true,true,false,true,false,false] rfl rfl (any_of HT_.out (by kernel_rfl)) (fun _ _ _ h=>h) (Or.inl ⟨by rfl,?_⟩) ?_ ?_;rotate_left
             ·intro w';go_simp
              with_reducible rfl
             rotate_left
             ·simp only [Act.put,sA,sZ,sS,i64_w,i32_w];rfl
             refine take_ (i:=0) (N:=some 35) (v:=?_) (a':=?_) #[true,true,true,true,false,true,false,false] rfl rfl (take_ofW HT_.out HW_.out (by kernel_rfl)) (fun _ _ _ h=>h) (Or.inl ⟨by rfl,?_⟩) hHeld ?_ ?_;rotate_left
             ·rintro w' ⟨s0,s1⟩
              go_simp
              with_reducible rfl
             rotate_left
             ·simp only [Act.put,sA,sZ,sS,i64_w,i32_w];rfl
             refine take_ (i:=6) (N:=some 41) (v:=?_) (a':=?_) #[true,true,true,true,false,true,true,false] rfl rfl (take_ofW HT_.out HW_.out (by kernel_rfl)) (fun _ _ _ h=>h) (Or.inl ⟨by rfl,?_⟩) hHeld ?_ ?_;rotate_left
             ·rintro w' ⟨s0,s1⟩
              go_simp
              with_reducible rfl
             rotate_left
             ·simp only [Act.put,sA,sZ,sS,i64_w,i32_w];rfl
             refine one_ (i:=4) (N:=some 39) #[true,true,true,true,true,true,true,false] rfl rfl (one_of HT_.out (by kernel_rfl)) (by decide) (fun K hK=>?_);refine goes_ Try.func106 (by kernel_rfl) rfl #[.agg #[.int .i64 ((rd_impl_Committee l1 x25_2).f0),.slice A1198_1 ((rd_impl_Committee l1 x25_2).f1).length c1198_1],.int .i64 (Int.tmod x7_2 (wrap64 (t1200 + 1)))] (by rfl) rfl rfl mq ?_
             with_reducible refine (spec_voWeight.calls k2 ((rd_impl_Committee l1 x25_2).f0) _ _ ((rd_impl_Committee l1 x25_2).f1) (Int.tmod x7_2 (wrap64 (t1200 + 1))) t1201 _ ?side1 ?side2 A19.out).mono ?_
             (case side1=>repeat (first|exact (Kd.C_below HR1198_1.out HB.out)|(with_reducible refine Kd.C_alloc ?_ _)|(with_reducible refine Kd.C_drewN ?_ _)|(with_reducible refine Kd.C_drew ?_)))
             (case side2=>exact HC1198_1.out)
             rintro e w34 ⟨rfl,hb⟩
             refine ⟨_,rfl,?_⟩;have n0_:=Aside0.mk (Kd.R_below (by (with_reducible repeat (first|apply Kd.R_alloc|apply Kd.R_drewN|apply Kd.R_drew));exact HO_5.out) hb);have n1_:=Aside0.mk (blk_below (g:=gb1190) (o:=.cells #[.int .i64 a0_0,.slice A0_1 l0_1.length c0_1] 46 (0,0)) bk hb);have n2_:=Aside0.mk (blk_below (g:=gb1199) (o:=.cells #[.int .i64 ((rd_impl_Committee l1 x25_2).f0),.slice A1198_1 ((rd_impl_Committee l1 x25_2).f1).length c1198_1] 46 (0,0)) bk hb);have n3_:=Aside0.mk (below_step bw hb);clear HO_5;clear BK1190;clear BK1199;clear HB;have HO_5:=n0_;have BK1190:=n1_;have BK1199:=n2_;have HB:=n3_;clear n0_ n1_ n2_ n3_;(try clear hb)
             (try clear hb2)
             (try clear hk)
             (try clear hi)
             refine hK.out _ _ ⟨(blk_cell BK1199.out 0).trans rfl,(blk_cell BK1199.out 1).trans rfl⟩ (fun hHeld=>?_);clear hK K;refine norm_ (a':=?_) ?_ ?_;rotate_left
             ·show Act.put _ (some 39) _ = _;simp only [Act.put,sA,sZ,sS,i64_w,i32_w];rfl
             refine pure_ (i:=7) (N:=some 42) (v:=?_) (a':=?_) #[true,true,true,true,true,true,true,true] rfl rfl (any_of HT_.out (by kernel_rfl)) (fun _ _ _ h=>h) (Or.inl ⟨by rfl,?_⟩) ?_ ?_;rotate_left
             ·intro w';go_simp
              with_reducible rfl
             rotate_left
             ·simp only [Act.put,sA,sZ,sS,i64_w,i32_w];rfl
             refine done_ (done_of HT_.out (by kernel_rfl)) ?_
             try go_wp2
             go_roundg k2
             case measure=>have:=HK1.out;have:=HK2.out;omega
             case rel=>exact ⟨(wrap64 (Int.tdiv x7_2 (wrap64 (t1200 + 1)))),(x8_2),(wrap64 (x25_2 + 1)),(by first|rfl|(simp;done)|(simp [*];done)),(by first|rfl|(simp;done)|(simp [*];done)),(by first|rfl|(simp;done)|(simp [*];done)),H',⟨by have:=HK1.out;have:=HK2.out;omega⟩,⟨by (try simp only [hl5_1]);(with_reducible repeat (first|apply Kd.R_alloc|apply Kd.R_drewN|apply Kd.R_drew));exact HO_5.out⟩,⟨by (try simp only [hl5_1]);(with_reducible repeat (first|refine blk_drewN ?_ _|refine blk_drew ?_|refine blk_alloc ?_ _));exact BK1190.out⟩,⟨by repeat (first|(with_reducible first|exact HB.out|apply below_alloc|apply pw_below_drewN|apply below_drew1|refine below_set ?_ GE1190.out|refine below_set ?_ GE1199.out)|exact HB.out)⟩⟩
          ·rw [if_neg c16] at H;exact absurd H (by simp)
         ·rw [if_neg c15] at H;exact absurd H (by simp)
        ·rw [if_neg c14] at H;have c14b0:decide (x25_2 < (l1.length:Int)) = false:=decide_eq_false c14;(try simp only [hl5_1] at c14b0)
         clear c14;replace H:=Option.bind_eq_some_iff.mp H;obtain ⟨t1196,A350,H⟩:=H;replace H:(if 0 ≤ x19_1 then (if x19_1 < (x5_1.length:Int) then (spec_chCouncil.l0 k2 l1 (x5_1.set (x19_1:Int).toNat (decide (t1196 ≥ a0_0))) (y1193.length:Int) (wrap64 (x19_1 + 1)) a0_0 l0_1) else (none)) else (none)) = some r:=H;have A35:=Aside0.mk A350;clear A350;by_cases c36:0 ≤ x19_1
         ·rw [if_pos c36] at H;have c36b0:decide (0 ≤ x19_1) = true:=decide_eq_true c36;clear c36;by_cases c37:x19_1 < (x5_1.length:Int)
          ·rw [if_pos c37] at H;have c37b0:decide (x19_1 < (x5_1.length:Int)) = true:=decide_eq_true c37;(try simp only [hl5_1] at c37b0)
           clear c37;obtain ⟨y1197,hy1197⟩:∃ y_:List Bool,y_ = (x5_1.set (x19_1:Int).toNat (decide (t1196 ≥ a0_0))):=⟨_,rfl⟩;replace H:(spec_chCouncil.l0 k2 l1 y1197 (y1193.length:Int) (wrap64 (x19_1 + 1)) a0_0 l0_1) = some r:=by first|(rw [hy1197];with_reducible exact H)|(have H2_:=(Option.bind_some _ _).symm.trans H;rw [hy1197];with_reducible exact H2_)|(have H2_:=(Option.bind_some _ _).symm.trans H;with_reducible exact H2_)|with_reducible exact H|(rw [hy1197];exact H)|exact H
           have Ny1197:=Aside0.mk hy1197;clear hy1197;have H':=Aside0.mk H;clear H
           try go_wp2
           have n0_:=Aside0.mk (Kd.R_drew HO_5.out);have n1_:=Aside0.mk (blk_drew BK1190.out);have n2_:=Aside0.mk (below_drew1 HB.out);clear HO_5;clear BK1190;clear HB;have HO_5:=n0_;have BK1190:=n1_;have HB:=n2_;clear n0_ n1_ n2_;refine start_ (n:=10) (S:=fun w'=>w'.cell? ⟨gb1190,0,none⟩ = some (.int .i64 a0_0) ∧ w'.cell? ⟨gb1190,1,none⟩ = some (.slice A0_1 l0_1.length c0_1)) (ds:=[9]) #[false,false,false,false,false,false,false,false,false,false] (by kernel_rfl) rfl rfl ⟨(blk_cell BK1190.out 0).trans rfl,(blk_cell BK1190.out 1).trans rfl⟩ (fun hHeld=>?_);refine with_tabW spec_chCouncil.tab14 spec_chCouncil.bits14 (fun HT_ HW_=>?_)
           generalize wr.drew = w39 at HO_5 BK1190 HB hHeld ⊢
           refine pure_ (i:=0) (N:=some 51) (v:=?_) (a':=?_) #[true,false,false,false,false,false,false,false,false,false] rfl rfl (any_of HT_.out (by kernel_rfl)) (fun _ _ _ h=>h) (Or.inl ⟨by rfl,?_⟩) ?_ ?_;rotate_left
           ·intro w';go_simp
            with_reducible rfl
           rotate_left
           ·simp only [Act.put,sA,sZ,sS,i64_w,i32_w];rfl
           refine pure_ (i:=1) (N:=some 52) (v:=?_) (a':=?_) #[true,true,false,false,false,false,false,false,false,false] rfl rfl (any_of HT_.out (by kernel_rfl)) (fun _ _ _ h=>h) (Or.inl ⟨by rfl,?_⟩) ?_ ?_;rotate_left
           ·intro w';go_simp
            with_reducible rfl
           rotate_left
           ·simp only [Act.put,sA,sZ,sS,i64_w,i32_w];rfl
           refine pure_ (i:=3) (N:=some 54) (v:=?_) (a':=?_) #[true,true,false,true,false,false,false,false,false,false] rfl rfl (any_of HT_.out (by kernel_rfl)) (fun _ _ _ h=>h) (Or.inl ⟨by rfl,?_⟩) ?_ ?_;rotate_left
           ·intro w';go_simp
            with_reducible rfl
           rotate_left
           ·simp only [Act.put,sA,sZ,sS,i64_w,i32_w];rfl
           refine pure_ (i:=5) (N:=some 56) (v:=?_) (a':=?_) #[true,true,false,true,false,true,false,false,false,false] rfl rfl (any_of HT_.out (by kernel_rfl)) (fun _ _ _ h=>h) (Or.inl ⟨by rfl,?_⟩) ?_ ?_;rotate_left
           ·intro w';go_simp
            with_reducible rfl
           rotate_left
           ·simp only [Act.put,sA,sZ,sS,i64_w,i32_w];rfl
           refine take_ (i:=2) (N:=some 53) (v:=?_) (a':=?_) #[true,true,true,true,false,true,false,false,false,false] rfl rfl (take_ofW HT_.out HW_.out (by kernel_rfl)) (fun _ _ _ h=>h) (Or.inl ⟨by rfl,?_⟩) hHeld ?_ ?_;rotate_left
           ·rintro w' ⟨s0,s1⟩
            go_simp
            with_reducible rfl
           rotate_left
           ·simp only [Act.put,sA,sZ,sS,i64_w,i32_w];rfl
           refine take_ (i:=6) (N:=some 57) (v:=?_) (a':=?_) #[true,true,true,true,false,true,true,false,false,false] rfl rfl (take_ofW HT_.out HW_.out (by kernel_rfl)) (fun _ _ _ h=>h) (Or.inl ⟨by rfl,?_⟩) hHeld ?_ ?_;rotate_left
           ·rintro w' ⟨s0,s1⟩
            go_simp
            with_reducible rfl
           rotate_left
           ·simp only [Act.put,sA,sZ,sS,i64_w,i32_w];rfl
           refine one_ (i:=4) (N:=some 55) #[true,true,true,true,true,true,true,false,false,false] rfl rfl (one_of HT_.out (by kernel_rfl)) (by decide) (fun K hK=>?_);refine goes_ Try.func106 (by kernel_rfl) rfl #[.agg #[.int .i64 a0_0,.slice A0_1 l0_1.length c0_1],.int .i64 x8_2] (by rfl) rfl rfl mq ?_
           with_reducible refine (spec_voWeight.calls k2 a0_0 _ _ l0_1 x8_2 t1196 _ ?side1 ?side2 A35.out).mono ?_
           (case side1=>repeat (first|exact (Kd.C_below HR0_1.out HB.out)|(with_reducible refine Kd.C_alloc ?_ _)|(with_reducible refine Kd.C_drewN ?_ _)|(with_reducible refine Kd.C_drew ?_)))
           (case side2=>exact HC0_1.out)
           rintro e w40 ⟨rfl,hb⟩
           refine ⟨_,rfl,?_⟩;have n0_:=Aside0.mk (Kd.R_below (by (with_reducible repeat (first|apply Kd.R_alloc|apply Kd.R_drewN|apply Kd.R_drew));exact HO_5.out) hb);have n1_:=Aside0.mk (blk_below (g:=gb1190) (o:=.cells #[.int .i64 a0_0,.slice A0_1 l0_1.length c0_1] 46 (0,0)) bk hb);have n2_:=Aside0.mk (below_step bw hb);clear HO_5;clear BK1190;clear HB;have HO_5:=n0_;have BK1190:=n1_;have HB:=n2_;clear n0_ n1_ n2_;(try clear hb)
           (try clear hb2)
           (try clear hk)
           (try clear hi)
           have p38:0 ≤ (x19_1:Int):=of_decide_eq_true ab;have q38:(x19_1:Int) < ((x5_1.length:Int):Int):=of_decide_eq_true ab;obtain ⟨go38,co38,eo38,gb38,gl38,cl38,HG38⟩:=Kd.R_form HO_5.out (by omega);(first|cases eo38|(injection eo38 with ea_ en_ ec_;(first|subst ea_|(injection ea_ with ea_;subst ea_));subst ec_;clear en_))
           have GB38:=Aside0.mk gb38;have GG38:=Aside0.mk HG38;clear gb38 gl38 HG38;obtain ⟨hx38_0,hf38_0⟩:=Kd.R_celln false HO_5.out (x19_1:Int) p38 q38;replace p38:=eq_true p38;replace q38:=eq_true q38;have HP41:=Kd.R_putn HO_5.out (x19_1:Int) (decide (t1196 ≥ a0_0));rw [← Ny1197.out] at HP41;have HQ41:=Aside0.mk HP41;clear HP41;refine hK.out _ _ ⟨(blk_cell BK1190.out 0).trans rfl,(blk_cell BK1190.out 1).trans rfl⟩ (fun hHeld=>?_);clear hK K;refine norm_ (a':=?_) ?_ ?_;rotate_left
           ·show Act.put _ (some 55) _ = _;simp only [Act.put,sA,sZ,sS,i64_w,i32_w];rfl
           refine pure_ (i:=7) (N:=some 58) (v:=?_) (a':=?_) #[true,true,true,true,true,true,true,true,false,false] rfl rfl (any_of HT_.out (by kernel_rfl)) (fun _ _ _ h=>h) (Or.inl ⟨by rfl,?_⟩) ?_ ?_;rotate_left
           ·intro w';go_simp
            with_reducible rfl
           rotate_left
           ·simp only [Act.put,sA,sZ,sS,i64_w,i32_w];rfl
           refine pure_ (i:=8) (N:=some 59) (v:=?_) (a':=?_) #[true,true,true,true,true,true,true,true,true,false] rfl rfl (any_of HT_.out (by kernel_rfl)) (fun _ _ _ h=>h) (Or.inl ⟨by rfl,?_⟩) ?_ ?_;rotate_left
           ·intro w';go_simp
            with_reducible rfl
           rotate_left
           ·simp only [Act.put,sA,sZ,sS,i64_w,i32_w];rfl
           refine last_ (i:=9) (N:=none) #[true,true,true,true,true,true,true,true,true,true] rfl rfl (one_of HT_.out (by kernel_rfl)) (by decide) (fun K hK=>?_);refine skip_ (w1:=?_) (by rfl) rfl ?_ ?_;rotate_left
           ·go_simp
            rfl
           refine hK.out _ _ ?_;clear hK K;refine done_ (done_of HT_.out (by kernel_rfl)) ?_
           try go_wp2
           (try simp only [← hl5_1])
           go_roundg k2
           case measure=>have:=HK1.out;have:=HK2.out;omega
           case rel=>exact ⟨(y1197),(wrap64 (x19_1 + 1)),(by first|rfl|(simp;done)|(simp [*];done)),H',⟨by have:=HK1.out;have:=HK2.out;omega⟩,⟨by (try simp only [hl5_1]);(with_reducible repeat (first|apply Kd.R_alloc|apply Kd.R_drewN|apply Kd.R_drew));exact HQ41.out⟩,⟨by (try simp only [hl5_1]);(with_reducible repeat (first|refine blk_drewN ?_ _|refine blk_drew ?_|refine blk_alloc ?_ _));refine blk_far ?_ (by have h_:=Kd.R_ne HO_5.out BK1190.out (by decide);intro e_;exact h_ (by rw [e_];rfl)) _;(with_reducible repeat (first|refine blk_drewN ?_ _|refine blk_drew ?_|refine blk_alloc ?_ _));exact BK1190.out⟩,⟨by repeat (first|(with_reducible first|exact HB.out|apply below_alloc|apply pw_below_drewN|apply below_drew1|refine below_set ?_ GB38.out|refine below_set ?_ GE1190.out)|exact HB.out)⟩⟩
          ·rw [if_neg c37] at H;exact absurd H (by simp)
         ·rw [if_neg c36] at H;exact absurd H (by simp)
     ·rw [if_neg c13] at H;have c13b0:decide (x19_1 < (y1193.length:Int)) = false:=decide_eq_false c13;(try simp only [hl5_1] at c13b0)
      clear c13;obtain rfl:=Option.some.inj H;go_wp2
      go_ret
      exact ⟨_,by first|rfl|(simp [errW_none,errW_some] <;> rfl)|(simp only [← hji5];first|rfl|(simp [errW_none,errW_some] <;> rfl))|(simp [*,errW_none,errW_some] <;> rfl),by (with_reducible repeat (first|apply Kd.R_alloc|apply Kd.R_drewN|apply Kd.R_drew));exact HO_5.out,by repeat (first|(with_reducible first|exact HB.out|apply below_alloc|apply pw_below_drewN|apply below_drew1|refine below_set ?_ GE1190.out)|exact HB.out)⟩
  ·rw [if_neg c7] at H;exact absurd H (by simp)
 ·rw [if_neg c6] at H;exact absurd H (by simp)


/-! ### cmp_isNaN_int: function 169 -/
def cmp_isNaN_int.f (a0:Int):Option (Bool):=some (a0 != a0)
set_option maxHeartbeats 8000000 in
set_option maxRecDepth 100000 in
theorem cmp_isNaN_int.calls (a0:Int) (r:Bool) (w:World) (h:cmp_isNaN_int.f a0 = some r) :
  Calls Try.prog 169 #[.int .i64 a0] w fun e w'=>e = .returned (.bool r) ∧ Drawn0 w w':=by
 have H:(some (a0 != a0)) = some r:=h;clear h;obtain rfl:=Option.some.inj H;go_enter Try.func169,Try.ntmps169;go_wp2
 go_ret
 exact ⟨by first|rfl|(simp;done)|(simp [*];done),by repeat (first|exact Drawn0.refl _|apply Drawn0.step)⟩


/-! ### cmp_Compare_int: function 155 -/
def cmp_Compare_int.f (a0:Int) (a1:Int):Option (Int):=(cmp_isNaN_int.f a0).bind fun t295=>((cmp_isNaN_int.f a1).bind fun t296=>(if t295 = true then (if t296 = true then (some 0) else (some (-1))) else (if t296 = true then (some 1) else (if a0 < a1 then (some (-1)) else (if a0 > a1 then (some 1) else (some 0))))))
set_option maxHeartbeats 8000000 in
set_option maxRecDepth 100000 in
theorem cmp_Compare_int.calls (a0:Int) (a1:Int) (r:Int) (w:World) (h:cmp_Compare_int.f a0 a1 = some r) :
  Calls Try.prog 155 #[.int .i64 a0,.int .i64 a1] w fun e w'=>e = .returned (.int .i64 r) ∧ Drawn0 w w':=by
 have H:((cmp_isNaN_int.f a0).bind fun t295=>((cmp_isNaN_int.f a1).bind fun t296=>(if t295 = true then (if t296 = true then (some 0) else (some (-1))) else (if t296 = true then (some 1) else (if a0 < a1 then (some (-1)) else (if a0 > a1 then (some 1) else (some 0))))))) = some r:=h;clear h;replace H:=Option.bind_eq_some_iff.mp H;obtain ⟨t295,A30,H⟩:=H;replace H:((cmp_isNaN_int.f a1).bind fun t296=>(if t295 = true then (if t296 = true then (some 0) else (some (-1))) else (if t296 = true then (some 1) else (if a0 < a1 then (some (-1)) else (if a0 > a1 then (some 1) else (some 0)))))) = some r:=H;have A3:=Aside0.mk A30;clear A30;replace H:=Option.bind_eq_some_iff.mp H;obtain ⟨t296,A40,H⟩:=H;replace H:(if t295 = true then (if t296 = true then (some 0) else (some (-1))) else (if t296 = true then (some 1) else (if a0 < a1 then (some (-1)) else (if a0 > a1 then (some 1) else (some 0))))) = some r:=H;have A4:=Aside0.mk A40;clear A40;by_cases c5:t295 = true
 ·subst c5;have H1:(if t296 = true then (some 0) else (some (-1))) = some r:=by rw [if_pos rfl] at H;exact H
  clear H;have H:=H1;clear H1;by_cases c6:t296 = true
  ·subst c6;have H1:(some 0) = some r:=by rw [if_pos rfl] at H;exact H
   clear H;have H:=H1;clear H1;obtain rfl:=Option.some.inj H;go_enter Try.func155,Try.ntmps155;go_wp2_with (first|((with_reducible refine gate_callee (f:=169) rfl ?_);refine goesL_ (some 8) rfl rfl Try.func169 (by kernel_rfl) rfl #[.int .i64 a0] rfl mq ?_;(with_reducible refine (cmp_isNaN_int.calls a0 true _ A3.out).mono ?_);rintro e w' ⟨rfl,⟨nd,rfl⟩⟩;refine ⟨_,rfl,?_⟩)|((with_reducible refine gate_callee (f:=169) rfl ?_);refine goesL_ (some 10) rfl rfl Try.func169 (by kernel_rfl) rfl #[.int .i64 a1] rfl mq ?_;(with_reducible refine (cmp_isNaN_int.calls a1 true _ A4.out).mono ?_);rintro e w' ⟨rfl,⟨nd,rfl⟩⟩;refine ⟨_,rfl,?_⟩))
   go_ret
   exact ⟨by first|rfl|(simp;done)|(simp [*];done),by repeat (first|exact Drawn0.refl _|apply Drawn0.step)⟩
  ·replace c6:=Bool.eq_false_iff.mpr c6;subst c6;have H1:(some (-1)) = some r:=by rw [if_neg (show ¬ (false = true) by decide)] at H;exact H
   clear H;have H:=H1;clear H1;obtain rfl:=Option.some.inj H;go_enter Try.func155,Try.ntmps155;go_wp2_with (first|((with_reducible refine gate_callee (f:=169) rfl ?_);refine goesL_ (some 8) rfl rfl Try.func169 (by kernel_rfl) rfl #[.int .i64 a0] rfl mq ?_;(with_reducible refine (cmp_isNaN_int.calls a0 true _ A3.out).mono ?_);rintro e w' ⟨rfl,⟨nd,rfl⟩⟩;refine ⟨_,rfl,?_⟩)|((with_reducible refine gate_callee (f:=169) rfl ?_);refine goesL_ (some 10) rfl rfl Try.func169 (by kernel_rfl) rfl #[.int .i64 a1] rfl mq ?_;(with_reducible refine (cmp_isNaN_int.calls a1 false _ A4.out).mono ?_);rintro e w' ⟨rfl,⟨nd,rfl⟩⟩;refine ⟨_,rfl,?_⟩))
   go_ret
   exact ⟨by first|rfl|(simp;done)|(simp [*];done),by repeat (first|exact Drawn0.refl _|apply Drawn0.step)⟩
 ·replace c5:=Bool.eq_false_iff.mpr c5;subst c5;have H1:(if t296 = true then (some 1) else (if a0 < a1 then (some (-1)) else (if a0 > a1 then (some 1) else (some 0)))) = some r:=by rw [if_neg (show ¬ (false = true) by decide)] at H;exact H
  clear H;have H:=H1;clear H1;by_cases c7:t296 = true
  ·subst c7;have H1:(some 1) = some r:=by rw [if_pos rfl] at H;exact H
   clear H;have H:=H1;clear H1;obtain rfl:=Option.some.inj H;go_enter Try.func155,Try.ntmps155;go_wp2_with (first|((with_reducible refine gate_callee (f:=169) rfl ?_);refine goesL_ (some 8) rfl rfl Try.func169 (by kernel_rfl) rfl #[.int .i64 a0] rfl mq ?_;(with_reducible refine (cmp_isNaN_int.calls a0 false _ A3.out).mono ?_);rintro e w' ⟨rfl,⟨nd,rfl⟩⟩;refine ⟨_,rfl,?_⟩)|((with_reducible refine gate_callee (f:=169) rfl ?_);refine goesL_ (some 10) rfl rfl Try.func169 (by kernel_rfl) rfl #[.int .i64 a1] rfl mq ?_;(with_reducible refine (cmp_isNaN_int.calls a1 true _ A4.out).mono ?_);rintro e w' ⟨rfl,⟨nd,rfl⟩⟩;refine ⟨_,rfl,?_⟩))
   go_ret
   exact ⟨by first|rfl|(simp;done)|(simp [*];done),by repeat (first|exact Drawn0.refl _|apply Drawn0.step)⟩
  ·replace c7:=Bool.eq_false_iff.mpr c7;subst c7;have H1:(if a0 < a1 then (some (-1)) else (if a0 > a1 then (some 1) else (some 0))) = some r:=by rw [if_neg (show ¬ (false = true) by decide)] at H;exact H
   clear H;have H:=H1;clear H1;by_cases c8:a0 < a1
   ·rw [if_pos c8] at H;have c8b0:decide (a0 < a1) = true:=decide_eq_true c8;clear c8;obtain rfl:=Option.some.inj H;go_enter Try.func155,Try.ntmps155;go_wp2_with (first|((with_reducible refine gate_callee (f:=169) rfl ?_);refine goesL_ (some 8) rfl rfl Try.func169 (by kernel_rfl) rfl #[.int .i64 a0] rfl mq ?_;(with_reducible refine (cmp_isNaN_int.calls a0 false _ A3.out).mono ?_);rintro e w' ⟨rfl,⟨nd,rfl⟩⟩;refine ⟨_,rfl,?_⟩)|((with_reducible refine gate_callee (f:=169) rfl ?_);refine goesL_ (some 10) rfl rfl Try.func169 (by kernel_rfl) rfl #[.int .i64 a1] rfl mq ?_;(with_reducible refine (cmp_isNaN_int.calls a1 false _ A4.out).mono ?_);rintro e w' ⟨rfl,⟨nd,rfl⟩⟩;refine ⟨_,rfl,?_⟩))
    go_ret
    exact ⟨by first|rfl|(simp;done)|(simp [*];done),by repeat (first|exact Drawn0.refl _|apply Drawn0.step)⟩
   ·rw [if_neg c8] at H;have c8b0:decide (a0 < a1) = false:=decide_eq_false c8;clear c8;by_cases c9:a0 > a1
    ·rw [if_pos c9] at H;have c9b0:decide (a1 < a0) = true:=decide_eq_true c9;clear c9;obtain rfl:=Option.some.inj H;go_enter Try.func155,Try.ntmps155;go_wp2_with (first|((with_reducible refine gate_callee (f:=169) rfl ?_);refine goesL_ (some 8) rfl rfl Try.func169 (by kernel_rfl) rfl #[.int .i64 a0] rfl mq ?_;(with_reducible refine (cmp_isNaN_int.calls a0 false _ A3.out).mono ?_);rintro e w' ⟨rfl,⟨nd,rfl⟩⟩;refine ⟨_,rfl,?_⟩)|((with_reducible refine gate_callee (f:=169) rfl ?_);refine goesL_ (some 10) rfl rfl Try.func169 (by kernel_rfl) rfl #[.int .i64 a1] rfl mq ?_;(with_reducible refine (cmp_isNaN_int.calls a1 false _ A4.out).mono ?_);rintro e w' ⟨rfl,⟨nd,rfl⟩⟩;refine ⟨_,rfl,?_⟩))
     go_ret
     exact ⟨by first|rfl|(simp;done)|(simp [*];done),by repeat (first|exact Drawn0.refl _|apply Drawn0.step)⟩
    ·rw [if_neg c9] at H;have c9b0:decide (a1 < a0) = false:=decide_eq_false c9;clear c9;obtain rfl:=Option.some.inj H;go_enter Try.func155,Try.ntmps155;go_wp2_with (first|((with_reducible refine gate_callee (f:=169) rfl ?_);refine goesL_ (some 8) rfl rfl Try.func169 (by kernel_rfl) rfl #[.int .i64 a0] rfl mq ?_;(with_reducible refine (cmp_isNaN_int.calls a0 false _ A3.out).mono ?_);rintro e w' ⟨rfl,⟨nd,rfl⟩⟩;refine ⟨_,rfl,?_⟩)|((with_reducible refine gate_callee (f:=169) rfl ?_);refine goesL_ (some 10) rfl rfl Try.func169 (by kernel_rfl) rfl #[.int .i64 a1] rfl mq ?_;(with_reducible refine (cmp_isNaN_int.calls a1 false _ A4.out).mono ?_);rintro e w' ⟨rfl,⟨nd,rfl⟩⟩;refine ⟨_,rfl,?_⟩))
     go_ret
     exact ⟨by first|rfl|(simp;done)|(simp [*];done),by repeat (first|exact Drawn0.refl _|apply Drawn0.step)⟩


/-! ### slices_Compare_int_int: function 128 -/
def slices_Compare_int_int.l0:Nat → List Int → List Int → List Int → Int → Int → Option (Int)
 | 0,_,_,_,_,_=>none
 | k + 1,x0,x1,x9,x10,x11=>if x11 < x10 then (if 0 ≤ x11 then (if x11 < (x9.length:Int) then (if x11 ≥ (x1.length:Int) then (some 1) else (if x11 < (x1.length:Int) then ((cmp_Compare_int.f (rd x9 x11) (rd x1 x11)).bind fun t299=>(if t299 = 0 then (slices_Compare_int_int.l0 k x0 x1 x9 x10 (wrap64 (x11 + 1))) else (some t299))) else (none))) else (none)) else (none)) else (if (x0.length:Int) < (x1.length:Int) then (some (-1)) else (some 0))
def slices_Compare_int_int.f (k:Nat) (l0:List Int) (l1:List Int):Option (Int):=slices_Compare_int_int.l0 k l0 l1 l0 (l0.length:Int) 0
theorem slices_Compare_int_int.mono_l:∀ k,(∀ y0 y1 y2 y3 y4,LeO (slices_Compare_int_int.l0 k y0 y1 y2 y3 y4) (slices_Compare_int_int.l0 (k + 1) y0 y1 y2 y3 y4))
 | 0=>fun _ _ _ _ _ r h=>by simp [slices_Compare_int_int.l0] at h
 | k + 1=>by
  have ih0:=slices_Compare_int_int.mono_l k
  ·intro y0 y1 y2 y3 y4;unfold slices_Compare_int_int.l0
   repeat' with_reducible first|exact ih0 _ _ _ _ _|exact LeO.refl _|exact LeO.none _|refine LeO.ite ?_ ?_|refine LeO.bind ?_ (fun _=>?_)
theorem slices_Compare_int_int.mono:∀ a0 a1 k,LeO (slices_Compare_int_int.f k a0 a1) (slices_Compare_int_int.f (k + 1) a0 a1):=by
 intro a0 a1 k;have ih0:=slices_Compare_int_int.mono_l k;unfold slices_Compare_int_int.f
 repeat' with_reducible first|exact ih0 _ _ _ _ _|exact LeO.refl _|exact LeO.none _|refine LeO.ite ?_ ?_|refine LeO.bind ?_ (fun _=>?_)
set_option maxHeartbeats 8000000 in
set_option maxRecDepth 100000 in
theorem slices_Compare_int_int.calls (k:Nat) (A0:Option Addr) (c0:Nat) (l0:List Int) (A1:Option Addr) (c1:Nat) (l1:List Int) (r:Int) (w:World) (hr0:Kd.C (Kd.int .i64) w A0 l0.length l0) (hc0:l0.length ≤ c0) (hr1:Kd.C (Kd.int .i64) w A1 l1.length l1) (hc1:l1.length ≤ c1) (h:slices_Compare_int_int.f k l0 l1 = some r) :
  Calls Try.prog 128 #[.slice A0 l0.length c0,.slice A1 l1.length c1] w fun e w'=>e = .returned (.int .i64 r) ∧ Drawn0 w w':=by
 have HR0:=Aside0.mk hr0;have HC0:=Aside0.mk hc0;clear hr0 hc0;have HR1:=Aside0.mk hr1;have HC1:=Aside0.mk hc1;clear hr1 hc1;have H:(slices_Compare_int_int.l0 k l0 l1 l0 (l0.length:Int) 0) = some r:=h;clear h;have H':=Aside0.mk H;clear H;go_enter Try.func128,Try.ntmps128;go_wp2
 go_loopg [11] k (fun kq v11 w'=>∃ (x11_1:Int),v11 = .int .i64 x11_1 ∧ Aside0 (slices_Compare_int_int.l0 kq l0 l1 l0 (l0.length:Int) x11_1 = some r) ∧ Aside0 (kq ≤ k) ∧ Drawn0 w w')
 case atStart=>exact ⟨(0),(by first|rfl|(simp;done)|(simp [*];done)),H',⟨Nat.le_refl _⟩,by repeat (first|exact Drawn0.refl _|apply Drawn0.step)⟩
 case round =>
  clear H'
  try clear c1
  try clear p2
  obtain ⟨x11_1,rfl,HA,HK1,⟨m1,rfl⟩⟩:=hrel
  cases gk with
  | zero=>exact absurd HA.out (by simp [slices_Compare_int_int.l0])
  | succ k1 =>
   have H:=HA.out;clear HA;simp only [slices_Compare_int_int.l0] at H;by_cases c3:x11_1 < (l0.length:Int)
   ·rw [if_pos c3] at H;have c3b0:decide (x11_1 < (l0.length:Int)) = true:=decide_eq_true c3;clear c3;by_cases c4:0 ≤ x11_1
    ·rw [if_pos c4] at H;have c4b0:decide (0 ≤ x11_1) = true:=decide_eq_true c4;clear c4;by_cases c5:x11_1 < (l0.length:Int)
     ·rw [if_pos c5] at H;have c5b0:decide (x11_1 < (l0.length:Int)) = true:=decide_eq_true c5;clear c5;by_cases c6:x11_1 ≥ (l1.length:Int)
      ·rw [if_pos c6] at H;have c6b0:decide ((l1.length:Int) ≤ x11_1) = true:=decide_eq_true c6;clear c6;obtain rfl:=Option.some.inj H;have p297:0 ≤ (x11_1:Int):=of_decide_eq_true ab;have q297:x11_1 < (l0.length:Int):=of_decide_eq_true ab;obtain ⟨ad297,e297,hx297_0⟩:=Kd.at_int HR0.out x11_1 p297 q297;cases e297
       replace p297:=eq_true p297;replace q297:=eq_true q297;go_wp2
       go_ret
       exact ⟨by first|rfl|(simp;done)|(simp [*];done),by repeat (first|exact Drawn0.refl _|apply Drawn0.step)⟩
      ·rw [if_neg c6] at H;have c6b0:decide ((l1.length:Int) ≤ x11_1) = false:=decide_eq_false c6;clear c6;by_cases c7:x11_1 < (l1.length:Int)
       ·rw [if_pos c7] at H;have c7b0:decide (x11_1 < (l1.length:Int)) = true:=decide_eq_true c7;clear c7;replace H:=Option.bind_eq_some_iff.mp H;obtain ⟨t299,A80,H⟩:=H;replace H:(if t299 = 0 then (slices_Compare_int_int.l0 k1 l0 l1 l0 (l0.length:Int) (wrap64 (x11_1 + 1))) else (some t299)) = some r:=H;have A8:=Aside0.mk A80;clear A80;by_cases c9:t299 = 0
        ·rw [if_pos c9] at H;have c9b0:(t299 == 0) = true:=beq_iff_eq.mpr c9;have c9b1:(t299 != 0) = false:=bne_eq_false_iff_eq.mpr c9;clear c9;have H':=Aside0.mk H;clear H;have p297:0 ≤ (x11_1:Int):=of_decide_eq_true ab;have q297:x11_1 < (l0.length:Int):=of_decide_eq_true ab;obtain ⟨ad297,e297,hx297_0⟩:=Kd.at_int HR0.out x11_1 p297 q297;cases e297
         replace p297:=eq_true p297;replace q297:=eq_true q297;have p298:0 ≤ (x11_1:Int):=of_decide_eq_true ab;have q298:x11_1 < (l1.length:Int):=of_decide_eq_true ab;obtain ⟨ad298,e298,hx298_0⟩:=Kd.at_int HR1.out x11_1 p298 q298;cases e298
         replace p298:=eq_true p298;replace q298:=eq_true q298;go_wp2_with (first|((with_reducible refine gate_callee (f:=155) rfl ?_);refine goesL_ (some 26) rfl rfl Try.func155 (by kernel_rfl) rfl #[.int .i64 (rd l0 x11_1),.int .i64 (rd l1 x11_1)] rfl mq ?_;(with_reducible refine (cmp_Compare_int.calls (rd l0 x11_1) (rd l1 x11_1) t299 _ A8.out).mono ?_);rintro e w' ⟨rfl,⟨nd,rfl⟩⟩;refine ⟨_,rfl,?_⟩))
         go_roundg k1
         case measure=>have:=HK1.out;omega
         case rel=>exact ⟨(wrap64 (x11_1 + 1)),(by first|rfl|(simp;done)|(simp [*];done)),H',⟨by have:=HK1.out;omega⟩,by repeat (first|exact Drawn0.refl _|apply Drawn0.step)⟩
        ·rw [if_neg c9] at H;have c9b0:(t299 == 0) = false:=beq_eq_false_iff_ne.mpr c9;have c9b1:(t299 != 0) = true:=bne_iff_ne.mpr c9;obtain rfl:=Option.some.inj H;have p297:0 ≤ (x11_1:Int):=of_decide_eq_true ab;have q297:x11_1 < (l0.length:Int):=of_decide_eq_true ab;obtain ⟨ad297,e297,hx297_0⟩:=Kd.at_int HR0.out x11_1 p297 q297;cases e297
         replace p297:=eq_true p297;replace q297:=eq_true q297;have p298:0 ≤ (x11_1:Int):=of_decide_eq_true ab;have q298:x11_1 < (l1.length:Int):=of_decide_eq_true ab;obtain ⟨ad298,e298,hx298_0⟩:=Kd.at_int HR1.out x11_1 p298 q298;cases e298
         replace p298:=eq_true p298;replace q298:=eq_true q298;go_wp2_with (first|((with_reducible refine gate_callee (f:=155) rfl ?_);refine goesL_ (some 26) rfl rfl Try.func155 (by kernel_rfl) rfl #[.int .i64 (rd l0 x11_1),.int .i64 (rd l1 x11_1)] rfl mq ?_;(with_reducible refine (cmp_Compare_int.calls (rd l0 x11_1) (rd l1 x11_1) t299 _ A8.out).mono ?_);rintro e w' ⟨rfl,⟨nd,rfl⟩⟩;refine ⟨_,rfl,?_⟩))
         go_ret
         exact ⟨by first|rfl|(simp;done)|(simp [*];done),by repeat (first|exact Drawn0.refl _|apply Drawn0.step)⟩
       ·rw [if_neg c7] at H;exact absurd H (by simp)
     ·rw [if_neg c5] at H;exact absurd H (by simp)
    ·rw [if_neg c4] at H;exact absurd H (by simp)
   ·rw [if_neg c3] at H;have c3b0:decide (x11_1 < (l0.length:Int)) = false:=decide_eq_false c3;clear c3;by_cases c10:(l0.length:Int) < (l1.length:Int)
    ·rw [if_pos c10] at H;have c10b0:decide ((l0.length:Int) < (l1.length:Int)) = true:=decide_eq_true c10;have c10b1:decide (l0.length < l1.length) = true:=decide_eq_true (Int.ofNat_lt.mp c10);clear c10;obtain rfl:=Option.some.inj H;go_wp2
     go_ret
     exact ⟨by first|rfl|(simp;done)|(simp [*];done),by repeat (first|exact Drawn0.refl _|apply Drawn0.step)⟩
    ·rw [if_neg c10] at H;have c10b0:decide ((l0.length:Int) < (l1.length:Int)) = false:=decide_eq_false c10;have c10b1:decide (l0.length < l1.length) = false:=decide_eq_false (fun h=>c10 (Int.ofNat_lt.mpr h));clear c10;obtain rfl:=Option.some.inj H;go_wp2
     go_ret
     exact ⟨by first|rfl|(simp;done)|(simp [*];done),by repeat (first|exact Drawn0.refl _|apply Drawn0.step)⟩
theorem slices_Compare_int_int.enters:∀ (args:Array Value) (w:World),(callFunc 128 args).run Try.prog w = .ok (.enter 128 args) w:=enters_of Try.func128 (by kernel_rfl) rfl


/-! ### impl_setOf: function 164 -/
def impl_setOf.l0:Nat → Int → List Int → Int → Option (List Int)
 | 0,_,_,_=>none
 | k + 1,x0,x3,x4=>if 0 ≤ x4 then (if (shr .i64 x0 x4) > 0 then (if (Go.bits .and .i64 (shr .i64 x0 x4) 1) = 1 then (if x3.length < 17592186044416 then (impl_setOf.l0 k x0 (x3 ++ [x4]) (wrap64 (x4 + 1))) else (none)) else (impl_setOf.l0 k x0 x3 (wrap64 (x4 + 1)))) else (some x3)) else (none)
def impl_setOf.f (k:Nat) (a0:Int):Option (List Int):=impl_setOf.l0 k a0 (([]:List Int)) 0
theorem impl_setOf.mono_l:∀ k,(∀ y0 y1 y2,LeO (impl_setOf.l0 k y0 y1 y2) (impl_setOf.l0 (k + 1) y0 y1 y2))
 | 0=>fun _ _ _ r h=>by simp [impl_setOf.l0] at h
 | k + 1=>by
  have ih0:=impl_setOf.mono_l k
  ·intro y0 y1 y2;unfold impl_setOf.l0
   repeat' with_reducible first|exact ih0 _ _ _|exact LeO.refl _|exact LeO.none _|refine LeO.ite ?_ ?_|refine LeO.bind ?_ (fun _=>?_)
theorem impl_setOf.mono:∀ a0 k,LeO (impl_setOf.f k a0) (impl_setOf.f (k + 1) a0):=by
 intro a0 k;have ih0:=impl_setOf.mono_l k;unfold impl_setOf.f
 repeat' with_reducible first|exact ih0 _ _ _|exact LeO.refl _|exact LeO.none _|refine LeO.ite ?_ ?_|refine LeO.bind ?_ (fun _=>?_)
set_option maxHeartbeats 8000000 in
set_option maxRecDepth 100000 in
theorem impl_setOf.calls (k:Nat) (a0:Int) (r:List Int) (w:World) (h:impl_setOf.f k a0 = some r) :
  Calls Try.prog 164 #[.int .i64 a0] w fun e w'=>∃ v0_:Value,e = .returned (v0_) ∧ Kd.R (Kd.int .i64) 3 w' w.heap.size (fun _=>True) v0_ r ∧ Below w.heap.size w w':=by
 have HB:=Aside0.mk (Below.refl w.heap.size w);have H:(impl_setOf.l0 k a0 (([]:List Int)) 0) = some r:=h;clear h;obtain ⟨y480,hy480⟩:∃ y_:List Int,y_ = (([]:List Int)):=⟨_,rfl⟩;replace H:(impl_setOf.l0 k a0 y480 0) = some r:=by first|(rw [hy480];with_reducible exact H)|(have H2_:=(Option.bind_some _ _).symm.trans H;rw [hy480];with_reducible exact H2_)|(have H2_:=(Option.bind_some _ _).symm.trans H;with_reducible exact H2_)|with_reducible exact H|(rw [hy480];exact H)|exact H
 have Ny480:=Aside0.mk hy480;clear hy480;have H':=Aside0.mk H;clear H;go_enter Try.func164,Try.ntmps164;go_wp2_with (first|((with_reducible refine gate_dst (N:=5) rfl ?_);refine Kd.R_lit (Kd.int .i64) _ 3 ?hg (N:=5) ?hd (xs:=([]:List Int)) (inner:=[]) (ok:=fun _=>True) (okp:=fun _=>True) ?hr ?hp (fun _ hk=>hk) trivial (Below.refl _ _) (Nat.le_refl _) (by simp) ?_;(case hd=>rfl);(case hg=>rfl);(case hr=>first|(go_simp;done)|(go_simp;rfl));(case hp=>exact (Reps.none _ _));intro v481 w2 ho3 hb hg_ hnew_;clear hg_ hnew_;(first|rw [← Ny480.out] at ho3|(simp only [Int.reduceToNat] at ho3;rw [← Ny480.out] at ho3));have n0_:=Aside0.mk (Kd.R_lower ho3 (below_size bw));have n1_:=Aside0.mk (below_step bw hb);clear HB;have HO482:=n0_;have HB:=n1_;clear n0_ n1_;clear hb ho3))
 go_loopg [3,4] k (fun kq v3 v4 w'=>∃ (x3_1:List Int) (x4_1:Int),v4 = .int .i64 x4_1 ∧ Aside0 (impl_setOf.l0 kq a0 x3_1 x4_1 = some r) ∧ Aside0 (kq ≤ k) ∧ Aside0 (Kd.R (Kd.int .i64) 3 w' w.heap.size (fun _=>True) v3 x3_1) ∧ Aside0 (Below w.heap.size w w'))
 case atStart=>exact ⟨(y480),(0),(by first|rfl|(simp;done)|(simp [*];done)),H',⟨Nat.le_refl _⟩,⟨by (with_reducible repeat (first|apply Kd.R_alloc|apply Kd.R_drewN|apply Kd.R_drew));exact HO482.out⟩,⟨by repeat (first|(with_reducible first|exact HB.out|apply below_alloc|apply pw_below_drewN|apply below_drew1)|exact HB.out)⟩⟩
 case round =>
  clear H'
  try clear c1
  try clear p2
  obtain ⟨x3_1,x4_1,rfl,HA,HK1,HO_3,HB⟩:=hrel
  cases gk with
  | zero=>exact absurd HA.out (by simp [impl_setOf.l0])
  | succ k1 =>
   have H:=HA.out;clear HA;simp only [impl_setOf.l0] at H;by_cases c4:0 ≤ x4_1
   ·rw [if_pos c4] at H;have c4b0:=eq_true c4;have c4b1:decide (0 ≤ x4_1) = true:=decide_eq_true c4;clear c4;obtain ⟨ji5,hji5⟩:∃ j_:Int,(shr .i64 a0 x4_1) = j_:=⟨_,rfl⟩;replace H:(if (ji5) > 0 then (if (Go.bits .and .i64 (ji5) 1) = 1 then (if x3_1.length < 17592186044416 then (impl_setOf.l0 k1 a0 (x3_1 ++ [x4_1]) (wrap64 (x4_1 + 1))) else (none)) else (impl_setOf.l0 k1 a0 x3_1 (wrap64 (x4_1 + 1)))) else (some x3_1)) = some r:=by first|(rw [hji5] at H;exact H)|(simp only [hji5] at H ⊢;exact H)
    have hji5_:(a0 / 2 ^ min x4_1.toNat 64) = ji5:=hji5;have hji5z:x4_1 ≤ 64 → (a0 / 2 ^ x4_1.toNat) = ji5:=shr_small hji5;by_cases c6:(ji5) > 0
    ·rw [if_pos c6] at H;have c6b0:decide (0 < (ji5)) = true:=decide_eq_true c6;clear c6;have c7b0:=eq_true (of_decide_eq_true ab:0 ≤ x4_1);by_cases c8:(Go.bits .and .i64 (ji5) 1) = 1
     ·rw [if_pos c8] at H;have c8b0:((Go.bits .and .i64 (ji5) 1) == 1) = true:=beq_iff_eq.mpr c8;have c8b1:((Go.bits .and .i64 (ji5) 1) != 1) = false:=bne_eq_false_iff_eq.mpr c8;clear c8;by_cases c9:x3_1.length < 17592186044416
      ·rw [if_pos c9] at H;have LMc9:=Aside0.mk c9;clear c9;obtain ⟨y483,hy483⟩:∃ y_:List Int,y_ = (x3_1 ++ [x4_1]):=⟨_,rfl⟩;replace H:(impl_setOf.l0 k1 a0 y483 (wrap64 (x4_1 + 1))) = some r:=by first|(rw [hy483];with_reducible exact H)|(have H2_:=(Option.bind_some _ _).symm.trans H;rw [hy483];with_reducible exact H2_)|(have H2_:=(Option.bind_some _ _).symm.trans H;with_reducible exact H2_)|with_reducible exact H|(rw [hy483];exact H)|exact H
       have Ny483:=Aside0.mk hy483;clear hy483;have H':=Aside0.mk H;clear H;go_wp2_with (first|((with_reducible refine gate_builtin (b:=.append) (xs:=#[.tmp 17,.tmp 19]) rfl ?_);at_builtin;refine Kd.R_append (Kd.int .i64) (w0:=w) w.heap.size rfl (.tmp 17) (.tmp 19) 40 3 (.int .i64 0) 8 rfl Try.underlying40 info3 rfl (by decide) (by omega) u3 x3_1 x4_1 [.int .i64 x4_1] (fun _=>True) (fun _=>False) rfl rfl ?aP (fun _ hk=>hk.elim) ?aF ?aO ?aB ?aS ?aL ?_;(case aP=>exact rfl);(case aB=>exact bw);(case aF=>exact (fun _ _=>trivial));(case aO=>exact (by (with_reducible repeat (first|apply Kd.R_alloc|apply Kd.R_drewN|apply Kd.R_drew));exact HO_3.out));(case aS=>exact (below_size bw));(case aL=>have:=LMc9.out;omega);intro v484 w10 ho hb hg hat;rw [← Ny483.out] at ho;have n0_:=Aside0.mk (hb);have n1_:=Aside0.mk (ho);clear HB;clear HO_3;have HB:=n0_;have HO485:=n1_;clear n0_ n1_;clear ho hb hg hat))
       go_roundg k1
       case measure=>have:=HK1.out;omega
       case rel=>exact ⟨(y483),(wrap64 (x4_1 + 1)),(by first|rfl|(simp;done)|(simp [*];done)),H',⟨by have:=HK1.out;omega⟩,⟨by (with_reducible repeat (first|apply Kd.R_alloc|apply Kd.R_drewN|apply Kd.R_drew));exact HO485.out⟩,⟨by repeat (first|(with_reducible first|exact HB.out|apply below_alloc|apply pw_below_drewN|apply below_drew1)|exact HB.out)⟩⟩
      ·rw [if_neg c9] at H;exact absurd H (by simp)
     ·rw [if_neg c8] at H;have c8b0:((Go.bits .and .i64 (ji5) 1) == 1) = false:=beq_eq_false_iff_ne.mpr c8;have c8b1:((Go.bits .and .i64 (ji5) 1) != 1) = true:=bne_iff_ne.mpr c8;have H':=Aside0.mk H;clear H;go_wp2
      go_roundg k1
      case measure=>have:=HK1.out;omega
      case rel=>exact ⟨(x3_1),(wrap64 (x4_1 + 1)),(by first|rfl|(simp;done)|(simp [*];done)),H',⟨by have:=HK1.out;omega⟩,⟨by (with_reducible repeat (first|apply Kd.R_alloc|apply Kd.R_drewN|apply Kd.R_drew));exact HO_3.out⟩,⟨by repeat (first|(with_reducible first|exact HB.out|apply below_alloc|apply pw_below_drewN|apply below_drew1)|exact HB.out)⟩⟩
    ·rw [if_neg c6] at H;have c6b0:decide (0 < (ji5)) = false:=decide_eq_false c6;clear c6;obtain rfl:=Option.some.inj H;go_wp2
     go_ret
     exact ⟨_,by first|rfl|(simp [errW_none,errW_some] <;> rfl)|(simp only [← hji5];first|rfl|(simp [errW_none,errW_some] <;> rfl))|(simp [*,errW_none,errW_some] <;> rfl),by (with_reducible repeat (first|apply Kd.R_alloc|apply Kd.R_drewN|apply Kd.R_drew));exact HO_3.out,by repeat (first|(with_reducible first|exact HB.out|apply below_alloc|apply pw_below_drewN|apply below_drew1)|exact HB.out)⟩
   ·rw [if_neg c4] at H;exact absurd H (by simp)


/-! ### impl_has: function 134 -/
def impl_has.f (a0:Int) (a1:Int):Option (Bool):=if 0 ≤ a1 then (some ((Go.bits .and .i64 (shr .i64 a0 a1) 1) == 1)) else (none)
set_option maxHeartbeats 8000000 in
set_option maxRecDepth 100000 in
theorem impl_has.calls (a0:Int) (a1:Int) (r:Bool) (w:World) (h:impl_has.f a0 a1 = some r) :
  Calls Try.prog 134 #[.int .i64 a0,.int .i64 a1] w fun e w'=>e = .returned (.bool r) ∧ Drawn0 w w':=by
 have H:(if 0 ≤ a1 then (some ((Go.bits .and .i64 (shr .i64 a0 a1) 1) == 1)) else (none)) = some r:=h;clear h;by_cases c3:0 ≤ a1
 ·rw [if_pos c3] at H;have c3b0:=eq_true c3;have c3b1:decide (0 ≤ a1) = true:=decide_eq_true c3;clear c3;obtain ⟨ji4,hji4⟩:∃ j_:Int,(shr .i64 a0 a1) = j_:=⟨_,rfl⟩;replace H:(some ((Go.bits .and .i64 (ji4) 1) == 1)) = some r:=by first|(rw [hji4] at H;exact H)|(simp only [hji4] at H ⊢;exact H)
  have hji4_:(a0 / 2 ^ min a1.toNat 64) = ji4:=hji4;have hji4z:a1 ≤ 64 → (a0 / 2 ^ a1.toNat) = ji4:=shr_small hji4;obtain rfl:=Option.some.inj H;go_enter Try.func134,Try.ntmps134;go_wp2
  go_ret
  exact ⟨by first|rfl|(simp;done)|(simp only [← hji4] <;> (first|rfl|simp))|(simp [*];done),by repeat (first|exact Drawn0.refl _|apply Drawn0.step)⟩
 ·rw [if_neg c3] at H;exact absurd H (by simp)


/-! ### impl_votes_isLeast: function 148 -/
def impl_votes_isLeast.l0:Nat → Int → Int → Int → Int → List Bool → Option (Bool)
 | 0,_,_,_,_,_=>none
 | k + 1,x1,x13,x14,x528000,x528001=>if x14 < x13 then ((impl_has.f x1 x14).bind fun t529=>(if t529 = true then (if 0 ≤ x14 then (if 0 ≤ (Go.bits .andNot .i64 x1 (shl .i64 1 x14)) then (if (Go.bits .andNot .i64 x1 (shl .i64 1 x14)) < (x528001.length:Int) then (if rdOf false x528001 (Go.bits .andNot .i64 x1 (shl .i64 1 x14)) = true then (some false) else (impl_votes_isLeast.l0 k x1 x13 (wrap64 (x14 + 1)) x528000 x528001)) else (none)) else (none)) else (none)) else (impl_votes_isLeast.l0 k x1 x13 (wrap64 (x14 + 1)) x528000 x528001))) else (some true)
def impl_votes_isLeast.f (k:Nat) (a0_0:Int) (l0_1:List Bool) (a1:Int):Option (Bool):=if 0 ≤ a1 then (if a1 < (l0_1.length:Int) then (if rdOf false l0_1 a1 = true then (impl_votes_isLeast.l0 k a1 a0_0 0 a0_0 l0_1) else (some false)) else (none)) else (none)
theorem impl_votes_isLeast.mono_l:∀ k,(∀ y0 y1 y2 y3 y4,LeO (impl_votes_isLeast.l0 k y0 y1 y2 y3 y4) (impl_votes_isLeast.l0 (k + 1) y0 y1 y2 y3 y4))
 | 0=>fun _ _ _ _ _ r h=>by simp [impl_votes_isLeast.l0] at h
 | k + 1=>by
  have ih0:=impl_votes_isLeast.mono_l k
  ·intro y0 y1 y2 y3 y4;unfold impl_votes_isLeast.l0
   repeat' with_reducible first|exact ih0 _ _ _ _ _|exact LeO.refl _|exact LeO.none _|refine LeO.ite ?_ ?_|refine LeO.bind ?_ (fun _=>?_)
theorem impl_votes_isLeast.mono:∀ a0 a1 a2 k,LeO (impl_votes_isLeast.f k a0 a1 a2) (impl_votes_isLeast.f (k + 1) a0 a1 a2):=by
 intro a0 a1 a2 k;have ih0:=impl_votes_isLeast.mono_l k;unfold impl_votes_isLeast.f
 repeat' with_reducible first|exact ih0 _ _ _ _ _|exact LeO.refl _|exact LeO.none _|refine LeO.ite ?_ ?_|refine LeO.bind ?_ (fun _=>?_)
set_option maxHeartbeats 8000000 in
set_option maxRecDepth 100000 in
theorem impl_votes_isLeast.calls (k:Nat) (a0_0:Int) (A0_1:Option Addr) (c0_1:Nat) (l0_1:List Bool) (a1:Int) (r:Bool) (w:World) (hr0_1:Kd.C Kd.bool w A0_1 l0_1.length l0_1) (hc0_1:l0_1.length ≤ c0_1) (h:impl_votes_isLeast.f k a0_0 l0_1 a1 = some r) :
  Calls Try.prog 148 #[.agg #[.int .i64 a0_0,.slice A0_1 l0_1.length c0_1],.int .i64 a1] w fun e w'=>e = .returned (.bool r) ∧ Below w.heap.size w w':=by
 have hu68:=Try.underlying68;have HR0_1:=Aside0.mk hr0_1;have HC0_1:=Aside0.mk hc0_1;clear hr0_1 hc0_1;have HB:=Aside0.mk (Below.refl w.heap.size w);have H:(if 0 ≤ a1 then (if a1 < (l0_1.length:Int) then (if rdOf false l0_1 a1 = true then (impl_votes_isLeast.l0 k a1 a0_0 0 a0_0 l0_1) else (some false)) else (none)) else (none)) = some r:=h;clear h;by_cases c3:0 ≤ a1
 ·rw [if_pos c3] at H;have c3b0:decide (0 ≤ a1) = true:=decide_eq_true c3;clear c3;by_cases c4:a1 < (l0_1.length:Int)
  ·rw [if_pos c4] at H;have c4b0:decide (a1 < (l0_1.length:Int)) = true:=decide_eq_true c4;clear c4;obtain ⟨bq5,hbq5⟩:∃ b_:Bool,b_ = (rdOf false l0_1 a1):=⟨_,rfl⟩;replace H:(if bq5 = true then (impl_votes_isLeast.l0 k a1 a0_0 0 a0_0 l0_1) else (some false)) = some r:=by rw [← hbq5] at H;exact H
   have Nbq5:=Aside0.mk hbq5;clear hbq5;by_cases c6:bq5 = true
   ·subst c6;have H1:(impl_votes_isLeast.l0 k a1 a0_0 0 a0_0 l0_1) = some r:=by rw [if_pos rfl] at H;exact H
    clear H;have H:=H1;clear H1;have H':=Aside0.mk H;clear H;go_enter Try.func148,Try.ntmps148;go_wp2_with (first|((with_reducible refine gate_dst (N:=2) rfl ?_);refine box_event ?hg (N:=2) ?hd (cs:=#[.int .i64 a0_0,.slice A0_1 l0_1.length c0_1]) (t:=68) ?hr ?_;(case hd=>rfl);(case hg=>rfl);(case hr=>first|(go_simp;done)|(go_simp;rfl));intro gb527 hg w7 hbox hb;have n0_:=Aside0.mk (below_step bw hb);have n1_:=Aside0.mk (hbox);have n2_:=Aside0.mk ((by rw [hg];exact (below_size bw):w.heap.size ≤ gb527));have n3_:=Aside0.mk ((by rw [hg];exact (below_size bw):w.heap.size ≤ gb527));clear HB;have HB:=n0_;have BK527:=n1_;have GW527:=n2_;have GE527:=n3_;clear n0_ n1_ n2_ n3_;clear hb hbox hg;have hcz8_0:w7.cell? ⟨gb527,0,none⟩ = some (.int .i64 a0_0):=(blk_cell BK527.out 0).trans rfl;have hcz8_1:w7.cell? ⟨gb527,1,none⟩ = some (.slice A0_1 l0_1.length c0_1):=(blk_cell BK527.out 1).trans rfl;have hfz8_0:=blk_frozen BK527.out 0;have hfz8_1:=blk_frozen BK527.out 1;have p528:0 ≤ (a1:Int):=of_decide_eq_true ab;have q528:a1 < (l0_1.length:Int):=of_decide_eq_true ab;obtain ⟨ad528,e528,hx528_0⟩:=Kd.at_bool HR0_1.out a1 p528 q528;(try rw [← Nbq5.out] at hx528_0);cases e528;replace hx528_0:=(HB.out.cell (World.block_lt_of_cell? w _ hx528_0)).trans hx528_0;replace p528:=eq_true p528;replace q528:=eq_true q528))
    repeat (go_quiet (first|((with_reducible refine gate_dst (N:=2) rfl ?_);refine box_event ?hg (N:=2) ?hd (cs:=#[.int .i64 a0_0,.slice A0_1 l0_1.length c0_1]) (t:=68) ?hr ?_;(case hd=>rfl);(case hg=>rfl);(case hr=>first|(go_simp;done)|(go_simp;rfl));intro gb527 hg w7 hbox hb;have n0_:=Aside0.mk (below_step bw hb);have n1_:=Aside0.mk (hbox);have n2_:=Aside0.mk ((by rw [hg];exact (below_size bw):w.heap.size ≤ gb527));have n3_:=Aside0.mk ((by rw [hg];exact (below_size bw):w.heap.size ≤ gb527));clear HB;have HB:=n0_;have BK527:=n1_;have GW527:=n2_;have GE527:=n3_;clear n0_ n1_ n2_ n3_;clear hb hbox hg;have hcz8_0:w7.cell? ⟨gb527,0,none⟩ = some (.int .i64 a0_0):=(blk_cell BK527.out 0).trans rfl;have hcz8_1:w7.cell? ⟨gb527,1,none⟩ = some (.slice A0_1 l0_1.length c0_1):=(blk_cell BK527.out 1).trans rfl;have hfz8_0:=blk_frozen BK527.out 0;have hfz8_1:=blk_frozen BK527.out 1;have p528:0 ≤ (a1:Int):=of_decide_eq_true ab;have q528:a1 < (l0_1.length:Int):=of_decide_eq_true ab;obtain ⟨ad528,e528,hx528_0⟩:=Kd.at_bool HR0_1.out a1 p528 q528;(try rw [← Nbq5.out] at hx528_0);cases e528;replace hx528_0:=(HB.out.cell (World.block_lt_of_cell? w _ hx528_0)).trans hx528_0;replace p528:=eq_true p528;replace q528:=eq_true q528));try go_wp2_with (first|((with_reducible refine gate_dst (N:=2) rfl ?_);refine box_event ?hg (N:=2) ?hd (cs:=#[.int .i64 a0_0,.slice A0_1 l0_1.length c0_1]) (t:=68) ?hr ?_;(case hd=>rfl);(case hg=>rfl);(case hr=>first|(go_simp;done)|(go_simp;rfl));intro gb527 hg w7 hbox hb;have n0_:=Aside0.mk (below_step bw hb);have n1_:=Aside0.mk (hbox);have n2_:=Aside0.mk ((by rw [hg];exact (below_size bw):w.heap.size ≤ gb527));have n3_:=Aside0.mk ((by rw [hg];exact (below_size bw):w.heap.size ≤ gb527));clear HB;have HB:=n0_;have BK527:=n1_;have GW527:=n2_;have GE527:=n3_;clear n0_ n1_ n2_ n3_;clear hb hbox hg;have hcz8_0:w7.cell? ⟨gb527,0,none⟩ = some (.int .i64 a0_0):=(blk_cell BK527.out 0).trans rfl;have hcz8_1:w7.cell? ⟨gb527,1,none⟩ = some (.slice A0_1 l0_1.length c0_1):=(blk_cell BK527.out 1).trans rfl;have hfz8_0:=blk_frozen BK527.out 0;have hfz8_1:=blk_frozen BK527.out 1;have p528:0 ≤ (a1:Int):=of_decide_eq_true ab;have q528:a1 < (l0_1.length:Int):=of_decide_eq_true ab;obtain ⟨ad528,e528,hx528_0⟩:=Kd.at_bool HR0_1.out a1 p528 q528;(try rw [← Nbq5.out] at hx528_0);cases e528;replace hx528_0:=(HB.out.cell (World.block_lt_of_cell? w _ hx528_0)).trans hx528_0;replace p528:=eq_true p528;replace q528:=eq_true q528)))
    go_loopg [14] k (fun kq v14 w'=>∃ (x14_1:Int),v14 = .int .i64 x14_1 ∧ Aside0 (impl_votes_isLeast.l0 kq a1 a0_0 x14_1 a0_0 l0_1 = some r) ∧ Aside0 (kq ≤ k) ∧ Aside0 (w'.heap[gb527]? = some (.cells #[.int .i64 a0_0,(.slice (some ad528) l0_1.length c0_1)] 68 (0,0))) ∧ Aside0 (Below w.heap.size w w'))
    case atStart=>exact ⟨(0),(by first|rfl|(simp;done)|(simp [*];done)),H',⟨Nat.le_refl _⟩,⟨by (with_reducible repeat (first|refine blk_drewN ?_ _|refine blk_drew ?_|refine blk_alloc ?_ _));exact BK527.out⟩,⟨by repeat (first|(with_reducible first|exact HB.out|apply below_alloc|apply pw_below_drewN|apply below_drew1|refine below_set ?_ GE527.out)|exact HB.out)⟩⟩
    case round =>
     clear H'
     try clear c1
     try clear p2
     try clear c3
     try clear c3b0
     try clear c4
     try clear c4b0
     try clear p5
     try clear q5
     try clear hx5
     try clear c6
     try clear hcz8_0
     try clear hcz8_1
     try clear hfz8_0
     try clear hfz8_1
     try clear hx528_0
     try clear p528
     try clear q528
     obtain ⟨x14_1,rfl,HA,HK1,BK527,HB⟩:=hrel
     cases gk with
     | zero=>exact absurd HA.out (by simp [impl_votes_isLeast.l0])
     | succ k1 =>
      have H:=HA.out;clear HA;simp only [impl_votes_isLeast.l0] at H;by_cases c9:x14_1 < a0_0
      ·rw [if_pos c9] at H;have c9b0:decide (x14_1 < a0_0) = true:=decide_eq_true c9;clear c9;replace H:=Option.bind_eq_some_iff.mp H;obtain ⟨t529,A100,H⟩:=H;replace H:(if t529 = true then (if 0 ≤ x14_1 then (if 0 ≤ (Go.bits .andNot .i64 a1 (shl .i64 1 x14_1)) then (if (Go.bits .andNot .i64 a1 (shl .i64 1 x14_1)) < (l0_1.length:Int) then (if rdOf false l0_1 (Go.bits .andNot .i64 a1 (shl .i64 1 x14_1)) = true then (some false) else (impl_votes_isLeast.l0 k1 a1 a0_0 (wrap64 (x14_1 + 1)) a0_0 l0_1)) else (none)) else (none)) else (none)) else (impl_votes_isLeast.l0 k1 a1 a0_0 (wrap64 (x14_1 + 1)) a0_0 l0_1)) = some r:=H;have A10:=Aside0.mk A100;clear A100;by_cases c11:t529 = true
       ·subst c11;have H1:(if 0 ≤ x14_1 then (if 0 ≤ (Go.bits .andNot .i64 a1 (shl .i64 1 x14_1)) then (if (Go.bits .andNot .i64 a1 (shl .i64 1 x14_1)) < (l0_1.length:Int) then (if rdOf false l0_1 (Go.bits .andNot .i64 a1 (shl .i64 1 x14_1)) = true then (some false) else (impl_votes_isLeast.l0 k1 a1 a0_0 (wrap64 (x14_1 + 1)) a0_0 l0_1)) else (none)) else (none)) else (none)) = some r:=by rw [if_pos rfl] at H;exact H
        clear H;have H:=H1;clear H1;by_cases c12:0 ≤ x14_1
        ·rw [if_pos c12] at H;have c12b0:=eq_true c12;have c12b1:decide (0 ≤ x14_1) = true:=decide_eq_true c12;clear c12;obtain ⟨ji13,hji13⟩:∃ j_:Int,(shl .i64 1 x14_1) = j_:=⟨_,rfl⟩;replace H:(if 0 ≤ (Go.bits .andNot .i64 a1 (ji13)) then (if (Go.bits .andNot .i64 a1 (ji13)) < (l0_1.length:Int) then (if rdOf false l0_1 (Go.bits .andNot .i64 a1 (ji13)) = true then (some false) else (impl_votes_isLeast.l0 k1 a1 a0_0 (wrap64 (x14_1 + 1)) a0_0 l0_1)) else (none)) else (none)) = some r:=by first|(rw [hji13] at H;exact H)|(simp only [hji13] at H ⊢;exact H)
         (try rw [hji13] at A10)
         have hji13_:(IntKind.i64.wrap (1 * 2 ^ min x14_1.toNat 64)) = ji13:=hji13;have hji13z:x14_1 ≤ 64 → (IntKind.i64.wrap (1 * 2 ^ x14_1.toNat)) = ji13:=shl_small hji13;have hji13u:(IntKind.i64.wrap (2 ^ min x14_1.toNat 64)) = ji13:=by have h_:=hji13_;rw [Int.one_mul] at h_;exact h_
         have hji13v:x14_1 ≤ 64 → (IntKind.i64.wrap (2 ^ x14_1.toNat)) = ji13:=fun hle_=>by have h_:=hji13z hle_;rw [Int.one_mul] at h_;exact h_
         have hji13y:(wrap64 (1 * 2 ^ min x14_1.toNat 64)) = ji13:=(i64_w _).symm.trans hji13_;have hji13x:x14_1 ≤ 64 → (wrap64 (1 * 2 ^ x14_1.toNat)) = ji13:=fun h_=>(i64_w _).symm.trans (hji13z h_)
         by_cases c14:0 ≤ (Go.bits .andNot .i64 a1 (ji13))
         ·rw [if_pos c14] at H;have c14b0:decide (0 ≤ (Go.bits .andNot .i64 a1 (ji13))) = true:=decide_eq_true c14;clear c14;by_cases c15:(Go.bits .andNot .i64 a1 (ji13)) < (l0_1.length:Int)
          ·rw [if_pos c15] at H;have c15b0:decide ((Go.bits .andNot .i64 a1 (ji13)) < (l0_1.length:Int)) = true:=decide_eq_true c15;clear c15;obtain ⟨bq16,hbq16⟩:∃ b_:Bool,b_ = (rdOf false l0_1 (Go.bits .andNot .i64 a1 (ji13))):=⟨_,rfl⟩;replace H:(if bq16 = true then (some false) else (impl_votes_isLeast.l0 k1 a1 a0_0 (wrap64 (x14_1 + 1)) a0_0 l0_1)) = some r:=by rw [← hbq16] at H;exact H
           have Nbq16:=Aside0.mk hbq16;clear hbq16;by_cases c17:bq16 = true
           ·subst c17;have H1:(some false) = some r:=by rw [if_pos rfl] at H;exact H
            clear H;have H:=H1;clear H1;obtain rfl:=Option.some.inj H;go_wp2_with (first|(go_at_call 134;(with_reducible refine (impl_has.calls a1 x14_1 true _ A10.out).mono ?_);rintro e w' ⟨rfl,⟨nd,rfl⟩⟩;(try first|exact ⟨rfl,_,World.drewN_drewN _ _ _⟩|exact ⟨rfl,_,Eq.trans (World.drewN_drewN _ _ _) (congrArg (World.drewN _) (Nat.add_assoc _ _ _))⟩);have hcz18_0:wr.cell? ⟨gb527,0,none⟩ = some (.int .i64 a0_0):=(blk_cell BK527.out 0).trans rfl;have hcz18_1:wr.cell? ⟨gb527,1,none⟩ = some (.slice (some ad528) l0_1.length c0_1):=(blk_cell BK527.out 1).trans rfl;have hfz18_0:=blk_frozen BK527.out 0;have hfz18_1:=blk_frozen BK527.out 1;have p530:0 ≤ ((Go.bits .andNot .i64 a1 (ji13)):Int):=of_decide_eq_true ab;have q530:(Go.bits .andNot .i64 a1 (ji13)) < (l0_1.length:Int):=of_decide_eq_true ab;obtain ⟨ad530,e530,hx530_0⟩:=Kd.at_bool HR0_1.out (Go.bits .andNot .i64 a1 (ji13)) p530 q530;(try rw [← Nbq5.out] at hx530_0);(try rw [← Nbq16.out] at hx530_0);obtain rfl:ad528 = ad530:=(by injection e530);replace hx530_0:=(HB.out.cell (World.block_lt_of_cell? w _ hx530_0)).trans hx530_0;replace p530:=eq_true p530;replace q530:=eq_true q530))
            repeat (go_quiet (first|(go_at_call 134;(with_reducible refine (impl_has.calls a1 x14_1 true _ A10.out).mono ?_);rintro e w' ⟨rfl,⟨nd,rfl⟩⟩;(try first|exact ⟨rfl,_,World.drewN_drewN _ _ _⟩|exact ⟨rfl,_,Eq.trans (World.drewN_drewN _ _ _) (congrArg (World.drewN _) (Nat.add_assoc _ _ _))⟩);have hcz18_0:wr.cell? ⟨gb527,0,none⟩ = some (.int .i64 a0_0):=(blk_cell BK527.out 0).trans rfl;have hcz18_1:wr.cell? ⟨gb527,1,none⟩ = some (.slice (some ad528) l0_1.length c0_1):=(blk_cell BK527.out 1).trans rfl;have hfz18_0:=blk_frozen BK527.out 0;have hfz18_1:=blk_frozen BK527.out 1;have p530:0 ≤ ((Go.bits .andNot .i64 a1 (ji13)):Int):=of_decide_eq_true ab;have q530:(Go.bits .andNot .i64 a1 (ji13)) < (l0_1.length:Int):=of_decide_eq_true ab;obtain ⟨ad530,e530,hx530_0⟩:=Kd.at_bool HR0_1.out (Go.bits .andNot .i64 a1 (ji13)) p530 q530;(try rw [← Nbq5.out] at hx530_0);(try rw [← Nbq16.out] at hx530_0);obtain rfl:ad528 = ad530:=(by injection e530);replace hx530_0:=(HB.out.cell (World.block_lt_of_cell? w _ hx530_0)).trans hx530_0;replace p530:=eq_true p530;replace q530:=eq_true q530));try go_wp2_with (first|(go_at_call 134;(with_reducible refine (impl_has.calls a1 x14_1 true _ A10.out).mono ?_);rintro e w' ⟨rfl,⟨nd,rfl⟩⟩;(try first|exact ⟨rfl,_,World.drewN_drewN _ _ _⟩|exact ⟨rfl,_,Eq.trans (World.drewN_drewN _ _ _) (congrArg (World.drewN _) (Nat.add_assoc _ _ _))⟩);have hcz18_0:wr.cell? ⟨gb527,0,none⟩ = some (.int .i64 a0_0):=(blk_cell BK527.out 0).trans rfl;have hcz18_1:wr.cell? ⟨gb527,1,none⟩ = some (.slice (some ad528) l0_1.length c0_1):=(blk_cell BK527.out 1).trans rfl;have hfz18_0:=blk_frozen BK527.out 0;have hfz18_1:=blk_frozen BK527.out 1;have p530:0 ≤ ((Go.bits .andNot .i64 a1 (ji13)):Int):=of_decide_eq_true ab;have q530:(Go.bits .andNot .i64 a1 (ji13)) < (l0_1.length:Int):=of_decide_eq_true ab;obtain ⟨ad530,e530,hx530_0⟩:=Kd.at_bool HR0_1.out (Go.bits .andNot .i64 a1 (ji13)) p530 q530;(try rw [← Nbq5.out] at hx530_0);(try rw [← Nbq16.out] at hx530_0);obtain rfl:ad528 = ad530:=(by injection e530);replace hx530_0:=(HB.out.cell (World.block_lt_of_cell? w _ hx530_0)).trans hx530_0;replace p530:=eq_true p530;replace q530:=eq_true q530)))
            go_ret
            exact ⟨by first|rfl|(simp [errW_none,errW_some] <;> rfl)|(simp only [← hji13];first|rfl|(simp [errW_none,errW_some] <;> rfl))|(simp [*,errW_none,errW_some] <;> rfl),by repeat (first|(with_reducible first|exact HB.out|apply below_alloc|apply pw_below_drewN|apply below_drew1|refine below_set ?_ GE527.out)|exact HB.out)⟩
           ·replace c17:=Bool.eq_false_iff.mpr c17;subst c17;have H1:(impl_votes_isLeast.l0 k1 a1 a0_0 (wrap64 (x14_1 + 1)) a0_0 l0_1) = some r:=by rw [if_neg (show ¬ (false = true) by decide)] at H;exact H
            clear H;have H:=H1;clear H1;have H':=Aside0.mk H;clear H;go_wp2_with (first|(go_at_call 134;(with_reducible refine (impl_has.calls a1 x14_1 true _ A10.out).mono ?_);rintro e w' ⟨rfl,⟨nd,rfl⟩⟩;(try first|exact ⟨rfl,_,World.drewN_drewN _ _ _⟩|exact ⟨rfl,_,Eq.trans (World.drewN_drewN _ _ _) (congrArg (World.drewN _) (Nat.add_assoc _ _ _))⟩);have hcz19_0:wr.cell? ⟨gb527,0,none⟩ = some (.int .i64 a0_0):=(blk_cell BK527.out 0).trans rfl;have hcz19_1:wr.cell? ⟨gb527,1,none⟩ = some (.slice (some ad528) l0_1.length c0_1):=(blk_cell BK527.out 1).trans rfl;have hfz19_0:=blk_frozen BK527.out 0;have hfz19_1:=blk_frozen BK527.out 1;have p530:0 ≤ ((Go.bits .andNot .i64 a1 (ji13)):Int):=of_decide_eq_true ab;have q530:(Go.bits .andNot .i64 a1 (ji13)) < (l0_1.length:Int):=of_decide_eq_true ab;obtain ⟨ad530,e530,hx530_0⟩:=Kd.at_bool HR0_1.out (Go.bits .andNot .i64 a1 (ji13)) p530 q530;(try rw [← Nbq5.out] at hx530_0);(try rw [← Nbq16.out] at hx530_0);obtain rfl:ad528 = ad530:=(by injection e530);replace hx530_0:=(HB.out.cell (World.block_lt_of_cell? w _ hx530_0)).trans hx530_0;replace p530:=eq_true p530;replace q530:=eq_true q530))
            repeat (go_quiet (first|(go_at_call 134;(with_reducible refine (impl_has.calls a1 x14_1 true _ A10.out).mono ?_);rintro e w' ⟨rfl,⟨nd,rfl⟩⟩;(try first|exact ⟨rfl,_,World.drewN_drewN _ _ _⟩|exact ⟨rfl,_,Eq.trans (World.drewN_drewN _ _ _) (congrArg (World.drewN _) (Nat.add_assoc _ _ _))⟩);have hcz19_0:wr.cell? ⟨gb527,0,none⟩ = some (.int .i64 a0_0):=(blk_cell BK527.out 0).trans rfl;have hcz19_1:wr.cell? ⟨gb527,1,none⟩ = some (.slice (some ad528) l0_1.length c0_1):=(blk_cell BK527.out 1).trans rfl;have hfz19_0:=blk_frozen BK527.out 0;have hfz19_1:=blk_frozen BK527.out 1;have p530:0 ≤ ((Go.bits .andNot .i64 a1 (ji13)):Int):=of_decide_eq_true ab;have q530:(Go.bits .andNot .i64 a1 (ji13)) < (l0_1.length:Int):=of_decide_eq_true ab;obtain ⟨ad530,e530,hx530_0⟩:=Kd.at_bool HR0_1.out (Go.bits .andNot .i64 a1 (ji13)) p530 q530;(try rw [← Nbq5.out] at hx530_0);(try rw [← Nbq16.out] at hx530_0);obtain rfl:ad528 = ad530:=(by injection e530);replace hx530_0:=(HB.out.cell (World.block_lt_of_cell? w _ hx530_0)).trans hx530_0;replace p530:=eq_true p530;replace q530:=eq_true q530));try go_wp2_with (first|(go_at_call 134;(with_reducible refine (impl_has.calls a1 x14_1 true _ A10.out).mono ?_);rintro e w' ⟨rfl,⟨nd,rfl⟩⟩;(try first|exact ⟨rfl,_,World.drewN_drewN _ _ _⟩|exact ⟨rfl,_,Eq.trans (World.drewN_drewN _ _ _) (congrArg (World.drewN _) (Nat.add_assoc _ _ _))⟩);have hcz19_0:wr.cell? ⟨gb527,0,none⟩ = some (.int .i64 a0_0):=(blk_cell BK527.out 0).trans rfl;have hcz19_1:wr.cell? ⟨gb527,1,none⟩ = some (.slice (some ad528) l0_1.length c0_1):=(blk_cell BK527.out 1).trans rfl;have hfz19_0:=blk_frozen BK527.out 0;have hfz19_1:=blk_frozen BK527.out 1;have p530:0 ≤ ((Go.bits .andNot .i64 a1 (ji13)):Int):=of_decide_eq_true ab;have q530:(Go.bits .andNot .i64 a1 (ji13)) < (l0_1.length:Int):=of_decide_eq_true ab;obtain ⟨ad530,e530,hx530_0⟩:=Kd.at_bool HR0_1.out (Go.bits .andNot .i64 a1 (ji13)) p530 q530;(try rw [← Nbq5.out] at hx530_0);(try rw [← Nbq16.out] at hx530_0);obtain rfl:ad528 = ad530:=(by injection e530);replace hx530_0:=(HB.out.cell (World.block_lt_of_cell? w _ hx530_0)).trans hx530_0;replace p530:=eq_true p530;replace q530:=eq_true q530)))
            go_roundg k1
            case measure=>have:=HK1.out;omega
            case rel=>exact ⟨(wrap64 (x14_1 + 1)),(by first|rfl|(simp;done)|(simp [*];done)),H',⟨by have:=HK1.out;omega⟩,⟨by (with_reducible repeat (first|refine blk_drewN ?_ _|refine blk_drew ?_|refine blk_alloc ?_ _));exact BK527.out⟩,⟨by repeat (first|(with_reducible first|exact HB.out|apply below_alloc|apply pw_below_drewN|apply below_drew1|refine below_set ?_ GE527.out)|exact HB.out)⟩⟩
          ·rw [if_neg c15] at H;exact absurd H (by simp)
         ·rw [if_neg c14] at H;exact absurd H (by simp)
        ·rw [if_neg c12] at H;exact absurd H (by simp)
       ·replace c11:=Bool.eq_false_iff.mpr c11;subst c11;have H1:(impl_votes_isLeast.l0 k1 a1 a0_0 (wrap64 (x14_1 + 1)) a0_0 l0_1) = some r:=by rw [if_neg (show ¬ (false = true) by decide)] at H;exact H
        clear H;have H:=H1;clear H1;have H':=Aside0.mk H;clear H;go_wp2_with (first|(go_at_call 134;(with_reducible refine (impl_has.calls a1 x14_1 false _ A10.out).mono ?_);rintro e w' ⟨rfl,⟨nd,rfl⟩⟩;(try first|exact ⟨rfl,_,World.drewN_drewN _ _ _⟩|exact ⟨rfl,_,Eq.trans (World.drewN_drewN _ _ _) (congrArg (World.drewN _) (Nat.add_assoc _ _ _))⟩)))
        repeat (go_quiet (first|(go_at_call 134;(with_reducible refine (impl_has.calls a1 x14_1 false _ A10.out).mono ?_);rintro e w' ⟨rfl,⟨nd,rfl⟩⟩;(try first|exact ⟨rfl,_,World.drewN_drewN _ _ _⟩|exact ⟨rfl,_,Eq.trans (World.drewN_drewN _ _ _) (congrArg (World.drewN _) (Nat.add_assoc _ _ _))⟩)));try go_wp2_with (first|(go_at_call 134;(with_reducible refine (impl_has.calls a1 x14_1 false _ A10.out).mono ?_);rintro e w' ⟨rfl,⟨nd,rfl⟩⟩;(try first|exact ⟨rfl,_,World.drewN_drewN _ _ _⟩|exact ⟨rfl,_,Eq.trans (World.drewN_drewN _ _ _) (congrArg (World.drewN _) (Nat.add_assoc _ _ _))⟩))))
        go_roundg k1
        case measure=>have:=HK1.out;omega
        case rel=>exact ⟨(wrap64 (x14_1 + 1)),(by first|rfl|(simp;done)|(simp [*];done)),H',⟨by have:=HK1.out;omega⟩,⟨by (with_reducible repeat (first|refine blk_drewN ?_ _|refine blk_drew ?_|refine blk_alloc ?_ _));exact BK527.out⟩,⟨by repeat (first|(with_reducible first|exact HB.out|apply below_alloc|apply pw_below_drewN|apply below_drew1|refine below_set ?_ GE527.out)|exact HB.out)⟩⟩
      ·rw [if_neg c9] at H;have c9b0:decide (x14_1 < a0_0) = false:=decide_eq_false c9;clear c9;obtain rfl:=Option.some.inj H;go_wp2
       repeat (go_quiet (fail);try go_wp2)
       go_ret
       exact ⟨by first|rfl|(simp [errW_none,errW_some] <;> rfl)|(simp [*,errW_none,errW_some] <;> rfl),by repeat (first|(with_reducible first|exact HB.out|apply below_alloc|apply pw_below_drewN|apply below_drew1|refine below_set ?_ GE527.out)|exact HB.out)⟩
   ·replace c6:=Bool.eq_false_iff.mpr c6;subst c6;have H1:(some false) = some r:=by rw [if_neg (show ¬ (false = true) by decide)] at H;exact H
    clear H;have H:=H1;clear H1;obtain rfl:=Option.some.inj H;go_enter Try.func148,Try.ntmps148;go_wp2_with (first|((with_reducible refine gate_dst (N:=2) rfl ?_);refine box_event ?hg (N:=2) ?hd (cs:=#[.int .i64 a0_0,.slice A0_1 l0_1.length c0_1]) (t:=68) ?hr ?_;(case hd=>rfl);(case hg=>rfl);(case hr=>first|(go_simp;done)|(go_simp;rfl));intro gb527 hg w20 hbox hb;have n0_:=Aside0.mk (below_step bw hb);have n1_:=Aside0.mk (hbox);have n2_:=Aside0.mk ((by rw [hg];exact (below_size bw):w.heap.size ≤ gb527));have n3_:=Aside0.mk ((by rw [hg];exact (below_size bw):w.heap.size ≤ gb527));clear HB;have HB:=n0_;have BK527:=n1_;have GW527:=n2_;have GE527:=n3_;clear n0_ n1_ n2_ n3_;clear hb hbox hg;have hcz21_0:w20.cell? ⟨gb527,0,none⟩ = some (.int .i64 a0_0):=(blk_cell BK527.out 0).trans rfl;have hcz21_1:w20.cell? ⟨gb527,1,none⟩ = some (.slice A0_1 l0_1.length c0_1):=(blk_cell BK527.out 1).trans rfl;have hfz21_0:=blk_frozen BK527.out 0;have hfz21_1:=blk_frozen BK527.out 1;have p528:0 ≤ (a1:Int):=of_decide_eq_true ab;have q528:a1 < (l0_1.length:Int):=of_decide_eq_true ab;obtain ⟨ad528,e528,hx528_0⟩:=Kd.at_bool HR0_1.out a1 p528 q528;(try rw [← Nbq5.out] at hx528_0);cases e528;replace hx528_0:=(HB.out.cell (World.block_lt_of_cell? w _ hx528_0)).trans hx528_0;replace p528:=eq_true p528;replace q528:=eq_true q528))
    repeat (go_quiet (first|((with_reducible refine gate_dst (N:=2) rfl ?_);refine box_event ?hg (N:=2) ?hd (cs:=#[.int .i64 a0_0,.slice A0_1 l0_1.length c0_1]) (t:=68) ?hr ?_;(case hd=>rfl);(case hg=>rfl);(case hr=>first|(go_simp;done)|(go_simp;rfl));intro gb527 hg w20 hbox hb;have n0_:=Aside0.mk (below_step bw hb);have n1_:=Aside0.mk (hbox);have n2_:=Aside0.mk ((by rw [hg];exact (below_size bw):w.heap.size ≤ gb527));have n3_:=Aside0.mk ((by rw [hg];exact (below_size bw):w.heap.size ≤ gb527));clear HB;have HB:=n0_;have BK527:=n1_;have GW527:=n2_;have GE527:=n3_;clear n0_ n1_ n2_ n3_;clear hb hbox hg;have hcz21_0:w20.cell? ⟨gb527,0,none⟩ = some (.int .i64 a0_0):=(blk_cell BK527.out 0).trans rfl;have hcz21_1:w20.cell? ⟨gb527,1,none⟩ = some (.slice A0_1 l0_1.length c0_1):=(blk_cell BK527.out 1).trans rfl;have hfz21_0:=blk_frozen BK527.out 0;have hfz21_1:=blk_frozen BK527.out 1;have p528:0 ≤ (a1:Int):=of_decide_eq_true ab;have q528:a1 < (l0_1.length:Int):=of_decide_eq_true ab;obtain ⟨ad528,e528,hx528_0⟩:=Kd.at_bool HR0_1.out a1 p528 q528;(try rw [← Nbq5.out] at hx528_0);cases e528;replace hx528_0:=(HB.out.cell (World.block_lt_of_cell? w _ hx528_0)).trans hx528_0;replace p528:=eq_true p528;replace q528:=eq_true q528));try go_wp2_with (first|((with_reducible refine gate_dst (N:=2) rfl ?_);refine box_event ?hg (N:=2) ?hd (cs:=#[.int .i64 a0_0,.slice A0_1 l0_1.length c0_1]) (t:=68) ?hr ?_;(case hd=>rfl);(case hg=>rfl);(case hr=>first|(go_simp;done)|(go_simp;rfl));intro gb527 hg w20 hbox hb;have n0_:=Aside0.mk (below_step bw hb);have n1_:=Aside0.mk (hbox);have n2_:=Aside0.mk ((by rw [hg];exact (below_size bw):w.heap.size ≤ gb527));have n3_:=Aside0.mk ((by rw [hg];exact (below_size bw):w.heap.size ≤ gb527));clear HB;have HB:=n0_;have BK527:=n1_;have GW527:=n2_;have GE527:=n3_;clear n0_ n1_ n2_ n3_;clear hb hbox hg;have hcz21_0:w20.cell? ⟨gb527,0,none⟩ = some (.int .i64 a0_0):=(blk_cell BK527.out 0).trans rfl;have hcz21_1:w20.cell? ⟨gb527,1,none⟩ = some (.slice A0_1 l0_1.length c0_1):=(blk_cell BK527.out 1).trans rfl;have hfz21_0:=blk_frozen BK527.out 0;have hfz21_1:=blk_frozen BK527.out 1;have p528:0 ≤ (a1:Int):=of_decide_eq_true ab;have q528:a1 < (l0_1.length:Int):=of_decide_eq_true ab;obtain ⟨ad528,e528,hx528_0⟩:=Kd.at_bool HR0_1.out a1 p528 q528;(try rw [← Nbq5.out] at hx528_0);cases e528;replace hx528_0:=(HB.out.cell (World.block_lt_of_cell? w _ hx528_0)).trans hx528_0;replace p528:=eq_true p528;replace q528:=eq_true q528)))
    go_ret
    exact ⟨by first|rfl|(simp [errW_none,errW_some] <;> rfl)|(simp [*,errW_none,errW_some] <;> rfl),by repeat (first|(with_reducible first|exact HB.out|apply below_alloc|apply pw_below_drewN|apply below_drew1|refine below_set ?_ GE527.out)|exact HB.out)⟩
  ·rw [if_neg c4] at H;exact absurd H (by simp)
 ·rw [if_neg c3] at H;exact absurd H (by simp)


/-! ### impl_within: function 69 -/
def impl_within.f (a0:Int) (a1:Int) (a2:Int):Option (Bool):=if a0 ≥ a1 then (some (decide (a0 ≤ a2))) else (some false)
set_option maxHeartbeats 8000000 in
set_option maxRecDepth 100000 in
theorem impl_within.calls (a0:Int) (a1:Int) (a2:Int) (r:Bool) (w:World) (h:impl_within.f a0 a1 a2 = some r) :
  Calls Try.prog 69 #[.int .i64 a0,.int .i64 a1,.int .i64 a2] w fun e w'=>e = .returned (.bool r) ∧ Drawn0 w w':=by
 have H:(if a0 ≥ a1 then (some (decide (a0 ≤ a2))) else (some false)) = some r:=h;clear h;by_cases c4:a0 ≥ a1
 ·rw [if_pos c4] at H;have c4b0:decide (a1 ≤ a0) = true:=decide_eq_true c4;clear c4;obtain rfl:=Option.some.inj H;go_enter Try.func69,Try.ntmps69;go_wp2
  go_ret
  exact ⟨by first|rfl|(simp;done)|(simp [*];done),by repeat (first|exact Drawn0.refl _|apply Drawn0.step)⟩
 ·rw [if_neg c4] at H;have c4b0:decide (a1 ≤ a0) = false:=decide_eq_false c4;clear c4;obtain rfl:=Option.some.inj H;go_enter Try.func69,Try.ntmps69;go_wp2
  go_ret
  exact ⟨by first|rfl|(simp;done)|(simp [*];done),by repeat (first|exact Drawn0.refl _|apply Drawn0.step)⟩


/-! ### slices_IndexFunc_int_int: function 158 -/
def slices_IndexFunc_int_int.l0:Nat → List Int → (Int → Option (Bool)) → Int → Int → Option (Int)
 | 0,_,_,_,_=>none
 | k + 1,x0,x1,x7,x8=>if x8 < x7 then (if 0 ≤ x8 then (if x8 < (x0.length:Int) then ((x1 (rd x0 x8)).bind fun t257=>(if t257 = true then (some x8) else (slices_IndexFunc_int_int.l0 k x0 x1 x7 (wrap64 (x8 + 1))))) else (none)) else (none)) else (some (-1))
def slices_IndexFunc_int_int.f (k:Nat) (l0:List Int) (a1:(Int → Option (Bool))):Option (Int):=slices_IndexFunc_int_int.l0 k l0 a1 (l0.length:Int) 0
theorem slices_IndexFunc_int_int.mono_l:∀ k,(∀ y0 y1 y2 y3,LeO (slices_IndexFunc_int_int.l0 k y0 y1 y2 y3) (slices_IndexFunc_int_int.l0 (k + 1) y0 y1 y2 y3))
 | 0=>fun _ _ _ _ r h=>by simp [slices_IndexFunc_int_int.l0] at h
 | k + 1=>by
  have ih0:=slices_IndexFunc_int_int.mono_l k
  ·intro y0 y1 y2 y3;unfold slices_IndexFunc_int_int.l0
   repeat' with_reducible first|exact ih0 _ _ _ _|exact LeO.refl _|exact LeO.none _|refine LeO.ite ?_ ?_|refine LeO.bind ?_ (fun _=>?_)
theorem slices_IndexFunc_int_int.mono:∀ a0 a1 k,LeO (slices_IndexFunc_int_int.f k a0 a1) (slices_IndexFunc_int_int.f (k + 1) a0 a1):=by
 intro a0 a1 k;have ih0:=slices_IndexFunc_int_int.mono_l k;unfold slices_IndexFunc_int_int.f
 repeat' with_reducible first|exact ih0 _ _ _ _|exact LeO.refl _|exact LeO.none _|refine LeO.ite ?_ ?_|refine LeO.bind ?_ (fun _=>?_)
theorem slices_IndexFunc_int_int.monop_l {p_ q_:(Int → Option (Bool))} (h_:∀ x0_,LeO (p_ x0_) (q_ x0_)):∀ k,(∀ y0 y2 y3,LeO (slices_IndexFunc_int_int.l0 k y0 p_ y2 y3) (slices_IndexFunc_int_int.l0 k y0 q_ y2 y3))
 | 0=>fun _ _ _ r hz=>by simp [slices_IndexFunc_int_int.l0] at hz
 | k + 1=>by
  have ih0:=slices_IndexFunc_int_int.monop_l h_ k
  ·intro y0 y1 y2;unfold slices_IndexFunc_int_int.l0
   repeat' with_reducible first|exact ih0 _ _ _|exact h_ _|exact LeO.refl _|refine LeO.ite ?_ ?_|refine LeO.bind ?_ (fun _=>?_)
theorem slices_IndexFunc_int_int.mono_p {p_ q_:(Int → Option (Bool))} (h_:∀ x0_,LeO (p_ x0_) (q_ x0_)):∀ a0 k,LeO (slices_IndexFunc_int_int.f k a0 p_) (slices_IndexFunc_int_int.f k a0 q_):=by
 intro a0 k;have ih0:=slices_IndexFunc_int_int.monop_l h_ k;unfold slices_IndexFunc_int_int.f
 repeat' with_reducible first|exact ih0 _ _ _|exact h_ _|exact LeO.refl _|refine LeO.ite ?_ ?_|refine LeO.bind ?_ (fun _=>?_)
set_option maxHeartbeats 8000000 in
set_option maxRecDepth 100000 in
theorem slices_IndexFunc_int_int.calls (k:Nat) (A0:Option Addr) (c0:Nat) (l0:List Int) (a1:(Int → Option (Bool))) (g1_:Nat) (lb1_:Array Value) (eg1_:∀ (args:Array Value) (w:World),(callFunc g1_ args).run Try.prog w = .ok (.enter g1_ args) w) (r:Int) (w:World) (hr0:Kd.C (Kd.int .i64) w A0 l0.length l0) (hc0:l0.length ≤ c0) (hp1:∀ (W:World) (b0_:Int) (r0_:Bool),a1 b0_ = some r0_ → Below w.heap.size w W → Calls Try.prog g1_ (#[.int .i64 b0_] ++ lb1_) W fun e w'=>e = .returned (.bool r0_) ∧ Below W.heap.size W w') (h:slices_IndexFunc_int_int.f k l0 a1 = some r) :
  Calls Try.prog 158 #[.slice A0 l0.length c0,.func (.func g1_) #[] lb1_] w fun e w'=>e = .returned (.int .i64 r) ∧ Below w.heap.size w w':=by
 have HR0:=Aside0.mk hr0;have HC0:=Aside0.mk hc0;clear hr0 hc0;have HP1:=Aside0.mk hp1;clear hp1;have HB:=Aside0.mk (Below.refl w.heap.size w);have H:(slices_IndexFunc_int_int.l0 k l0 a1 (l0.length:Int) 0) = some r:=h;clear h;have H':=Aside0.mk H;clear H;go_enter Try.func158,Try.ntmps158;go_wp2
 go_loopg [8] k (fun kq v8 w'=>∃ (x8_1:Int),v8 = .int .i64 x8_1 ∧ Aside0 (slices_IndexFunc_int_int.l0 kq l0 a1 (l0.length:Int) x8_1 = some r) ∧ Aside0 (kq ≤ k) ∧ Aside0 (Below w.heap.size w w'))
 case atStart=>exact ⟨(0),(by first|rfl|(simp;done)|(simp [*];done)),H',⟨Nat.le_refl _⟩,⟨by repeat (first|(with_reducible first|exact HB.out|apply below_alloc|apply pw_below_drewN|apply below_drew1)|exact HB.out)⟩⟩
 case round =>
  clear H'
  try clear c1
  try clear p1
  try clear p2
  obtain ⟨x8_1,rfl,HA,HK1,HB⟩:=hrel
  cases gk with
  | zero=>exact absurd HA.out (by simp [slices_IndexFunc_int_int.l0])
  | succ k1 =>
   have H:=HA.out;clear HA;simp only [slices_IndexFunc_int_int.l0] at H;by_cases c3:x8_1 < (l0.length:Int)
   ·rw [if_pos c3] at H;have c3b0:decide (x8_1 < (l0.length:Int)) = true:=decide_eq_true c3;clear c3;by_cases c4:0 ≤ x8_1
    ·rw [if_pos c4] at H;have c4b0:decide (0 ≤ x8_1) = true:=decide_eq_true c4;clear c4;by_cases c5:x8_1 < (l0.length:Int)
     ·rw [if_pos c5] at H;have c5b0:decide (x8_1 < (l0.length:Int)) = true:=decide_eq_true c5;clear c5;replace H:=Option.bind_eq_some_iff.mp H;obtain ⟨t257,A60,H⟩:=H;replace H:(if t257 = true then (some x8_1) else (slices_IndexFunc_int_int.l0 k1 l0 a1 (l0.length:Int) (wrap64 (x8_1 + 1)))) = some r:=H;have A6:=Aside0.mk A60;clear A60;by_cases c7:t257 = true
      ·subst c7;have H1:(some x8_1) = some r:=by rw [if_pos rfl] at H;exact H
       clear H;have H:=H1;clear H1;obtain rfl:=Option.some.inj H;have p256:0 ≤ (x8_1:Int):=of_decide_eq_true ab;have q256:x8_1 < (l0.length:Int):=of_decide_eq_true ab;obtain ⟨ad256,e256,hx256_0⟩:=Kd.at_int HR0.out x8_1 p256 q256;cases e256
       replace hx256_0:=(HB.out.cell (World.block_lt_of_cell? w _ hx256_0)).trans hx256_0;replace p256:=eq_true p256;replace q256:=eq_true q256;go_wp2_with (first|((with_reducible refine gate_fn (t:=11) rfl ?_);refine goesFL_ (some 16) rfl rfl eg1_ #[.int .i64 (rd l0 x8_1)] rfl rfl mq ?_;(with_reducible refine (HP1.out _ (rd l0 x8_1) true A6.out ?side1).mono ?_);(case side1=>repeat (first|(with_reducible first|exact HB.out|apply below_alloc|apply pw_below_drewN|apply below_drew1)|exact HB.out));rintro e w8 ⟨rfl,hb⟩;refine ⟨_,rfl,?_⟩;have n0_:=Aside0.mk (below_step bw hb);clear HB;have HB:=n0_;clear n0_;(try clear hb);(try clear hb2);(try clear hk);(try clear hi)))
       go_ret
       exact ⟨by first|rfl|(simp [errW_none,errW_some] <;> rfl)|(simp [*,errW_none,errW_some] <;> rfl),by repeat (first|(with_reducible first|exact HB.out|apply below_alloc|apply pw_below_drewN|apply below_drew1)|exact HB.out)⟩
      ·replace c7:=Bool.eq_false_iff.mpr c7;subst c7;have H1:(slices_IndexFunc_int_int.l0 k1 l0 a1 (l0.length:Int) (wrap64 (x8_1 + 1))) = some r:=by rw [if_neg (show ¬ (false = true) by decide)] at H;exact H
       clear H;have H:=H1;clear H1;have H':=Aside0.mk H;clear H;have p256:0 ≤ (x8_1:Int):=of_decide_eq_true ab;have q256:x8_1 < (l0.length:Int):=of_decide_eq_true ab;obtain ⟨ad256,e256,hx256_0⟩:=Kd.at_int HR0.out x8_1 p256 q256;cases e256
       replace hx256_0:=(HB.out.cell (World.block_lt_of_cell? w _ hx256_0)).trans hx256_0;replace p256:=eq_true p256;replace q256:=eq_true q256;go_wp2_with (first|((with_reducible refine gate_fn (t:=11) rfl ?_);refine goesFL_ (some 16) rfl rfl eg1_ #[.int .i64 (rd l0 x8_1)] rfl rfl mq ?_;(with_reducible refine (HP1.out _ (rd l0 x8_1) false A6.out ?side1).mono ?_);(case side1=>repeat (first|(with_reducible first|exact HB.out|apply below_alloc|apply pw_below_drewN|apply below_drew1)|exact HB.out));rintro e w9 ⟨rfl,hb⟩;refine ⟨_,rfl,?_⟩;have n0_:=Aside0.mk (below_step bw hb);clear HB;have HB:=n0_;clear n0_;(try clear hb);(try clear hb2);(try clear hk);(try clear hi)))
       go_roundg k1
       case measure=>have:=HK1.out;omega
       case rel=>exact ⟨(wrap64 (x8_1 + 1)),(by first|rfl|(simp;done)|(simp [*];done)),H',⟨by have:=HK1.out;omega⟩,⟨by repeat (first|(with_reducible first|exact HB.out|apply below_alloc|apply pw_below_drewN|apply below_drew1)|exact HB.out)⟩⟩
     ·rw [if_neg c5] at H;exact absurd H (by simp)
    ·rw [if_neg c4] at H;exact absurd H (by simp)
   ·rw [if_neg c3] at H;have c3b0:decide (x8_1 < (l0.length:Int)) = false:=decide_eq_false c3;clear c3;obtain rfl:=Option.some.inj H;go_wp2
    go_ret
    exact ⟨by first|rfl|(simp [errW_none,errW_some] <;> rfl)|(simp [*,errW_none,errW_some] <;> rfl),by repeat (first|(with_reducible first|exact HB.out|apply below_alloc|apply pw_below_drewN|apply below_drew1)|exact HB.out)⟩


/-! ### slices_ContainsFunc_int_int: function 132 -/
def slices_ContainsFunc_int_int.f (k:Nat) (l0:List Int) (a1:(Int → Option (Bool))):Option (Bool):=(slices_IndexFunc_int_int.f k l0 a1).bind fun t258=>(some (decide (t258 ≥ 0)))
theorem slices_ContainsFunc_int_int.mono:∀ a0 a1 k,LeO (slices_ContainsFunc_int_int.f k a0 a1) (slices_ContainsFunc_int_int.f (k + 1) a0 a1):=by
 intro a0 a1 k;unfold slices_ContainsFunc_int_int.f
 repeat' with_reducible first|exact slices_IndexFunc_int_int.mono _ _ _|exact LeO.refl _|exact LeO.none _|refine LeO.trans (slices_IndexFunc_int_int.mono _ _ _) (slices_IndexFunc_int_int.mono_p (fun _=>?_) _ _)|refine LeO.ite ?_ ?_|refine LeO.bind ?_ (fun _=>?_)
theorem slices_ContainsFunc_int_int.mono_p {p_ q_:(Int → Option (Bool))} (h_:∀ x0_,LeO (p_ x0_) (q_ x0_)):∀ a0 k,LeO (slices_ContainsFunc_int_int.f k a0 p_) (slices_ContainsFunc_int_int.f k a0 q_):=by
 intro a0 k;unfold slices_ContainsFunc_int_int.f
 repeat' with_reducible first|exact h_ _|refine slices_IndexFunc_int_int.mono_p (fun _=>?_) _ _|exact LeO.refl _|refine LeO.ite ?_ ?_|refine LeO.bind ?_ (fun _=>?_)
set_option maxHeartbeats 8000000 in
set_option maxRecDepth 100000 in
theorem slices_ContainsFunc_int_int.calls (k:Nat) (A0:Option Addr) (c0:Nat) (l0:List Int) (a1:(Int → Option (Bool))) (g1_:Nat) (lb1_:Array Value) (eg1_:∀ (args:Array Value) (w:World),(callFunc g1_ args).run Try.prog w = .ok (.enter g1_ args) w) (r:Bool) (w:World) (hr0:Kd.C (Kd.int .i64) w A0 l0.length l0) (hc0:l0.length ≤ c0) (hp1:∀ (W:World) (b0_:Int) (r0_:Bool),a1 b0_ = some r0_ → Below w.heap.size w W → Calls Try.prog g1_ (#[.int .i64 b0_] ++ lb1_) W fun e w'=>e = .returned (.bool r0_) ∧ Below W.heap.size W w') (h:slices_ContainsFunc_int_int.f k l0 a1 = some r) :
  Calls Try.prog 132 #[.slice A0 l0.length c0,.func (.func g1_) #[] lb1_] w fun e w'=>e = .returned (.bool r) ∧ Below w.heap.size w w':=by
 have HR0:=Aside0.mk hr0;have HC0:=Aside0.mk hc0;clear hr0 hc0;have HP1:=Aside0.mk hp1;clear hp1;have HB:=Aside0.mk (Below.refl w.heap.size w);have H:((slices_IndexFunc_int_int.f k l0 a1).bind fun t258=>(some (decide (t258 ≥ 0)))) = some r:=h;clear h;replace H:=Option.bind_eq_some_iff.mp H;obtain ⟨t258,A30,H⟩:=H;replace H:(some (decide (t258 ≥ 0))) = some r:=H;have A3:=Aside0.mk A30;clear A30;obtain rfl:=Option.some.inj H;go_enter Try.func132,Try.ntmps132;go_wp2_with (first|((with_reducible refine gate_callee (f:=158) rfl ?_);refine goesL_ (some 7) rfl rfl Try.func158 (by kernel_rfl) rfl #[.slice A0 l0.length c0,.func (.func g1_) #[] lb1_] rfl mq ?_;(with_reducible refine (slices_IndexFunc_int_int.calls k _ _ l0 a1 g1_ lb1_ eg1_ t258 _ ?side1 ?side2 ?side3 A3.out).mono ?_);(case side1=>repeat (first|exact HR0.out|(with_reducible refine Kd.C_alloc ?_ _)|(with_reducible refine Kd.C_drewN ?_ _)|(with_reducible refine Kd.C_drew ?_)));(case side2=>exact HC0.out);(case side3=>exact (fun W_ a0_ r0_ hx_ hb_ =>HP1.out W_ a0_ r0_ hx_ (below_step bw hb_) ));rintro e w4 ⟨rfl,hb⟩;refine ⟨_,rfl,?_⟩;have n0_:=Aside0.mk (below_step bw hb);clear HB;have HB:=n0_;clear n0_;(try clear hb);(try clear hb2);(try clear hk);(try clear hi)))
 go_ret
 exact ⟨by first|rfl|(simp [errW_none,errW_some] <;> rfl)|(simp [*,errW_none,errW_some] <;> rfl),by repeat (first|(with_reducible first|exact HB.out|apply below_alloc|apply pw_below_drewN|apply below_drew1)|exact HB.out)⟩


/-! ### impl_areIn_1: function 144 -/
def impl_areIn_1.f (a0:Int) (a1:Int) (a2:Int):Option (Bool):=(impl_within.f a0 a1 a2).bind fun t284=>(some (!t284))
set_option maxHeartbeats 8000000 in
set_option maxRecDepth 100000 in
theorem impl_areIn_1.calls (a0:Int) (gc1:Nat) (a1:Int) (gc2:Nat) (a2:Int) (r:Bool) (w:World) (hb1:w.heap[gc1]? = some (.cells #[.int .i64 a1] 3 (0,0))) (hb2:w.heap[gc2]? = some (.cells #[.int .i64 a2] 3 (0,0))) (hn1_2:gc1 ≠ gc2) (h:impl_areIn_1.f a0 a1 a2 = some r) :
  Calls Try.prog 144 #[.int .i64 a0,.pointer (some ⟨gc1,0,none⟩),.pointer (some ⟨gc2,0,none⟩)] w fun e w'=>e = .returned (.bool r) ∧ Drawn0 w w':=by
 have BK1:=Aside0.mk hb1;clear hb1;have BK2:=Aside0.mk hb2;clear hb2;have NB1_2:=Aside0.mk hn1_2;have NB2_1:=Aside0.mk (Ne.symm hn1_2);clear hn1_2;have H:((impl_within.f a0 a1 a2).bind fun t284=>(some (!t284))) = some r:=h;clear h;replace H:=Option.bind_eq_some_iff.mp H;obtain ⟨t284,A40,H⟩:=H;replace H:(some (!t284)) = some r:=H;have A4:=Aside0.mk A40;clear A40;obtain rfl:=Option.some.inj H;have hnb5:=NB1_2.out;have hnc5:=NB2_1.out;have hcz6_0:w.cell? ⟨gc1,0,none⟩ = some (.int .i64 a1):=(blk_cell BK1.out 0).trans rfl;have hfz6_0:=blk_frozen BK1.out 0;have hcz7_0:w.cell? ⟨gc2,0,none⟩ = some (.int .i64 a2):=(blk_cell BK2.out 0).trans rfl;have hfz7_0:=blk_frozen BK2.out 0;go_enter Try.func144,Try.ntmps144;go_wp2_with (first|((with_reducible refine gate_callee (f:=69) rfl ?_);refine goesL_ (some 8) rfl rfl Try.func69 (by kernel_rfl) rfl #[.int .i64 a0,.int .i64 a1,.int .i64 a2] rfl mq ?_;(with_reducible refine (impl_within.calls a0 a1 a2 t284 _ A4.out).mono ?_);rintro e w' ⟨rfl,⟨nd,rfl⟩⟩;refine ⟨_,rfl,?_⟩))
 go_ret
 exact ⟨by first|rfl|(simp;done)|(simp [*];done),by repeat (first|exact Drawn0.refl _|apply Drawn0.step)⟩
theorem impl_areIn_1.enters:∀ (args:Array Value) (w:World),(callFunc 144 args).run Try.prog w = .ok (.enter 144 args) w:=enters_of Try.func144 (by kernel_rfl) rfl


/-! ### impl_areIn: function 108 -/
def impl_areIn.f (k:Nat) (l0:List Int) (a1:Int) (a2:Int):Option (Bool):=(slices_ContainsFunc_int_int.f k l0 (fun y0_=>impl_areIn_1.f y0_ a1 a2)).bind fun t287=>(some (!t287))
theorem impl_areIn.mono:∀ a0 a1 a2 k,LeO (impl_areIn.f k a0 a1 a2) (impl_areIn.f (k + 1) a0 a1 a2):=by
 intro a0 a1 a2 k;unfold impl_areIn.f
 repeat' with_reducible first|exact slices_ContainsFunc_int_int.mono _ _ _|exact LeO.refl _|exact LeO.none _|refine LeO.trans (slices_ContainsFunc_int_int.mono _ _ _) (slices_ContainsFunc_int_int.mono_p (fun _=>?_) _ _)|refine LeO.ite ?_ ?_|refine LeO.bind ?_ (fun _=>?_)
set_option maxHeartbeats 8000000 in
set_option maxRecDepth 100000 in
theorem impl_areIn.calls (k:Nat) (A0:Option Addr) (c0:Nat) (l0:List Int) (a1:Int) (a2:Int) (r:Bool) (w:World) (hr0:Kd.C (Kd.int .i64) w A0 l0.length l0) (hc0:l0.length ≤ c0) (h:impl_areIn.f k l0 a1 a2 = some r) :
  Calls Try.prog 108 #[.slice A0 l0.length c0,.int .i64 a1,.int .i64 a2] w fun e w'=>e = .returned (.bool r) ∧ Below w.heap.size w w':=by
 have hmf:∀ (fn:Fn) (first cap:Array Value) (w:World),(Instr.makeFunc fn first cap).run Try.prog w = .ok (.func fn first cap) w:=fun _ _ _ _=>rfl
 have HR0:=Aside0.mk hr0;have HC0:=Aside0.mk hc0;clear hr0 hc0;have HB:=Aside0.mk (Below.refl w.heap.size w);have H:((slices_ContainsFunc_int_int.f k l0 (fun y0_=>impl_areIn_1.f y0_ a1 a2)).bind fun t287=>(some (!t287))) = some r:=h;clear h;replace H:=Option.bind_eq_some_iff.mp H;obtain ⟨t287,A40,H⟩:=H;replace H:(some (!t287)) = some r:=H;have A4:=Aside0.mk A40;clear A40;obtain rfl:=Option.some.inj H;go_enter Try.func108,Try.ntmps108;go_wp2_with (first|((with_reducible refine gate_dst (N:=4) rfl ?_);refine box_event ?hg (N:=4) ?hd (cs:=#[.int .i64 a1]) (t:=3) ?hr ?_;(case hd=>rfl);(case hg=>rfl);(case hr=>first|(go_simp;done)|(go_simp;rfl));intro gb285 hg w5 hbox hb;have n0_:=Aside0.mk (below_step bw hb);have n1_:=Aside0.mk (hbox);have n2_:=Aside0.mk ((by rw [hg];exact (below_size bw):w.heap.size ≤ gb285));have n3_:=Aside0.mk ((by rw [hg];exact (below_size bw):w.heap.size ≤ gb285));clear HB;have HB:=n0_;have BK285:=n1_;have GW285:=n2_;have GE285:=n3_;clear n0_ n1_ n2_ n3_;clear hb hbox hg)|((with_reducible refine gate_dst (N:=5) rfl ?_);refine box_event ?hg (N:=5) ?hd (cs:=#[.int .i64 a2]) (t:=3) ?hr ?_;(case hd=>rfl);(case hg=>rfl);(case hr=>first|(go_simp;done)|(go_simp;rfl));intro gb286 hg w6 hbox hb;have n0_:=Aside0.mk (blk_below (g:=gb285) (o:=.cells #[.int .i64 a1] 3 (0,0)) bk hb);have n1_:=Aside0.mk (below_step bw hb);have n2_:=Aside0.mk (hbox);have n3_:=Aside0.mk ((by rw [hg];exact (below_size bw):w.heap.size ≤ gb286));have n4_:=Aside0.mk ((by rw [hg];exact (below_size bw):w.heap.size ≤ gb286));have n5_:=Aside0.mk ((by rw [hg];exact Nat.ne_of_lt (blk_lt (g:=gb285) (o:=.cells #[.int .i64 a1] 3 (0,0)) bk):gb285 ≠ gb286));have n6_:=Aside0.mk ((by rw [hg];exact Nat.ne_of_gt (blk_lt (g:=gb285) (o:=.cells #[.int .i64 a1] 3 (0,0)) bk):gb286 ≠ gb285));clear BK285;clear HB;have BK285:=n0_;have HB:=n1_;have BK286:=n2_;have GW286:=n3_;have GE286:=n4_;have NB285_286:=n5_;have NB286_285:=n6_;clear n0_ n1_ n2_ n3_ n4_ n5_ n6_;clear hb hbox hg)|((with_reducible refine gate_callee (f:=132) rfl ?_);refine goesL_ (some 9) rfl rfl Try.func132 (by kernel_rfl) rfl #[.slice A0 l0.length c0,.func (.func 144) #[] #[.pointer (some ⟨gb285,0,none⟩),.pointer (some ⟨gb286,0,none⟩)]] rfl mq ?_;(with_reducible refine (slices_ContainsFunc_int_int.calls k _ _ l0 (fun y0_=>impl_areIn_1.f y0_ a1 a2) 144 #[.pointer (some ⟨gb285,0,none⟩),.pointer (some ⟨gb286,0,none⟩)] impl_areIn_1.enters t287 _ ?side1 ?side2 ?side3 A4.out).mono ?_);(case side1=>repeat (first|exact (Kd.C_below HR0.out HB.out)|(with_reducible refine Kd.C_alloc ?_ _)|(with_reducible refine Kd.C_drewN ?_ _)|(with_reducible refine Kd.C_drew ?_)));(case side2=>exact HC0.out);(case side3=>exact (fun W_ a0_ r0_ hx_ hb_ =>(impl_areIn_1.calls a0_ gb285 a1 gb286 a2 r0_ W_  (box_later bk hb_) (box_later bk hb_) NB285_286.out hx_).mono (fun _ _ h_=>⟨h_.1,h_.2.below⟩)));rintro e w7 ⟨rfl,hb⟩;refine ⟨_,rfl,?_⟩;have n0_:=Aside0.mk (blk_below (g:=gb285) (o:=.cells #[.int .i64 a1] 3 (0,0)) bk hb);have n1_:=Aside0.mk (blk_below (g:=gb286) (o:=.cells #[.int .i64 a2] 3 (0,0)) bk hb);have n2_:=Aside0.mk (below_step bw hb);clear BK285;clear BK286;clear HB;have BK285:=n0_;have BK286:=n1_;have HB:=n2_;clear n0_ n1_ n2_;(try clear hb);(try clear hb2);(try clear hk);(try clear hi)))
 go_ret
 exact ⟨by first|rfl|(simp [errW_none,errW_some] <;> rfl)|(simp [*,errW_none,errW_some] <;> rfl),by repeat (first|(with_reducible first|exact HB.out|apply below_alloc|apply pw_below_drewN|apply below_drew1|refine below_set ?_ GE285.out|refine below_set ?_ GE286.out)|exact HB.out)⟩


/-! ### impl_sumOf: function 109 -/
def impl_sumOf.l0:Nat → Int → List Int → Int → Int → Option (Int)
 | 0,_,_,_,_=>none
 | k + 1,x3,x6,x7,x8=>if x8 < x7 then (if 0 ≤ x8 then (if x8 < (x6.length:Int) then (impl_sumOf.l0 k (wrap64 (x3 + (rd x6 x8))) x6 x7 (wrap64 (x8 + 1))) else (none)) else (none)) else (some x3)
def impl_sumOf.f (k:Nat) (l0:List Int):Option (Int):=impl_sumOf.l0 k 0 l0 (l0.length:Int) 0
theorem impl_sumOf.mono_l:∀ k,(∀ y0 y1 y2 y3,LeO (impl_sumOf.l0 k y0 y1 y2 y3) (impl_sumOf.l0 (k + 1) y0 y1 y2 y3))
 | 0=>fun _ _ _ _ r h=>by simp [impl_sumOf.l0] at h
 | k + 1=>by
  have ih0:=impl_sumOf.mono_l k
  ·intro y0 y1 y2 y3;unfold impl_sumOf.l0
   repeat' with_reducible first|exact ih0 _ _ _ _|exact LeO.refl _|exact LeO.none _|refine LeO.ite ?_ ?_|refine LeO.bind ?_ (fun _=>?_)
theorem impl_sumOf.mono:∀ a0 k,LeO (impl_sumOf.f k a0) (impl_sumOf.f (k + 1) a0):=by
 intro a0 k;have ih0:=impl_sumOf.mono_l k;unfold impl_sumOf.f
 repeat' with_reducible first|exact ih0 _ _ _ _|exact LeO.refl _|exact LeO.none _|refine LeO.ite ?_ ?_|refine LeO.bind ?_ (fun _=>?_)
set_option maxHeartbeats 8000000 in
set_option maxRecDepth 100000 in
theorem impl_sumOf.calls (k:Nat) (A0:Option Addr) (c0:Nat) (l0:List Int) (r:Int) (w:World) (hr0:Kd.C (Kd.int .i64) w A0 l0.length l0) (hc0:l0.length ≤ c0) (h:impl_sumOf.f k l0 = some r) :
  Calls Try.prog 109 #[.slice A0 l0.length c0] w fun e w'=>e = .returned (.int .i64 r) ∧ Drawn0 w w':=by
 have HR0:=Aside0.mk hr0;have HC0:=Aside0.mk hc0;clear hr0 hc0;have H:(impl_sumOf.l0 k 0 l0 (l0.length:Int) 0) = some r:=h;clear h;have H':=Aside0.mk H;clear H;go_enter Try.func109,Try.ntmps109;go_wp2
 go_loopg [3,8] k (fun kq v3 v8 w'=>∃ (x3_1:Int) (x8_1:Int),v3 = .int .i64 x3_1 ∧ v8 = .int .i64 x8_1 ∧ Aside0 (impl_sumOf.l0 kq x3_1 l0 (l0.length:Int) x8_1 = some r) ∧ Aside0 (kq ≤ k) ∧ Drawn0 w w')
 case atStart=>exact ⟨(0),(0),(by first|rfl|(simp;done)|(simp [*];done)),(by first|rfl|(simp;done)|(simp [*];done)),H',⟨Nat.le_refl _⟩,by repeat (first|exact Drawn0.refl _|apply Drawn0.step)⟩
 case round =>
  clear H'
  try clear c1
  obtain ⟨x3_1,x8_1,rfl,rfl,HA,HK1,⟨m1,rfl⟩⟩:=hrel
  cases gk with
  | zero=>exact absurd HA.out (by simp [impl_sumOf.l0])
  | succ k1 =>
   have H:=HA.out;clear HA;simp only [impl_sumOf.l0] at H;by_cases c2:x8_1 < (l0.length:Int)
   ·rw [if_pos c2] at H;have c2b0:decide (x8_1 < (l0.length:Int)) = true:=decide_eq_true c2;clear c2;by_cases c3:0 ≤ x8_1
    ·rw [if_pos c3] at H;have c3b0:decide (0 ≤ x8_1) = true:=decide_eq_true c3;clear c3;by_cases c4:x8_1 < (l0.length:Int)
     ·rw [if_pos c4] at H;have c4b0:decide (x8_1 < (l0.length:Int)) = true:=decide_eq_true c4;clear c4;have H':=Aside0.mk H;clear H;have p785:0 ≤ (x8_1:Int):=of_decide_eq_true ab;have q785:x8_1 < (l0.length:Int):=of_decide_eq_true ab;obtain ⟨ad785,e785,hx785_0⟩:=Kd.at_int HR0.out x8_1 p785 q785;cases e785
      replace p785:=eq_true p785;replace q785:=eq_true q785;go_wp2
      go_roundg k1
      case measure=>have:=HK1.out;omega
      case rel=>exact ⟨(wrap64 (x3_1 + (rd l0 x8_1))),(wrap64 (x8_1 + 1)),(by first|rfl|(simp;done)|(simp [*];done)),(by first|rfl|(simp;done)|(simp [*];done)),H',⟨by have:=HK1.out;omega⟩,by repeat (first|exact Drawn0.refl _|apply Drawn0.step)⟩
     ·rw [if_neg c4] at H;exact absurd H (by simp)
    ·rw [if_neg c3] at H;exact absurd H (by simp)
   ·rw [if_neg c2] at H;have c2b0:decide (x8_1 < (l0.length:Int)) = false:=decide_eq_false c2;clear c2;obtain rfl:=Option.some.inj H;go_wp2
    go_ret
    exact ⟨by first|rfl|(simp;done)|(simp [*];done),by repeat (first|exact Drawn0.refl _|apply Drawn0.step)⟩


/-! ### impl_IsCommittee: function 68 -/
def impl_IsCommittee.f (k:Nat) (a0_0:Int) (l0_1:List Int):Option (Bool):=if (l0_1.length:Int) ≥ 1 then (if (l0_1.length:Int) ≤ 9 then ((impl_areIn.f k l0_1 0 1000).bind fun t787=>(if t787 = true then ((impl_sumOf.f k l0_1).bind fun t788=>((impl_within.f a0_0 1 t788).bind fun t789=>(some t789))) else (some false))) else (some false)) else (some false)
theorem impl_IsCommittee.mono:∀ a0 a1 k,LeO (impl_IsCommittee.f k a0 a1) (impl_IsCommittee.f (k + 1) a0 a1):=by
 intro a0 a1 k;unfold impl_IsCommittee.f
 repeat' with_reducible first|exact impl_areIn.mono _ _ _ _|exact impl_sumOf.mono _ _|exact LeO.refl _|exact LeO.none _|refine LeO.ite ?_ ?_|refine LeO.bind ?_ (fun _=>?_)
def impl_IsCommittee.T1:Bool × List (List Nat × List Nat):=(true,[([],[]),([0],[0]),([1],[1]),([2],[2]),([3],[3]),([4],[4]),([5,4],[4,5]),([6,4],[4,6]),([7,4],[4,7]),([4,8],[4,8]),([9,4],[9]),([10],[10]),([11,10],[10,11]),([12,10,10],[10,12]),([10,13],[10,13]),([14,13],[14]),([15],[15]),([16,15],[15,16]),([15],[15]),([18,15],[15,18]),([19,15,15],[15,19]),([17,20,20,15],[15,17,20]),([15,21],[15,21]),([22,21,0,1,2,3,4,5,6,7,8,9,10,11,12,13,14,15,16,17,18,19,20,21,22],[22])])
def impl_IsCommittee.B1:List Nat:=[0,1,3,7,15,31,63,127,255,511,1023,2047,4095,8191,16383,32767,65535,131071,65535,327679,851967,2097151,4194303,8388607]
theorem impl_IsCommittee.tab1:rtab .any (opsOf Try.f68 1) = impl_IsCommittee.T1:=by kernel_rfl
theorem impl_IsCommittee.bits1:waitsOk impl_IsCommittee.T1.2 impl_IsCommittee.B1 = true:=by kernel_rfl
set_option maxHeartbeats 8000000 in
set_option maxRecDepth 100000 in
theorem impl_IsCommittee.calls (k:Nat) (a0_0:Int) (A0_1:Option Addr) (c0_1:Nat) (l0_1:List Int) (r:Bool) (w:World) (hr0_1:Kd.C (Kd.int .i64) w A0_1 l0_1.length l0_1) (hc0_1:l0_1.length ≤ c0_1) (h:impl_IsCommittee.f k a0_0 l0_1 = some r) :
  Calls Try.prog 68 #[.agg #[.int .i64 a0_0,.slice A0_1 l0_1.length c0_1]] w fun e w'=>e = .returned (.bool r) ∧ Below w.heap.size w w':=by
 have hu46:=Try.underlying46;have HR0_1:=Aside0.mk hr0_1;have HC0_1:=Aside0.mk hc0_1;clear hr0_1 hc0_1;have HB:=Aside0.mk (Below.refl w.heap.size w);have H:(if (l0_1.length:Int) ≥ 1 then (if (l0_1.length:Int) ≤ 9 then ((impl_areIn.f k l0_1 0 1000).bind fun t787=>(if t787 = true then ((impl_sumOf.f k l0_1).bind fun t788=>((impl_within.f a0_0 1 t788).bind fun t789=>(some t789))) else (some false))) else (some false)) else (some false)) = some r:=h;clear h;by_cases c2:(l0_1.length:Int) ≥ 1
 ·rw [if_pos c2] at H;have c2b0:decide (1 ≤ (l0_1.length:Int)) = true:=decide_eq_true c2;have c2b1:decide (1 ≤ l0_1.length) = true:=decide_eq_true (by omega);clear c2;by_cases c3:(l0_1.length:Int) ≤ 9
  ·rw [if_pos c3] at H;have c3b0:decide ((l0_1.length:Int) ≤ 9) = true:=decide_eq_true c3;have c3b1:decide (l0_1.length ≤ 9) = true:=decide_eq_true (by omega);clear c3;replace H:=Option.bind_eq_some_iff.mp H;obtain ⟨t787,A40,H⟩:=H;replace H:(if t787 = true then ((impl_sumOf.f k l0_1).bind fun t788=>((impl_within.f a0_0 1 t788).bind fun t789=>(some t789))) else (some false)) = some r:=H;have A4:=Aside0.mk A40;clear A40;by_cases c5:t787 = true
   ·subst c5;have H1:((impl_sumOf.f k l0_1).bind fun t788=>((impl_within.f a0_0 1 t788).bind fun t789=>(some t789))) = some r:=by rw [if_pos rfl] at H;exact H
    clear H;have H:=H1;clear H1;replace H:=Option.bind_eq_some_iff.mp H;obtain ⟨t788,A60,H⟩:=H;replace H:((impl_within.f a0_0 1 t788).bind fun t789=>(some t789)) = some r:=H;have A6:=Aside0.mk A60;clear A60;replace H:=Option.bind_eq_some_iff.mp H;obtain ⟨t789,A70,H⟩:=H;replace H:(some t789) = some r:=H;have A7:=Aside0.mk A70;clear A70;obtain rfl:=Option.some.inj H;go_enter Try.func68,Try.ntmps68
    try go_wp2_with (first|((with_reducible refine gate_dst (N:=1) rfl ?_);(try (refine gate_guard (by rfl) ?_;dsimp only));refine box_event ?hg (N:=1) ?hd (cs:=#[.int .i64 a0_0,.slice A0_1 l0_1.length c0_1]) (t:=46) ?hr ?_;(case hd=>rfl);(case hg=>rfl);(case hr=>first|(go_simp;done)|(go_simp;rfl));intro gb786 hg w8 hbox hb;have n0_:=Aside0.mk (below_step bw hb);have n1_:=Aside0.mk (hbox);have n2_:=Aside0.mk ((by rw [hg];exact (below_size bw):w.heap.size ≤ gb786));have n3_:=Aside0.mk ((by rw [hg];exact (below_size bw):w.heap.size ≤ gb786));clear HB;have HB:=n0_;have BK786:=n1_;have GW786:=n2_;have GE786:=n3_;clear n0_ n1_ n2_ n3_;clear hb hbox hg))
    have n0_:=Aside0.mk (blk_drew BK786.out);have n1_:=Aside0.mk (below_drew1 HB.out);clear BK786;clear HB;have BK786:=n0_;have HB:=n1_;clear n0_ n1_;refine start_ (n:=24) (S:=fun w'=>w'.cell? ⟨gb786,0,none⟩ = some (.int .i64 a0_0) ∧ w'.cell? ⟨gb786,1,none⟩ = some (.slice A0_1 l0_1.length c0_1)) (ds:=[]) #[false,false,false,false,false,false,false,false,false,false,false,false,false,false,false,false,false,false,false,false,false,false,false,false] (by kernel_rfl) rfl rfl ⟨(blk_cell BK786.out 0).trans rfl,(blk_cell BK786.out 1).trans rfl⟩ (fun hHeld=>?_);refine with_tabW impl_IsCommittee.tab1 impl_IsCommittee.bits1 (fun HT_ HW_=>?_)
    generalize w8.drew = w9 at BK786 HB hHeld ⊢
    refine pure_ (i:=0) (N:=some 3) (v:=?_) (a':=?_) #[true,false,false,false,false,false,false,false,false,false,false,false,false,false,false,false,false,false,false,false,false,false,false,false] rfl rfl (any_of HT_.out (by kernel_rfl)) (fun _ _ _ h=>h) (Or.inl ⟨by rfl,?_⟩) ?_ ?_;rotate_left
    ·intro w';go_simp
     with_reducible rfl
    rotate_left
    ·simp only [Act.put,sA,sZ,sS,i64_w,i32_w];rfl
    refine take_ (i:=1) (N:=some 4) (v:=?_) (a':=?_) #[true,true,false,false,false,false,false,false,false,false,false,false,false,false,false,false,false,false,false,false,false,false,false,false] rfl rfl (take_ofW HT_.out HW_.out (by kernel_rfl)) (fun _ _ _ h=>h) (Or.inl ⟨by rfl,?_⟩) hHeld ?_ ?_;rotate_left
    ·rintro w' ⟨s0,s1⟩
     go_simp
     with_reducible rfl
    rotate_left
    ·simp only [Act.put,sA,sZ,sS,i64_w,i32_w];rfl
    refine pure_ (i:=2) (N:=some 5) (v:=?_) (a':=?_) #[true,true,true,false,false,false,false,false,false,false,false,false,false,false,false,false,false,false,false,false,false,false,false,false] rfl rfl (any_of HT_.out (by kernel_rfl)) (fun _ _ _ h=>h) (Or.inl ⟨by rfl,?_⟩) ?_ ?_;rotate_left
    ·intro w';go_simp
     with_reducible rfl
    rotate_left
    ·simp only [Act.put,sA,sZ,sS,i64_w,i32_w];rfl
    refine pure_ (i:=3) (N:=some 6) (v:=?_) (a':=?_) #[true,true,true,true,false,false,false,false,false,false,false,false,false,false,false,false,false,false,false,false,false,false,false,false] rfl rfl (any_of HT_.out (by kernel_rfl)) (fun _ _ _ h=>h) (Or.inl ⟨by rfl,?_⟩) ?_ ?_;rotate_left
    ·intro w';go_simp
     with_reducible rfl
    rotate_left
    ·simp only [Act.put,sA,sZ,sS,i64_w,i32_w];rfl
    refine pure_ (i:=4) (N:=some 7) (v:=?_) (a':=?_) #[true,true,true,true,true,false,false,false,false,false,false,false,false,false,false,false,false,false,false,false,false,false,false,false] rfl rfl (any_of HT_.out (by kernel_rfl)) (fun _ _ _ h=>h) (Or.inl ⟨by rfl,?_⟩) ?_ ?_;rotate_left
    ·intro w';go_simp
     with_reducible rfl
    rotate_left
    ·simp only [Act.put,sA,sZ,sS,i64_w,i32_w];rfl
    refine pure_ (i:=5) (N:=some 8) (v:=?_) (a':=?_) #[true,true,true,true,true,true,false,false,false,false,false,false,false,false,false,false,false,false,false,false,false,false,false,false] rfl rfl (any_of HT_.out (by kernel_rfl)) (fun _ _ _ h=>h) (Or.inl ⟨by rfl,?_⟩) ?_ ?_;rotate_left
    ·intro w';go_simp
     with_reducible rfl
    rotate_left
    ·simp only [Act.put,sA,sZ,sS,i64_w,i32_w];rfl
    refine take_ (i:=6) (N:=some 9) (v:=?_) (a':=?_) #[true,true,true,true,true,true,true,false,false,false,false,false,false,false,false,false,false,false,false,false,false,false,false,false] rfl rfl (take_ofW HT_.out HW_.out (by kernel_rfl)) (fun _ _ _ h=>h) (Or.inl ⟨by rfl,?_⟩) hHeld ?_ ?_;rotate_left
    ·rintro w' ⟨s0,s1⟩
     go_simp
     with_reducible rfl
    rotate_left
    ·simp only [Act.put,sA,sZ,sS,i64_w,i32_w];rfl
    refine pure_ (i:=7) (N:=some 10) (v:=?_) (a':=?_) #[true,true,true,true,true,true,true,true,false,false,false,false,false,false,false,false,false,false,false,false,false,false,false,false] rfl rfl (any_of HT_.out (by kernel_rfl)) (fun _ _ _ h=>h) (Or.inl ⟨by rfl,?_⟩) ?_ ?_;rotate_left
    ·intro w';go_simp
     with_reducible rfl
    rotate_left
    ·simp only [Act.put,sA,sZ,sS,i64_w,i32_w];rfl
    refine pure_ (i:=8) (N:=some 11) (v:=?_) (a':=?_) #[true,true,true,true,true,true,true,true,true,false,false,false,false,false,false,false,false,false,false,false,false,false,false,false] rfl rfl (any_of HT_.out (by kernel_rfl)) (fun _ _ _ h=>h) (Or.inl ⟨by rfl,?_⟩) ?_ ?_;rotate_left
    ·intro w';go_simp
     with_reducible rfl
    rotate_left
    ·simp only [Act.put,sA,sZ,sS,i64_w,i32_w];rfl
    refine pure_ (i:=9) (N:=some 12) (v:=?_) (a':=?_) #[true,true,true,true,true,true,true,true,true,true,false,false,false,false,false,false,false,false,false,false,false,false,false,false] rfl rfl (any_of HT_.out (by kernel_rfl)) (fun _ _ _ h=>h) (Or.inl ⟨by rfl,?_⟩) ?_ ?_;rotate_left
    ·intro w';go_simp
     with_reducible rfl
    rotate_left
    ·simp only [Act.put,sA,sZ,sS,i64_w,i32_w];rfl
    refine pure_ (i:=10) (N:=some 13) (v:=?_) (a':=?_) #[true,true,true,true,true,true,true,true,true,true,true,false,false,false,false,false,false,false,false,false,false,false,false,false] rfl rfl (any_of HT_.out (by kernel_rfl)) (fun _ _ _ h=>h) (Or.inl ⟨by rfl,?_⟩) ?_ ?_;rotate_left
    ·intro w';go_simp
     with_reducible rfl
    rotate_left
    ·simp only [Act.put,sA,sZ,sS,i64_w,i32_w];rfl
    refine pure_ (i:=11) (N:=some 14) (v:=?_) (a':=?_) #[true,true,true,true,true,true,true,true,true,true,true,true,false,false,false,false,false,false,false,false,false,false,false,false] rfl rfl (any_of HT_.out (by kernel_rfl)) (fun _ _ _ h=>h) (Or.inl ⟨by rfl,?_⟩) ?_ ?_;rotate_left
    ·intro w';go_simp
     with_reducible rfl
    rotate_left
    ·simp only [Act.put,sA,sZ,sS,i64_w,i32_w];rfl
    refine take_ (i:=12) (N:=some 15) (v:=?_) (a':=?_) #[true,true,true,true,true,true,true,true,true,true,true,true,true,false,false,false,false,false,false,false,false,false,false,false] rfl rfl (take_ofW HT_.out HW_.out (by kernel_rfl)) (fun _ _ _ h=>h) (Or.inl ⟨by rfl,?_⟩) hHeld ?_ ?_;rotate_left
    ·rintro w' ⟨s0,s1⟩
     go_simp
     with_reducible rfl
    rotate_left
    ·simp only [Act.put,sA,sZ,sS,i64_w,i32_w];rfl
    refine one_ (i:=13) (N:=some 16) #[true,true,true,true,true,true,true,true,true,true,true,true,true,true,false,false,false,false,false,false,false,false,false,false] rfl rfl (one_of HT_.out (by kernel_rfl)) (by decide) (fun K hK=>?_);refine goes_ Try.func108 (by kernel_rfl) rfl #[.slice A0_1 l0_1.length c0_1,.int .i64 0,.int .i64 1000] (by rfl) rfl rfl mq ?_
    with_reducible refine (impl_areIn.calls k _ _ l0_1 0 1000 true _ ?side1 ?side2 A4.out).mono ?_
    (case side1=>repeat (first|exact (Kd.C_below HR0_1.out HB.out)|(with_reducible refine Kd.C_alloc ?_ _)|(with_reducible refine Kd.C_drewN ?_ _)|(with_reducible refine Kd.C_drew ?_)))
    (case side2=>exact HC0_1.out)
    rintro e w10 ⟨rfl,hb⟩
    refine ⟨_,rfl,?_⟩;have n0_:=Aside0.mk (blk_below (g:=gb786) (o:=.cells #[.int .i64 a0_0,.slice A0_1 l0_1.length c0_1] 46 (0,0)) bk hb);have n1_:=Aside0.mk (below_step bw hb);clear BK786;clear HB;have BK786:=n0_;have HB:=n1_;clear n0_ n1_;(try clear hb)
    (try clear hb2)
    (try clear hk)
    (try clear hi)
    refine hK.out _ _ ⟨(blk_cell BK786.out 0).trans rfl,(blk_cell BK786.out 1).trans rfl⟩ (fun hHeld=>?_);clear hK K;refine norm_ (a':=?_) ?_ ?_;rotate_left
    ·show Act.put _ (some 16) _ = _;simp only [Act.put,sA,sZ,sS,i64_w,i32_w];rfl
    refine pure_ (i:=14) (N:=some 17) (v:=?_) (a':=?_) #[true,true,true,true,true,true,true,true,true,true,true,true,true,true,true,false,false,false,false,false,false,false,false,false] rfl rfl (any_of HT_.out (by kernel_rfl)) (fun _ _ _ h=>h) (Or.inl ⟨by rfl,?_⟩) ?_ ?_;rotate_left
    ·intro w';go_simp
     with_reducible rfl
    rotate_left
    ·simp only [Act.put,sA,sZ,sS,i64_w,i32_w];rfl
    refine pure_ (i:=15) (N:=some 18) (v:=?_) (a':=?_) #[true,true,true,true,true,true,true,true,true,true,true,true,true,true,true,true,false,false,false,false,false,false,false,false] rfl rfl (any_of HT_.out (by kernel_rfl)) (fun _ _ _ h=>h) (Or.inl ⟨by rfl,?_⟩) ?_ ?_;rotate_left
    ·intro w';go_simp
     with_reducible rfl
    rotate_left
    ·simp only [Act.put,sA,sZ,sS,i64_w,i32_w];rfl
    refine pure_ (i:=16) (N:=some 19) (v:=?_) (a':=?_) #[true,true,true,true,true,true,true,true,true,true,true,true,true,true,true,true,true,false,false,false,false,false,false,false] rfl rfl (any_of HT_.out (by kernel_rfl)) (fun _ _ _ h=>h) (Or.inl ⟨by rfl,?_⟩) ?_ ?_;rotate_left
    ·intro w';go_simp
     with_reducible rfl
    rotate_left
    ·simp only [Act.put,sA,sZ,sS,i64_w,i32_w];rfl
    refine pure_ (i:=18) (N:=some 21) (v:=?_) (a':=?_) #[true,true,true,true,true,true,true,true,true,true,true,true,true,true,true,true,true,false,true,false,false,false,false,false] rfl rfl (any_of HT_.out (by kernel_rfl)) (fun _ _ _ h=>h) (Or.inl ⟨by rfl,?_⟩) ?_ ?_;rotate_left
    ·intro w';go_simp
     with_reducible rfl
    rotate_left
    ·simp only [Act.put,sA,sZ,sS,i64_w,i32_w];rfl
    refine take_ (i:=17) (N:=some 20) (v:=?_) (a':=?_) #[true,true,true,true,true,true,true,true,true,true,true,true,true,true,true,true,true,true,true,false,false,false,false,false] rfl rfl (take_ofW HT_.out HW_.out (by kernel_rfl)) (fun _ _ _ h=>h) (Or.inl ⟨by rfl,?_⟩) hHeld ?_ ?_;rotate_left
    ·rintro w' ⟨s0,s1⟩
     go_simp
     with_reducible rfl
    rotate_left
    ·simp only [Act.put,sA,sZ,sS,i64_w,i32_w];rfl
    refine take_ (i:=19) (N:=some 22) (v:=?_) (a':=?_) #[true,true,true,true,true,true,true,true,true,true,true,true,true,true,true,true,true,true,true,true,false,false,false,false] rfl rfl (take_ofW HT_.out HW_.out (by kernel_rfl)) (fun _ _ _ h=>h) (Or.inl ⟨by rfl,?_⟩) hHeld ?_ ?_;rotate_left
    ·rintro w' ⟨s0,s1⟩
     go_simp
     with_reducible rfl
    rotate_left
    ·simp only [Act.put,sA,sZ,sS,i64_w,i32_w];rfl
    refine one_ (i:=20) (N:=some 23) #[true,true,true,true,true,true,true,true,true,true,true,true,true,true,true,true,true,true,true,true,true,false,false,false] rfl rfl (one_of HT_.out (by kernel_rfl)) (by decide) (fun K hK=>?_);refine goes_ Try.func109 (by kernel_rfl) rfl #[.slice A0_1 l0_1.length c0_1] (by rfl) rfl rfl mq ?_
    with_reducible refine (impl_sumOf.calls k _ _ l0_1 t788 _ ?side1 ?side2 A6.out).mono ?_
    (case side1=>repeat (first|exact (Kd.C_below HR0_1.out HB.out)|(with_reducible refine Kd.C_alloc ?_ _)|(with_reducible refine Kd.C_drewN ?_ _)|(with_reducible refine Kd.C_drew ?_)))
    (case side2=>exact HC0_1.out)
    rintro e w' ⟨rfl,⟨nd,rfl⟩⟩
    refine ⟨_,rfl,?_⟩;refine hK.out _ _ ⟨(blk_cell BK786.out 0).trans rfl,(blk_cell BK786.out 1).trans rfl⟩ (fun hHeld=>?_);clear hK K;refine norm_ (a':=?_) ?_ ?_;rotate_left
    ·show Act.put _ (some 23) _ = _;simp only [Act.put,sA,sZ,sS,i64_w,i32_w];rfl
    refine one_ (i:=21) (N:=some 24) #[true,true,true,true,true,true,true,true,true,true,true,true,true,true,true,true,true,true,true,true,true,true,false,false] rfl rfl (one_of HT_.out (by kernel_rfl)) (by decide) (fun K hK=>?_);refine goes_ Try.func69 (by kernel_rfl) rfl #[.int .i64 a0_0,.int .i64 1,.int .i64 t788] (by rfl) rfl rfl mq ?_
    with_reducible refine (impl_within.calls a0_0 1 t788 t789 _ A7.out).mono ?_
    rintro e w' ⟨rfl,⟨nd,rfl⟩⟩
    refine ⟨_,rfl,?_⟩;refine hK.out _ _ ⟨(blk_cell BK786.out 0).trans rfl,(blk_cell BK786.out 1).trans rfl⟩ (fun hHeld=>?_);clear hK K;refine norm_ (a':=?_) ?_ ?_;rotate_left
    ·show Act.put _ (some 24) _ = _;simp only [Act.put,sA,sZ,sS,i64_w,i32_w];rfl
    refine pure_ (i:=22) (N:=some 25) (v:=?_) (a':=?_) #[true,true,true,true,true,true,true,true,true,true,true,true,true,true,true,true,true,true,true,true,true,true,true,false] rfl rfl (any_of HT_.out (by kernel_rfl)) (fun _ _ _ h=>h) (Or.inl ⟨by rfl,?_⟩) ?_ ?_;rotate_left
    ·intro w';go_simp
     with_reducible rfl
    rotate_left
    ·simp only [Act.put,sA,sZ,sS,i64_w,i32_w];rfl
    refine pure_ (i:=23) (N:=some 2) (v:=?_) (a':=?_) #[true,true,true,true,true,true,true,true,true,true,true,true,true,true,true,true,true,true,true,true,true,true,true,true] rfl rfl (any_of HT_.out (by kernel_rfl)) (fun _ _ _ h=>h) (Or.inl ⟨by rfl,?_⟩) ?_ ?_;rotate_left
    ·intro w';go_simp
     with_reducible rfl
    rotate_left
    ·simp only [Act.put,sA,sZ,sS,i64_w,i32_w];rfl
    refine done_ (done_of HT_.out (by kernel_rfl)) ?_
    try go_wp2
    go_ret
    exact ⟨by first|rfl|(simp [errW_none,errW_some] <;> rfl)|(simp [*,errW_none,errW_some] <;> rfl),by repeat (first|(with_reducible first|exact HB.out|apply below_alloc|apply pw_below_drewN|apply below_drew1|refine below_set ?_ GE786.out)|exact HB.out)⟩
   ·replace c5:=Bool.eq_false_iff.mpr c5;subst c5;have H1:(some false) = some r:=by rw [if_neg (show ¬ (false = true) by decide)] at H;exact H
    clear H;have H:=H1;clear H1;obtain rfl:=Option.some.inj H;go_enter Try.func68,Try.ntmps68
    try go_wp2_with (first|((with_reducible refine gate_dst (N:=1) rfl ?_);(try (refine gate_guard (by rfl) ?_;dsimp only));refine box_event ?hg (N:=1) ?hd (cs:=#[.int .i64 a0_0,.slice A0_1 l0_1.length c0_1]) (t:=46) ?hr ?_;(case hd=>rfl);(case hg=>rfl);(case hr=>first|(go_simp;done)|(go_simp;rfl));intro gb786 hg w11 hbox hb;have n0_:=Aside0.mk (below_step bw hb);have n1_:=Aside0.mk (hbox);have n2_:=Aside0.mk ((by rw [hg];exact (below_size bw):w.heap.size ≤ gb786));have n3_:=Aside0.mk ((by rw [hg];exact (below_size bw):w.heap.size ≤ gb786));clear HB;have HB:=n0_;have BK786:=n1_;have GW786:=n2_;have GE786:=n3_;clear n0_ n1_ n2_ n3_;clear hb hbox hg))
    have n0_:=Aside0.mk (blk_drew BK786.out);have n1_:=Aside0.mk (below_drew1 HB.out);clear BK786;clear HB;have BK786:=n0_;have HB:=n1_;clear n0_ n1_;refine start_ (n:=24) (S:=fun w'=>w'.cell? ⟨gb786,0,none⟩ = some (.int .i64 a0_0) ∧ w'.cell? ⟨gb786,1,none⟩ = some (.slice A0_1 l0_1.length c0_1)) (ds:=[]) #[false,false,false,false,false,false,false,false,false,false,false,false,false,false,false,false,false,false,false,false,false,false,false,false] (by kernel_rfl) rfl rfl ⟨(blk_cell BK786.out 0).trans rfl,(blk_cell BK786.out 1).trans rfl⟩ (fun hHeld=>?_);refine with_tabW impl_IsCommittee.tab1 impl_IsCommittee.bits1 (fun HT_ HW_=>?_)
    generalize w11.drew = w12 at BK786 HB hHeld ⊢
    refine pure_ (i:=0) (N:=some 3) (v:=?_) (a':=?_) #[true,false,false,false,false,false,false,false,false,false,false,false,false,false,false,false,false,false,false,false,false,false,false,false] rfl rfl (any_of HT_.out (by kernel_rfl)) (fun _ _ _ h=>h) (Or.inl ⟨by rfl,?_⟩) ?_ ?_;rotate_left
    ·intro w';go_simp
     with_reducible rfl
    rotate_left
    ·simp only [Act.put,sA,sZ,sS,i64_w,i32_w];rfl
    refine take_ (i:=1) (N:=some 4) (v:=?_) (a':=?_) #[true,true,false,false,false,false,false,false,false,false,false,false,false,false,false,false,false,false,false,false,false,false,false,false] rfl rfl (take_ofW HT_.out HW_.out (by kernel_rfl)) (fun _ _ _ h=>h) (Or.inl ⟨by rfl,?_⟩) hHeld ?_ ?_;rotate_left
    ·rintro w' ⟨s0,s1⟩
     go_simp
     with_reducible rfl
    rotate_left
    ·simp only [Act.put,sA,sZ,sS,i64_w,i32_w];rfl
    refine pure_ (i:=2) (N:=some 5) (v:=?_) (a':=?_) #[true,true,true,false,false,false,false,false,false,false,false,false,false,false,false,false,false,false,false,false,false,false,false,false] rfl rfl (any_of HT_.out (by kernel_rfl)) (fun _ _ _ h=>h) (Or.inl ⟨by rfl,?_⟩) ?_ ?_;rotate_left
    ·intro w';go_simp
     with_reducible rfl
    rotate_left
    ·simp only [Act.put,sA,sZ,sS,i64_w,i32_w];rfl
    refine pure_ (i:=3) (N:=some 6) (v:=?_) (a':=?_) #[true,true,true,true,false,false,false,false,false,false,false,false,false,false,false,false,false,false,false,false,false,false,false,false] rfl rfl (any_of HT_.out (by kernel_rfl)) (fun _ _ _ h=>h) (Or.inl ⟨by rfl,?_⟩) ?_ ?_;rotate_left
    ·intro w';go_simp
     with_reducible rfl
    rotate_left
    ·simp only [Act.put,sA,sZ,sS,i64_w,i32_w];rfl
    refine pure_ (i:=4) (N:=some 7) (v:=?_) (a':=?_) #[true,true,true,true,true,false,false,false,false,false,false,false,false,false,false,false,false,false,false,false,false,false,false,false] rfl rfl (any_of HT_.out (by kernel_rfl)) (fun _ _ _ h=>h) (Or.inl ⟨by rfl,?_⟩) ?_ ?_;rotate_left
    ·intro w';go_simp
     with_reducible rfl
    rotate_left
    ·simp only [Act.put,sA,sZ,sS,i64_w,i32_w];rfl
    refine pure_ (i:=5) (N:=some 8) (v:=?_) (a':=?_) #[true,true,true,true,true,true,false,false,false,false,false,false,false,false,false,false,false,false,false,false,false,false,false,false] rfl rfl (any_of HT_.out (by kernel_rfl)) (fun _ _ _ h=>h) (Or.inl ⟨by rfl,?_⟩) ?_ ?_;rotate_left
    ·intro w';go_simp
     with_reducible rfl
    rotate_left
    ·simp only [Act.put,sA,sZ,sS,i64_w,i32_w];rfl
    refine take_ (i:=6) (N:=some 9) (v:=?_) (a':=?_) #[true,true,true,true,true,true,true,false,false,false,false,false,false,false,false,false,false,false,false,false,false,false,false,false] rfl rfl (take_ofW HT_.out HW_.out (by kernel_rfl)) (fun _ _ _ h=>h) (Or.inl ⟨by rfl,?_⟩) hHeld ?_ ?_;rotate_left
    ·rintro w' ⟨s0,s1⟩
     go_simp
     with_reducible rfl
    rotate_left
    ·simp only [Act.put,sA,sZ,sS,i64_w,i32_w];rfl
    refine pure_ (i:=7) (N:=some 10) (v:=?_) (a':=?_) #[true,true,true,true,true,true,true,true,false,false,false,false,false,false,false,false,false,false,false,false,false,false,false,false] rfl rfl (any_of HT_.out (by kernel_rfl)) (fun _ _ _ h=>h) (Or.inl ⟨by rfl,?_⟩) ?_ ?_;rotate_left
    ·intro w';go_simp
     with_reducible rfl
    rotate_left
    ·simp only [Act.put,sA,sZ,sS,i64_w,i32_w];rfl
    refine pure_ (i:=8) (N:=some 11) (v:=?_) (a':=?_) #[true,true,true,true,true,true,true,true,true,false,false,false,false,false,false,false,false,false,false,false,false,false,false,false] rfl rfl (any_of HT_.out (by kernel_rfl)) (fun _ _ _ h=>h) (Or.inl ⟨by rfl,?_⟩) ?_ ?_;rotate_left
    ·intro w';go_simp
     with_reducible rfl
    rotate_left
    ·simp only [Act.put,sA,sZ,sS,i64_w,i32_w];rfl
    refine pure_ (i:=9) (N:=some 12) (v:=?_) (a':=?_) #[true,true,true,true,true,true,true,true,true,true,false,false,false,false,false,false,false,false,false,false,false,false,false,false] rfl rfl (any_of HT_.out (by kernel_rfl)) (fun _ _ _ h=>h) (Or.inl ⟨by rfl,?_⟩) ?_ ?_;rotate_left
    ·intro w';go_simp
     with_reducible rfl
    rotate_left
    ·simp only [Act.put,sA,sZ,sS,i64_w,i32_w];rfl
    refine pure_ (i:=10) (N:=some 13) (v:=?_) (a':=?_) #[true,true,true,true,true,true,true,true,true,true,true,false,false,false,false,false,false,false,false,false,false,false,false,false] rfl rfl (any_of HT_.out (by kernel_rfl)) (fun _ _ _ h=>h) (Or.inl ⟨by rfl,?_⟩) ?_ ?_;rotate_left
    ·intro w';go_simp
     with_reducible rfl
    rotate_left
    ·simp only [Act.put,sA,sZ,sS,i64_w,i32_w];rfl
    refine pure_ (i:=11) (N:=some 14) (v:=?_) (a':=?_) #[true,true,true,true,true,true,true,true,true,true,true,true,false,false,false,false,false,false,false,false,false,false,false,false] rfl rfl (any_of HT_.out (by kernel_rfl)) (fun _ _ _ h=>h) (Or.inl ⟨by rfl,?_⟩) ?_ ?_;rotate_left
    ·intro w';go_simp
     with_reducible rfl
    rotate_left
    ·simp only [Act.put,sA,sZ,sS,i64_w,i32_w];rfl
    refine take_ (i:=12) (N:=some 15) (v:=?_) (a':=?_) #[true,true,true,true,true,true,true,true,true,true,true,true,true,false,false,false,false,false,false,false,false,false,false,false] rfl rfl (take_ofW HT_.out HW_.out (by kernel_rfl)) (fun _ _ _ h=>h) (Or.inl ⟨by rfl,?_⟩) hHeld ?_ ?_;rotate_left
    ·rintro w' ⟨s0,s1⟩
     go_simp
     with_reducible rfl
    rotate_left
    ·simp only [Act.put,sA,sZ,sS,i64_w,i32_w];rfl
    refine one_ (i:=13) (N:=some 16) #[true,true,true,true,true,true,true,true,true,true,true,true,true,true,false,false,false,false,false,false,false,false,false,false] rfl rfl (one_of HT_.out (by kernel_rfl)) (by decide) (fun K hK=>?_);refine goes_ Try.func108 (by kernel_rfl) rfl #[.slice A0_1 l0_1.length c0_1,.int .i64 0,.int .i64 1000] (by rfl) rfl rfl mq ?_
    with_reducible refine (impl_areIn.calls k _ _ l0_1 0 1000 false _ ?side1 ?side2 A4.out).mono ?_
    (case side1=>repeat (first|exact (Kd.C_below HR0_1.out HB.out)|(with_reducible refine Kd.C_alloc ?_ _)|(with_reducible refine Kd.C_drewN ?_ _)|(with_reducible refine Kd.C_drew ?_)))
    (case side2=>exact HC0_1.out)
    rintro e w13 ⟨rfl,hb⟩
    refine ⟨_,rfl,?_⟩;have n0_:=Aside0.mk (blk_below (g:=gb786) (o:=.cells #[.int .i64 a0_0,.slice A0_1 l0_1.length c0_1] 46 (0,0)) bk hb);have n1_:=Aside0.mk (below_step bw hb);clear BK786;clear HB;have BK786:=n0_;have HB:=n1_;clear n0_ n1_;(try clear hb)
    (try clear hb2)
    (try clear hk)
    (try clear hi)
    refine hK.out _ _ ⟨(blk_cell BK786.out 0).trans rfl,(blk_cell BK786.out 1).trans rfl⟩ (fun hHeld=>?_);clear hK K;refine norm_ (a':=?_) ?_ ?_;rotate_left
    ·show Act.put _ (some 16) _ = _;simp only [Act.put,sA,sZ,sS,i64_w,i32_w];rfl
    refine pure_ (i:=14) (N:=some 17) (v:=?_) (a':=?_) #[true,true,true,true,true,true,true,true,true,true,true,true,true,true,true,false,false,false,false,false,false,false,false,false] rfl rfl (any_of HT_.out (by kernel_rfl)) (fun _ _ _ h=>h) (Or.inl ⟨by rfl,?_⟩) ?_ ?_;rotate_left
    ·intro w';go_simp
     with_reducible rfl
    rotate_left
    ·simp only [Act.put,sA,sZ,sS,i64_w,i32_w];rfl
    refine pure_ (i:=15) (N:=some 18) (v:=?_) (a':=?_) #[true,true,true,true,true,true,true,true,true,true,true,true,true,true,true,true,false,false,false,false,false,false,false,false] rfl rfl (any_of HT_.out (by kernel_rfl)) (fun _ _ _ h=>h) (Or.inl ⟨by rfl,?_⟩) ?_ ?_;rotate_left
    ·intro w';go_simp
     with_reducible rfl
    rotate_left
    ·simp only [Act.put,sA,sZ,sS,i64_w,i32_w];rfl
    refine pure_ (i:=16) (N:=some 19) (v:=undef) (a':=?_) #[true,true,true,true,true,true,true,true,true,true,true,true,true,true,true,true,true,false,false,false,false,false,false,false] rfl rfl (any_of HT_.out (by kernel_rfl)) (fun _ _ _ h=>h) (Or.inr ⟨by rfl,rfl⟩) ?_ ?_;rotate_left
    ·simp only [Act.put,sA,sZ,sS,i64_w,i32_w];rfl
    refine pure_ (i:=17) (N:=some 20) (v:=undef) (a':=?_) #[true,true,true,true,true,true,true,true,true,true,true,true,true,true,true,true,true,true,false,false,false,false,false,false] rfl rfl (any_of HT_.out (by kernel_rfl)) (fun _ _ _ h=>h) (Or.inr ⟨by rfl,rfl⟩) ?_ ?_;rotate_left
    ·simp only [Act.put,sA,sZ,sS,i64_w,i32_w];rfl
    refine pure_ (i:=18) (N:=some 21) (v:=undef) (a':=?_) #[true,true,true,true,true,true,true,true,true,true,true,true,true,true,true,true,true,true,true,false,false,false,false,false] rfl rfl (any_of HT_.out (by kernel_rfl)) (fun _ _ _ h=>h) (Or.inr ⟨by rfl,rfl⟩) ?_ ?_;rotate_left
    ·simp only [Act.put,sA,sZ,sS,i64_w,i32_w];rfl
    refine pure_ (i:=19) (N:=some 22) (v:=undef) (a':=?_) #[true,true,true,true,true,true,true,true,true,true,true,true,true,true,true,true,true,true,true,true,false,false,false,false] rfl rfl (any_of HT_.out (by kernel_rfl)) (fun _ _ _ h=>h) (Or.inr ⟨by rfl,rfl⟩) ?_ ?_;rotate_left
    ·simp only [Act.put,sA,sZ,sS,i64_w,i32_w];rfl
    refine pure_ (i:=20) (N:=some 23) (v:=undef) (a':=?_) #[true,true,true,true,true,true,true,true,true,true,true,true,true,true,true,true,true,true,true,true,true,false,false,false] rfl rfl (any_of HT_.out (by kernel_rfl)) (fun _ _ _ h=>h) (Or.inr ⟨by rfl,rfl⟩) ?_ ?_;rotate_left
    ·simp only [Act.put,sA,sZ,sS,i64_w,i32_w];rfl
    refine pure_ (i:=21) (N:=some 24) (v:=undef) (a':=?_) #[true,true,true,true,true,true,true,true,true,true,true,true,true,true,true,true,true,true,true,true,true,true,false,false] rfl rfl (any_of HT_.out (by kernel_rfl)) (fun _ _ _ h=>h) (Or.inr ⟨by rfl,rfl⟩) ?_ ?_;rotate_left
    ·simp only [Act.put,sA,sZ,sS,i64_w,i32_w];rfl
    refine pure_ (i:=22) (N:=some 25) (v:=?_) (a':=?_) #[true,true,true,true,true,true,true,true,true,true,true,true,true,true,true,true,true,true,true,true,true,true,true,false] rfl rfl (any_of HT_.out (by kernel_rfl)) (fun _ _ _ h=>h) (Or.inl ⟨by rfl,?_⟩) ?_ ?_;rotate_left
    ·intro w';go_simp
     with_reducible rfl
    rotate_left
    ·simp only [Act.put,sA,sZ,sS,i64_w,i32_w];rfl
    refine pure_ (i:=23) (N:=some 2) (v:=?_) (a':=?_) #[true,true,true,true,true,true,true,true,true,true,true,true,true,true,true,true,true,true,true,true,true,true,true,true] rfl rfl (any_of HT_.out (by kernel_rfl)) (fun _ _ _ h=>h) (Or.inl ⟨by rfl,?_⟩) ?_ ?_;rotate_left
    ·intro w';go_simp
     with_reducible rfl
    rotate_left
    ·simp only [Act.put,sA,sZ,sS,i64_w,i32_w];rfl
    refine done_ (done_of HT_.out (by kernel_rfl)) ?_
    try go_wp2
    go_ret
    exact ⟨by first|rfl|(simp [errW_none,errW_some] <;> rfl)|(simp [*,errW_none,errW_some] <;> rfl),by repeat (first|(with_reducible first|exact HB.out|apply below_alloc|apply pw_below_drewN|apply below_drew1|refine below_set ?_ GE786.out)|exact HB.out)⟩
  ·rw [if_neg c3] at H;have c3b0:decide ((l0_1.length:Int) ≤ 9) = false:=decide_eq_false c3;have c3b1:decide (l0_1.length ≤ 9) = false:=decide_eq_false (by omega);clear c3;obtain rfl:=Option.some.inj H;go_enter Try.func68,Try.ntmps68
   try go_wp2_with (first|((with_reducible refine gate_dst (N:=1) rfl ?_);(try (refine gate_guard (by rfl) ?_;dsimp only));refine box_event ?hg (N:=1) ?hd (cs:=#[.int .i64 a0_0,.slice A0_1 l0_1.length c0_1]) (t:=46) ?hr ?_;(case hd=>rfl);(case hg=>rfl);(case hr=>first|(go_simp;done)|(go_simp;rfl));intro gb786 hg w14 hbox hb;have n0_:=Aside0.mk (below_step bw hb);have n1_:=Aside0.mk (hbox);have n2_:=Aside0.mk ((by rw [hg];exact (below_size bw):w.heap.size ≤ gb786));have n3_:=Aside0.mk ((by rw [hg];exact (below_size bw):w.heap.size ≤ gb786));clear HB;have HB:=n0_;have BK786:=n1_;have GW786:=n2_;have GE786:=n3_;clear n0_ n1_ n2_ n3_;clear hb hbox hg))
   have n0_:=Aside0.mk (blk_drew BK786.out);have n1_:=Aside0.mk (below_drew1 HB.out);clear BK786;clear HB;have BK786:=n0_;have HB:=n1_;clear n0_ n1_;refine start_ (n:=24) (S:=fun w'=>w'.cell? ⟨gb786,0,none⟩ = some (.int .i64 a0_0) ∧ w'.cell? ⟨gb786,1,none⟩ = some (.slice A0_1 l0_1.length c0_1)) (ds:=[]) #[false,false,false,false,false,false,false,false,false,false,false,false,false,false,false,false,false,false,false,false,false,false,false,false] (by kernel_rfl) rfl rfl ⟨(blk_cell BK786.out 0).trans rfl,(blk_cell BK786.out 1).trans rfl⟩ (fun hHeld=>?_);refine with_tabW impl_IsCommittee.tab1 impl_IsCommittee.bits1 (fun HT_ HW_=>?_)
   generalize w14.drew = w15 at BK786 HB hHeld ⊢
   refine pure_ (i:=0) (N:=some 3) (v:=?_) (a':=?_) #[true,false,false,false,false,false,false,false,false,false,false,false,false,false,false,false,false,false,false,false,false,false,false,false] rfl rfl (any_of HT_.out (by kernel_rfl)) (fun _ _ _ h=>h) (Or.inl ⟨by rfl,?_⟩) ?_ ?_;rotate_left
   ·intro w';go_simp
    with_reducible rfl
   rotate_left
   ·simp only [Act.put,sA,sZ,sS,i64_w,i32_w];rfl
   refine take_ (i:=1) (N:=some 4) (v:=?_) (a':=?_) #[true,true,false,false,false,false,false,false,false,false,false,false,false,false,false,false,false,false,false,false,false,false,false,false] rfl rfl (take_ofW HT_.out HW_.out (by kernel_rfl)) (fun _ _ _ h=>h) (Or.inl ⟨by rfl,?_⟩) hHeld ?_ ?_;rotate_left
   ·rintro w' ⟨s0,s1⟩
    go_simp
    with_reducible rfl
   rotate_left
   ·simp only [Act.put,sA,sZ,sS,i64_w,i32_w];rfl
   refine pure_ (i:=2) (N:=some 5) (v:=?_) (a':=?_) #[true,true,true,false,false,false,false,false,false,false,false,false,false,false,false,false,false,false,false,false,false,false,false,false] rfl rfl (any_of HT_.out (by kernel_rfl)) (fun _ _ _ h=>h) (Or.inl ⟨by rfl,?_⟩) ?_ ?_;rotate_left
   ·intro w';go_simp
    with_reducible rfl
   rotate_left
   ·simp only [Act.put,sA,sZ,sS,i64_w,i32_w];rfl
   refine pure_ (i:=3) (N:=some 6) (v:=?_) (a':=?_) #[true,true,true,true,false,false,false,false,false,false,false,false,false,false,false,false,false,false,false,false,false,false,false,false] rfl rfl (any_of HT_.out (by kernel_rfl)) (fun _ _ _ h=>h) (Or.inl ⟨by rfl,?_⟩) ?_ ?_;rotate_left
   ·intro w';go_simp
    with_reducible rfl
   rotate_left
   ·simp only [Act.put,sA,sZ,sS,i64_w,i32_w];rfl
   refine pure_ (i:=4) (N:=some 7) (v:=?_) (a':=?_) #[true,true,true,true,true,false,false,false,false,false,false,false,false,false,false,false,false,false,false,false,false,false,false,false] rfl rfl (any_of HT_.out (by kernel_rfl)) (fun _ _ _ h=>h) (Or.inl ⟨by rfl,?_⟩) ?_ ?_;rotate_left
   ·intro w';go_simp
    with_reducible rfl
   rotate_left
   ·simp only [Act.put,sA,sZ,sS,i64_w,i32_w];rfl
   refine pure_ (i:=5) (N:=some 8) (v:=?_) (a':=?_) #[true,true,true,true,true,true,false,false,false,false,false,false,false,false,false,false,false,false,false,false,false,false,false,false] rfl rfl (any_of HT_.out (by kernel_rfl)) (fun _ _ _ h=>h) (Or.inl ⟨by rfl,?_⟩) ?_ ?_;rotate_left
   ·intro w';go_simp
    with_reducible rfl
   rotate_left
   ·simp only [Act.put,sA,sZ,sS,i64_w,i32_w];rfl
   refine take_ (i:=6) (N:=some 9) (v:=?_) (a':=?_) #[true,true,true,true,true,true,true,false,false,false,false,false,false,false,false,false,false,false,false,false,false,false,false,false] rfl rfl (take_ofW HT_.out HW_.out (by kernel_rfl)) (fun _ _ _ h=>h) (Or.inl ⟨by rfl,?_⟩) hHeld ?_ ?_;rotate_left
   ·rintro w' ⟨s0,s1⟩
    go_simp
    with_reducible rfl
   rotate_left
   ·simp only [Act.put,sA,sZ,sS,i64_w,i32_w];rfl
   refine pure_ (i:=7) (N:=some 10) (v:=?_) (a':=?_) #[true,true,true,true,true,true,true,true,false,false,false,false,false,false,false,false,false,false,false,false,false,false,false,false] rfl rfl (any_of HT_.out (by kernel_rfl)) (fun _ _ _ h=>h) (Or.inl ⟨by rfl,?_⟩) ?_ ?_;rotate_left
   ·intro w';go_simp
    with_reducible rfl
   rotate_left
   ·simp only [Act.put,sA,sZ,sS,i64_w,i32_w];rfl
   refine pure_ (i:=8) (N:=some 11) (v:=?_) (a':=?_) #[true,true,true,true,true,true,true,true,true,false,false,false,false,false,false,false,false,false,false,false,false,false,false,false] rfl rfl (any_of HT_.out (by kernel_rfl)) (fun _ _ _ h=>h) (Or.inl ⟨by rfl,?_⟩) ?_ ?_;rotate_left
   ·intro w';go_simp
    with_reducible rfl
   rotate_left
   ·simp only [Act.put,sA,sZ,sS,i64_w,i32_w];rfl
   refine pure_ (i:=9) (N:=some 12) (v:=?_) (a':=?_) #[true,true,true,true,true,true,true,true,true,true,false,false,false,false,false,false,false,false,false,false,false,false,false,false] rfl rfl (any_of HT_.out (by kernel_rfl)) (fun _ _ _ h=>h) (Or.inl ⟨by rfl,?_⟩) ?_ ?_;rotate_left
   ·intro w';go_simp
    with_reducible rfl
   rotate_left
   ·simp only [Act.put,sA,sZ,sS,i64_w,i32_w];rfl
   refine pure_ (i:=10) (N:=some 13) (v:=?_) (a':=?_) #[true,true,true,true,true,true,true,true,true,true,true,false,false,false,false,false,false,false,false,false,false,false,false,false] rfl rfl (any_of HT_.out (by kernel_rfl)) (fun _ _ _ h=>h) (Or.inl ⟨by rfl,?_⟩) ?_ ?_;rotate_left
   ·intro w';go_simp
    with_reducible rfl
   rotate_left
   ·simp only [Act.put,sA,sZ,sS,i64_w,i32_w];rfl
   refine pure_ (i:=11) (N:=some 14) (v:=undef) (a':=?_) #[true,true,true,true,true,true,true,true,true,true,true,true,false,false,false,false,false,false,false,false,false,false,false,false] rfl rfl (any_of HT_.out (by kernel_rfl)) (fun _ _ _ h=>h) (Or.inr ⟨by rfl,rfl⟩) ?_ ?_;rotate_left
   ·simp only [Act.put,sA,sZ,sS,i64_w,i32_w];rfl
   refine pure_ (i:=12) (N:=some 15) (v:=undef) (a':=?_) #[true,true,true,true,true,true,true,true,true,true,true,true,true,false,false,false,false,false,false,false,false,false,false,false] rfl rfl (any_of HT_.out (by kernel_rfl)) (fun _ _ _ h=>h) (Or.inr ⟨by rfl,rfl⟩) ?_ ?_;rotate_left
   ·simp only [Act.put,sA,sZ,sS,i64_w,i32_w];rfl
   refine pure_ (i:=13) (N:=some 16) (v:=undef) (a':=?_) #[true,true,true,true,true,true,true,true,true,true,true,true,true,true,false,false,false,false,false,false,false,false,false,false] rfl rfl (any_of HT_.out (by kernel_rfl)) (fun _ _ _ h=>h) (Or.inr ⟨by rfl,rfl⟩) ?_ ?_;rotate_left
   ·simp only [Act.put,sA,sZ,sS,i64_w,i32_w];rfl
   refine pure_ (i:=14) (N:=some 17) (v:=?_) (a':=?_) #[true,true,true,true,true,true,true,true,true,true,true,true,true,true,true,false,false,false,false,false,false,false,false,false] rfl rfl (any_of HT_.out (by kernel_rfl)) (fun _ _ _ h=>h) (Or.inl ⟨by rfl,?_⟩) ?_ ?_;rotate_left
   ·intro w';go_simp
    with_reducible rfl
   rotate_left
   ·simp only [Act.put,sA,sZ,sS,i64_w,i32_w];rfl
   refine pure_ (i:=15) (N:=some 18) (v:=?_) (a':=?_) #[true,true,true,true,true,true,true,true,true,true,true,true,true,true,true,true,false,false,false,false,false,false,false,false] rfl rfl (any_of HT_.out (by kernel_rfl)) (fun _ _ _ h=>h) (Or.inl ⟨by rfl,?_⟩) ?_ ?_;rotate_left
   ·intro w';go_simp
    with_reducible rfl
   rotate_left
   ·simp only [Act.put,sA,sZ,sS,i64_w,i32_w];rfl
   refine pure_ (i:=16) (N:=some 19) (v:=undef) (a':=?_) #[true,true,true,true,true,true,true,true,true,true,true,true,true,true,true,true,true,false,false,false,false,false,false,false] rfl rfl (any_of HT_.out (by kernel_rfl)) (fun _ _ _ h=>h) (Or.inr ⟨by rfl,rfl⟩) ?_ ?_;rotate_left
   ·simp only [Act.put,sA,sZ,sS,i64_w,i32_w];rfl
   refine pure_ (i:=17) (N:=some 20) (v:=undef) (a':=?_) #[true,true,true,true,true,true,true,true,true,true,true,true,true,true,true,true,true,true,false,false,false,false,false,false] rfl rfl (any_of HT_.out (by kernel_rfl)) (fun _ _ _ h=>h) (Or.inr ⟨by rfl,rfl⟩) ?_ ?_;rotate_left
   ·simp only [Act.put,sA,sZ,sS,i64_w,i32_w];rfl
   refine pure_ (i:=18) (N:=some 21) (v:=undef) (a':=?_) #[true,true,true,true,true,true,true,true,true,true,true,true,true,true,true,true,true,true,true,false,false,false,false,false] rfl rfl (any_of HT_.out (by kernel_rfl)) (fun _ _ _ h=>h) (Or.inr ⟨by rfl,rfl⟩) ?_ ?_;rotate_left
   ·simp only [Act.put,sA,sZ,sS,i64_w,i32_w];rfl
   refine pure_ (i:=19) (N:=some 22) (v:=undef) (a':=?_) #[true,true,true,true,true,true,true,true,true,true,true,true,true,true,true,true,true,true,true,true,false,false,false,false] rfl rfl (any_of HT_.out (by kernel_rfl)) (fun _ _ _ h=>h) (Or.inr ⟨by rfl,rfl⟩) ?_ ?_;rotate_left
   ·simp only [Act.put,sA,sZ,sS,i64_w,i32_w];rfl
   refine pure_ (i:=20) (N:=some 23) (v:=undef) (a':=?_) #[true,true,true,true,true,true,true,true,true,true,true,true,true,true,true,true,true,true,true,true,true,false,false,false] rfl rfl (any_of HT_.out (by kernel_rfl)) (fun _ _ _ h=>h) (Or.inr ⟨by rfl,rfl⟩) ?_ ?_;rotate_left
   ·simp only [Act.put,sA,sZ,sS,i64_w,i32_w];rfl
   refine pure_ (i:=21) (N:=some 24) (v:=undef) (a':=?_) #[true,true,true,true,true,true,true,true,true,true,true,true,true,true,true,true,true,true,true,true,true,true,false,false] rfl rfl (any_of HT_.out (by kernel_rfl)) (fun _ _ _ h=>h) (Or.inr ⟨by rfl,rfl⟩) ?_ ?_;rotate_left
   ·simp only [Act.put,sA,sZ,sS,i64_w,i32_w];rfl
   refine pure_ (i:=22) (N:=some 25) (v:=?_) (a':=?_) #[true,true,true,true,true,true,true,true,true,true,true,true,true,true,true,true,true,true,true,true,true,true,true,false] rfl rfl (any_of HT_.out (by kernel_rfl)) (fun _ _ _ h=>h) (Or.inl ⟨by rfl,?_⟩) ?_ ?_;rotate_left
   ·intro w';go_simp
    with_reducible rfl
   rotate_left
   ·simp only [Act.put,sA,sZ,sS,i64_w,i32_w];rfl
   refine pure_ (i:=23) (N:=some 2) (v:=?_) (a':=?_) #[true,true,true,true,true,true,true,true,true,true,true,true,true,true,true,true,true,true,true,true,true,true,true,true] rfl rfl (any_of HT_.out (by kernel_rfl)) (fun _ _ _ h=>h) (Or.inl ⟨by rfl,?_⟩) ?_ ?_;rotate_left
   ·intro w';go_simp
    with_reducible rfl
   rotate_left
   ·simp only [Act.put,sA,sZ,sS,i64_w,i32_w];rfl
   refine done_ (done_of HT_.out (by kernel_rfl)) ?_
   try go_wp2
   go_ret
   exact ⟨by first|rfl|(simp [errW_none,errW_some] <;> rfl)|(simp [*,errW_none,errW_some] <;> rfl),by repeat (first|(with_reducible first|exact HB.out|apply below_alloc|apply pw_below_drewN|apply below_drew1|refine below_set ?_ GE786.out)|exact HB.out)⟩
 ·rw [if_neg c2] at H;have c2b0:decide (1 ≤ (l0_1.length:Int)) = false:=decide_eq_false c2;have c2b1:decide (1 ≤ l0_1.length) = false:=decide_eq_false (by omega);clear c2;obtain rfl:=Option.some.inj H;go_enter Try.func68,Try.ntmps68
  try go_wp2_with (first|((with_reducible refine gate_dst (N:=1) rfl ?_);(try (refine gate_guard (by rfl) ?_;dsimp only));refine box_event ?hg (N:=1) ?hd (cs:=#[.int .i64 a0_0,.slice A0_1 l0_1.length c0_1]) (t:=46) ?hr ?_;(case hd=>rfl);(case hg=>rfl);(case hr=>first|(go_simp;done)|(go_simp;rfl));intro gb786 hg w16 hbox hb;have n0_:=Aside0.mk (below_step bw hb);have n1_:=Aside0.mk (hbox);have n2_:=Aside0.mk ((by rw [hg];exact (below_size bw):w.heap.size ≤ gb786));have n3_:=Aside0.mk ((by rw [hg];exact (below_size bw):w.heap.size ≤ gb786));clear HB;have HB:=n0_;have BK786:=n1_;have GW786:=n2_;have GE786:=n3_;clear n0_ n1_ n2_ n3_;clear hb hbox hg))
  have n0_:=Aside0.mk (blk_drew BK786.out);have n1_:=Aside0.mk (below_drew1 HB.out);clear BK786;clear HB;have BK786:=n0_;have HB:=n1_;clear n0_ n1_;refine start_ (n:=24) (S:=fun w'=>w'.cell? ⟨gb786,0,none⟩ = some (.int .i64 a0_0) ∧ w'.cell? ⟨gb786,1,none⟩ = some (.slice A0_1 l0_1.length c0_1)) (ds:=[]) #[false,false,false,false,false,false,false,false,false,false,false,false,false,false,false,false,false,false,false,false,false,false,false,false] (by kernel_rfl) rfl rfl ⟨(blk_cell BK786.out 0).trans rfl,(blk_cell BK786.out 1).trans rfl⟩ (fun hHeld=>?_);refine with_tabW impl_IsCommittee.tab1 impl_IsCommittee.bits1 (fun HT_ HW_=>?_)
  generalize w16.drew = w17 at BK786 HB hHeld ⊢
  refine pure_ (i:=0) (N:=some 3) (v:=?_) (a':=?_) #[true,false,false,false,false,false,false,false,false,false,false,false,false,false,false,false,false,false,false,false,false,false,false,false] rfl rfl (any_of HT_.out (by kernel_rfl)) (fun _ _ _ h=>h) (Or.inl ⟨by rfl,?_⟩) ?_ ?_;rotate_left
  ·intro w';go_simp
   with_reducible rfl
  rotate_left
  ·simp only [Act.put,sA,sZ,sS,i64_w,i32_w];rfl
  refine take_ (i:=1) (N:=some 4) (v:=?_) (a':=?_) #[true,true,false,false,false,false,false,false,false,false,false,false,false,false,false,false,false,false,false,false,false,false,false,false] rfl rfl (take_ofW HT_.out HW_.out (by kernel_rfl)) (fun _ _ _ h=>h) (Or.inl ⟨by rfl,?_⟩) hHeld ?_ ?_;rotate_left
  ·rintro w' ⟨s0,s1⟩
   go_simp
   with_reducible rfl
  rotate_left
  ·simp only [Act.put,sA,sZ,sS,i64_w,i32_w];rfl
  refine pure_ (i:=2) (N:=some 5) (v:=?_) (a':=?_) #[true,true,true,false,false,false,false,false,false,false,false,false,false,false,false,false,false,false,false,false,false,false,false,false] rfl rfl (any_of HT_.out (by kernel_rfl)) (fun _ _ _ h=>h) (Or.inl ⟨by rfl,?_⟩) ?_ ?_;rotate_left
  ·intro w';go_simp
   with_reducible rfl
  rotate_left
  ·simp only [Act.put,sA,sZ,sS,i64_w,i32_w];rfl
  refine pure_ (i:=3) (N:=some 6) (v:=?_) (a':=?_) #[true,true,true,true,false,false,false,false,false,false,false,false,false,false,false,false,false,false,false,false,false,false,false,false] rfl rfl (any_of HT_.out (by kernel_rfl)) (fun _ _ _ h=>h) (Or.inl ⟨by rfl,?_⟩) ?_ ?_;rotate_left
  ·intro w';go_simp
   with_reducible rfl
  rotate_left
  ·simp only [Act.put,sA,sZ,sS,i64_w,i32_w];rfl
  refine pure_ (i:=4) (N:=some 7) (v:=?_) (a':=?_) #[true,true,true,true,true,false,false,false,false,false,false,false,false,false,false,false,false,false,false,false,false,false,false,false] rfl rfl (any_of HT_.out (by kernel_rfl)) (fun _ _ _ h=>h) (Or.inl ⟨by rfl,?_⟩) ?_ ?_;rotate_left
  ·intro w';go_simp
   with_reducible rfl
  rotate_left
  ·simp only [Act.put,sA,sZ,sS,i64_w,i32_w];rfl
  refine pure_ (i:=5) (N:=some 8) (v:=undef) (a':=?_) #[true,true,true,true,true,true,false,false,false,false,false,false,false,false,false,false,false,false,false,false,false,false,false,false] rfl rfl (any_of HT_.out (by kernel_rfl)) (fun _ _ _ h=>h) (Or.inr ⟨by rfl,rfl⟩) ?_ ?_;rotate_left
  ·simp only [Act.put,sA,sZ,sS,i64_w,i32_w];rfl
  refine pure_ (i:=6) (N:=some 9) (v:=undef) (a':=?_) #[true,true,true,true,true,true,true,false,false,false,false,false,false,false,false,false,false,false,false,false,false,false,false,false] rfl rfl (any_of HT_.out (by kernel_rfl)) (fun _ _ _ h=>h) (Or.inr ⟨by rfl,rfl⟩) ?_ ?_;rotate_left
  ·simp only [Act.put,sA,sZ,sS,i64_w,i32_w];rfl
  refine pure_ (i:=7) (N:=some 10) (v:=undef) (a':=?_) #[true,true,true,true,true,true,true,true,false,false,false,false,false,false,false,false,false,false,false,false,false,false,false,false] rfl rfl (any_of HT_.out (by kernel_rfl)) (fun _ _ _ h=>h) (Or.inr ⟨by rfl,rfl⟩) ?_ ?_;rotate_left
  ·simp only [Act.put,sA,sZ,sS,i64_w,i32_w];rfl
  refine pure_ (i:=8) (N:=some 11) (v:=undef) (a':=?_) #[true,true,true,true,true,true,true,true,true,false,false,false,false,false,false,false,false,false,false,false,false,false,false,false] rfl rfl (any_of HT_.out (by kernel_rfl)) (fun _ _ _ h=>h) (Or.inr ⟨by rfl,rfl⟩) ?_ ?_;rotate_left
  ·simp only [Act.put,sA,sZ,sS,i64_w,i32_w];rfl
  refine pure_ (i:=9) (N:=some 12) (v:=?_) (a':=?_) #[true,true,true,true,true,true,true,true,true,true,false,false,false,false,false,false,false,false,false,false,false,false,false,false] rfl rfl (any_of HT_.out (by kernel_rfl)) (fun _ _ _ h=>h) (Or.inl ⟨by rfl,?_⟩) ?_ ?_;rotate_left
  ·intro w';go_simp
   with_reducible rfl
  rotate_left
  ·simp only [Act.put,sA,sZ,sS,i64_w,i32_w];rfl
  refine pure_ (i:=10) (N:=some 13) (v:=?_) (a':=?_) #[true,true,true,true,true,true,true,true,true,true,true,false,false,false,false,false,false,false,false,false,false,false,false,false] rfl rfl (any_of HT_.out (by kernel_rfl)) (fun _ _ _ h=>h) (Or.inl ⟨by rfl,?_⟩) ?_ ?_;rotate_left
  ·intro w';go_simp
   with_reducible rfl
  rotate_left
  ·simp only [Act.put,sA,sZ,sS,i64_w,i32_w];rfl
  refine pure_ (i:=11) (N:=some 14) (v:=undef) (a':=?_) #[true,true,true,true,true,true,true,true,true,true,true,true,false,false,false,false,false,false,false,false,false,false,false,false] rfl rfl (any_of HT_.out (by kernel_rfl)) (fun _ _ _ h=>h) (Or.inr ⟨by rfl,rfl⟩) ?_ ?_;rotate_left
  ·simp only [Act.put,sA,sZ,sS,i64_w,i32_w];rfl
  refine pure_ (i:=12) (N:=some 15) (v:=undef) (a':=?_) #[true,true,true,true,true,true,true,true,true,true,true,true,true,false,false,false,false,false,false,false,false,false,false,false] rfl rfl (any_of HT_.out (by kernel_rfl)) (fun _ _ _ h=>h) (Or.inr ⟨by rfl,rfl⟩) ?_ ?_;rotate_left
  ·simp only [Act.put,sA,sZ,sS,i64_w,i32_w];rfl
  refine pure_ (i:=13) (N:=some 16) (v:=undef) (a':=?_) #[true,true,true,true,true,true,true,true,true,true,true,true,true,true,false,false,false,false,false,false,false,false,false,false] rfl rfl (any_of HT_.out (by kernel_rfl)) (fun _ _ _ h=>h) (Or.inr ⟨by rfl,rfl⟩) ?_ ?_;rotate_left
  ·simp only [Act.put,sA,sZ,sS,i64_w,i32_w];rfl
  refine pure_ (i:=14) (N:=some 17) (v:=?_) (a':=?_) #[true,true,true,true,true,true,true,true,true,true,true,true,true,true,true,false,false,false,false,false,false,false,false,false] rfl rfl (any_of HT_.out (by kernel_rfl)) (fun _ _ _ h=>h) (Or.inl ⟨by rfl,?_⟩) ?_ ?_;rotate_left
  ·intro w';go_simp
   with_reducible rfl
  rotate_left
  ·simp only [Act.put,sA,sZ,sS,i64_w,i32_w];rfl
  refine pure_ (i:=15) (N:=some 18) (v:=?_) (a':=?_) #[true,true,true,true,true,true,true,true,true,true,true,true,true,true,true,true,false,false,false,false,false,false,false,false] rfl rfl (any_of HT_.out (by kernel_rfl)) (fun _ _ _ h=>h) (Or.inl ⟨by rfl,?_⟩) ?_ ?_;rotate_left
  ·intro w';go_simp
   with_reducible rfl
  rotate_left
  ·simp only [Act.put,sA,sZ,sS,i64_w,i32_w];rfl
  refine pure_ (i:=16) (N:=some 19) (v:=undef) (a':=?_) #[true,true,true,true,true,true,true,true,true,true,true,true,true,true,true,true,true,false,false,false,false,false,false,false] rfl rfl (any_of HT_.out (by kernel_rfl)) (fun _ _ _ h=>h) (Or.inr ⟨by rfl,rfl⟩) ?_ ?_;rotate_left
  ·simp only [Act.put,sA,sZ,sS,i64_w,i32_w];rfl
  refine pure_ (i:=17) (N:=some 20) (v:=undef) (a':=?_) #[true,true,true,true,true,true,true,true,true,true,true,true,true,true,true,true,true,true,false,false,false,false,false,false] rfl rfl (any_of HT_.out (by kernel_rfl)) (fun _ _ _ h=>h) (Or.inr ⟨by rfl,rfl⟩) ?_ ?_;rotate_left
  ·simp only [Act.put,sA,sZ,sS,i64_w,i32_w];rfl
  refine pure_ (i:=18) (N:=some 21) (v:=undef) (a':=?_) #[true,true,true,true,true,true,true,true,true,true,true,true,true,true,true,true,true,true,true,false,false,false,false,false] rfl rfl (any_of HT_.out (by kernel_rfl)) (fun _ _ _ h=>h) (Or.inr ⟨by rfl,rfl⟩) ?_ ?_;rotate_left
  ·simp only [Act.put,sA,sZ,sS,i64_w,i32_w];rfl
  refine pure_ (i:=19) (N:=some 22) (v:=undef) (a':=?_) #[true,true,true,true,true,true,true,true,true,true,true,true,true,true,true,true,true,true,true,true,false,false,false,false] rfl rfl (any_of HT_.out (by kernel_rfl)) (fun _ _ _ h=>h) (Or.inr ⟨by rfl,rfl⟩) ?_ ?_;rotate_left
  ·simp only [Act.put,sA,sZ,sS,i64_w,i32_w];rfl
  refine pure_ (i:=20) (N:=some 23) (v:=undef) (a':=?_) #[true,true,true,true,true,true,true,true,true,true,true,true,true,true,true,true,true,true,true,true,true,false,false,false] rfl rfl (any_of HT_.out (by kernel_rfl)) (fun _ _ _ h=>h) (Or.inr ⟨by rfl,rfl⟩) ?_ ?_;rotate_left
  ·simp only [Act.put,sA,sZ,sS,i64_w,i32_w];rfl
  refine pure_ (i:=21) (N:=some 24) (v:=undef) (a':=?_) #[true,true,true,true,true,true,true,true,true,true,true,true,true,true,true,true,true,true,true,true,true,true,false,false] rfl rfl (any_of HT_.out (by kernel_rfl)) (fun _ _ _ h=>h) (Or.inr ⟨by rfl,rfl⟩) ?_ ?_;rotate_left
  ·simp only [Act.put,sA,sZ,sS,i64_w,i32_w];rfl
  refine pure_ (i:=22) (N:=some 25) (v:=?_) (a':=?_) #[true,true,true,true,true,true,true,true,true,true,true,true,true,true,true,true,true,true,true,true,true,true,true,false] rfl rfl (any_of HT_.out (by kernel_rfl)) (fun _ _ _ h=>h) (Or.inl ⟨by rfl,?_⟩) ?_ ?_;rotate_left
  ·intro w';go_simp
   with_reducible rfl
  rotate_left
  ·simp only [Act.put,sA,sZ,sS,i64_w,i32_w];rfl
  refine pure_ (i:=23) (N:=some 2) (v:=?_) (a':=?_) #[true,true,true,true,true,true,true,true,true,true,true,true,true,true,true,true,true,true,true,true,true,true,true,true] rfl rfl (any_of HT_.out (by kernel_rfl)) (fun _ _ _ h=>h) (Or.inl ⟨by rfl,?_⟩) ?_ ?_;rotate_left
  ·intro w';go_simp
   with_reducible rfl
  rotate_left
  ·simp only [Act.put,sA,sZ,sS,i64_w,i32_w];rfl
  refine done_ (done_of HT_.out (by kernel_rfl)) ?_
  try go_wp2
  go_ret
  exact ⟨by first|rfl|(simp [errW_none,errW_some] <;> rfl)|(simp [*,errW_none,errW_some] <;> rfl),by repeat (first|(with_reducible first|exact HB.out|apply below_alloc|apply pw_below_drewN|apply below_drew1|refine below_set ?_ GE786.out)|exact HB.out)⟩


/-! ### impl_AreCouncil: function 86 -/
mutual
def impl_AreCouncil.j0:Nat → List (S_impl_Committee) → Bool → Option (Bool)
 | 0,_,_=>none
 | k + 1,x1,x18=>if x18 = true then (some false) else (impl_AreCouncil.l0 k 0 x1 (x1.length:Int) 0)
def impl_AreCouncil.l0:Nat → Int → List (S_impl_Committee) → Int → Int → Option (Bool)
 | 0,_,_,_,_=>none
 | k + 1,x5,x19,x20,x21=>if x21 < x20 then (if 0 ≤ x21 then (if x21 < (x19.length:Int) then ((impl_IsCommittee.f k ((rd_impl_Committee x19 x21).f0) ((rd_impl_Committee x19 x21).f1)).bind fun t1217=>(if t1217 = true then (impl_AreCouncil.l0 k (wrap64 (x5 + (((rd_impl_Committee x19 x21).f1).length:Int))) x19 x20 (wrap64 (x21 + 1))) else (some false))) else (none)) else (none)) else (some (decide (x5 ≤ 9)))
end
def impl_AreCouncil.f (k:Nat) (a0_0:Int) (l0_1:List Int) (l1:List (S_impl_Committee)):Option (Bool):=(impl_IsCommittee.f k a0_0 l0_1).bind fun t1214=>(if t1214 = true then (impl_AreCouncil.j0 k l1 ((l1.length:Int) != (l0_1.length:Int))) else (impl_AreCouncil.j0 k l1 true))
theorem impl_AreCouncil.mono_l:∀ k,(∀ y0 y1,LeO (impl_AreCouncil.j0 k y0 y1) (impl_AreCouncil.j0 (k + 1) y0 y1)) ∧ (∀ y0 y1 y2 y3,LeO (impl_AreCouncil.l0 k y0 y1 y2 y3) (impl_AreCouncil.l0 (k + 1) y0 y1 y2 y3))
 | 0=>⟨fun _ _ r h=>by simp [impl_AreCouncil.j0] at h,fun _ _ _ _ r h=>by simp [impl_AreCouncil.l0] at h⟩
 | k + 1=>by
  obtain ⟨ih0,ih1⟩:=impl_AreCouncil.mono_l k;refine ⟨?_,?_⟩
  ·intro y0 y1;unfold impl_AreCouncil.j0
   repeat' with_reducible first|exact ih0 _ _|exact ih1 _ _ _ _|exact impl_IsCommittee.mono _ _ _|exact LeO.refl _|exact LeO.none _|refine LeO.ite ?_ ?_|refine LeO.bind ?_ (fun _=>?_)
  ·intro y0 y1 y2 y3;unfold impl_AreCouncil.l0
   repeat' with_reducible first|exact ih0 _ _|exact ih1 _ _ _ _|exact impl_IsCommittee.mono _ _ _|exact LeO.refl _|exact LeO.none _|refine LeO.ite ?_ ?_|refine LeO.bind ?_ (fun _=>?_)
theorem impl_AreCouncil.mono:∀ a0 a1 a2 k,LeO (impl_AreCouncil.f k a0 a1 a2) (impl_AreCouncil.f (k + 1) a0 a1 a2):=by
 intro a0 a1 a2 k;obtain ⟨ih0,ih1⟩:=impl_AreCouncil.mono_l k;unfold impl_AreCouncil.f
 repeat' with_reducible first|exact ih0 _ _|exact ih1 _ _ _ _|exact impl_IsCommittee.mono _ _ _|exact LeO.refl _|exact LeO.none _|refine LeO.ite ?_ ?_|refine LeO.bind ?_ (fun _=>?_)
set_option maxHeartbeats 8000000 in
set_option maxRecDepth 100000 in
theorem impl_AreCouncil.calls (k:Nat) (a0_0:Int) (A0_1:Option Addr) (c0_1:Nat) (l0_1:List Int) (A1:Option Addr) (c1:Nat) (l1:List (S_impl_Committee)) (r:Bool) (w:World) (hr0_1:Kd.C (Kd.int .i64) w A0_1 l0_1.length l0_1) (hc0_1:l0_1.length ≤ c0_1) (hr1:Kd.C k_impl_Committee w A1 l1.length l1) (hc1:l1.length ≤ c1) (h:impl_AreCouncil.f k a0_0 l0_1 l1 = some r) :
  Calls Try.prog 86 #[.agg #[.int .i64 a0_0,.slice A0_1 l0_1.length c0_1],.slice A1 l1.length c1] w fun e w'=>e = .returned (.bool r) ∧ Below w.heap.size w w':=by
 have hu46:=Try.underlying46;have HR0_1:=Aside0.mk hr0_1;have HC0_1:=Aside0.mk hc0_1;clear hr0_1 hc0_1;have HR1:=Aside0.mk hr1;have HC1:=Aside0.mk hc1;clear hr1 hc1;have HB:=Aside0.mk (Below.refl w.heap.size w);have H:((impl_IsCommittee.f k a0_0 l0_1).bind fun t1214=>(if t1214 = true then (impl_AreCouncil.j0 k l1 ((l1.length:Int) != (l0_1.length:Int))) else (impl_AreCouncil.j0 k l1 true))) = some r:=h;clear h;have HC3:=Aside0.mk H;clear H;go_enter Try.func86,Try.ntmps86;go_upto_region 1 with (first|((with_reducible refine gate_dst (N:=2) rfl ?_);(try (refine gate_guard (by rfl) ?_;dsimp only));refine box_event ?hg (N:=2) ?hd (cs:=#[.int .i64 a0_0,.slice A0_1 l0_1.length c0_1]) (t:=46) ?hr ?_;(case hd=>rfl);(case hg=>rfl);(case hr=>first|(go_simp;done)|(go_simp;rfl));intro gb1213 hg w4 hbox hb;have n0_:=Aside0.mk (below_step bw hb);have n1_:=Aside0.mk (hbox);have n2_:=Aside0.mk ((by rw [hg];exact (below_size bw):w.heap.size ≤ gb1213));have n3_:=Aside0.mk ((by rw [hg];exact (below_size bw):w.heap.size ≤ gb1213));clear HB;have HB:=n0_;have BK1213:=n1_;have GW1213:=n2_;have GE1213:=n3_;clear n0_ n1_ n2_ n3_;clear hb hbox hg))
 (try simp only [Act.put,sA,sZ,sS])
 go_cut [18] (fun v18 wc=>∃ (kq:Nat) (x18_2:Bool),v18 = .bool x18_2 ∧ Aside0 (impl_AreCouncil.j0 kq l1 x18_2 = some r) ∧ Aside0 (kq ≤ k) ∧ Aside0 (wc.heap[gb1213]? = some (.cells #[.int .i64 a0_0,(.slice A0_1 l0_1.length c0_1)] 46 (0,0))) ∧ Aside0 (Below w.heap.size w wc))
 case first =>
  have H:=HC3.out;clear HC3;replace H:=Option.bind_eq_some_iff.mp H;obtain ⟨t1214,A50,H⟩:=H;replace H:(if t1214 = true then (impl_AreCouncil.j0 k l1 ((l1.length:Int) != (l0_1.length:Int))) else (impl_AreCouncil.j0 k l1 true)) = some r:=H;have A5:=Aside0.mk A50;clear A50;by_cases c6:t1214 = true
  ·subst c6;have H1:(impl_AreCouncil.j0 k l1 ((l1.length:Int) != (l0_1.length:Int))) = some r:=by rw [if_pos rfl] at H;exact H
   clear H;have H:=H1;clear H1;have H':=Aside0.mk H;clear H;have hcz7_0:w4.cell? ⟨gb1213,0,none⟩ = some (.int .i64 a0_0):=(blk_cell BK1213.out 0).trans rfl;have hcz7_1:w4.cell? ⟨gb1213,1,none⟩ = some (.slice A0_1 l0_1.length c0_1):=(blk_cell BK1213.out 1).trans rfl;have hfz7_0:=blk_frozen BK1213.out 0;have hfz7_1:=blk_frozen BK1213.out 1;go_wp2_with (first|((with_reducible refine gate_callee (f:=68) rfl ?_);refine goesL_ (some 9) rfl rfl Try.func68 (by kernel_rfl) rfl #[.agg #[.int .i64 a0_0,.slice A0_1 l0_1.length c0_1]] rfl mq ?_;(with_reducible refine (impl_IsCommittee.calls k a0_0 _ _ l0_1 true _ ?side1 ?side2 A5.out).mono ?_);(case side1=>repeat (first|exact (Kd.C_below HR0_1.out HB.out)|(with_reducible refine Kd.C_alloc ?_ _)|(with_reducible refine Kd.C_drewN ?_ _)|(with_reducible refine Kd.C_drew ?_)));(case side2=>exact HC0_1.out);rintro e w8 ⟨rfl,hb⟩;refine ⟨_,rfl,?_⟩;have n0_:=Aside0.mk (blk_below (g:=gb1213) (o:=.cells #[.int .i64 a0_0,.slice A0_1 l0_1.length c0_1] 46 (0,0)) bk hb);have n1_:=Aside0.mk (below_step bw hb);clear BK1213;clear HB;have BK1213:=n0_;have HB:=n1_;clear n0_ n1_;(try clear hb);(try clear hb2);(try clear hk);(try clear hi);have hcz9_0:w8.cell? ⟨gb1213,0,none⟩ = some (.int .i64 a0_0):=(blk_cell BK1213.out 0).trans rfl;have hcz9_1:w8.cell? ⟨gb1213,1,none⟩ = some (.slice A0_1 l0_1.length c0_1):=(blk_cell BK1213.out 1).trans rfl;have hfz9_0:=blk_frozen BK1213.out 0;have hfz9_1:=blk_frozen BK1213.out 1))
   go_meet
   case rel=>exact ⟨_,(((l1.length:Int) != (l0_1.length:Int))),(by first|rfl|(simp;done)|(simp [*];done)),H',⟨by first|omega|exact Nat.le_refl _⟩,⟨by (with_reducible repeat (first|refine blk_drewN ?_ _|refine blk_drew ?_|refine blk_alloc ?_ _));exact BK1213.out⟩,⟨by repeat (first|(with_reducible first|exact HB.out|apply below_alloc|apply pw_below_drewN|apply below_drew1|refine below_set ?_ GE1213.out)|exact HB.out)⟩⟩
  ·replace c6:=Bool.eq_false_iff.mpr c6;subst c6;have H1:(impl_AreCouncil.j0 k l1 true) = some r:=by rw [if_neg (show ¬ (false = true) by decide)] at H;exact H
   clear H;have H:=H1;clear H1;have H':=Aside0.mk H;clear H;have hcz10_0:w4.cell? ⟨gb1213,0,none⟩ = some (.int .i64 a0_0):=(blk_cell BK1213.out 0).trans rfl;have hcz10_1:w4.cell? ⟨gb1213,1,none⟩ = some (.slice A0_1 l0_1.length c0_1):=(blk_cell BK1213.out 1).trans rfl;have hfz10_0:=blk_frozen BK1213.out 0;have hfz10_1:=blk_frozen BK1213.out 1;go_wp2_with (first|((with_reducible refine gate_callee (f:=68) rfl ?_);refine goesL_ (some 9) rfl rfl Try.func68 (by kernel_rfl) rfl #[.agg #[.int .i64 a0_0,.slice A0_1 l0_1.length c0_1]] rfl mq ?_;(with_reducible refine (impl_IsCommittee.calls k a0_0 _ _ l0_1 false _ ?side1 ?side2 A5.out).mono ?_);(case side1=>repeat (first|exact (Kd.C_below HR0_1.out HB.out)|(with_reducible refine Kd.C_alloc ?_ _)|(with_reducible refine Kd.C_drewN ?_ _)|(with_reducible refine Kd.C_drew ?_)));(case side2=>exact HC0_1.out);rintro e w11 ⟨rfl,hb⟩;refine ⟨_,rfl,?_⟩;have n0_:=Aside0.mk (blk_below (g:=gb1213) (o:=.cells #[.int .i64 a0_0,.slice A0_1 l0_1.length c0_1] 46 (0,0)) bk hb);have n1_:=Aside0.mk (below_step bw hb);clear BK1213;clear HB;have BK1213:=n0_;have HB:=n1_;clear n0_ n1_;(try clear hb);(try clear hb2);(try clear hk);(try clear hi)))
   go_meet
   case rel=>exact ⟨_,(true),(by first|rfl|(simp;done)|(simp [*];done)),H',⟨by first|omega|exact Nat.le_refl _⟩,⟨by (with_reducible repeat (first|refine blk_drewN ?_ _|refine blk_drew ?_|refine blk_alloc ?_ _));exact BK1213.out⟩,⟨by repeat (first|(with_reducible first|exact HB.out|apply below_alloc|apply pw_below_drewN|apply below_drew1|refine below_set ?_ GE1213.out)|exact HB.out)⟩⟩
 case rest =>
  clear HC3
  try clear c1
  try clear p2
  try clear c6
  try clear c8
  try clear hcz10_0
  try clear hcz10_1
  try clear hcz7_0
  try clear hcz7_1
  try clear hcz9_0
  try clear hcz9_1
  try clear hfz10_0
  try clear hfz10_1
  try clear hfz7_0
  try clear hfz7_1
  try clear hfz9_0
  try clear hfz9_1
  obtain ⟨kq,x18_2,rfl,HA,HJ2,BK1213,HB⟩:=hcut
  cases kq with
  | zero=>exact absurd HA.out (by simp [impl_AreCouncil.j0])
  | succ kj2 =>
   have H:=HA.out;clear HA;simp only [impl_AreCouncil.j0] at H;by_cases c12:x18_2 = true
   ·subst c12;have H1:(some false) = some r:=by rw [if_pos rfl] at H;exact H
    clear H;have H:=H1;clear H1;obtain rfl:=Option.some.inj H;go_wp2
    go_ret
    exact ⟨by first|rfl|(simp [errW_none,errW_some] <;> rfl)|(simp [*,errW_none,errW_some] <;> rfl),by repeat (first|(with_reducible first|exact HB.out|apply below_alloc|apply pw_below_drewN|apply below_drew1|refine below_set ?_ GE1213.out)|exact HB.out)⟩
   ·replace c12:=Bool.eq_false_iff.mpr c12;subst c12;have H1:(impl_AreCouncil.l0 kj2 0 l1 (l1.length:Int) 0) = some r:=by rw [if_neg (show ¬ (false = true) by decide)] at H;exact H
    clear H;have H:=H1;clear H1;have H':=Aside0.mk H;clear H;go_wp2
    go_loopg [5,21] kj2 (fun kq v5 v21 w'=>∃ (x5_2:Int) (x21_2:Int),v5 = .int .i64 x5_2 ∧ v21 = .int .i64 x21_2 ∧ Aside0 (impl_AreCouncil.l0 kq x5_2 l1 (l1.length:Int) x21_2 = some r) ∧ Aside0 (kq ≤ kj2) ∧ Aside0 (w'.heap[gb1213]? = some (.cells #[.int .i64 a0_0,(.slice A0_1 l0_1.length c0_1)] 46 (0,0))) ∧ Aside0 (Below w.heap.size w w'))
    case atStart=>exact ⟨(0),(0),(by first|rfl|(simp;done)|(simp [*];done)),(by first|rfl|(simp;done)|(simp [*];done)),H',⟨Nat.le_refl _⟩,⟨by (with_reducible repeat (first|refine blk_drewN ?_ _|refine blk_drew ?_|refine blk_alloc ?_ _));exact BK1213.out⟩,⟨by repeat (first|(with_reducible first|exact HB.out|apply below_alloc|apply pw_below_drewN|apply below_drew1|refine below_set ?_ GE1213.out)|exact HB.out)⟩⟩
    case round =>
     clear H'
     try clear c1
     try clear p2
     try clear c6
     try clear c8
     try clear c12
     try clear hcz10_0
     try clear hcz10_1
     try clear hcz7_0
     try clear hcz7_1
     try clear hcz9_0
     try clear hcz9_1
     try clear hfz10_0
     try clear hfz10_1
     try clear hfz7_0
     try clear hfz7_1
     try clear hfz9_0
     try clear hfz9_1
     try clear p2
     obtain ⟨x5_2,x21_2,rfl,rfl,HA,HK2,BK1213,HB⟩:=hrel
     cases gk with
     | zero=>exact absurd HA.out (by simp [impl_AreCouncil.l0])
     | succ k2 =>
      have H:=HA.out;clear HA;simp only [impl_AreCouncil.l0] at H;by_cases c13:x21_2 < (l1.length:Int)
      ·rw [if_pos c13] at H;have c13b0:decide (x21_2 < (l1.length:Int)) = true:=decide_eq_true c13;clear c13;by_cases c14:0 ≤ x21_2
       ·rw [if_pos c14] at H;have c14b0:decide (0 ≤ x21_2) = true:=decide_eq_true c14;clear c14;by_cases c15:x21_2 < (l1.length:Int)
        ·rw [if_pos c15] at H;have c15b0:decide (x21_2 < (l1.length:Int)) = true:=decide_eq_true c15;clear c15;replace H:=Option.bind_eq_some_iff.mp H;obtain ⟨t1217,A160,H⟩:=H;replace H:(if t1217 = true then (impl_AreCouncil.l0 k2 (wrap64 (x5_2 + (((rd_impl_Committee l1 x21_2).f1).length:Int))) l1 (l1.length:Int) (wrap64 (x21_2 + 1))) else (some false)) = some r:=H;have A16:=Aside0.mk A160;clear A160;by_cases c17:t1217 = true
         ·subst c17;have H1:(impl_AreCouncil.l0 k2 (wrap64 (x5_2 + (((rd_impl_Committee l1 x21_2).f1).length:Int))) l1 (l1.length:Int) (wrap64 (x21_2 + 1))) = some r:=by rw [if_pos rfl] at H;exact H
          clear H;have H:=H1;clear H1;have H':=Aside0.mk H;clear H;have p1215:0 ≤ (x21_2:Int):=of_decide_eq_true ab;have q1215:x21_2 < (l1.length:Int):=of_decide_eq_true ab;obtain ⟨ad1215,A1215_1,c1215_1,e1215,hx1215_0,hx1215_1,hl1215_1,hi1215_1⟩:=at_impl_Committee HR1.out x21_2 p1215 q1215;cases e1215
          replace hx1215_0:=(HB.out.cell (World.block_lt_of_cell? w _ hx1215_0)).trans hx1215_0;replace hx1215_1:=(HB.out.cell (World.block_lt_of_cell? w _ hx1215_1)).trans hx1215_1;have HR1215_1:=Aside0.mk hi1215_1;have HC1215_1:=Aside0.mk hl1215_1;clear hi1215_1 hl1215_1;replace p1215:=eq_true p1215;replace q1215:=eq_true q1215;go_wp2_with (first|((with_reducible refine gate_dst (N:=7) rfl ?_);(try (refine gate_guard (by rfl) ?_;dsimp only));refine box_event ?hg (N:=7) ?hd (cs:=#[.int .i64 0,.slice none 0 0]) (t:=46) ?hr ?_;(case hd=>rfl);(case hg=>rfl);(case hr=>first|(go_simp;done)|(go_simp;rfl));intro gb1216 hg w18 hbox hb;have n0_:=Aside0.mk (blk_below (g:=gb1213) (o:=.cells #[.int .i64 a0_0,.slice A0_1 l0_1.length c0_1] 46 (0,0)) bk hb);have n1_:=Aside0.mk (below_step bw hb);have n2_:=Aside0.mk (hbox);have n3_:=Aside0.mk ((by rw [hg];exact (below_size bw):w.heap.size ≤ gb1216));have n4_:=Aside0.mk ((by rw [hg];exact (below_size bw):w.heap.size ≤ gb1216));have n5_:=Aside0.mk ((by rw [hg];exact Nat.ne_of_lt (blk_lt (g:=gb1213) (o:=.cells #[.int .i64 a0_0,.slice A0_1 l0_1.length c0_1] 46 (0,0)) bk):gb1213 ≠ gb1216));have n6_:=Aside0.mk ((by rw [hg];exact Nat.ne_of_gt (blk_lt (g:=gb1213) (o:=.cells #[.int .i64 a0_0,.slice A0_1 l0_1.length c0_1] 46 (0,0)) bk):gb1216 ≠ gb1213));clear BK1213;clear HB;have BK1213:=n0_;have HB:=n1_;have BK1216:=n2_;have GW1216:=n3_;have GE1216:=n4_;have NB1213_1216:=n5_;have NB1216_1213:=n6_;clear n0_ n1_ n2_ n3_ n4_ n5_ n6_;clear hb hbox hg;have hnb19:=NB1216_1213.out;have hnc19:=NB1213_1216.out;have hcz20_0:w18.cell? ⟨gb1216,0,none⟩ = some (.int .i64 0):=(blk_cell BK1216.out 0).trans rfl;have hcz20_1:w18.cell? ⟨gb1216,1,none⟩ = some (.slice none 0 0):=(blk_cell BK1216.out 1).trans rfl;have hfz20_0:=blk_frozen BK1216.out 0;have hfz20_1:=blk_frozen BK1216.out 1)|((with_reducible refine gate_callee (f:=68) rfl ?_);refine goesL_ (some 26) rfl rfl Try.func68 (by kernel_rfl) rfl #[.agg #[.int .i64 ((rd_impl_Committee l1 x21_2).f0),.slice A1215_1 ((rd_impl_Committee l1 x21_2).f1).length c1215_1]] rfl mq ?_;(with_reducible refine (impl_IsCommittee.calls k2 ((rd_impl_Committee l1 x21_2).f0) _ _ ((rd_impl_Committee l1 x21_2).f1) true _ ?side1 ?side2 A16.out).mono ?_);(case side1=>exact Kd.C_below HR1215_1.out bw);(case side2=>exact HC1215_1.out);rintro e w21 ⟨rfl,hb⟩;refine ⟨_,rfl,?_⟩;have n0_:=Aside0.mk (blk_below (g:=gb1213) (o:=.cells #[.int .i64 a0_0,.slice A0_1 l0_1.length c0_1] 46 (0,0)) (by (with_reducible repeat (first|refine blk_drewN ?_ _|refine blk_drew ?_|refine blk_alloc ?_ _));refine blk_far ?_ NB1213_1216.out _;(with_reducible repeat (first|refine blk_drewN ?_ _|refine blk_drew ?_|refine blk_alloc ?_ _));refine blk_far ?_ NB1213_1216.out _;(with_reducible repeat (first|refine blk_drewN ?_ _|refine blk_drew ?_|refine blk_alloc ?_ _));exact BK1213.out) hb);have n1_:=Aside0.mk (blk_below (g:=gb1216) (o:=.cells #[.int .i64 ((rd_impl_Committee l1 x21_2).f0),.slice A1215_1 ((rd_impl_Committee l1 x21_2).f1).length c1215_1] 46 (0,0)) (by (with_reducible repeat (first|refine blk_drewN ?_ _|refine blk_drew ?_|refine blk_alloc ?_ _));refine blk_put (cs:=#[.int .i64 ((rd_impl_Committee l1 x21_2).f0),.slice none 0 0]) ?_ 1 _ rfl;(with_reducible repeat (first|refine blk_drewN ?_ _|refine blk_drew ?_|refine blk_alloc ?_ _));refine blk_put (cs:=#[.int .i64 0,.slice none 0 0]) ?_ 0 _ rfl;(with_reducible repeat (first|refine blk_drewN ?_ _|refine blk_drew ?_|refine blk_alloc ?_ _));exact BK1216.out) hb);have n2_:=Aside0.mk (below_step bw hb);clear BK1213;clear BK1216;clear HB;have BK1213:=n0_;have BK1216:=n1_;have HB:=n2_;clear n0_ n1_ n2_;(try clear hb);(try clear hb2);(try clear hk);(try clear hi);have hcz22_0:w21.cell? ⟨gb1216,0,none⟩ = some (.int .i64 ((rd_impl_Committee l1 x21_2).f0)):=(blk_cell BK1216.out 0).trans rfl;have hcz22_1:w21.cell? ⟨gb1216,1,none⟩ = some (.slice A1215_1 ((rd_impl_Committee l1 x21_2).f1).length c1215_1):=(blk_cell BK1216.out 1).trans rfl;have hfz22_0:=blk_frozen BK1216.out 0;have hfz22_1:=blk_frozen BK1216.out 1))
          go_roundg k2
          case measure=>have:=HJ2.out;have:=HK2.out;omega
          case rel=>exact ⟨(wrap64 (x5_2 + (((rd_impl_Committee l1 x21_2).f1).length:Int))),(wrap64 (x21_2 + 1)),(by first|rfl|(simp;done)|(simp [*];done)),(by first|rfl|(simp;done)|(simp [*];done)),H',⟨by have:=HJ2.out;have:=HK2.out;omega⟩,⟨by (with_reducible repeat (first|refine blk_drewN ?_ _|refine blk_drew ?_|refine blk_alloc ?_ _));exact BK1213.out⟩,⟨by repeat (first|(with_reducible first|exact HB.out|apply below_alloc|apply pw_below_drewN|apply below_drew1|refine below_set ?_ GE1213.out|refine below_set ?_ GE1216.out)|exact HB.out)⟩⟩
         ·replace c17:=Bool.eq_false_iff.mpr c17;subst c17;have H1:(some false) = some r:=by rw [if_neg (show ¬ (false = true) by decide)] at H;exact H
          clear H;have H:=H1;clear H1;obtain rfl:=Option.some.inj H;have p1215:0 ≤ (x21_2:Int):=of_decide_eq_true ab;have q1215:x21_2 < (l1.length:Int):=of_decide_eq_true ab;obtain ⟨ad1215,A1215_1,c1215_1,e1215,hx1215_0,hx1215_1,hl1215_1,hi1215_1⟩:=at_impl_Committee HR1.out x21_2 p1215 q1215;cases e1215
          replace hx1215_0:=(HB.out.cell (World.block_lt_of_cell? w _ hx1215_0)).trans hx1215_0;replace hx1215_1:=(HB.out.cell (World.block_lt_of_cell? w _ hx1215_1)).trans hx1215_1;have HR1215_1:=Aside0.mk hi1215_1;have HC1215_1:=Aside0.mk hl1215_1;clear hi1215_1 hl1215_1;replace p1215:=eq_true p1215;replace q1215:=eq_true q1215;go_wp2_with (first|((with_reducible refine gate_dst (N:=7) rfl ?_);(try (refine gate_guard (by rfl) ?_;dsimp only));refine box_event ?hg (N:=7) ?hd (cs:=#[.int .i64 0,.slice none 0 0]) (t:=46) ?hr ?_;(case hd=>rfl);(case hg=>rfl);(case hr=>first|(go_simp;done)|(go_simp;rfl));intro gb1216 hg w23 hbox hb;have n0_:=Aside0.mk (blk_below (g:=gb1213) (o:=.cells #[.int .i64 a0_0,.slice A0_1 l0_1.length c0_1] 46 (0,0)) bk hb);have n1_:=Aside0.mk (below_step bw hb);have n2_:=Aside0.mk (hbox);have n3_:=Aside0.mk ((by rw [hg];exact (below_size bw):w.heap.size ≤ gb1216));have n4_:=Aside0.mk ((by rw [hg];exact (below_size bw):w.heap.size ≤ gb1216));have n5_:=Aside0.mk ((by rw [hg];exact Nat.ne_of_lt (blk_lt (g:=gb1213) (o:=.cells #[.int .i64 a0_0,.slice A0_1 l0_1.length c0_1] 46 (0,0)) bk):gb1213 ≠ gb1216));have n6_:=Aside0.mk ((by rw [hg];exact Nat.ne_of_gt (blk_lt (g:=gb1213) (o:=.cells #[.int .i64 a0_0,.slice A0_1 l0_1.length c0_1] 46 (0,0)) bk):gb1216 ≠ gb1213));clear BK1213;clear HB;have BK1213:=n0_;have HB:=n1_;have BK1216:=n2_;have GW1216:=n3_;have GE1216:=n4_;have NB1213_1216:=n5_;have NB1216_1213:=n6_;clear n0_ n1_ n2_ n3_ n4_ n5_ n6_;clear hb hbox hg;have hnb24:=NB1216_1213.out;have hnc24:=NB1213_1216.out;have hcz25_0:w23.cell? ⟨gb1216,0,none⟩ = some (.int .i64 0):=(blk_cell BK1216.out 0).trans rfl;have hcz25_1:w23.cell? ⟨gb1216,1,none⟩ = some (.slice none 0 0):=(blk_cell BK1216.out 1).trans rfl;have hfz25_0:=blk_frozen BK1216.out 0;have hfz25_1:=blk_frozen BK1216.out 1)|((with_reducible refine gate_callee (f:=68) rfl ?_);refine goesL_ (some 26) rfl rfl Try.func68 (by kernel_rfl) rfl #[.agg #[.int .i64 ((rd_impl_Committee l1 x21_2).f0),.slice A1215_1 ((rd_impl_Committee l1 x21_2).f1).length c1215_1]] rfl mq ?_;(with_reducible refine (impl_IsCommittee.calls k2 ((rd_impl_Committee l1 x21_2).f0) _ _ ((rd_impl_Committee l1 x21_2).f1) false _ ?side1 ?side2 A16.out).mono ?_);(case side1=>exact Kd.C_below HR1215_1.out bw);(case side2=>exact HC1215_1.out);rintro e w26 ⟨rfl,hb⟩;refine ⟨_,rfl,?_⟩;have n0_:=Aside0.mk (blk_below (g:=gb1213) (o:=.cells #[.int .i64 a0_0,.slice A0_1 l0_1.length c0_1] 46 (0,0)) (by (with_reducible repeat (first|refine blk_drewN ?_ _|refine blk_drew ?_|refine blk_alloc ?_ _));refine blk_far ?_ NB1213_1216.out _;(with_reducible repeat (first|refine blk_drewN ?_ _|refine blk_drew ?_|refine blk_alloc ?_ _));refine blk_far ?_ NB1213_1216.out _;(with_reducible repeat (first|refine blk_drewN ?_ _|refine blk_drew ?_|refine blk_alloc ?_ _));exact BK1213.out) hb);have n1_:=Aside0.mk (blk_below (g:=gb1216) (o:=.cells #[.int .i64 ((rd_impl_Committee l1 x21_2).f0),.slice A1215_1 ((rd_impl_Committee l1 x21_2).f1).length c1215_1] 46 (0,0)) (by (with_reducible repeat (first|refine blk_drewN ?_ _|refine blk_drew ?_|refine blk_alloc ?_ _));refine blk_put (cs:=#[.int .i64 ((rd_impl_Committee l1 x21_2).f0),.slice none 0 0]) ?_ 1 _ rfl;(with_reducible repeat (first|refine blk_drewN ?_ _|refine blk_drew ?_|refine blk_alloc ?_ _));refine blk_put (cs:=#[.int .i64 0,.slice none 0 0]) ?_ 0 _ rfl;(with_reducible repeat (first|refine blk_drewN ?_ _|refine blk_drew ?_|refine blk_alloc ?_ _));exact BK1216.out) hb);have n2_:=Aside0.mk (below_step bw hb);clear BK1213;clear BK1216;clear HB;have BK1213:=n0_;have BK1216:=n1_;have HB:=n2_;clear n0_ n1_ n2_;(try clear hb);(try clear hb2);(try clear hk);(try clear hi)))
          go_ret
          exact ⟨by first|rfl|(simp [errW_none,errW_some] <;> rfl)|(simp [*,errW_none,errW_some] <;> rfl),by repeat (first|(with_reducible first|exact HB.out|apply below_alloc|apply pw_below_drewN|apply below_drew1|refine below_set ?_ GE1213.out|refine below_set ?_ GE1216.out)|exact HB.out)⟩
        ·rw [if_neg c15] at H;exact absurd H (by simp)
       ·rw [if_neg c14] at H;exact absurd H (by simp)
      ·rw [if_neg c13] at H;have c13b0:decide (x21_2 < (l1.length:Int)) = false:=decide_eq_false c13;clear c13;obtain rfl:=Option.some.inj H;go_wp2
       go_ret
       exact ⟨by first|rfl|(simp [errW_none,errW_some] <;> rfl)|(simp [*,errW_none,errW_some] <;> rfl),by repeat (first|(with_reducible first|exact HB.out|apply below_alloc|apply pw_below_drewN|apply below_drew1|refine below_set ?_ GE1213.out)|exact HB.out)⟩


/-! ### impl_votesOf: function 71 -/
def impl_votesOf.l0:Nat → (Int → Option (Bool)) → Int → Int → Int → List Bool → Option (Int × List Bool)
 | 0,_,_,_,_,_=>none
 | k + 1,x1,x14,x15,x253000,x253001=>if x15 < x14 then ((x1 x15).bind fun t253=>(if 0 ≤ x15 then (if x15 < (x253001.length:Int) then (impl_votesOf.l0 k x1 x14 (wrap64 (x15 + 1)) x253000 (x253001.set (x15:Int).toNat t253)) else (none)) else (none))) else (some (x253000,x253001))
def impl_votesOf.f (k:Nat) (a0:Int) (a1:(Int → Option (Bool))):Option (Int × List Bool):=if 0 ≤ a0 then (if 0 ≤ (shl .i64 1 a0) then (if (shl .i64 1 a0:Int).toNat ≤ 281474976710656 then ((some (List.replicate (shl .i64 1 a0:Int).toNat false:List Bool)).bind fun y249=>(impl_votesOf.l0 k a1 (y249.length:Int) 0 a0 y249)) else (none)) else (none)) else (none)
theorem impl_votesOf.mono_l:∀ k,(∀ y0 y1 y2 y3 y4,LeO (impl_votesOf.l0 k y0 y1 y2 y3 y4) (impl_votesOf.l0 (k + 1) y0 y1 y2 y3 y4))
 | 0=>fun _ _ _ _ _ r h=>by simp [impl_votesOf.l0] at h
 | k + 1=>by
  have ih0:=impl_votesOf.mono_l k
  ·intro y0 y1 y2 y3 y4;unfold impl_votesOf.l0
   repeat' with_reducible first|exact ih0 _ _ _ _ _|exact LeO.refl _|exact LeO.none _|refine LeO.ite ?_ ?_|refine LeO.bind ?_ (fun _=>?_)
theorem impl_votesOf.mono:∀ a0 a1 k,LeO (impl_votesOf.f k a0 a1) (impl_votesOf.f (k + 1) a0 a1):=by
 intro a0 a1 k;have ih0:=impl_votesOf.mono_l k;unfold impl_votesOf.f
 repeat' with_reducible first|exact ih0 _ _ _ _ _|exact LeO.refl _|exact LeO.none _|refine LeO.ite ?_ ?_|refine LeO.bind ?_ (fun _=>?_)
theorem impl_votesOf.monop_l {p_ q_:(Int → Option (Bool))} (h_:∀ x0_,LeO (p_ x0_) (q_ x0_)):∀ k,(∀ y1 y2 y3 y4,LeO (impl_votesOf.l0 k p_ y1 y2 y3 y4) (impl_votesOf.l0 k q_ y1 y2 y3 y4))
 | 0=>fun _ _ _ _ r hz=>by simp [impl_votesOf.l0] at hz
 | k + 1=>by
  have ih0:=impl_votesOf.monop_l h_ k
  ·intro y0 y1 y2 y3;unfold impl_votesOf.l0
   repeat' with_reducible first|exact ih0 _ _ _ _|exact h_ _|exact LeO.refl _|refine LeO.ite ?_ ?_|refine LeO.bind ?_ (fun _=>?_)
theorem impl_votesOf.mono_p {p_ q_:(Int → Option (Bool))} (h_:∀ x0_,LeO (p_ x0_) (q_ x0_)):∀ a0 k,LeO (impl_votesOf.f k a0 p_) (impl_votesOf.f k a0 q_):=by
 intro a0 k;have ih0:=impl_votesOf.monop_l h_ k;unfold impl_votesOf.f
 repeat' with_reducible first|exact ih0 _ _ _ _|exact h_ _|exact LeO.refl _|refine LeO.ite ?_ ?_|refine LeO.bind ?_ (fun _=>?_)
def impl_votesOf.T5:Bool × List (List Nat × List Nat):=(true,[([],[]),([0],[0]),([],[]),([],[]),([],[]),([3,4],[3,4]),([1,2,0,1,2,3,4,5],[1,2]),([6,5,5,0,1,2,3,4,5],[5,6])])
def impl_votesOf.B5:List Nat:=[0,1,0,0,0,24,63,127]
theorem impl_votesOf.tab5:rtab .any (opsOf Try.f71 5) = impl_votesOf.T5:=by kernel_rfl
theorem impl_votesOf.bits5:waitsOk impl_votesOf.T5.2 impl_votesOf.B5 = true:=by kernel_rfl
set_option maxHeartbeats 8000000 in
set_option maxRecDepth 100000 in
theorem impl_votesOf.calls (k:Nat) (a0:Int) (a1:(Int → Option (Bool))) (g1_:Nat) (lb1_:Array Value) (eg1_:∀ (args:Array Value) (w:World),(callFunc g1_ args).run Try.prog w = .ok (.enter g1_ args) w) (r1:Int) (r2:List Bool) (w:World) (hp1:∀ (W:World) (b0_:Int) (r0_:Bool),a1 b0_ = some r0_ → Below w.heap.size w W → Calls Try.prog g1_ (#[.int .i64 b0_] ++ lb1_) W fun e w'=>e = .returned (.bool r0_) ∧ Below W.heap.size W w') (h:impl_votesOf.f k a0 a1 = some (r1,r2)) :
  Calls Try.prog 71 #[.int .i64 a0,.func (.func g1_) #[] lb1_] w fun e w'=>∃ v1_:Value,e = .returned (.agg #[.int .i64 r1,v1_]) ∧ Kd.R Kd.bool 4 w' w.heap.size (fun _=>True) v1_ r2 ∧ Below w.heap.size w w':=by
 have hu68:=Try.underlying68;have HP1:=Aside0.mk hp1;clear hp1;have HB:=Aside0.mk (Below.refl w.heap.size w);have H:(if 0 ≤ a0 then (if 0 ≤ (shl .i64 1 a0) then (if (shl .i64 1 a0:Int).toNat ≤ 281474976710656 then ((some (List.replicate (shl .i64 1 a0:Int).toNat false:List Bool)).bind fun y249=>(impl_votesOf.l0 k a1 (y249.length:Int) 0 a0 y249)) else (none)) else (none)) else (none)) = some (r1,r2):=h;clear h;by_cases c3:0 ≤ a0
 ·rw [if_pos c3] at H;have c3b0:=eq_true c3;have c3b1:decide (0 ≤ a0) = true:=decide_eq_true c3;clear c3;obtain ⟨ji4,hji4⟩:∃ j_:Int,(shl .i64 1 a0) = j_:=⟨_,rfl⟩;replace H:(if 0 ≤ (ji4) then (if (ji4:Int).toNat ≤ 281474976710656 then ((some (List.replicate (ji4:Int).toNat false:List Bool)).bind fun y249=>(impl_votesOf.l0 k a1 (y249.length:Int) 0 a0 y249)) else (none)) else (none)) = some (r1,r2):=by first|(rw [hji4] at H;exact H)|(simp only [hji4] at H ⊢;exact H)
  have hji4_:(IntKind.i64.wrap (1 * 2 ^ min a0.toNat 64)) = ji4:=hji4;have hji4z:a0 ≤ 64 → (IntKind.i64.wrap (1 * 2 ^ a0.toNat)) = ji4:=shl_small hji4;have hji4u:(IntKind.i64.wrap (2 ^ min a0.toNat 64)) = ji4:=by have h_:=hji4_;rw [Int.one_mul] at h_;exact h_
  have hji4v:a0 ≤ 64 → (IntKind.i64.wrap (2 ^ a0.toNat)) = ji4:=fun hle_=>by have h_:=hji4z hle_;rw [Int.one_mul] at h_;exact h_
  have hji4y:(wrap64 (1 * 2 ^ min a0.toNat 64)) = ji4:=(i64_w _).symm.trans hji4_;have hji4x:a0 ≤ 64 → (wrap64 (1 * 2 ^ a0.toNat)) = ji4:=fun h_=>(i64_w _).symm.trans (hji4z h_)
  by_cases c5:0 ≤ (ji4)
  ·rw [if_pos c5] at H;have c5b0:=eq_true c5;have c5b1:decide (0 ≤ (ji4)) = true:=decide_eq_true c5;clear c5;by_cases c6:(ji4:Int).toNat ≤ 281474976710656
   ·rw [if_pos c6] at H;have c6b0:=eq_true c6;have c6b1:decide ((ji4:Int).toNat ≤ 281474976710656) = true:=decide_eq_true c6;clear c6;obtain ⟨y249,hy249⟩:∃ y_:List Bool,y_ = (List.replicate (ji4:Int).toNat false):=⟨_,rfl⟩;replace H:(impl_votesOf.l0 k a1 (y249.length:Int) 0 a0 y249) = some (r1,r2):=by first|(rw [hy249];with_reducible exact H)|(have H2_:=(Option.bind_some _ _).symm.trans H;rw [hy249];with_reducible exact H2_)|(have H2_:=(Option.bind_some _ _).symm.trans H;with_reducible exact H2_)|with_reducible exact H|(rw [hy249];exact H)|exact H
    have Ny249:=Aside0.mk hy249;clear hy249;have H':=Aside0.mk H;clear H;go_enter Try.func71,Try.ntmps71;go_wp2_with (first|((with_reducible refine gate_dst (N:=4) rfl ?_);refine box_event ?hg (N:=4) ?hd (cs:=#[.int .i64 0,.slice none 0 0]) (t:=68) ?hr ?_;(case hd=>rfl);(case hg=>rfl);(case hr=>first|(go_simp;done)|(go_simp;rfl));intro gb248 hg w7 hbox hb;have n0_:=Aside0.mk (below_step bw hb);have n1_:=Aside0.mk (hbox);have n2_:=Aside0.mk ((by rw [hg];exact (below_size bw):w.heap.size ≤ gb248));have n3_:=Aside0.mk ((by rw [hg];exact (below_size bw):w.heap.size ≤ gb248));clear HB;have HB:=n0_;have BK248:=n1_;have GW248:=n2_;have GE248:=n3_;clear n0_ n1_ n2_ n3_;clear hb hbox hg)|((with_reducible refine gate_dst (N:=10) rfl ?_);refine Kd.R_make Kd.bool _ 4 rfl (N:=10) rfl 63 _ _ rfl ji4 rfl rfl Try.underlying63 (.bool false) 1 info4 rfl (by decide) (by omega) false (ok:=fun _=>True) (okp:=fun _=>True) rfl (fun _ hk=>hk) trivial (of_decide_eq_true ab) (Nat.le_trans (Nat.mul_le_mul_right _ (of_decide_eq_true ab:ji4.toNat ≤ 281474976710656)) (by omega)) (Below.refl _ _) (Nat.le_refl _) ?_;intro v250 w8 ho9 hb hg_ hnew_;clear hg_ hnew_;(first|rw [← Ny249.out] at ho9|(simp only [Int.reduceToNat] at ho9;rw [← Ny249.out] at ho9));have n0_:=Aside0.mk (Kd.R_lower ho9 (below_size bw));have n1_:=Aside0.mk (blk_below (g:=gb248) (o:=.cells #[.int .i64 0,.slice none 0 0] 68 (0,0)) bk hb);have n2_:=Aside0.mk (below_step bw hb);clear BK248;clear HB;have HO251:=n0_;have BK248:=n1_;have HB:=n2_;clear n0_ n1_ n2_;clear hb ho9;obtain ⟨Ao10,co10,eo10⟩:=Kd.R_slice HO251.out;subst eo10)|((with_reducible refine gate_dst (N:=5) rfl ?_);refine box_event ?hg (N:=5) ?hd (cs:=#[.int .i64 0,.slice none 0 0]) (t:=68) ?hr ?_;(case hd=>rfl);(case hg=>rfl);(case hr=>first|(go_simp;done)|(go_simp;rfl));intro gb252 hg w11 hbox hb;have n0_:=Aside0.mk (Kd.R_below (by (with_reducible repeat (first|apply Kd.R_alloc|apply Kd.R_drewN|apply Kd.R_drew));exact HO251.out) hb);have n1_:=Aside0.mk (blk_below (g:=gb248) (o:=.cells #[.int .i64 0,.slice none 0 0] 68 (0,0)) bk hb);have n2_:=Aside0.mk (below_step bw hb);have n3_:=Aside0.mk (hbox);have n4_:=Aside0.mk ((by rw [hg];exact (below_size bw):w.heap.size ≤ gb252));have n5_:=Aside0.mk ((by rw [hg];exact (below_size bw):w.heap.size ≤ gb252));have n6_:=Aside0.mk ((by rw [hg];exact Nat.ne_of_lt (blk_lt (g:=gb248) (o:=.cells #[.int .i64 0,.slice none 0 0] 68 (0,0)) bk):gb248 ≠ gb252));have n7_:=Aside0.mk ((by rw [hg];exact Nat.ne_of_gt (blk_lt (g:=gb248) (o:=.cells #[.int .i64 0,.slice none 0 0] 68 (0,0)) bk):gb252 ≠ gb248));clear HO251;clear BK248;clear HB;have HO251:=n0_;have BK248:=n1_;have HB:=n2_;have BK252:=n3_;have GW252:=n4_;have GE252:=n5_;have NB248_252:=n6_;have NB252_248:=n7_;clear n0_ n1_ n2_ n3_ n4_ n5_ n6_ n7_;clear hb hbox hg;have hnb12:=NB252_248.out;have hnc12:=NB248_252.out;have hcz13_0:w11.cell? ⟨gb252,0,none⟩ = some (.int .i64 0):=(blk_cell BK252.out 0).trans rfl;have hcz13_1:w11.cell? ⟨gb252,1,none⟩ = some (.slice none 0 0):=(blk_cell BK252.out 1).trans rfl;have hfz13_0:=blk_frozen BK252.out 0;have hfz13_1:=blk_frozen BK252.out 1))
    go_loopg [15] k (fun kq v15 w'=>∃ (x15_1:Int) (x253001_1:List Bool) (u253001:Value),v15 = .int .i64 x15_1 ∧ Aside0 (impl_votesOf.l0 kq a1 (y249.length:Int) x15_1 a0 x253001_1 = some (r1,r2)) ∧ Aside0 (kq ≤ k) ∧ Aside0 (Kd.R Kd.bool 4 w' w.heap.size (fun _=>True) u253001 x253001_1) ∧ Aside0 (w'.heap[gb248]? = some (.cells #[.int .i64 0,(.slice none 0 0)] 68 (0,0))) ∧ Aside0 (w'.heap[gb252]? = some (.cells #[.int .i64 a0,u253001] 68 (0,0))) ∧ Aside0 (Below w.heap.size w w'))
    case atStart=>exact ⟨(0),(y249),(.slice Ao10 y249.length co10),(by first|rfl|(simp;done)|(simp [*];done)),H',⟨Nat.le_refl _⟩,⟨by (with_reducible repeat (first|apply Kd.R_alloc|apply Kd.R_drewN|apply Kd.R_drew));exact Kd.R_mono (Kd.R_far (p:=⟨gb252,1,none⟩) (Kd.R_far (p:=⟨gb252,0,none⟩) (Kd.R_types HO251.out BK252.out (by decide)) (fun _ hk=>hk.2) (.int .i64 a0)) (fun _ hk=>hk.2) (.slice Ao10 y249.length co10)) (fun _ hk=>trivial)⟩,⟨by (with_reducible repeat (first|refine blk_drewN ?_ _|refine blk_drew ?_|refine blk_alloc ?_ _));refine blk_far ?_ NB248_252.out _;(with_reducible repeat (first|refine blk_drewN ?_ _|refine blk_drew ?_|refine blk_alloc ?_ _));refine blk_far ?_ NB248_252.out _;(with_reducible repeat (first|refine blk_drewN ?_ _|refine blk_drew ?_|refine blk_alloc ?_ _));exact BK248.out⟩,⟨by (with_reducible repeat (first|refine blk_drewN ?_ _|refine blk_drew ?_|refine blk_alloc ?_ _));refine blk_put (cs:=#[.int .i64 a0,.slice none 0 0]) ?_ 1 _ rfl;(with_reducible repeat (first|refine blk_drewN ?_ _|refine blk_drew ?_|refine blk_alloc ?_ _));refine blk_put (cs:=#[.int .i64 0,.slice none 0 0]) ?_ 0 _ rfl;(with_reducible repeat (first|refine blk_drewN ?_ _|refine blk_drew ?_|refine blk_alloc ?_ _));exact BK252.out⟩,⟨by repeat (first|(with_reducible first|exact HB.out|apply below_alloc|apply pw_below_drewN|apply below_drew1|refine below_set ?_ GE248.out|refine below_set ?_ GE252.out)|exact HB.out)⟩⟩
    case round =>
     clear H'
     try clear c1
     try clear p1
     try clear p2
     try clear c3
     try clear c3b0
     try clear c3b1
     try clear c5
     try clear c5b0
     try clear c5b1
     try clear c6
     try clear c6b0
     try clear c6b1
     try clear p6
     try clear c7
     try clear c12
     try clear hcz13_0
     try clear hcz13_1
     try clear hfz13_0
     try clear hfz13_1
     obtain ⟨x15_1,x253001_1,u253001,rfl,HA,HK1,HO_253001,BK248,BK252,HB⟩:=hrel
     cases gk with
     | zero=>exact absurd HA.out (by simp [impl_votesOf.l0])
     | succ k1 =>
      have H:=HA.out;clear HA;simp only [impl_votesOf.l0] at H;by_cases c14:x15_1 < (y249.length:Int)
      ·rw [if_pos c14] at H;have c14b0:decide (x15_1 < (y249.length:Int)) = true:=decide_eq_true c14;clear c14;replace H:=Option.bind_eq_some_iff.mp H;obtain ⟨t253,A150,H⟩:=H;replace H:(if 0 ≤ x15_1 then (if x15_1 < (x253001_1.length:Int) then (impl_votesOf.l0 k1 a1 (y249.length:Int) (wrap64 (x15_1 + 1)) a0 (x253001_1.set (x15_1:Int).toNat t253)) else (none)) else (none)) = some (r1,r2):=H;have A15:=Aside0.mk A150;clear A150;by_cases c16:0 ≤ x15_1
       ·rw [if_pos c16] at H;have c16b0:decide (0 ≤ x15_1) = true:=decide_eq_true c16;clear c16;by_cases c17:x15_1 < (x253001_1.length:Int)
        ·rw [if_pos c17] at H;have c17b0:decide (x15_1 < (x253001_1.length:Int)) = true:=decide_eq_true c17;clear c17;obtain ⟨y254,hy254⟩:∃ y_:List Bool,y_ = (x253001_1.set (x15_1:Int).toNat t253):=⟨_,rfl⟩;replace H:(impl_votesOf.l0 k1 a1 (y249.length:Int) (wrap64 (x15_1 + 1)) a0 y254) = some (r1,r2):=by first|(rw [hy254];with_reducible exact H)|(have H2_:=(Option.bind_some _ _).symm.trans H;rw [hy254];with_reducible exact H2_)|(have H2_:=(Option.bind_some _ _).symm.trans H;with_reducible exact H2_)|with_reducible exact H|(rw [hy254];exact H)|exact H
         have Ny254:=Aside0.mk hy254;clear hy254;have H':=Aside0.mk H;clear H
         try go_wp2
         have n0_:=Aside0.mk (Kd.R_drew HO_253001.out);have n1_:=Aside0.mk (blk_drew BK248.out);have n2_:=Aside0.mk (blk_drew BK252.out);have n3_:=Aside0.mk (below_drew1 HB.out);clear HO_253001;clear BK248;clear BK252;clear HB;have HO_253001:=n0_;have BK248:=n1_;have BK252:=n2_;have HB:=n3_;clear n0_ n1_ n2_ n3_;refine start_ (n:=8) (S:=fun w'=>w'.cell? ⟨gb252,0,none⟩ = some (.int .i64 a0) ∧ w'.cell? ⟨gb252,1,none⟩ = some (u253001)) (ds:=[7]) #[false,false,false,false,false,false,false,false] (by kernel_rfl) rfl rfl ⟨(blk_cell BK252.out 0).trans rfl,(blk_cell BK252.out 1).trans rfl⟩ (fun hHeld=>?_);refine with_tabW impl_votesOf.tab5 impl_votesOf.bits5 (fun HT_ HW_=>?_)
         generalize wr.drew = w19 at HO_253001 BK248 BK252 HB hHeld ⊢
         refine pure_ (i:=0) (N:=some 18) (v:=?_) (a':=?_) #[true,false,false,false,false,false,false,false] rfl rfl (any_of HT_.out (by kernel_rfl)) (fun _ _ _ h=>h) (Or.inl ⟨by rfl,?_⟩) ?_ ?_;rotate_left
         ·intro w';go_simp
          with_reducible rfl
         rotate_left
         ·simp only [Act.put,sA,sZ,sS,i64_w,i32_w];rfl
         refine pure_ (i:=2) (N:=some 20) (v:=?_) (a':=?_) #[true,false,true,false,false,false,false,false] rfl rfl (any_of HT_.out (by kernel_rfl)) (fun _ _ _ h=>h) (Or.inl ⟨by rfl,?_⟩) ?_ ?_;rotate_left
         ·intro w';go_simp
          with_reducible rfl
         rotate_left
         ·simp only [Act.put,sA,sZ,sS,i64_w,i32_w];rfl
         refine pure_ (i:=3) (N:=some 21) (v:=?_) (a':=?_) #[true,false,true,true,false,false,false,false] rfl rfl (any_of HT_.out (by kernel_rfl)) (fun _ _ _ h=>h) (Or.inl ⟨by rfl,?_⟩) ?_ ?_;rotate_left
         ·intro w';go_simp
          with_reducible rfl
         rotate_left
         ·simp only [Act.put,sA,sZ,sS,i64_w,i32_w];rfl
         refine pure_ (i:=4) (N:=some 22) (v:=?_) (a':=?_) #[true,false,true,true,true,false,false,false] rfl rfl (any_of HT_.out (by kernel_rfl)) (fun _ _ _ h=>h) (Or.inl ⟨by rfl,?_⟩) ?_ ?_;rotate_left
         ·intro w';go_simp
          with_reducible rfl
         rotate_left
         ·simp only [Act.put,sA,sZ,sS,i64_w,i32_w];rfl
         refine take_ (i:=1) (N:=some 19) (v:=?_) (a':=?_) #[true,true,true,true,true,false,false,false] rfl rfl (take_ofW HT_.out HW_.out (by kernel_rfl)) (fun _ _ _ h=>h) (Or.inl ⟨by rfl,?_⟩) hHeld ?_ ?_;rotate_left
         ·rintro w' ⟨s0,s1⟩
          go_simp
          with_reducible rfl
         rotate_left
         ·simp only [Act.put,sA,sZ,sS,i64_w,i32_w];rfl
         refine one_ (i:=5) (N:=some 23) #[true,true,true,true,true,true,false,false] rfl rfl (one_of HT_.out (by kernel_rfl)) (by decide) (fun K hK=>?_);refine goesFr_ eg1_ #[.int .i64 x15_1] (by rfl) rfl rfl (by rfl) mq ?_
         with_reducible refine (HP1.out _ x15_1 t253 A15.out ?side1).mono ?_
         (case side1=>repeat (first|(with_reducible first|exact HB.out|apply below_alloc|apply pw_below_drewN|apply below_drew1|refine below_set ?_ GE248.out|refine below_set ?_ GE252.out)|exact HB.out))
         rintro e w20 ⟨rfl,hb⟩
         refine ⟨_,rfl,?_⟩;have n0_:=Aside0.mk (Kd.R_below (by (with_reducible repeat (first|apply Kd.R_alloc|apply Kd.R_drewN|apply Kd.R_drew));exact HO_253001.out) hb);have n1_:=Aside0.mk (blk_below (g:=gb248) (o:=.cells #[.int .i64 0,.slice none 0 0] 68 (0,0)) bk hb);have n2_:=Aside0.mk (blk_below (g:=gb252) (o:=.cells #[.int .i64 a0,u253001] 68 (0,0)) bk hb);have n3_:=Aside0.mk (below_step bw hb);clear HO_253001;clear BK248;clear BK252;clear HB;have HO_253001:=n0_;have BK248:=n1_;have BK252:=n2_;have HB:=n3_;clear n0_ n1_ n2_ n3_;(try clear hb)
         (try clear hb2)
         (try clear hk)
         (try clear hi)
         have p18:0 ≤ (x15_1:Int):=of_decide_eq_true ab;have q18:(x15_1:Int) < ((x253001_1.length:Int):Int):=of_decide_eq_true ab;obtain ⟨go18,co18,eo18,gb18,gl18,cl18,HG18⟩:=Kd.R_form HO_253001.out (by omega);(first|cases eo18|(injection eo18 with ea_ en_ ec_;(first|subst ea_|(injection ea_ with ea_;subst ea_));subst ec_;clear en_))
         have GB18:=Aside0.mk gb18;have GG18:=Aside0.mk HG18;clear gb18 gl18 HG18;obtain ⟨hx18_0,hf18_0⟩:=Kd.R_celln false HO_253001.out (x15_1:Int) p18 q18;replace p18:=eq_true p18;replace q18:=eq_true q18;have HP21:=Kd.R_putn HO_253001.out (x15_1:Int) t253;rw [← Ny254.out] at HP21;have HQ21:=Aside0.mk HP21;clear HP21;refine hK.out _ _ ⟨(blk_cell BK252.out 0).trans rfl,(blk_cell BK252.out 1).trans rfl⟩ (fun hHeld=>?_);clear hK K;refine norm_ (a':=?_) ?_ ?_;rotate_left
         ·show Act.put _ (some 23) _ = _;simp only [Act.put,sA,sZ,sS,i64_w,i32_w];rfl
         refine pure_ (i:=6) (N:=some 24) (v:=?_) (a':=?_) #[true,true,true,true,true,true,true,false] rfl rfl (any_of HT_.out (by kernel_rfl)) (fun _ _ _ h=>h) (Or.inl ⟨by rfl,?_⟩) ?_ ?_;rotate_left
         ·intro w';go_simp
          with_reducible rfl
         rotate_left
         ·simp only [Act.put,sA,sZ,sS,i64_w,i32_w];rfl
         refine last_ (i:=7) (N:=none) #[true,true,true,true,true,true,true,true] rfl rfl (one_of HT_.out (by kernel_rfl)) (by decide) (fun K hK=>?_);refine skip_ (w1:=?_) (by rfl) rfl ?_ ?_;rotate_left
         ·go_simp
          rfl
         refine hK.out _ _ ?_;clear hK K;refine done_ (done_of HT_.out (by kernel_rfl)) ?_
         try go_wp2
         go_roundg k1
         case measure=>have:=HK1.out;omega
         case rel=>exact ⟨(wrap64 (x15_1 + 1)),(y254),(.slice (some ⟨go18,0,none⟩) x253001_1.length co18),(by first|rfl|(simp;done)|(simp [*];done)),H',⟨by have:=HK1.out;omega⟩,⟨by (with_reducible repeat (first|apply Kd.R_alloc|apply Kd.R_drewN|apply Kd.R_drew));exact HQ21.out⟩,⟨by (with_reducible repeat (first|refine blk_drewN ?_ _|refine blk_drew ?_|refine blk_alloc ?_ _));refine blk_far ?_ (by have h_:=Kd.R_ne HO_253001.out BK248.out (by decide);intro e_;exact h_ (by rw [e_];rfl)) _;(with_reducible repeat (first|refine blk_drewN ?_ _|refine blk_drew ?_|refine blk_alloc ?_ _));exact BK248.out⟩,⟨by (with_reducible repeat (first|refine blk_drewN ?_ _|refine blk_drew ?_|refine blk_alloc ?_ _));refine blk_far ?_ (by have h_:=Kd.R_ne HO_253001.out BK252.out (by decide);intro e_;exact h_ (by rw [e_];rfl)) _;(with_reducible repeat (first|refine blk_drewN ?_ _|refine blk_drew ?_|refine blk_alloc ?_ _));exact BK252.out⟩,⟨by repeat (first|(with_reducible first|exact HB.out|apply below_alloc|apply pw_below_drewN|apply below_drew1|refine below_set ?_ GB18.out|refine below_set ?_ GE248.out|refine below_set ?_ GE252.out)|exact HB.out)⟩⟩
        ·rw [if_neg c17] at H;exact absurd H (by simp)
       ·rw [if_neg c16] at H;exact absurd H (by simp)
      ·rw [if_neg c14] at H;have c14b0:decide (x15_1 < (y249.length:Int)) = false:=decide_eq_false c14;clear c14;simp only [Option.some.injEq,Prod.mk.injEq] at H;obtain ⟨rfl,rfl⟩:=H;have hnb22:=NB252_248.out;have hnc22:=NB248_252.out;have hcz23_0:wr.cell? ⟨gb252,0,none⟩ = some (.int .i64 a0):=(blk_cell BK252.out 0).trans rfl;have hcz23_1:wr.cell? ⟨gb252,1,none⟩ = some (u253001):=(blk_cell BK252.out 1).trans rfl;have hfz23_0:=blk_frozen BK252.out 0;have hfz23_1:=blk_frozen BK252.out 1;have hcz24_0:wr.cell? ⟨gb248,0,none⟩ = some (.int .i64 0):=(blk_cell BK248.out 0).trans rfl;have hcz24_1:wr.cell? ⟨gb248,1,none⟩ = some (.slice none 0 0):=(blk_cell BK248.out 1).trans rfl;have hfz24_0:=blk_frozen BK248.out 0;have hfz24_1:=blk_frozen BK248.out 1;obtain ⟨Ao25,co25,eo25⟩:=Kd.R_slice HO_253001.out;subst eo25;go_wp2
       refine bodyPost_ret (results_cell_row rfl _ _ gb248 68 #[.int .i64 a0,.slice Ao25 x253001_1.length co25] (0,0) _ rfl (by (with_reducible repeat (first|refine blk_drewN ?_ _|refine blk_drew ?_|refine blk_alloc ?_ _));refine blk_put (cs:=#[.int .i64 a0,.slice none 0 0]) ?_ 1 _ rfl;(with_reducible repeat (first|refine blk_drewN ?_ _|refine blk_drew ?_|refine blk_alloc ?_ _));refine blk_put (cs:=#[.int .i64 0,.slice none 0 0]) ?_ 0 _ rfl;(with_reducible repeat (first|refine blk_drewN ?_ _|refine blk_drew ?_|refine blk_alloc ?_ _));exact BK248.out) Try.underlying68 rfl (by kernel_rfl)) rfl ?_;exact ⟨_,by first|rfl|(simp [errW_none,errW_some] <;> rfl)|(simp only [← hji4];first|rfl|(simp [errW_none,errW_some] <;> rfl))|(simp [*,errW_none,errW_some] <;> rfl),by (with_reducible repeat (first|apply Kd.R_alloc|apply Kd.R_drewN|apply Kd.R_drew));exact Kd.R_mono (Kd.R_far (p:=⟨gb248,1,none⟩) (Kd.R_far (p:=⟨gb248,0,none⟩) (Kd.R_types HO_253001.out BK248.out (by decide)) (fun _ hk=>hk.2) (.int .i64 a0)) (fun _ hk=>hk.2) (.slice Ao25 x253001_1.length co25)) (fun _ hk=>trivial),by repeat (first|(with_reducible first|exact HB.out|apply below_alloc|apply pw_below_drewN|apply below_drew1|refine below_set ?_ GE248.out|refine below_set ?_ GE252.out)|exact HB.out)⟩
   ·rw [if_neg c6] at H;exact absurd H (by simp)
  ·rw [if_neg c5] at H;exact absurd H (by simp)
 ·rw [if_neg c3] at H;exact absurd H (by simp)


/-! ### impl_Committee_weight: function 111 -/
def impl_Committee_weight.l0:Nat → Int → Int → List Int → Int → Int → Option (Int)
 | 0,_,_,_,_,_=>none
 | k + 1,x1,x5,x9,x10,x11=>if x11 < x10 then (if 0 ≤ x11 then (if x11 < (x9.length:Int) then ((impl_has.f x1 x11).bind fun t792=>(if t792 = true then (impl_Committee_weight.l0 k x1 (wrap64 (x5 + (rd x9 x11))) x9 x10 (wrap64 (x11 + 1))) else (impl_Committee_weight.l0 k x1 x5 x9 x10 (wrap64 (x11 + 1))))) else (none)) else (none)) else (some x5)
def impl_Committee_weight.f (k:Nat) (a0_0:Int) (l0_1:List Int) (a1:Int):Option (Int):=impl_Committee_weight.l0 k a1 0 l0_1 (l0_1.length:Int) 0
theorem impl_Committee_weight.mono_l:∀ k,(∀ y0 y1 y2 y3 y4,LeO (impl_Committee_weight.l0 k y0 y1 y2 y3 y4) (impl_Committee_weight.l0 (k + 1) y0 y1 y2 y3 y4))
 | 0=>fun _ _ _ _ _ r h=>by simp [impl_Committee_weight.l0] at h
 | k + 1=>by
  have ih0:=impl_Committee_weight.mono_l k
  ·intro y0 y1 y2 y3 y4;unfold impl_Committee_weight.l0
   repeat' with_reducible first|exact ih0 _ _ _ _ _|exact LeO.refl _|exact LeO.none _|refine LeO.ite ?_ ?_|refine LeO.bind ?_ (fun _=>?_)
theorem impl_Committee_weight.mono:∀ a0 a1 a2 k,LeO (impl_Committee_weight.f k a0 a1 a2) (impl_Committee_weight.f (k + 1) a0 a1 a2):=by
 intro a0 a1 a2 k;have ih0:=impl_Committee_weight.mono_l k;unfold impl_Committee_weight.f
 repeat' with_reducible first|exact ih0 _ _ _ _ _|exact LeO.refl _|exact LeO.none _|refine LeO.ite ?_ ?_|refine LeO.bind ?_ (fun _=>?_)
set_option maxHeartbeats 8000000 in
set_option maxRecDepth 100000 in
theorem impl_Committee_weight.calls (k:Nat) (a0_0:Int) (A0_1:Option Addr) (c0_1:Nat) (l0_1:List Int) (a1:Int) (r:Int) (w:World) (hr0_1:Kd.C (Kd.int .i64) w A0_1 l0_1.length l0_1) (hc0_1:l0_1.length ≤ c0_1) (h:impl_Committee_weight.f k a0_0 l0_1 a1 = some r) :
  Calls Try.prog 111 #[.agg #[.int .i64 a0_0,.slice A0_1 l0_1.length c0_1],.int .i64 a1] w fun e w'=>e = .returned (.int .i64 r) ∧ Below w.heap.size w w':=by
 have hu46:=Try.underlying46;have HR0_1:=Aside0.mk hr0_1;have HC0_1:=Aside0.mk hc0_1;clear hr0_1 hc0_1;have HB:=Aside0.mk (Below.refl w.heap.size w);have H:(impl_Committee_weight.l0 k a1 0 l0_1 (l0_1.length:Int) 0) = some r:=h;clear h;have H':=Aside0.mk H;clear H;go_enter Try.func111,Try.ntmps111;go_wp2_with (first|((with_reducible refine gate_dst (N:=2) rfl ?_);refine box_event ?hg (N:=2) ?hd (cs:=#[.int .i64 a0_0,.slice A0_1 l0_1.length c0_1]) (t:=46) ?hr ?_;(case hd=>rfl);(case hg=>rfl);(case hr=>first|(go_simp;done)|(go_simp;rfl));intro gb790 hg w3 hbox hb;have n0_:=Aside0.mk (below_step bw hb);have n1_:=Aside0.mk (hbox);have n2_:=Aside0.mk ((by rw [hg];exact (below_size bw):w.heap.size ≤ gb790));have n3_:=Aside0.mk ((by rw [hg];exact (below_size bw):w.heap.size ≤ gb790));clear HB;have HB:=n0_;have BK790:=n1_;have GW790:=n2_;have GE790:=n3_;clear n0_ n1_ n2_ n3_;clear hb hbox hg;have hcz4_0:w3.cell? ⟨gb790,0,none⟩ = some (.int .i64 a0_0):=(blk_cell BK790.out 0).trans rfl;have hcz4_1:w3.cell? ⟨gb790,1,none⟩ = some (.slice A0_1 l0_1.length c0_1):=(blk_cell BK790.out 1).trans rfl;have hfz4_0:=blk_frozen BK790.out 0;have hfz4_1:=blk_frozen BK790.out 1))
 go_loopg [5,11] k (fun kq v5 v11 w'=>∃ (x5_1:Int) (x11_1:Int),v5 = .int .i64 x5_1 ∧ v11 = .int .i64 x11_1 ∧ Aside0 (impl_Committee_weight.l0 kq a1 x5_1 l0_1 (l0_1.length:Int) x11_1 = some r) ∧ Aside0 (kq ≤ k) ∧ Aside0 (w'.heap[gb790]? = some (.cells #[.int .i64 a0_0,(.slice A0_1 l0_1.length c0_1)] 46 (0,0))) ∧ Aside0 (Below w.heap.size w w'))
 case atStart=>exact ⟨(0),(0),(by first|rfl|(simp;done)|(simp [*];done)),(by first|rfl|(simp;done)|(simp [*];done)),H',⟨Nat.le_refl _⟩,⟨by (with_reducible repeat (first|refine blk_drewN ?_ _|refine blk_drew ?_|refine blk_alloc ?_ _));exact BK790.out⟩,⟨by repeat (first|(with_reducible first|exact HB.out|apply below_alloc|apply pw_below_drewN|apply below_drew1|refine below_set ?_ GE790.out)|exact HB.out)⟩⟩
 case round =>
  clear H'
  try clear c1
  try clear p2
  try clear hcz4_0
  try clear hcz4_1
  try clear hfz4_0
  try clear hfz4_1
  obtain ⟨x5_1,x11_1,rfl,rfl,HA,HK1,BK790,HB⟩:=hrel
  cases gk with
  | zero=>exact absurd HA.out (by simp [impl_Committee_weight.l0])
  | succ k1 =>
   have H:=HA.out;clear HA;simp only [impl_Committee_weight.l0] at H;by_cases c5:x11_1 < (l0_1.length:Int)
   ·rw [if_pos c5] at H;have c5b0:decide (x11_1 < (l0_1.length:Int)) = true:=decide_eq_true c5;clear c5;by_cases c6:0 ≤ x11_1
    ·rw [if_pos c6] at H;have c6b0:decide (0 ≤ x11_1) = true:=decide_eq_true c6;clear c6;by_cases c7:x11_1 < (l0_1.length:Int)
     ·rw [if_pos c7] at H;have c7b0:decide (x11_1 < (l0_1.length:Int)) = true:=decide_eq_true c7;clear c7;replace H:=Option.bind_eq_some_iff.mp H;obtain ⟨t792,A80,H⟩:=H;replace H:(if t792 = true then (impl_Committee_weight.l0 k1 a1 (wrap64 (x5_1 + (rd l0_1 x11_1))) l0_1 (l0_1.length:Int) (wrap64 (x11_1 + 1))) else (impl_Committee_weight.l0 k1 a1 x5_1 l0_1 (l0_1.length:Int) (wrap64 (x11_1 + 1)))) = some r:=H;have A8:=Aside0.mk A80;clear A80;by_cases c9:t792 = true
      ·subst c9;have H1:(impl_Committee_weight.l0 k1 a1 (wrap64 (x5_1 + (rd l0_1 x11_1))) l0_1 (l0_1.length:Int) (wrap64 (x11_1 + 1))) = some r:=by rw [if_pos rfl] at H;exact H
       clear H;have H:=H1;clear H1;have H':=Aside0.mk H;clear H;have p791:0 ≤ (x11_1:Int):=of_decide_eq_true ab;have q791:x11_1 < (l0_1.length:Int):=of_decide_eq_true ab;obtain ⟨ad791,e791,hx791_0⟩:=Kd.at_int HR0_1.out x11_1 p791 q791;cases e791
       replace hx791_0:=(HB.out.cell (World.block_lt_of_cell? w _ hx791_0)).trans hx791_0;replace p791:=eq_true p791;replace q791:=eq_true q791;go_wp2_with (first|((with_reducible refine gate_callee (f:=134) rfl ?_);refine goesL_ (some 18) rfl rfl Try.func134 (by kernel_rfl) rfl #[.int .i64 a1,.int .i64 x11_1] rfl mq ?_;(with_reducible refine (impl_has.calls a1 x11_1 true _ A8.out).mono ?_);rintro e w' ⟨rfl,⟨nd,rfl⟩⟩;refine ⟨_,rfl,?_⟩))
       go_roundg k1
       case measure=>have:=HK1.out;omega
       case rel=>exact ⟨(wrap64 (x5_1 + (rd l0_1 x11_1))),(wrap64 (x11_1 + 1)),(by first|rfl|(simp;done)|(simp [*];done)),(by first|rfl|(simp;done)|(simp [*];done)),H',⟨by have:=HK1.out;omega⟩,⟨by (with_reducible repeat (first|refine blk_drewN ?_ _|refine blk_drew ?_|refine blk_alloc ?_ _));exact BK790.out⟩,⟨by repeat (first|(with_reducible first|exact HB.out|apply below_alloc|apply pw_below_drewN|apply below_drew1|refine below_set ?_ GE790.out)|exact HB.out)⟩⟩
      ·replace c9:=Bool.eq_false_iff.mpr c9;subst c9;have H1:(impl_Committee_weight.l0 k1 a1 x5_1 l0_1 (l0_1.length:Int) (wrap64 (x11_1 + 1))) = some r:=by rw [if_neg (show ¬ (false = true) by decide)] at H;exact H
       clear H;have H:=H1;clear H1;have H':=Aside0.mk H;clear H;have p791:0 ≤ (x11_1:Int):=of_decide_eq_true ab;have q791:x11_1 < (l0_1.length:Int):=of_decide_eq_true ab;obtain ⟨ad791,e791,hx791_0⟩:=Kd.at_int HR0_1.out x11_1 p791 q791;cases e791
       replace hx791_0:=(HB.out.cell (World.block_lt_of_cell? w _ hx791_0)).trans hx791_0;replace p791:=eq_true p791;replace q791:=eq_true q791;go_wp2_with (first|((with_reducible refine gate_callee (f:=134) rfl ?_);refine goesL_ (some 18) rfl rfl Try.func134 (by kernel_rfl) rfl #[.int .i64 a1,.int .i64 x11_1] rfl mq ?_;(with_reducible refine (impl_has.calls a1 x11_1 false _ A8.out).mono ?_);rintro e w' ⟨rfl,⟨nd,rfl⟩⟩;refine ⟨_,rfl,?_⟩))
       go_roundg k1
       case measure=>have:=HK1.out;omega
       case rel=>exact ⟨(x5_1),(wrap64 (x11_1 + 1)),(by first|rfl|(simp;done)|(simp [*];done)),(by first|rfl|(simp;done)|(simp [*];done)),H',⟨by have:=HK1.out;omega⟩,⟨by (with_reducible repeat (first|refine blk_drewN ?_ _|refine blk_drew ?_|refine blk_alloc ?_ _));exact BK790.out⟩,⟨by repeat (first|(with_reducible first|exact HB.out|apply below_alloc|apply pw_below_drewN|apply below_drew1|refine below_set ?_ GE790.out)|exact HB.out)⟩⟩
     ·rw [if_neg c7] at H;exact absurd H (by simp)
    ·rw [if_neg c6] at H;exact absurd H (by simp)
   ·rw [if_neg c5] at H;have c5b0:decide (x11_1 < (l0_1.length:Int)) = false:=decide_eq_false c5;clear c5;obtain rfl:=Option.some.inj H;go_wp2
    go_ret
    exact ⟨by first|rfl|(simp [errW_none,errW_some] <;> rfl)|(simp [*,errW_none,errW_some] <;> rfl),by repeat (first|(with_reducible first|exact HB.out|apply below_alloc|apply pw_below_drewN|apply below_drew1|refine below_set ?_ GE790.out)|exact HB.out)⟩


/-! ### impl_councilVotes_1: function 125 -/
def impl_councilVotes_1.l0:Nat → Int → Int → Int → List (S_impl_Committee) → Int → Int → Int → List Int → Option (Bool)
 | 0,_,_,_,_,_,_,_,_=>none
 | k + 1,x0,x5,x6,x9,x10,x11,x3000,x3001=>if x11 < x10 then (if 0 ≤ x11 then (if x11 < (x9.length:Int) then (if 0 ≤ x6 then ((impl_Committee_weight.f k ((rd_impl_Committee x9 x11).f0) ((rd_impl_Committee x9 x11).f1) (shr .i64 x0 x6)).bind fun t1220=>(if t1220 ≥ ((rd_impl_Committee x9 x11).f0) then (if x11 < (x3001.length:Int) then (impl_councilVotes_1.l0 k x0 (wrap64 (x5 + (rd x3001 x11))) (wrap64 (x6 + (((rd_impl_Committee x9 x11).f1).length:Int))) x9 x10 (wrap64 (x11 + 1)) x3000 x3001) else (none)) else (impl_councilVotes_1.l0 k x0 x5 (wrap64 (x6 + (((rd_impl_Committee x9 x11).f1).length:Int))) x9 x10 (wrap64 (x11 + 1)) x3000 x3001))) else (none)) else (none)) else (none)) else (some (decide (x5 ≥ x3000)))
def impl_councilVotes_1.f (k:Nat) (a0:Int) (l1:List (S_impl_Committee)) (a2_0:Int) (l2_1:List Int):Option (Bool):=impl_councilVotes_1.l0 k a0 0 0 l1 (l1.length:Int) 0 a2_0 l2_1
theorem impl_councilVotes_1.mono_l:∀ k,(∀ y0 y1 y2 y3 y4 y5 y6 y7,LeO (impl_councilVotes_1.l0 k y0 y1 y2 y3 y4 y5 y6 y7) (impl_councilVotes_1.l0 (k + 1) y0 y1 y2 y3 y4 y5 y6 y7))
 | 0=>fun _ _ _ _ _ _ _ _ r h=>by simp [impl_councilVotes_1.l0] at h
 | k + 1=>by
  have ih0:=impl_councilVotes_1.mono_l k
  ·intro y0 y1 y2 y3 y4 y5 y6 y7;unfold impl_councilVotes_1.l0
   repeat' with_reducible first|exact ih0 _ _ _ _ _ _ _ _|exact impl_Committee_weight.mono _ _ _ _|exact LeO.refl _|exact LeO.none _|refine LeO.ite ?_ ?_|refine LeO.bind ?_ (fun _=>?_)
theorem impl_councilVotes_1.mono:∀ a0 a1 a2 a3 k,LeO (impl_councilVotes_1.f k a0 a1 a2 a3) (impl_councilVotes_1.f (k + 1) a0 a1 a2 a3):=by
 intro a0 a1 a2 a3 k;have ih0:=impl_councilVotes_1.mono_l k;unfold impl_councilVotes_1.f
 repeat' with_reducible first|exact ih0 _ _ _ _ _ _ _ _|exact impl_Committee_weight.mono _ _ _ _|exact LeO.refl _|exact LeO.none _|refine LeO.ite ?_ ?_|refine LeO.bind ?_ (fun _=>?_)
def impl_councilVotes_1.T5:Bool × List (List Nat × List Nat):=(true,[([],[]),([],[]),([],[]),([1,2],[1,2]),([0,3],[0,3]),([],[]),([5],[5]),([4,6],[4,6])])
def impl_councilVotes_1.B5:List Nat:=[0,0,0,6,15,0,32,127]
theorem impl_councilVotes_1.tab5:rtab .any (opsOf Try.f125 5) = impl_councilVotes_1.T5:=by kernel_rfl
theorem impl_councilVotes_1.bits5:waitsOk impl_councilVotes_1.T5.2 impl_councilVotes_1.B5 = true:=by kernel_rfl
set_option maxHeartbeats 8000000 in
set_option maxRecDepth 100000 in
theorem impl_councilVotes_1.calls (k:Nat) (a0:Int) (gc1:Nat) (A1:Option Addr) (c1:Nat) (l1:List (S_impl_Committee)) (gc2:Nat) (a2_0:Int) (A2_1:Option Addr) (c2_1:Nat) (l2_1:List Int) (r:Bool) (w:World) (hr1:Kd.C k_impl_Committee w A1 l1.length l1) (hc1:l1.length ≤ c1) (hr2_1:Kd.C (Kd.int .i64) w A2_1 l2_1.length l2_1) (hc2_1:l2_1.length ≤ c2_1) (hb1:w.heap[gc1]? = some (.cells #[.slice A1 l1.length c1] 54 (0,0))) (hb2:w.heap[gc2]? = some (.cells #[.int .i64 a2_0,.slice A2_1 l2_1.length c2_1] 46 (0,0))) (hn1_2:gc1 ≠ gc2) (h:impl_councilVotes_1.f k a0 l1 a2_0 l2_1 = some r) :
  Calls Try.prog 125 #[.int .i64 a0,.pointer (some ⟨gc1,0,none⟩),.pointer (some ⟨gc2,0,none⟩)] w fun e w'=>e = .returned (.bool r) ∧ Below w.heap.size w w':=by
 have hu46:=Try.underlying46;have HR1:=Aside0.mk hr1;have HC1:=Aside0.mk hc1;clear hr1 hc1;have HR2_1:=Aside0.mk hr2_1;have HC2_1:=Aside0.mk hc2_1;clear hr2_1 hc2_1;have BK1:=Aside0.mk hb1;clear hb1;have BK2:=Aside0.mk hb2;clear hb2;have NB1_2:=Aside0.mk hn1_2;have NB2_1:=Aside0.mk (Ne.symm hn1_2);clear hn1_2;have HB:=Aside0.mk (Below.refl w.heap.size w);have H:(impl_councilVotes_1.l0 k a0 0 0 l1 (l1.length:Int) 0 a2_0 l2_1) = some r:=h;clear h;have H':=Aside0.mk H;clear H;have hnb4:=NB1_2.out;have hnc4:=NB2_1.out;have hcz5_0:w.cell? ⟨gc1,0,none⟩ = some (.slice A1 l1.length c1):=(blk_cell BK1.out 0).trans rfl;have hfz5_0:=blk_frozen BK1.out 0;go_enter Try.func125,Try.ntmps125;go_wp2
 go_loopg [5,6,11] k (fun kq v5 v6 v11 w'=>∃ (x5_1:Int) (x6_1:Int) (x11_1:Int),v5 = .int .i64 x5_1 ∧ v6 = .int .i64 x6_1 ∧ v11 = .int .i64 x11_1 ∧ Aside0 (impl_councilVotes_1.l0 kq a0 x5_1 x6_1 l1 (l1.length:Int) x11_1 a2_0 l2_1 = some r) ∧ Aside0 (kq ≤ k) ∧ Aside0 (w'.heap[gc1]? = some (.cells #[(.slice A1 l1.length c1)] 54 (0,0))) ∧ Aside0 (w'.heap[gc2]? = some (.cells #[.int .i64 a2_0,(.slice A2_1 l2_1.length c2_1)] 46 (0,0))) ∧ Aside0 (Below w.heap.size w w'))
 case atStart=>exact ⟨(0),(0),(0),(by first|rfl|(simp;done)|(simp [*];done)),(by first|rfl|(simp;done)|(simp [*];done)),(by first|rfl|(simp;done)|(simp [*];done)),H',⟨Nat.le_refl _⟩,⟨by (with_reducible repeat (first|refine blk_drewN ?_ _|refine blk_drew ?_|refine blk_alloc ?_ _));exact BK1.out⟩,⟨by (with_reducible repeat (first|refine blk_drewN ?_ _|refine blk_drew ?_|refine blk_alloc ?_ _));exact BK2.out⟩,⟨by repeat (first|(with_reducible first|exact HB.out|apply below_alloc|apply pw_below_drewN|apply below_drew1|refine below_set ?_ GE1.out|refine below_set ?_ GE2.out)|exact HB.out)⟩⟩
 case round =>
  clear H'
  try clear c1
  try clear c2
  try clear p2
  try clear c4
  try clear hcz5_0
  try clear hfz5_0
  obtain ⟨x5_1,x6_1,x11_1,rfl,rfl,rfl,HA,HK1,BK1,BK2,HB⟩:=hrel
  cases gk with
  | zero=>exact absurd HA.out (by simp [impl_councilVotes_1.l0])
  | succ k1 =>
   have H:=HA.out;clear HA;simp only [impl_councilVotes_1.l0] at H;by_cases c6:x11_1 < (l1.length:Int)
   ·rw [if_pos c6] at H;have c6b0:decide (x11_1 < (l1.length:Int)) = true:=decide_eq_true c6;clear c6;by_cases c7:0 ≤ x11_1
    ·rw [if_pos c7] at H;have c7b0:decide (0 ≤ x11_1) = true:=decide_eq_true c7;clear c7;by_cases c8:x11_1 < (l1.length:Int)
     ·rw [if_pos c8] at H;have c8b0:decide (x11_1 < (l1.length:Int)) = true:=decide_eq_true c8;clear c8;by_cases c9:0 ≤ x6_1
      ·rw [if_pos c9] at H;have c9b0:=eq_true c9;have c9b1:decide (0 ≤ x6_1) = true:=decide_eq_true c9;clear c9;obtain ⟨ji10,hji10⟩:∃ j_:Int,(shr .i64 a0 x6_1) = j_:=⟨_,rfl⟩;replace H:((impl_Committee_weight.f k1 ((rd_impl_Committee l1 x11_1).f0) ((rd_impl_Committee l1 x11_1).f1) (ji10)).bind fun t1220=>(if t1220 ≥ ((rd_impl_Committee l1 x11_1).f0) then (if x11_1 < (l2_1.length:Int) then (impl_councilVotes_1.l0 k1 a0 (wrap64 (x5_1 + (rd l2_1 x11_1))) (wrap64 (x6_1 + (((rd_impl_Committee l1 x11_1).f1).length:Int))) l1 (l1.length:Int) (wrap64 (x11_1 + 1)) a2_0 l2_1) else (none)) else (impl_councilVotes_1.l0 k1 a0 x5_1 (wrap64 (x6_1 + (((rd_impl_Committee l1 x11_1).f1).length:Int))) l1 (l1.length:Int) (wrap64 (x11_1 + 1)) a2_0 l2_1))) = some r:=by first|(rw [hji10] at H;exact H)|(simp only [hji10] at H ⊢;exact H)
       have hji10_:(a0 / 2 ^ min x6_1.toNat 64) = ji10:=hji10;have hji10z:x6_1 ≤ 64 → (a0 / 2 ^ x6_1.toNat) = ji10:=shr_small hji10;replace H:=Option.bind_eq_some_iff.mp H;obtain ⟨t1220,A110,H⟩:=H;replace H:(if t1220 ≥ ((rd_impl_Committee l1 x11_1).f0) then (if x11_1 < (l2_1.length:Int) then (impl_councilVotes_1.l0 k1 a0 (wrap64 (x5_1 + (rd l2_1 x11_1))) (wrap64 (x6_1 + (((rd_impl_Committee l1 x11_1).f1).length:Int))) l1 (l1.length:Int) (wrap64 (x11_1 + 1)) a2_0 l2_1) else (none)) else (impl_councilVotes_1.l0 k1 a0 x5_1 (wrap64 (x6_1 + (((rd_impl_Committee l1 x11_1).f1).length:Int))) l1 (l1.length:Int) (wrap64 (x11_1 + 1)) a2_0 l2_1)) = some r:=H;have A11:=Aside0.mk A110;clear A110;by_cases c12:t1220 ≥ ((rd_impl_Committee l1 x11_1).f0)
       ·rw [if_pos c12] at H;have c12b0:decide (((rd_impl_Committee l1 x11_1).f0) ≤ t1220) = true:=decide_eq_true c12;clear c12;by_cases c13:x11_1 < (l2_1.length:Int)
        ·rw [if_pos c13] at H;have c13b0:decide (x11_1 < (l2_1.length:Int)) = true:=decide_eq_true c13;clear c13;have H':=Aside0.mk H;clear H;have p1218:0 ≤ (x11_1:Int):=of_decide_eq_true ab;have q1218:x11_1 < (l1.length:Int):=of_decide_eq_true ab;obtain ⟨ad1218,A1218_1,c1218_1,e1218,hx1218_0,hx1218_1,hl1218_1,hi1218_1⟩:=at_impl_Committee HR1.out x11_1 p1218 q1218;cases e1218
         replace hx1218_0:=(HB.out.cell (World.block_lt_of_cell? w _ hx1218_0)).trans hx1218_0;replace hx1218_1:=(HB.out.cell (World.block_lt_of_cell? w _ hx1218_1)).trans hx1218_1;have HR1218_1:=Aside0.mk hi1218_1;have HC1218_1:=Aside0.mk hl1218_1;clear hi1218_1 hl1218_1;replace p1218:=eq_true p1218;replace q1218:=eq_true q1218
         try go_wp2_with (first|((with_reducible refine gate_dst (N:=8) rfl ?_);refine box_event ?hg (N:=8) ?hd (cs:=#[.int .i64 0,.slice none 0 0]) (t:=46) ?hr ?_;(case hd=>rfl);(case hg=>rfl);(case hr=>first|(go_simp;done)|(go_simp;rfl));intro gb1219 hg w14 hbox hb;have n0_:=Aside0.mk (blk_below (g:=gc1) (o:=.cells #[.slice (some ad1218) l1.length c1] 54 (0,0)) bk hb);have n1_:=Aside0.mk (blk_below (g:=gc2) (o:=.cells #[.int .i64 a2_0,.slice A2_1 l2_1.length c2_1] 46 (0,0)) bk hb);have n2_:=Aside0.mk (below_step bw hb);have n3_:=Aside0.mk (hbox);have n4_:=Aside0.mk ((by rw [hg];exact (below_size bw):w.heap.size ≤ gb1219));have n5_:=Aside0.mk ((by rw [hg];exact (below_size bw):w.heap.size ≤ gb1219));have n6_:=Aside0.mk ((by rw [hg];exact Nat.ne_of_lt (blk_lt (g:=gc1) (o:=.cells #[.slice (some ad1218) l1.length c1] 54 (0,0)) bk):gc1 ≠ gb1219));have n7_:=Aside0.mk ((by rw [hg];exact Nat.ne_of_gt (blk_lt (g:=gc1) (o:=.cells #[.slice (some ad1218) l1.length c1] 54 (0,0)) bk):gb1219 ≠ gc1));have n8_:=Aside0.mk ((by rw [hg];exact Nat.ne_of_lt (blk_lt (g:=gc2) (o:=.cells #[.int .i64 a2_0,.slice A2_1 l2_1.length c2_1] 46 (0,0)) bk):gc2 ≠ gb1219));have n9_:=Aside0.mk ((by rw [hg];exact Nat.ne_of_gt (blk_lt (g:=gc2) (o:=.cells #[.int .i64 a2_0,.slice A2_1 l2_1.length c2_1] 46 (0,0)) bk):gb1219 ≠ gc2));clear BK1;clear BK2;clear HB;have BK1:=n0_;have BK2:=n1_;have HB:=n2_;have BK1219:=n3_;have GW1219:=n4_;have GE1219:=n5_;have NB1_1219:=n6_;have NB1219_1:=n7_;have NB2_1219:=n8_;have NB1219_2:=n9_;clear n0_ n1_ n2_ n3_ n4_ n5_ n6_ n7_ n8_ n9_;clear hb hbox hg;have hnb15:=NB1219_1.out;have hnc15:=NB1_1219.out;have hnb16:=NB1219_2.out;have hnc16:=NB2_1219.out;have hcz17_0:w14.cell? ⟨gb1219,0,none⟩ = some (.int .i64 0):=(blk_cell BK1219.out 0).trans rfl;have hcz17_1:w14.cell? ⟨gb1219,1,none⟩ = some (.slice none 0 0):=(blk_cell BK1219.out 1).trans rfl;have hfz17_0:=blk_frozen BK1219.out 0;have hfz17_1:=blk_frozen BK1219.out 1))
         have n0_:Aside0 (((w14.setCell ⟨gb1219,0,none⟩ (.int .i64 ((rd_impl_Committee l1 x11_1).f0))).setCell ⟨gb1219,1,none⟩ (.slice A1218_1 ((rd_impl_Committee l1 x11_1).f1).length c1218_1)).heap[gc1]? = some (.cells #[.slice (some ad1218) l1.length c1] 54 (0,0))):=⟨by (with_reducible repeat (first|refine blk_drewN ?_ _|refine blk_drew ?_|refine blk_alloc ?_ _));refine blk_far ?_ NB1_1219.out _;(with_reducible repeat (first|refine blk_drewN ?_ _|refine blk_drew ?_|refine blk_alloc ?_ _));refine blk_far ?_ NB1_1219.out _;(with_reducible repeat (first|refine blk_drewN ?_ _|refine blk_drew ?_|refine blk_alloc ?_ _));exact BK1.out⟩;have n1_:Aside0 (((w14.setCell ⟨gb1219,0,none⟩ (.int .i64 ((rd_impl_Committee l1 x11_1).f0))).setCell ⟨gb1219,1,none⟩ (.slice A1218_1 ((rd_impl_Committee l1 x11_1).f1).length c1218_1)).heap[gc2]? = some (.cells #[.int .i64 a2_0,.slice A2_1 l2_1.length c2_1] 46 (0,0))):=⟨by (with_reducible repeat (first|refine blk_drewN ?_ _|refine blk_drew ?_|refine blk_alloc ?_ _));refine blk_far ?_ NB2_1219.out _;(with_reducible repeat (first|refine blk_drewN ?_ _|refine blk_drew ?_|refine blk_alloc ?_ _));refine blk_far ?_ NB2_1219.out _;(with_reducible repeat (first|refine blk_drewN ?_ _|refine blk_drew ?_|refine blk_alloc ?_ _));exact BK2.out⟩;have n2_:Aside0 (((w14.setCell ⟨gb1219,0,none⟩ (.int .i64 ((rd_impl_Committee l1 x11_1).f0))).setCell ⟨gb1219,1,none⟩ (.slice A1218_1 ((rd_impl_Committee l1 x11_1).f1).length c1218_1)).heap[gb1219]? = some (.cells #[.int .i64 ((rd_impl_Committee l1 x11_1).f0),.slice A1218_1 ((rd_impl_Committee l1 x11_1).f1).length c1218_1] 46 (0,0))):=⟨by (with_reducible repeat (first|refine blk_drewN ?_ _|refine blk_drew ?_|refine blk_alloc ?_ _));refine blk_put (cs:=#[.int .i64 ((rd_impl_Committee l1 x11_1).f0),.slice none 0 0]) ?_ 1 _ rfl;(with_reducible repeat (first|refine blk_drewN ?_ _|refine blk_drew ?_|refine blk_alloc ?_ _));refine blk_put (cs:=#[.int .i64 0,.slice none 0 0]) ?_ 0 _ rfl;(with_reducible repeat (first|refine blk_drewN ?_ _|refine blk_drew ?_|refine blk_alloc ?_ _));exact BK1219.out⟩;have n3_:Aside0 (Below w.heap.size w ((w14.setCell ⟨gb1219,0,none⟩ (.int .i64 ((rd_impl_Committee l1 x11_1).f0))).setCell ⟨gb1219,1,none⟩ (.slice A1218_1 ((rd_impl_Committee l1 x11_1).f1).length c1218_1))):=⟨by repeat (first|(with_reducible first|exact HB.out|apply below_alloc|apply pw_below_drewN|apply below_drew1|refine below_set ?_ GE1.out|refine below_set ?_ GE2.out|refine below_set ?_ GE1219.out)|exact HB.out)⟩;(try clear BK1)
         (try clear BK2)
         (try clear BK1219)
         (try clear HB)
         generalize ((w14.setCell ⟨gb1219,0,none⟩ (.int .i64 ((rd_impl_Committee l1 x11_1).f0))).setCell ⟨gb1219,1,none⟩ (.slice A1218_1 ((rd_impl_Committee l1 x11_1).f1).length c1218_1)) = w18 at n0_ n1_ n2_ n3_ ⊢
         have BK1:=n0_;have BK2:=n1_;have BK1219:=n2_;have HB:=n3_;clear n0_ n1_ n2_ n3_;have n0_:=Aside0.mk (blk_drew BK1.out);have n1_:=Aside0.mk (blk_drew BK2.out);have n2_:=Aside0.mk (blk_drew BK1219.out);have n3_:=Aside0.mk (below_drew1 HB.out);clear BK1;clear BK2;clear BK1219;clear HB;have BK1:=n0_;have BK2:=n1_;have BK1219:=n2_;have HB:=n3_;clear n0_ n1_ n2_ n3_;refine start_ (n:=8) (S:=fun w'=>w'.cell? ⟨gb1219,0,none⟩ = some (.int .i64 ((rd_impl_Committee l1 x11_1).f0)) ∧ w'.cell? ⟨gb1219,1,none⟩ = some (.slice A1218_1 ((rd_impl_Committee l1 x11_1).f1).length c1218_1)) (ds:=[]) #[false,false,false,false,false,false,false,false] (by kernel_rfl) rfl rfl ⟨(blk_cell BK1219.out 0).trans rfl,(blk_cell BK1219.out 1).trans rfl⟩ (fun hHeld=>?_);refine with_tabW impl_councilVotes_1.tab5 impl_councilVotes_1.bits5 (fun HT_ HW_=>?_)
         generalize w18.drew = w19 at BK1 BK2 BK1219 HB hHeld ⊢
         refine pure_ (i:=1) (N:=some 17) (v:=?_) (a':=?_) #[false,true,false,false,false,false,false,false] rfl rfl (any_of HT_.out (by kernel_rfl)) (fun _ _ _ h=>h) (Or.inl ⟨by rfl,?_⟩) ?_ ?_;rotate_left
         ·intro w';go_simp
          with_reducible rfl
         rotate_left
         ·simp only [Act.put,sA,sZ,sS,i64_w,i32_w];rfl
         refine pure_ (i:=2) (N:=some 18) (v:=?_) (a':=?_) #[false,true,true,false,false,false,false,false] rfl rfl (any_of HT_.out (by kernel_rfl)) (fun _ _ _ h=>h) (Or.inl ⟨by rfl,?_⟩) ?_ ?_;rotate_left
         ·intro w';go_simp
          with_reducible rfl
         rotate_left
         ·simp only [Act.put,sA,sZ,sS,i64_w,i32_w];rfl
         refine pure_ (i:=3) (N:=some 19) (v:=?_) (a':=?_) #[false,true,true,true,false,false,false,false] rfl rfl (any_of HT_.out (by kernel_rfl)) (fun _ _ _ h=>h) (Or.inl ⟨by rfl,?_⟩) ?_ ?_;rotate_left
         ·intro w';go_simp
          with_reducible rfl
         rotate_left
         ·simp only [Act.put,sA,sZ,sS,i64_w,i32_w];rfl
         refine pure_ (i:=5) (N:=some 21) (v:=?_) (a':=?_) #[false,true,true,true,false,true,false,false] rfl rfl (any_of HT_.out (by kernel_rfl)) (fun _ _ _ h=>h) (Or.inl ⟨by rfl,?_⟩) ?_ ?_;rotate_left
         ·intro w';go_simp
          with_reducible rfl
         rotate_left
         ·simp only [Act.put,sA,sZ,sS,i64_w,i32_w];rfl
         refine take_ (i:=0) (N:=some 16) (v:=?_) (a':=?_) #[true,true,true,true,false,true,false,false] rfl rfl (take_ofW HT_.out HW_.out (by kernel_rfl)) (fun _ _ _ h=>h) (Or.inl ⟨by rfl,?_⟩) hHeld ?_ ?_;rotate_left
         ·rintro w' ⟨s0,s1⟩
          go_simp
          with_reducible rfl
         rotate_left
         ·simp only [Act.put,sA,sZ,sS,i64_w,i32_w];rfl
         refine take_ (i:=6) (N:=some 22) (v:=?_) (a':=?_) #[true,true,true,true,false,true,true,false] rfl rfl (take_ofW HT_.out HW_.out (by kernel_rfl)) (fun _ _ _ h=>h) (Or.inl ⟨by rfl,?_⟩) hHeld ?_ ?_;rotate_left
         ·rintro w' ⟨s0,s1⟩
          go_simp
          with_reducible rfl
         rotate_left
         ·simp only [Act.put,sA,sZ,sS,i64_w,i32_w];rfl
         refine one_ (i:=4) (N:=some 20) #[true,true,true,true,true,true,true,false] rfl rfl (one_of HT_.out (by kernel_rfl)) (by decide) (fun K hK=>?_);refine goes_ Try.func111 (by kernel_rfl) rfl #[.agg #[.int .i64 ((rd_impl_Committee l1 x11_1).f0),.slice A1218_1 ((rd_impl_Committee l1 x11_1).f1).length c1218_1],.int .i64 ji10] (by rfl) rfl rfl (by (try simp only [List.map_toArray,List.map_cons,List.map_nil]);first|done|(simp only [hji10];rfl)|rfl|(simp only [List.length_drop,List.length_take];rfl)) ?_
         with_reducible refine (impl_Committee_weight.calls k1 ((rd_impl_Committee l1 x11_1).f0) _ _ ((rd_impl_Committee l1 x11_1).f1) ji10 t1220 _ ?side1 ?side2 A11.out).mono ?_
         (case side1=>repeat (first|exact (Kd.C_below HR1218_1.out HB.out)|(with_reducible refine Kd.C_alloc ?_ _)|(with_reducible refine Kd.C_drewN ?_ _)|(with_reducible refine Kd.C_drew ?_)))
         (case side2=>exact HC1218_1.out)
         rintro e w20 ⟨rfl,hb⟩
         refine ⟨_,rfl,?_⟩;have n0_:=Aside0.mk (blk_below (g:=gc1) (o:=.cells #[.slice (some ad1218) l1.length c1] 54 (0,0)) bk hb);have n1_:=Aside0.mk (blk_below (g:=gc2) (o:=.cells #[.int .i64 a2_0,.slice A2_1 l2_1.length c2_1] 46 (0,0)) bk hb);have n2_:=Aside0.mk (blk_below (g:=gb1219) (o:=.cells #[.int .i64 ((rd_impl_Committee l1 x11_1).f0),.slice A1218_1 ((rd_impl_Committee l1 x11_1).f1).length c1218_1] 46 (0,0)) bk hb);have n3_:=Aside0.mk (below_step bw hb);clear BK1;clear BK2;clear BK1219;clear HB;have BK1:=n0_;have BK2:=n1_;have BK1219:=n2_;have HB:=n3_;clear n0_ n1_ n2_ n3_;(try clear hb)
         (try clear hb2)
         (try clear hk)
         (try clear hi)
         refine hK.out _ _ ⟨(blk_cell BK1219.out 0).trans rfl,(blk_cell BK1219.out 1).trans rfl⟩ (fun hHeld=>?_);clear hK K;refine norm_ (a':=?_) ?_ ?_;rotate_left
         ·show Act.put _ (some 20) _ = _;simp only [Act.put,sA,sZ,sS,i64_w,i32_w];rfl
         refine pure_ (i:=7) (N:=some 23) (v:=?_) (a':=?_) #[true,true,true,true,true,true,true,true] rfl rfl (any_of HT_.out (by kernel_rfl)) (fun _ _ _ h=>h) (Or.inl ⟨by rfl,?_⟩) ?_ ?_;rotate_left
         ·intro w';go_simp
          with_reducible rfl
         rotate_left
         ·simp only [Act.put,sA,sZ,sS,i64_w,i32_w];rfl
         refine done_ (done_of HT_.out (by kernel_rfl)) ?_;have hnb21:=NB2_1.out;have hnc21:=NB1_2.out;have hcz22_0:w20.cell? ⟨gc2,0,none⟩ = some (.int .i64 a2_0):=(blk_cell BK2.out 0).trans rfl;have hcz22_1:w20.cell? ⟨gc2,1,none⟩ = some (.slice A2_1 l2_1.length c2_1):=(blk_cell BK2.out 1).trans rfl;have hfz22_0:=blk_frozen BK2.out 0;have hfz22_1:=blk_frozen BK2.out 1;have p1221:0 ≤ (x11_1:Int):=of_decide_eq_true ab;have q1221:x11_1 < (l2_1.length:Int):=of_decide_eq_true ab;obtain ⟨ad1221,e1221,hx1221_0⟩:=Kd.at_int HR2_1.out x11_1 p1221 q1221;cases e1221
         replace hx1221_0:=(HB.out.cell (World.block_lt_of_cell? w _ hx1221_0)).trans hx1221_0;replace p1221:=eq_true p1221;replace q1221:=eq_true q1221;have hcz23_0:w20.cell? ⟨gb1219,0,none⟩ = some (.int .i64 ((rd_impl_Committee l1 x11_1).f0)):=(blk_cell BK1219.out 0).trans rfl;have hcz23_1:w20.cell? ⟨gb1219,1,none⟩ = some (.slice A1218_1 ((rd_impl_Committee l1 x11_1).f1).length c1218_1):=(blk_cell BK1219.out 1).trans rfl;have hfz23_0:=blk_frozen BK1219.out 0;have hfz23_1:=blk_frozen BK1219.out 1
         try go_wp2
         go_roundg k1
         case measure=>have:=HK1.out;omega
         case rel=>exact ⟨(wrap64 (x5_1 + (rd l2_1 x11_1))),(wrap64 (x6_1 + (((rd_impl_Committee l1 x11_1).f1).length:Int))),(wrap64 (x11_1 + 1)),(by first|rfl|(simp;done)|(simp [*];done)),(by first|rfl|(simp;done)|(simp [*];done)),(by first|rfl|(simp;done)|(simp [*];done)),H',⟨by have:=HK1.out;omega⟩,⟨by (with_reducible repeat (first|refine blk_drewN ?_ _|refine blk_drew ?_|refine blk_alloc ?_ _));exact BK1.out⟩,⟨by (with_reducible repeat (first|refine blk_drewN ?_ _|refine blk_drew ?_|refine blk_alloc ?_ _));exact BK2.out⟩,⟨by repeat (first|(with_reducible first|exact HB.out|apply below_alloc|apply pw_below_drewN|apply below_drew1|refine below_set ?_ GE1.out|refine below_set ?_ GE2.out|refine below_set ?_ GE1219.out)|exact HB.out)⟩⟩
        ·rw [if_neg c13] at H;exact absurd H (by simp)
       ·rw [if_neg c12] at H;have c12b0:decide (((rd_impl_Committee l1 x11_1).f0) ≤ t1220) = false:=decide_eq_false c12;clear c12;have H':=Aside0.mk H;clear H;have p1218:0 ≤ (x11_1:Int):=of_decide_eq_true ab;have q1218:x11_1 < (l1.length:Int):=of_decide_eq_true ab;obtain ⟨ad1218,A1218_1,c1218_1,e1218,hx1218_0,hx1218_1,hl1218_1,hi1218_1⟩:=at_impl_Committee HR1.out x11_1 p1218 q1218;cases e1218
        replace hx1218_0:=(HB.out.cell (World.block_lt_of_cell? w _ hx1218_0)).trans hx1218_0;replace hx1218_1:=(HB.out.cell (World.block_lt_of_cell? w _ hx1218_1)).trans hx1218_1;have HR1218_1:=Aside0.mk hi1218_1;have HC1218_1:=Aside0.mk hl1218_1;clear hi1218_1 hl1218_1;replace p1218:=eq_true p1218;replace q1218:=eq_true q1218
        try go_wp2_with (first|((with_reducible refine gate_dst (N:=8) rfl ?_);refine box_event ?hg (N:=8) ?hd (cs:=#[.int .i64 0,.slice none 0 0]) (t:=46) ?hr ?_;(case hd=>rfl);(case hg=>rfl);(case hr=>first|(go_simp;done)|(go_simp;rfl));intro gb1219 hg w24 hbox hb;have n0_:=Aside0.mk (blk_below (g:=gc1) (o:=.cells #[.slice (some ad1218) l1.length c1] 54 (0,0)) bk hb);have n1_:=Aside0.mk (blk_below (g:=gc2) (o:=.cells #[.int .i64 a2_0,.slice A2_1 l2_1.length c2_1] 46 (0,0)) bk hb);have n2_:=Aside0.mk (below_step bw hb);have n3_:=Aside0.mk (hbox);have n4_:=Aside0.mk ((by rw [hg];exact (below_size bw):w.heap.size ≤ gb1219));have n5_:=Aside0.mk ((by rw [hg];exact (below_size bw):w.heap.size ≤ gb1219));have n6_:=Aside0.mk ((by rw [hg];exact Nat.ne_of_lt (blk_lt (g:=gc1) (o:=.cells #[.slice (some ad1218) l1.length c1] 54 (0,0)) bk):gc1 ≠ gb1219));have n7_:=Aside0.mk ((by rw [hg];exact Nat.ne_of_gt (blk_lt (g:=gc1) (o:=.cells #[.slice (some ad1218) l1.length c1] 54 (0,0)) bk):gb1219 ≠ gc1));have n8_:=Aside0.mk ((by rw [hg];exact Nat.ne_of_lt (blk_lt (g:=gc2) (o:=.cells #[.int .i64 a2_0,.slice A2_1 l2_1.length c2_1] 46 (0,0)) bk):gc2 ≠ gb1219));have n9_:=Aside0.mk ((by rw [hg];exact Nat.ne_of_gt (blk_lt (g:=gc2) (o:=.cells #[.int .i64 a2_0,.slice A2_1 l2_1.length c2_1] 46 (0,0)) bk):gb1219 ≠ gc2));clear BK1;clear BK2;clear HB;have BK1:=n0_;have BK2:=n1_;have HB:=n2_;have BK1219:=n3_;have GW1219:=n4_;have GE1219:=n5_;have NB1_1219:=n6_;have NB1219_1:=n7_;have NB2_1219:=n8_;have NB1219_2:=n9_;clear n0_ n1_ n2_ n3_ n4_ n5_ n6_ n7_ n8_ n9_;clear hb hbox hg;have hnb25:=NB1219_1.out;have hnc25:=NB1_1219.out;have hnb26:=NB1219_2.out;have hnc26:=NB2_1219.out;have hcz27_0:w24.cell? ⟨gb1219,0,none⟩ = some (.int .i64 0):=(blk_cell BK1219.out 0).trans rfl;have hcz27_1:w24.cell? ⟨gb1219,1,none⟩ = some (.slice none 0 0):=(blk_cell BK1219.out 1).trans rfl;have hfz27_0:=blk_frozen BK1219.out 0;have hfz27_1:=blk_frozen BK1219.out 1))
        have n0_:Aside0 (((w24.setCell ⟨gb1219,0,none⟩ (.int .i64 ((rd_impl_Committee l1 x11_1).f0))).setCell ⟨gb1219,1,none⟩ (.slice A1218_1 ((rd_impl_Committee l1 x11_1).f1).length c1218_1)).heap[gc1]? = some (.cells #[.slice (some ad1218) l1.length c1] 54 (0,0))):=⟨by (with_reducible repeat (first|refine blk_drewN ?_ _|refine blk_drew ?_|refine blk_alloc ?_ _));refine blk_far ?_ NB1_1219.out _;(with_reducible repeat (first|refine blk_drewN ?_ _|refine blk_drew ?_|refine blk_alloc ?_ _));refine blk_far ?_ NB1_1219.out _;(with_reducible repeat (first|refine blk_drewN ?_ _|refine blk_drew ?_|refine blk_alloc ?_ _));exact BK1.out⟩;have n1_:Aside0 (((w24.setCell ⟨gb1219,0,none⟩ (.int .i64 ((rd_impl_Committee l1 x11_1).f0))).setCell ⟨gb1219,1,none⟩ (.slice A1218_1 ((rd_impl_Committee l1 x11_1).f1).length c1218_1)).heap[gc2]? = some (.cells #[.int .i64 a2_0,.slice A2_1 l2_1.length c2_1] 46 (0,0))):=⟨by (with_reducible repeat (first|refine blk_drewN ?_ _|refine blk_drew ?_|refine blk_alloc ?_ _));refine blk_far ?_ NB2_1219.out _;(with_reducible repeat (first|refine blk_drewN ?_ _|refine blk_drew ?_|refine blk_alloc ?_ _));refine blk_far ?_ NB2_1219.out _;(with_reducible repeat (first|refine blk_drewN ?_ _|refine blk_drew ?_|refine blk_alloc ?_ _));exact BK2.out⟩;have n2_:Aside0 (((w24.setCell ⟨gb1219,0,none⟩ (.int .i64 ((rd_impl_Committee l1 x11_1).f0))).setCell ⟨gb1219,1,none⟩ (.slice A1218_1 ((rd_impl_Committee l1 x11_1).f1).length c1218_1)).heap[gb1219]? = some (.cells #[.int .i64 ((rd_impl_Committee l1 x11_1).f0),.slice A1218_1 ((rd_impl_Committee l1 x11_1).f1).length c1218_1] 46 (0,0))):=⟨by (with_reducible repeat (first|refine blk_drewN ?_ _|refine blk_drew ?_|refine blk_alloc ?_ _));refine blk_put (cs:=#[.int .i64 ((rd_impl_Committee l1 x11_1).f0),.slice none 0 0]) ?_ 1 _ rfl;(with_reducible repeat (first|refine blk_drewN ?_ _|refine blk_drew ?_|refine blk_alloc ?_ _));refine blk_put (cs:=#[.int .i64 0,.slice none 0 0]) ?_ 0 _ rfl;(with_reducible repeat (first|refine blk_drewN ?_ _|refine blk_drew ?_|refine blk_alloc ?_ _));exact BK1219.out⟩;have n3_:Aside0 (Below w.heap.size w ((w24.setCell ⟨gb1219,0,none⟩ (.int .i64 ((rd_impl_Committee l1 x11_1).f0))).setCell ⟨gb1219,1,none⟩ (.slice A1218_1 ((rd_impl_Committee l1 x11_1).f1).length c1218_1))):=⟨by repeat (first|(with_reducible first|exact HB.out|apply below_alloc|apply pw_below_drewN|apply below_drew1|refine below_set ?_ GE1.out|refine below_set ?_ GE2.out|refine below_set ?_ GE1219.out)|exact HB.out)⟩;(try clear BK1)
        (try clear BK2)
        (try clear BK1219)
        (try clear HB)
        generalize ((w24.setCell ⟨gb1219,0,none⟩ (.int .i64 ((rd_impl_Committee l1 x11_1).f0))).setCell ⟨gb1219,1,none⟩ (.slice A1218_1 ((rd_impl_Committee l1 x11_1).f1).length c1218_1)) = w28 at n0_ n1_ n2_ n3_ ⊢
        have BK1:=n0_;have BK2:=n1_;have BK1219:=n2_;have HB:=n3_;clear n0_ n1_ n2_ n3_;have n0_:=Aside0.mk (blk_drew BK1.out);have n1_:=Aside0.mk (blk_drew BK2.out);have n2_:=Aside0.mk (blk_drew BK1219.out);have n3_:=Aside0.mk (below_drew1 HB.out);clear BK1;clear BK2;clear BK1219;clear HB;have BK1:=n0_;have BK2:=n1_;have BK1219:=n2_;have HB:=n3_;clear n0_ n1_ n2_ n3_;refine start_ (n:=8) (S:=fun w'=>w'.cell? ⟨gb1219,0,none⟩ = some (.int .i64 ((rd_impl_Committee l1 x11_1).f0)) ∧ w'.cell? ⟨gb1219,1,none⟩ = some (.slice A1218_1 ((rd_impl_Committee l1 x11_1).f1).length c1218_1)) (ds:=[]) #[false,false,false,false,false,false,false,false] (by kernel_rfl) rfl rfl ⟨(blk_cell BK1219.out 0).trans rfl,(blk_cell BK1219.out 1).trans rfl⟩ (fun hHeld=>?_);refine with_tabW impl_councilVotes_1.tab5 impl_councilVotes_1.bits5 (fun HT_ HW_=>?_)
        generalize w28.drew = w29 at BK1 BK2 BK1219 HB hHeld ⊢
        refine pure_ (i:=1) (N:=some 17) (v:=?_) (a':=?_) #[false,true,false,false,false,false,false,false] rfl rfl (any_of HT_.out (by kernel_rfl)) (fun _ _ _ h=>h) (Or.inl ⟨by rfl,?_⟩) ?_ ?_;rotate_left
        ·intro w';go_simp
         with_reducible rfl
        rotate_left
        ·simp only [Act.put,sA,sZ,sS,i64_w,i32_w];rfl
        refine pure_ (i:=2) (N:=some 18) (v:=?_) (a':=?_) #[false,true,true,false,false,false,false,false] rfl rfl (any_of HT_.out (by kernel_rfl)) (fun _ _ _ h=>h) (Or.inl ⟨by rfl,?_⟩) ?_ ?_;rotate_left
        ·intro w';go_simp
         with_reducible rfl
        rotate_left
        ·simp only [Act.put,sA,sZ,sS,i64_w,i32_w];rfl
        refine pure_ (i:=3) (N:=some 19) (v:=?_) (a':=?_) #[false,true,true,true,false,false,false,false] rfl rfl (any_of HT_.out (by kernel_rfl)) (fun _ _ _ h=>h) (Or.inl ⟨by rfl,?_⟩) ?_ ?_;rotate_left
        ·intro w';go_simp
         with_reducible rfl
        rotate_left
        ·simp only [Act.put,sA,sZ,sS,i64_w,i32_w];rfl
        refine pure_ (i:=5) (N:=some 21) (v:=?_) (a':=?_) #[false,true,true,true,false,true,false,false] rfl rfl (any_of HT_.out (by kernel_rfl)) (fun _ _ _ h=>h) (Or.inl ⟨by rfl,?_⟩) ?_ ?_;rotate_left
        ·intro w';go_simp
         with_reducible rfl
        rotate_left
        ·simp only [Act.put,sA,sZ,sS,i64_w,i32_w];rfl
        refine take_ (i:=0) (N:=some 16) (v:=?_) (a':=?_) #[true,true,true,true,false,true,false,false] rfl rfl (take_ofW HT_.out HW_.out (by kernel_rfl)) (fun _ _ _ h=>h) (Or.inl ⟨by rfl,?_⟩) hHeld ?_ ?_;rotate_left
        ·rintro w' ⟨s0,s1⟩
         go_simp
         with_reducible rfl
        rotate_left
        ·simp only [Act.put,sA,sZ,sS,i64_w,i32_w];rfl
        refine take_ (i:=6) (N:=some 22) (v:=?_) (a':=?_) #[true,true,true,true,false,true,true,false] rfl rfl (take_ofW HT_.out HW_.out (by kernel_rfl)) (fun _ _ _ h=>h) (Or.inl ⟨by rfl,?_⟩) hHeld ?_ ?_;rotate_left
        ·rintro w' ⟨s0,s1⟩
         go_simp
         with_reducible rfl
        rotate_left
        ·simp only [Act.put,sA,sZ,sS,i64_w,i32_w];rfl
        refine one_ (i:=4) (N:=some 20) #[true,true,true,true,true,true,true,false] rfl rfl (one_of HT_.out (by kernel_rfl)) (by decide) (fun K hK=>?_);refine goes_ Try.func111 (by kernel_rfl) rfl #[.agg #[.int .i64 ((rd_impl_Committee l1 x11_1).f0),.slice A1218_1 ((rd_impl_Committee l1 x11_1).f1).length c1218_1],.int .i64 ji10] (by rfl) rfl rfl (by (try simp only [List.map_toArray,List.map_cons,List.map_nil]);first|done|(simp only [hji10];rfl)|rfl|(simp only [List.length_drop,List.length_take];rfl)) ?_
        with_reducible refine (impl_Committee_weight.calls k1 ((rd_impl_Committee l1 x11_1).f0) _ _ ((rd_impl_Committee l1 x11_1).f1) ji10 t1220 _ ?side1 ?side2 A11.out).mono ?_
        (case side1=>repeat (first|exact (Kd.C_below HR1218_1.out HB.out)|(with_reducible refine Kd.C_alloc ?_ _)|(with_reducible refine Kd.C_drewN ?_ _)|(with_reducible refine Kd.C_drew ?_)))
        (case side2=>exact HC1218_1.out)
        rintro e w30 ⟨rfl,hb⟩
        refine ⟨_,rfl,?_⟩;have n0_:=Aside0.mk (blk_below (g:=gc1) (o:=.cells #[.slice (some ad1218) l1.length c1] 54 (0,0)) bk hb);have n1_:=Aside0.mk (blk_below (g:=gc2) (o:=.cells #[.int .i64 a2_0,.slice A2_1 l2_1.length c2_1] 46 (0,0)) bk hb);have n2_:=Aside0.mk (blk_below (g:=gb1219) (o:=.cells #[.int .i64 ((rd_impl_Committee l1 x11_1).f0),.slice A1218_1 ((rd_impl_Committee l1 x11_1).f1).length c1218_1] 46 (0,0)) bk hb);have n3_:=Aside0.mk (below_step bw hb);clear BK1;clear BK2;clear BK1219;clear HB;have BK1:=n0_;have BK2:=n1_;have BK1219:=n2_;have HB:=n3_;clear n0_ n1_ n2_ n3_;(try clear hb)
        (try clear hb2)
        (try clear hk)
        (try clear hi)
        refine hK.out _ _ ⟨(blk_cell BK1219.out 0).trans rfl,(blk_cell BK1219.out 1).trans rfl⟩ (fun hHeld=>?_);clear hK K;refine norm_ (a':=?_) ?_ ?_;rotate_left
        ·show Act.put _ (some 20) _ = _;simp only [Act.put,sA,sZ,sS,i64_w,i32_w];rfl
        refine pure_ (i:=7) (N:=some 23) (v:=?_) (a':=?_) #[true,true,true,true,true,true,true,true] rfl rfl (any_of HT_.out (by kernel_rfl)) (fun _ _ _ h=>h) (Or.inl ⟨by rfl,?_⟩) ?_ ?_;rotate_left
        ·intro w';go_simp
         with_reducible rfl
        rotate_left
        ·simp only [Act.put,sA,sZ,sS,i64_w,i32_w];rfl
        refine done_ (done_of HT_.out (by kernel_rfl)) ?_;have hcz31_0:w30.cell? ⟨gb1219,0,none⟩ = some (.int .i64 ((rd_impl_Committee l1 x11_1).f0)):=(blk_cell BK1219.out 0).trans rfl;have hcz31_1:w30.cell? ⟨gb1219,1,none⟩ = some (.slice A1218_1 ((rd_impl_Committee l1 x11_1).f1).length c1218_1):=(blk_cell BK1219.out 1).trans rfl;have hfz31_0:=blk_frozen BK1219.out 0;have hfz31_1:=blk_frozen BK1219.out 1
        try go_wp2
        go_roundg k1
        case measure=>have:=HK1.out;omega
        case rel=>exact ⟨(x5_1),(wrap64 (x6_1 + (((rd_impl_Committee l1 x11_1).f1).length:Int))),(wrap64 (x11_1 + 1)),(by first|rfl|(simp;done)|(simp [*];done)),(by first|rfl|(simp;done)|(simp [*];done)),(by first|rfl|(simp;done)|(simp [*];done)),H',⟨by have:=HK1.out;omega⟩,⟨by (with_reducible repeat (first|refine blk_drewN ?_ _|refine blk_drew ?_|refine blk_alloc ?_ _));exact BK1.out⟩,⟨by (with_reducible repeat (first|refine blk_drewN ?_ _|refine blk_drew ?_|refine blk_alloc ?_ _));exact BK2.out⟩,⟨by repeat (first|(with_reducible first|exact HB.out|apply below_alloc|apply pw_below_drewN|apply below_drew1|refine below_set ?_ GE1.out|refine below_set ?_ GE2.out|refine below_set ?_ GE1219.out)|exact HB.out)⟩⟩
      ·rw [if_neg c9] at H;exact absurd H (by simp)
     ·rw [if_neg c8] at H;exact absurd H (by simp)
    ·rw [if_neg c7] at H;exact absurd H (by simp)
   ·rw [if_neg c6] at H;have c6b0:decide (x11_1 < (l1.length:Int)) = false:=decide_eq_false c6;clear c6;obtain rfl:=Option.some.inj H;have hnb32:=NB2_1.out;have hnc32:=NB1_2.out;have hcz33_0:wr.cell? ⟨gc2,0,none⟩ = some (.int .i64 a2_0):=(blk_cell BK2.out 0).trans rfl;have hcz33_1:wr.cell? ⟨gc2,1,none⟩ = some (.slice A2_1 l2_1.length c2_1):=(blk_cell BK2.out 1).trans rfl;have hfz33_0:=blk_frozen BK2.out 0;have hfz33_1:=blk_frozen BK2.out 1;go_wp2
    go_ret
    exact ⟨by first|rfl|(simp [errW_none,errW_some] <;> rfl)|(simp [*,errW_none,errW_some] <;> rfl),by repeat (first|(with_reducible first|exact HB.out|apply below_alloc|apply pw_below_drewN|apply below_drew1|refine below_set ?_ GE1.out|refine below_set ?_ GE2.out)|exact HB.out)⟩
theorem impl_councilVotes_1.enters:∀ (args:Array Value) (w:World),(callFunc 125 args).run Try.prog w = .ok (.enter 125 args) w:=enters_of Try.func125 (by kernel_rfl) rfl


/-! ### impl_councilVotes: function 87 -/
def impl_councilVotes.l0:Nat → Int → List (S_impl_Committee) → Int → Int → Int → List Int → List (S_impl_Committee) → Option (Int × List Bool)
 | 0,_,_,_,_,_,_,_=>none
 | k + 1,x5,x8,x9,x10,x1223000,x1223001,x1224000=>if x10 < x9 then (if 0 ≤ x10 then (if x10 < (x8.length:Int) then (impl_councilVotes.l0 k (wrap64 (x5 + (((rd_impl_Committee x8 x10).f1).length:Int))) x8 x9 (wrap64 (x10 + 1)) x1223000 x1223001 x1224000) else (none)) else (none)) else ((impl_votesOf.f k x5 (fun y0_=>impl_councilVotes_1.f k y0_ x1224000 x1223000 x1223001)).bind fun bt1227=>(some (bt1227.1,bt1227.2)))
def impl_councilVotes.f (k:Nat) (a0_0:Int) (l0_1:List Int) (l1:List (S_impl_Committee)):Option (Int × List Bool):=impl_councilVotes.l0 k 0 l1 (l1.length:Int) 0 a0_0 l0_1 l1
theorem impl_councilVotes.mono_l:∀ k,(∀ y0 y1 y2 y3 y4 y5 y6,LeO (impl_councilVotes.l0 k y0 y1 y2 y3 y4 y5 y6) (impl_councilVotes.l0 (k + 1) y0 y1 y2 y3 y4 y5 y6))
 | 0=>fun _ _ _ _ _ _ _ r h=>by simp [impl_councilVotes.l0] at h
 | k + 1=>by
  have ih0:=impl_councilVotes.mono_l k
  ·intro y0 y1 y2 y3 y4 y5 y6;unfold impl_councilVotes.l0
   repeat' with_reducible first|exact ih0 _ _ _ _ _ _ _|exact impl_councilVotes_1.mono _ _ _ _ _|exact impl_votesOf.mono _ _ _|exact LeO.refl _|exact LeO.none _|refine LeO.trans (impl_votesOf.mono _ _ _) (impl_votesOf.mono_p (fun _=>?_) _ _)|refine LeO.ite ?_ ?_|refine LeO.bind ?_ (fun _=>?_)
theorem impl_councilVotes.mono:∀ a0 a1 a2 k,LeO (impl_councilVotes.f k a0 a1 a2) (impl_councilVotes.f (k + 1) a0 a1 a2):=by
 intro a0 a1 a2 k;have ih0:=impl_councilVotes.mono_l k;unfold impl_councilVotes.f
 repeat' with_reducible first|exact ih0 _ _ _ _ _ _ _|exact impl_councilVotes_1.mono _ _ _ _ _|exact impl_votesOf.mono _ _ _|exact LeO.refl _|exact LeO.none _|refine LeO.trans (impl_votesOf.mono _ _ _) (impl_votesOf.mono_p (fun _=>?_) _ _)|refine LeO.ite ?_ ?_|refine LeO.bind ?_ (fun _=>?_)
set_option maxHeartbeats 8000000 in
set_option maxRecDepth 100000 in
theorem impl_councilVotes.calls (k:Nat) (a0_0:Int) (A0_1:Option Addr) (c0_1:Nat) (l0_1:List Int) (A1:Option Addr) (c1:Nat) (l1:List (S_impl_Committee)) (r1:Int) (r2:List Bool) (w:World) (hr0_1:Kd.C (Kd.int .i64) w A0_1 l0_1.length l0_1) (hc0_1:l0_1.length ≤ c0_1) (hr1:Kd.C k_impl_Committee w A1 l1.length l1) (hc1:l1.length ≤ c1) (h:impl_councilVotes.f k a0_0 l0_1 l1 = some (r1,r2)) :
  Calls Try.prog 87 #[.agg #[.int .i64 a0_0,.slice A0_1 l0_1.length c0_1],.slice A1 l1.length c1] w fun e w'=>∃ v1_:Value,e = .returned (.agg #[.int .i64 r1,v1_]) ∧ Kd.R Kd.bool 4 w' w.heap.size (fun _=>True) v1_ r2 ∧ Below w.heap.size w w':=by
 have hmf:∀ (fn:Fn) (first cap:Array Value) (w:World),(Instr.makeFunc fn first cap).run Try.prog w = .ok (.func fn first cap) w:=fun _ _ _ _=>rfl
 have hu46:=Try.underlying46;have hu68:=Try.underlying68;have HR0_1:=Aside0.mk hr0_1;have HC0_1:=Aside0.mk hc0_1;clear hr0_1 hc0_1;have HR1:=Aside0.mk hr1;have HC1:=Aside0.mk hc1;clear hr1 hc1;have HB:=Aside0.mk (Below.refl w.heap.size w);have H:(impl_councilVotes.l0 k 0 l1 (l1.length:Int) 0 a0_0 l0_1 l1) = some (r1,r2):=h;clear h;have H':=Aside0.mk H;clear H;go_enter Try.func87,Try.ntmps87;go_wp2_with (first|((with_reducible refine gate_dst (N:=2) rfl ?_);refine box_event ?hg (N:=2) ?hd (cs:=#[.int .i64 a0_0,.slice A0_1 l0_1.length c0_1]) (t:=46) ?hr ?_;(case hd=>rfl);(case hg=>rfl);(case hr=>first|(go_simp;done)|(go_simp;rfl));intro gb1222 hg w3 hbox hb;have n0_:=Aside0.mk (below_step bw hb);have n1_:=Aside0.mk (hbox);have n2_:=Aside0.mk ((by rw [hg];exact (below_size bw):w.heap.size ≤ gb1222));have n3_:=Aside0.mk ((by rw [hg];exact (below_size bw):w.heap.size ≤ gb1222));clear HB;have HB:=n0_;have BK1222:=n1_;have GW1222:=n2_;have GE1222:=n3_;clear n0_ n1_ n2_ n3_;clear hb hbox hg)|((with_reducible refine gate_dst (N:=3) rfl ?_);refine box_event ?hg (N:=3) ?hd (cs:=#[.slice A1 l1.length c1]) (t:=54) ?hr ?_;(case hd=>rfl);(case hg=>rfl);(case hr=>first|(go_simp;done)|(go_simp;rfl));intro gb1223 hg w4 hbox hb;have n0_:=Aside0.mk (blk_below (g:=gb1222) (o:=.cells #[.int .i64 a0_0,.slice A0_1 l0_1.length c0_1] 46 (0,0)) bk hb);have n1_:=Aside0.mk (below_step bw hb);have n2_:=Aside0.mk (hbox);have n3_:=Aside0.mk ((by rw [hg];exact (below_size bw):w.heap.size ≤ gb1223));have n4_:=Aside0.mk ((by rw [hg];exact (below_size bw):w.heap.size ≤ gb1223));have n5_:=Aside0.mk ((by rw [hg];exact Nat.ne_of_lt (blk_lt (g:=gb1222) (o:=.cells #[.int .i64 a0_0,.slice A0_1 l0_1.length c0_1] 46 (0,0)) bk):gb1222 ≠ gb1223));have n6_:=Aside0.mk ((by rw [hg];exact Nat.ne_of_gt (blk_lt (g:=gb1222) (o:=.cells #[.int .i64 a0_0,.slice A0_1 l0_1.length c0_1] 46 (0,0)) bk):gb1223 ≠ gb1222));clear BK1222;clear HB;have BK1222:=n0_;have HB:=n1_;have BK1223:=n2_;have GW1223:=n3_;have GE1223:=n4_;have NB1222_1223:=n5_;have NB1223_1222:=n6_;clear n0_ n1_ n2_ n3_ n4_ n5_ n6_;clear hb hbox hg)|((with_reducible refine gate_dst (N:=4) rfl ?_);refine box_event ?hg (N:=4) ?hd (cs:=#[.int .i64 0,.slice none 0 0]) (t:=68) ?hr ?_;(case hd=>rfl);(case hg=>rfl);(case hr=>first|(go_simp;done)|(go_simp;rfl));intro gb1224 hg w5 hbox hb;have n0_:=Aside0.mk (blk_below (g:=gb1222) (o:=.cells #[.int .i64 a0_0,.slice A0_1 l0_1.length c0_1] 46 (0,0)) bk hb);have n1_:=Aside0.mk (blk_below (g:=gb1223) (o:=.cells #[.slice A1 l1.length c1] 54 (0,0)) bk hb);have n2_:=Aside0.mk (below_step bw hb);have n3_:=Aside0.mk (hbox);have n4_:=Aside0.mk ((by rw [hg];exact (below_size bw):w.heap.size ≤ gb1224));have n5_:=Aside0.mk ((by rw [hg];exact (below_size bw):w.heap.size ≤ gb1224));have n6_:=Aside0.mk ((by rw [hg];exact Nat.ne_of_lt (blk_lt (g:=gb1222) (o:=.cells #[.int .i64 a0_0,.slice A0_1 l0_1.length c0_1] 46 (0,0)) bk):gb1222 ≠ gb1224));have n7_:=Aside0.mk ((by rw [hg];exact Nat.ne_of_gt (blk_lt (g:=gb1222) (o:=.cells #[.int .i64 a0_0,.slice A0_1 l0_1.length c0_1] 46 (0,0)) bk):gb1224 ≠ gb1222));have n8_:=Aside0.mk ((by rw [hg];exact Nat.ne_of_lt (blk_lt (g:=gb1223) (o:=.cells #[.slice A1 l1.length c1] 54 (0,0)) bk):gb1223 ≠ gb1224));have n9_:=Aside0.mk ((by rw [hg];exact Nat.ne_of_gt (blk_lt (g:=gb1223) (o:=.cells #[.slice A1 l1.length c1] 54 (0,0)) bk):gb1224 ≠ gb1223));clear BK1222;clear BK1223;clear HB;have BK1222:=n0_;have BK1223:=n1_;have HB:=n2_;have BK1224:=n3_;have GW1224:=n4_;have GE1224:=n5_;have NB1222_1224:=n6_;have NB1224_1222:=n7_;have NB1223_1224:=n8_;have NB1224_1223:=n9_;clear n0_ n1_ n2_ n3_ n4_ n5_ n6_ n7_ n8_ n9_;clear hb hbox hg;have hnb6:=NB1223_1222.out;have hnc6:=NB1222_1223.out;have hnb7:=NB1223_1224.out;have hnc7:=NB1224_1223.out;have hcz8_0:w5.cell? ⟨gb1223,0,none⟩ = some (.slice A1 l1.length c1):=(blk_cell BK1223.out 0).trans rfl;have hfz8_0:=blk_frozen BK1223.out 0))
 go_loopg [5,10] k (fun kq v5 v10 w'=>∃ (x5_1:Int) (x10_1:Int),v5 = .int .i64 x5_1 ∧ v10 = .int .i64 x10_1 ∧ Aside0 (impl_councilVotes.l0 kq x5_1 l1 (l1.length:Int) x10_1 a0_0 l0_1 l1 = some (r1,r2)) ∧ Aside0 (kq ≤ k) ∧ Aside0 (w'.heap[gb1222]? = some (.cells #[.int .i64 a0_0,(.slice A0_1 l0_1.length c0_1)] 46 (0,0))) ∧ Aside0 (w'.heap[gb1223]? = some (.cells #[(.slice A1 l1.length c1)] 54 (0,0))) ∧ Aside0 (w'.heap[gb1224]? = some (.cells #[.int .i64 0,(.slice none 0 0)] 68 (0,0))) ∧ Aside0 (Below w.heap.size w w'))
 case atStart=>exact ⟨(0),(0),(by first|rfl|(simp;done)|(simp [*];done)),(by first|rfl|(simp;done)|(simp [*];done)),H',⟨Nat.le_refl _⟩,⟨by (with_reducible repeat (first|refine blk_drewN ?_ _|refine blk_drew ?_|refine blk_alloc ?_ _));exact BK1222.out⟩,⟨by (with_reducible repeat (first|refine blk_drewN ?_ _|refine blk_drew ?_|refine blk_alloc ?_ _));exact BK1223.out⟩,⟨by (with_reducible repeat (first|refine blk_drewN ?_ _|refine blk_drew ?_|refine blk_alloc ?_ _));exact BK1224.out⟩,⟨by repeat (first|(with_reducible first|exact HB.out|apply below_alloc|apply pw_below_drewN|apply below_drew1|refine below_set ?_ GE1222.out|refine below_set ?_ GE1223.out|refine below_set ?_ GE1224.out)|exact HB.out)⟩⟩
 case round =>
  clear H'
  try clear c1
  try clear p2
  try clear c6
  try clear c7
  try clear c8
  try clear hcz8_0
  try clear hfz8_0
  obtain ⟨x5_1,x10_1,rfl,rfl,HA,HK1,BK1222,BK1223,BK1224,HB⟩:=hrel
  cases gk with
  | zero=>exact absurd HA.out (by simp [impl_councilVotes.l0])
  | succ k1 =>
   have H:=HA.out;clear HA;simp only [impl_councilVotes.l0] at H;by_cases c9:x10_1 < (l1.length:Int)
   ·rw [if_pos c9] at H;have c9b0:decide (x10_1 < (l1.length:Int)) = true:=decide_eq_true c9;clear c9;by_cases c10:0 ≤ x10_1
    ·rw [if_pos c10] at H;have c10b0:decide (0 ≤ x10_1) = true:=decide_eq_true c10;clear c10;by_cases c11:x10_1 < (l1.length:Int)
     ·rw [if_pos c11] at H;have c11b0:decide (x10_1 < (l1.length:Int)) = true:=decide_eq_true c11;clear c11;have H':=Aside0.mk H;clear H;have p1225:0 ≤ (x10_1:Int):=of_decide_eq_true ab;have q1225:x10_1 < (l1.length:Int):=of_decide_eq_true ab;obtain ⟨ad1225,A1225_1,c1225_1,e1225,hx1225_0,hx1225_1,hl1225_1,hi1225_1⟩:=at_impl_Committee HR1.out x10_1 p1225 q1225;cases e1225
      replace hx1225_0:=(HB.out.cell (World.block_lt_of_cell? w _ hx1225_0)).trans hx1225_0;replace hx1225_1:=(HB.out.cell (World.block_lt_of_cell? w _ hx1225_1)).trans hx1225_1;have HR1225_1:=Aside0.mk hi1225_1;have HC1225_1:=Aside0.mk hl1225_1;clear hi1225_1 hl1225_1;replace p1225:=eq_true p1225;replace q1225:=eq_true q1225;go_wp2_with (first|((with_reducible refine gate_dst (N:=7) rfl ?_);refine box_event ?hg (N:=7) ?hd (cs:=#[.int .i64 0,.slice none 0 0]) (t:=46) ?hr ?_;(case hd=>rfl);(case hg=>rfl);(case hr=>first|(go_simp;done)|(go_simp;rfl));intro gb1226 hg w12 hbox hb;have n0_:=Aside0.mk (blk_below (g:=gb1222) (o:=.cells #[.int .i64 a0_0,.slice A0_1 l0_1.length c0_1] 46 (0,0)) bk hb);have n1_:=Aside0.mk (blk_below (g:=gb1223) (o:=.cells #[.slice (some ad1225) l1.length c1] 54 (0,0)) bk hb);have n2_:=Aside0.mk (blk_below (g:=gb1224) (o:=.cells #[.int .i64 0,.slice none 0 0] 68 (0,0)) bk hb);have n3_:=Aside0.mk (below_step bw hb);have n4_:=Aside0.mk (hbox);have n5_:=Aside0.mk ((by rw [hg];exact (below_size bw):w.heap.size ≤ gb1226));have n6_:=Aside0.mk ((by rw [hg];exact (below_size bw):w.heap.size ≤ gb1226));have n7_:=Aside0.mk ((by rw [hg];exact Nat.ne_of_lt (blk_lt (g:=gb1222) (o:=.cells #[.int .i64 a0_0,.slice A0_1 l0_1.length c0_1] 46 (0,0)) bk):gb1222 ≠ gb1226));have n8_:=Aside0.mk ((by rw [hg];exact Nat.ne_of_gt (blk_lt (g:=gb1222) (o:=.cells #[.int .i64 a0_0,.slice A0_1 l0_1.length c0_1] 46 (0,0)) bk):gb1226 ≠ gb1222));have n9_:=Aside0.mk ((by rw [hg];exact Nat.ne_of_lt (blk_lt (g:=gb1223) (o:=.cells #[.slice (some ad1225) l1.length c1] 54 (0,0)) bk):gb1223 ≠ gb1226));have n10_:=Aside0.mk ((by rw [hg];exact Nat.ne_of_gt (blk_lt (g:=gb1223) (o:=.cells #[.slice (some ad1225) l1.length c1] 54 (0,0)) bk):gb1226 ≠ gb1223));have n11_:=Aside0.mk ((by rw [hg];exact Nat.ne_of_lt (blk_lt (g:=gb1224) (o:=.cells #[.int .i64 0,.slice none 0 0] 68 (0,0)) bk):gb1224 ≠ gb1226));have n12_:=Aside0.mk ((by rw [hg];exact Nat.ne_of_gt (blk_lt (g:=gb1224) (o:=.cells #[.int .i64 0,.slice none 0 0] 68 (0,0)) bk):gb1226 ≠ gb1224));clear BK1222;clear BK1223;clear BK1224;clear HB;have BK1222:=n0_;have BK1223:=n1_;have BK1224:=n2_;have HB:=n3_;have BK1226:=n4_;have GW1226:=n5_;have GE1226:=n6_;have NB1222_1226:=n7_;have NB1226_1222:=n8_;have NB1223_1226:=n9_;have NB1226_1223:=n10_;have NB1224_1226:=n11_;have NB1226_1224:=n12_;clear n0_ n1_ n2_ n3_ n4_ n5_ n6_ n7_ n8_ n9_ n10_ n11_ n12_;clear hb hbox hg;have hnb13:=NB1226_1222.out;have hnc13:=NB1222_1226.out;have hnb14:=NB1226_1223.out;have hnc14:=NB1223_1226.out;have hnb15:=NB1226_1224.out;have hnc15:=NB1224_1226.out;have hcz16_0:w12.cell? ⟨gb1226,0,none⟩ = some (.int .i64 0):=(blk_cell BK1226.out 0).trans rfl;have hcz16_1:w12.cell? ⟨gb1226,1,none⟩ = some (.slice none 0 0):=(blk_cell BK1226.out 1).trans rfl;have hfz16_0:=blk_frozen BK1226.out 0;have hfz16_1:=blk_frozen BK1226.out 1))
      go_roundg k1
      case measure=>have:=HK1.out;omega
      case rel=>exact ⟨(wrap64 (x5_1 + (((rd_impl_Committee l1 x10_1).f1).length:Int))),(wrap64 (x10_1 + 1)),(by first|rfl|(simp;done)|(simp [*];done)),(by first|rfl|(simp;done)|(simp [*];done)),H',⟨by have:=HK1.out;omega⟩,⟨by (with_reducible repeat (first|refine blk_drewN ?_ _|refine blk_drew ?_|refine blk_alloc ?_ _));refine blk_far ?_ NB1222_1226.out _;(with_reducible repeat (first|refine blk_drewN ?_ _|refine blk_drew ?_|refine blk_alloc ?_ _));refine blk_far ?_ NB1222_1226.out _;(with_reducible repeat (first|refine blk_drewN ?_ _|refine blk_drew ?_|refine blk_alloc ?_ _));exact BK1222.out⟩,⟨by (with_reducible repeat (first|refine blk_drewN ?_ _|refine blk_drew ?_|refine blk_alloc ?_ _));refine blk_far ?_ NB1223_1226.out _;(with_reducible repeat (first|refine blk_drewN ?_ _|refine blk_drew ?_|refine blk_alloc ?_ _));refine blk_far ?_ NB1223_1226.out _;(with_reducible repeat (first|refine blk_drewN ?_ _|refine blk_drew ?_|refine blk_alloc ?_ _));exact BK1223.out⟩,⟨by (with_reducible repeat (first|refine blk_drewN ?_ _|refine blk_drew ?_|refine blk_alloc ?_ _));refine blk_far ?_ NB1224_1226.out _;(with_reducible repeat (first|refine blk_drewN ?_ _|refine blk_drew ?_|refine blk_alloc ?_ _));refine blk_far ?_ NB1224_1226.out _;(with_reducible repeat (first|refine blk_drewN ?_ _|refine blk_drew ?_|refine blk_alloc ?_ _));exact BK1224.out⟩,⟨by repeat (first|(with_reducible first|exact HB.out|apply below_alloc|apply pw_below_drewN|apply below_drew1|refine below_set ?_ GE1222.out|refine below_set ?_ GE1223.out|refine below_set ?_ GE1224.out|refine below_set ?_ GE1226.out)|exact HB.out)⟩⟩
     ·rw [if_neg c11] at H;exact absurd H (by simp)
    ·rw [if_neg c10] at H;exact absurd H (by simp)
   ·rw [if_neg c9] at H;have c9b0:decide (x10_1 < (l1.length:Int)) = false:=decide_eq_false c9;clear c9;replace H:=Option.bind_eq_some_iff.mp H;obtain ⟨⟨t1227,t1228⟩,A170,H⟩:=H;replace H:(some (t1227,t1228)) = some (r1,r2):=H;have A17:=Aside0.mk A170;clear A170;simp only [Option.some.injEq,Prod.mk.injEq] at H;obtain ⟨rfl,rfl⟩:=H;go_wp2_with (first|((with_reducible refine gate_callee (f:=71) rfl ?_);refine goesL_ (some 22) rfl rfl Try.func71 (by kernel_rfl) rfl #[.int .i64 x5_1,.func (.func 125) #[] #[.pointer (some ⟨gb1223,0,none⟩),.pointer (some ⟨gb1222,0,none⟩)]] rfl mq ?_;(with_reducible refine (impl_votesOf.calls k1 x5_1 (fun y0_=>impl_councilVotes_1.f k1 y0_ l1 a0_0 l0_1) 125 #[.pointer (some ⟨gb1223,0,none⟩),.pointer (some ⟨gb1222,0,none⟩)] impl_councilVotes_1.enters t1227 t1228 _ ?side1 A17.out).mono ?_);(case side1=>exact (fun W_ a0_ r0_ hx_ hb_ =>(impl_councilVotes_1.calls k1 a0_ gb1223 _ _ l1 gb1222 a0_0 _ _ l0_1 r0_ W_  (Kd.C_below (by repeat (first|exact (Kd.C_below HR1.out HB.out)|(with_reducible refine Kd.C_alloc ?_ _)|(with_reducible refine Kd.C_drewN ?_ _)|(with_reducible refine Kd.C_drew ?_))) hb_) (by exact HC1.out) (Kd.C_below (by repeat (first|exact (Kd.C_below HR0_1.out HB.out)|(with_reducible refine Kd.C_alloc ?_ _)|(with_reducible refine Kd.C_drewN ?_ _)|(with_reducible refine Kd.C_drew ?_))) hb_) (by exact HC0_1.out) (box_later bk hb_) (box_later bk hb_) NB1223_1222.out hx_).mono (fun _ _ h_=>h_)));rintro e w18 ⟨v1229,rfl,ho0,hb⟩;refine ⟨_,rfl,?_⟩;have n0_:=Aside0.mk (Kd.R_lower ho0 (below_size bw));have n1_:=Aside0.mk (blk_below (g:=gb1222) (o:=.cells #[.int .i64 a0_0,.slice A0_1 l0_1.length c0_1] 46 (0,0)) bk hb);have n2_:=Aside0.mk (blk_below (g:=gb1223) (o:=.cells #[.slice A1 l1.length c1] 54 (0,0)) bk hb);have n3_:=Aside0.mk (blk_below (g:=gb1224) (o:=.cells #[.int .i64 0,.slice none 0 0] 68 (0,0)) bk hb);have n4_:=Aside0.mk (below_step bw hb);clear BK1222;clear BK1223;clear BK1224;clear HB;have HO1230:=n0_;have BK1222:=n1_;have BK1223:=n2_;have BK1224:=n3_;have HB:=n4_;clear n0_ n1_ n2_ n3_ n4_;(try clear hb);(try clear hb2);(try clear hk);(try clear hi);(try clear ho0);have hnb19:=NB1224_1222.out;have hnc19:=NB1222_1224.out;have hnb20:=NB1224_1223.out;have hnc20:=NB1223_1224.out;have hcz21_0:w18.cell? ⟨gb1224,0,none⟩ = some (.int .i64 0):=(blk_cell BK1224.out 0).trans rfl;have hcz21_1:w18.cell? ⟨gb1224,1,none⟩ = some (.slice none 0 0):=(blk_cell BK1224.out 1).trans rfl;have hfz21_0:=blk_frozen BK1224.out 0;have hfz21_1:=blk_frozen BK1224.out 1;obtain ⟨Ao22,co22,eo22⟩:=Kd.R_slice HO1230.out;subst eo22))
    refine bodyPost_ret (results_cell_row rfl _ _ gb1224 68 #[.int .i64 t1227,.slice Ao22 t1228.length co22] (0,0) _ rfl (by (with_reducible repeat (first|refine blk_drewN ?_ _|refine blk_drew ?_|refine blk_alloc ?_ _));refine blk_put (cs:=#[.int .i64 t1227,.slice none 0 0]) ?_ 1 _ rfl;(with_reducible repeat (first|refine blk_drewN ?_ _|refine blk_drew ?_|refine blk_alloc ?_ _));refine blk_put (cs:=#[.int .i64 0,.slice none 0 0]) ?_ 0 _ rfl;(with_reducible repeat (first|refine blk_drewN ?_ _|refine blk_drew ?_|refine blk_alloc ?_ _));exact BK1224.out) Try.underlying68 rfl (by kernel_rfl)) rfl ?_;exact ⟨_,by first|rfl|(simp [errW_none,errW_some] <;> rfl)|(simp [*,errW_none,errW_some] <;> rfl),by (with_reducible repeat (first|apply Kd.R_alloc|apply Kd.R_drewN|apply Kd.R_drew));exact Kd.R_mono (Kd.R_far (p:=⟨gb1224,1,none⟩) (Kd.R_far (p:=⟨gb1224,0,none⟩) (Kd.R_types HO1230.out BK1224.out (by decide)) (fun _ hk=>hk.2) (.int .i64 t1227)) (fun _ hk=>hk.2) (.slice Ao22 t1228.length co22)) (fun _ hk=>trivial),by repeat (first|(with_reducible first|exact HB.out|apply below_alloc|apply pw_below_drewN|apply below_drew1|refine below_set ?_ GE1222.out|refine below_set ?_ GE1223.out|refine below_set ?_ GE1224.out)|exact HB.out)⟩

end Go.Proofs.Ytokelcedamegbaa.P
