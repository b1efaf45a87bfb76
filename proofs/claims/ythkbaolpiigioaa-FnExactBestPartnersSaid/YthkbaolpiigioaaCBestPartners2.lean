/- Part 2 of the texts below the law FnExactBestPartners. Printed by this session's driver over the kit's printer, but for the hand contracts and the plain laws. -/
import Derived.Test.YthkbaolpiigioaaCBestPartners1
set_option linter.unusedVariables false
set_option linter.unusedSimpArgs false
namespace Go.Proofs.Ythkbaolpiigioaa.P
open Go.RowKit Go.Proofs.YthkbaolpiigioaaW.PrintWords Go.Proofs.YthkbaolpiigioaaW.PrintLast Go.Proofs.YthkbaolpiigioaaW.PrintMore
attribute [local go_sem] max2_int min2_int max_two min_two max_three min_three max_four min_four   -- for this text's walks alone
set_option linter.unusedVariables false
set_option linter.unusedSimpArgs false

/-! ### spec_unMerge: function 125 -/
def spec_unMerge.l0:Nat → List Int → List Int → Int → Int → Int → List Int → Int → List Int → Option (Int × List Int)
 | 0,_,_,_,_,_,_,_,_=>none
 | k + 1,x1,x12,x13,x14,x1209000,x1209001,x1211000,x1211001=>if x14 < x13 then (if 0 ≤ x14 then (if x14 < (x12.length:Int) then (if 0 < (x1.length:Int) then (if x14 = (rd x1 0) then ((spec_voBits.f k x1).bind fun t1213=>((spec_voWeight.f k x1209000 x1209001 t1213).bind fun t1214=>(if x1211001.length < 17592186044416 then (spec_unMerge.l0 k x1 x12 x13 (wrap64 (x14 + 1)) x1209000 x1209001 x1211000 (x1211001 ++ [t1214])) else (none)))) else ((spec_l1Has.f k x1 x14).bind fun t1218=>(if t1218 = true then (spec_unMerge.l0 k x1 x12 x13 (wrap64 (x14 + 1)) x1209000 x1209001 x1211000 x1211001) else (if x1211001.length < 17592186044416 then (spec_unMerge.l0 k x1 x12 x13 (wrap64 (x14 + 1)) x1209000 x1209001 x1211000 (x1211001 ++ [rd x12 x14])) else (none))))) else (none)) else (none)) else (none)) else (some (x1211000,x1211001))
def spec_unMerge.f (k:Nat) (a0_0:Int) (l0_1:List Int) (l1:List Int):Option (Int × List Int):=spec_unMerge.l0 k l1 l0_1 (l0_1.length:Int) 0 a0_0 l0_1 a0_0 ([]:List Int)
theorem spec_unMerge.mono_l:∀ k,(∀ y0 y1 y2 y3 y4 y5 y6 y7,LeO (spec_unMerge.l0 k y0 y1 y2 y3 y4 y5 y6 y7) (spec_unMerge.l0 (k + 1) y0 y1 y2 y3 y4 y5 y6 y7))
 | 0=>fun _ _ _ _ _ _ _ _ r h=>by simp [spec_unMerge.l0] at h
 | k + 1=>by
  have ih0:=spec_unMerge.mono_l k
  ·intro y0 y1 y2 y3 y4 y5 y6 y7
   unfold spec_unMerge.l0
   repeat' first
   | (with_reducible exact ih0 _ _ _ _ _ _ _ _)
   | (with_reducible exact spec_l1Has.mono _ _ _)
   | (with_reducible exact spec_voBits.mono _ _)
   | (with_reducible exact spec_voWeight.mono _ _ _ _)
   | (with_reducible exact LeO.refl _)
   | (with_reducible exact LeO.none _)
   | (with_reducible refine LeO.ite ?_ ?_)
   | (with_reducible refine LeO.bind ?_ (fun _=>?_))
   | exact ih0 _ _ _ _ _ _ _ _
   | exact spec_l1Has.mono _ _ _
   | exact spec_voBits.mono _ _
   | exact spec_voWeight.mono _ _ _ _
   | exact LeO.none _
   | refine LeO.ite ?_ ?_
   | refine LeO.bind ?_ (fun _=>?_)
theorem spec_unMerge.mono:∀ a0 a1 a2 k,LeO (spec_unMerge.f k a0 a1 a2) (spec_unMerge.f (k + 1) a0 a1 a2):=by
 intro a0 a1 a2 k
 have ih0:=spec_unMerge.mono_l k
 unfold spec_unMerge.f
 repeat' first
   | (with_reducible exact ih0 _ _ _ _ _ _ _ _)
   | (with_reducible exact spec_l1Has.mono _ _ _)
   | (with_reducible exact spec_voBits.mono _ _)
   | (with_reducible exact spec_voWeight.mono _ _ _ _)
   | (with_reducible exact LeO.refl _)
   | (with_reducible exact LeO.none _)
   | (with_reducible refine LeO.ite ?_ ?_)
   | (with_reducible refine LeO.bind ?_ (fun _=>?_))
   | exact ih0 _ _ _ _ _ _ _ _
   | exact spec_l1Has.mono _ _ _
   | exact spec_voBits.mono _ _
   | exact spec_voWeight.mono _ _ _ _
   | exact LeO.none _
   | refine LeO.ite ?_ ?_
   | refine LeO.bind ?_ (fun _=>?_)
def spec_unMerge.T6:Bool × List (List Nat × List Nat):=(true,[([],[]),([0],[0]),([],[]),([],[]),([3],[3]),([2,4,4],[2,4]),([5],[5]),([1,6,5],[1,6]),([0,1,2,3,4,5,6,7],[]),([8,7,7,0,1,2,3,4,5,6,7],[7,8])])
def spec_unMerge.B6:List Nat:=[0,1,0,0,8,28,60,127,255,511]
theorem spec_unMerge.tab6:rtab .any (opsOf Try.f125 6) = spec_unMerge.T6:=by kernel_rfl
theorem spec_unMerge.bits6:waitsOk spec_unMerge.T6.2 spec_unMerge.B6 = true:=by kernel_rfl
set_option maxHeartbeats 8000000 in
set_option maxRecDepth 100000 in
theorem spec_unMerge.calls (k:Nat) (a0_0:Int) (A0_1:Option Addr) (c0_1:Nat) (l0_1:List Int) (A1:Option Addr) (c1:Nat) (l1:List Int) (r1:Int) (r2:List Int) (w:World) (hr0_1:Kd.C (Kd.int .i64) w A0_1 l0_1.length l0_1) (hc0_1:l0_1.length ≤ c0_1) (hr1:Kd.C (Kd.int .i64) w A1 l1.length l1) (hc1:l1.length ≤ c1) (h:spec_unMerge.f k a0_0 l0_1 l1 = some (r1,r2)) :
  Calls Try.prog 125 #[.agg #[.int .i64 a0_0,.slice A0_1 l0_1.length c0_1],.slice A1 l1.length c1] w fun e w'=>∃ v1_:Value,e = .returned (.agg #[.int .i64 r1,v1_]) ∧ Kd.R (Kd.int .i64) 3 w' w.heap.size (fun _=>True) v1_ r2 ∧ Below w.heap.size w w':=by
 have hu26:=Try.underlying26
 have HR0_1:=Aside0.mk hr0_1
 have HC0_1:=Aside0.mk hc0_1
 clear hr0_1 hc0_1
 have HR1:=Aside0.mk hr1
 have HC1:=Aside0.mk hc1
 clear hr1 hc1
 have HB:=Aside0.mk (Below.refl w.heap.size w)
 have H:(spec_unMerge.l0 k l1 l0_1 (l0_1.length:Int) 0 a0_0 l0_1 a0_0 ([]:List Int)) = some (r1,r2):=h
 clear h
 have H':=Aside0.mk H
 clear H
 go_enter Try.func125,Try.ntmps125
 go_wp2_with (first|((with_reducible refine gate_dst (N:=2) rfl ?_);refine box_event ?hg (N:=2) ?hd (cs:=#[.int .i64 a0_0,.slice A0_1 l0_1.length c0_1]) (t:=26) ?hr ?_;(case hd=>rfl);(case hg=>rfl);(case hr=>first|(go_simp;done)|(go_simp;rfl));intro gb1208 hg w3 hbox hb;have n0_:=Aside0.mk (below_step (by repeat (first|(with_reducible first|exact HB.out|apply below_alloc|apply pw_below_drewN|apply below_drew1)|exact HB.out)) hb);have n1_:=Aside0.mk (hbox);have n2_:=Aside0.mk ((by rw [hg];exact (below_size (by repeat (first|(with_reducible first|exact HB.out|apply below_alloc|apply pw_below_drewN|apply below_drew1)|exact HB.out))):w.heap.size ≤ gb1208));have n3_:=Aside0.mk ((by rw [hg];exact (below_size (by repeat (first|(with_reducible first|exact HB.out|apply below_alloc|apply pw_below_drewN|apply below_drew1)|exact HB.out))):w.heap.size ≤ gb1208));clear HB;have HB:=n0_;have BK1208:=n1_;have GW1208:=n2_;have GE1208:=n3_;clear n0_ n1_ n2_ n3_;clear hb hbox hg)|((with_reducible refine gate_dst (N:=4) rfl ?_);refine box_event ?hg (N:=4) ?hd (cs:=#[.int .i64 0,.slice none 0 0]) (t:=26) ?hr ?_;(case hd=>rfl);(case hg=>rfl);(case hr=>first|(go_simp;done)|(go_simp;rfl));intro gb1209 hg w4 hbox hb;have n0_:=Aside0.mk (blk_below (g:=gb1208) (o:=.cells #[.int .i64 a0_0,.slice A0_1 l0_1.length c0_1] 26 (0,0)) (by (with_reducible repeat (first|refine blk_drewN ?_ _|refine blk_drew ?_|refine blk_alloc ?_ _));exact BK1208.out) hb);have n1_:=Aside0.mk (below_step (by repeat (first|(with_reducible first|exact HB.out|apply below_alloc|apply pw_below_drewN|apply below_drew1|refine below_set ?_ GE1208.out)|exact HB.out)) hb);have n2_:=Aside0.mk (hbox);have n3_:=Aside0.mk ((by rw [hg];exact (below_size (by repeat (first|(with_reducible first|exact HB.out|apply below_alloc|apply pw_below_drewN|apply below_drew1|refine below_set ?_ GE1208.out)|exact HB.out))):w.heap.size ≤ gb1209));have n4_:=Aside0.mk ((by rw [hg];exact (below_size (by repeat (first|(with_reducible first|exact HB.out|apply below_alloc|apply pw_below_drewN|apply below_drew1|refine below_set ?_ GE1208.out)|exact HB.out))):w.heap.size ≤ gb1209));have n5_:=Aside0.mk ((by rw [hg];exact Nat.ne_of_lt (blk_lt (g:=gb1208) (o:=.cells #[.int .i64 a0_0,.slice A0_1 l0_1.length c0_1] 26 (0,0)) (by (with_reducible repeat (first|refine blk_drewN ?_ _|refine blk_drew ?_|refine blk_alloc ?_ _));exact BK1208.out)):gb1208 ≠ gb1209));have n6_:=Aside0.mk ((by rw [hg];exact Nat.ne_of_gt (blk_lt (g:=gb1208) (o:=.cells #[.int .i64 a0_0,.slice A0_1 l0_1.length c0_1] 26 (0,0)) (by (with_reducible repeat (first|refine blk_drewN ?_ _|refine blk_drew ?_|refine blk_alloc ?_ _));exact BK1208.out)):gb1209 ≠ gb1208));clear BK1208;clear HB;have BK1208:=n0_;have HB:=n1_;have BK1209:=n2_;have GW1209:=n3_;have GE1209:=n4_;have NB1208_1209:=n5_;have NB1209_1208:=n6_;clear n0_ n1_ n2_ n3_ n4_ n5_ n6_;clear hb hbox hg;have hnb5:=NB1208_1209.out;have hnc5:=NB1209_1208.out;have hcz6_0:w4.cell? ⟨gb1208,0,none⟩ = some (.int .i64 a0_0):=(blk_cell BK1208.out 0).trans rfl;have hcz6_1:w4.cell? ⟨gb1208,1,none⟩ = some (.slice A0_1 l0_1.length c0_1):=(blk_cell BK1208.out 1).trans rfl;have hfz6_0:=blk_frozen BK1208.out 0;have hfz6_1:=blk_frozen BK1208.out 1)|((with_reducible refine gate_dst (N:=5) rfl ?_);refine box_event ?hg (N:=5) ?hd (cs:=#[.int .i64 0,.slice none 0 0]) (t:=26) ?hr ?_;(case hd=>rfl);(case hg=>rfl);(case hr=>first|(go_simp;done)|(go_simp;rfl));intro gb1210 hg w7 hbox hb;have n0_:=Aside0.mk (blk_below (g:=gb1208) (o:=.cells #[.int .i64 a0_0,.slice A0_1 l0_1.length c0_1] 26 (0,0)) (by (with_reducible repeat (first|refine blk_drewN ?_ _|refine blk_drew ?_|refine blk_alloc ?_ _));exact BK1208.out) hb);have n1_:=Aside0.mk (blk_below (g:=gb1209) (o:=.cells #[.int .i64 0,.slice none 0 0] 26 (0,0)) (by (with_reducible repeat (first|refine blk_drewN ?_ _|refine blk_drew ?_|refine blk_alloc ?_ _));exact BK1209.out) hb);have n2_:=Aside0.mk (below_step (by repeat (first|(with_reducible first|exact HB.out|apply below_alloc|apply pw_below_drewN|apply below_drew1|refine below_set ?_ GE1208.out|refine below_set ?_ GE1209.out)|exact HB.out)) hb);have n3_:=Aside0.mk (hbox);have n4_:=Aside0.mk ((by rw [hg];exact (below_size (by repeat (first|(with_reducible first|exact HB.out|apply below_alloc|apply pw_below_drewN|apply below_drew1|refine below_set ?_ GE1208.out|refine below_set ?_ GE1209.out)|exact HB.out))):w.heap.size ≤ gb1210));have n5_:=Aside0.mk ((by rw [hg];exact (below_size (by repeat (first|(with_reducible first|exact HB.out|apply below_alloc|apply pw_below_drewN|apply below_drew1|refine below_set ?_ GE1208.out|refine below_set ?_ GE1209.out)|exact HB.out))):w.heap.size ≤ gb1210));have n6_:=Aside0.mk ((by rw [hg];exact Nat.ne_of_lt (blk_lt (g:=gb1208) (o:=.cells #[.int .i64 a0_0,.slice A0_1 l0_1.length c0_1] 26 (0,0)) (by (with_reducible repeat (first|refine blk_drewN ?_ _|refine blk_drew ?_|refine blk_alloc ?_ _));exact BK1208.out)):gb1208 ≠ gb1210));have n7_:=Aside0.mk ((by rw [hg];exact Nat.ne_of_gt (blk_lt (g:=gb1208) (o:=.cells #[.int .i64 a0_0,.slice A0_1 l0_1.length c0_1] 26 (0,0)) (by (with_reducible repeat (first|refine blk_drewN ?_ _|refine blk_drew ?_|refine blk_alloc ?_ _));exact BK1208.out)):gb1210 ≠ gb1208));have n8_:=Aside0.mk ((by rw [hg];exact Nat.ne_of_lt (blk_lt (g:=gb1209) (o:=.cells #[.int .i64 0,.slice none 0 0] 26 (0,0)) (by (with_reducible repeat (first|refine blk_drewN ?_ _|refine blk_drew ?_|refine blk_alloc ?_ _));exact BK1209.out)):gb1209 ≠ gb1210));have n9_:=Aside0.mk ((by rw [hg];exact Nat.ne_of_gt (blk_lt (g:=gb1209) (o:=.cells #[.int .i64 0,.slice none 0 0] 26 (0,0)) (by (with_reducible repeat (first|refine blk_drewN ?_ _|refine blk_drew ?_|refine blk_alloc ?_ _));exact BK1209.out)):gb1210 ≠ gb1209));clear BK1208;clear BK1209;clear HB;have BK1208:=n0_;have BK1209:=n1_;have HB:=n2_;have BK1210:=n3_;have GW1210:=n4_;have GE1210:=n5_;have NB1208_1210:=n6_;have NB1210_1208:=n7_;have NB1209_1210:=n8_;have NB1210_1209:=n9_;clear n0_ n1_ n2_ n3_ n4_ n5_ n6_ n7_ n8_ n9_;clear hb hbox hg;have hnb8:=NB1210_1208.out;have hnc8:=NB1208_1210.out;have hnb9:=NB1210_1209.out;have hnc9:=NB1209_1210.out;have hcz10_0:w7.cell? ⟨gb1210,0,none⟩ = some (.int .i64 0):=(blk_cell BK1210.out 0).trans rfl;have hcz10_1:w7.cell? ⟨gb1210,1,none⟩ = some (.slice none 0 0):=(blk_cell BK1210.out 1).trans rfl;have hfz10_0:=blk_frozen BK1210.out 0;have hfz10_1:=blk_frozen BK1210.out 1;have hcz11_0:w7.cell? ⟨gb1208,0,none⟩ = some (.int .i64 a0_0):=(blk_cell BK1208.out 0).trans rfl;have hcz11_1:w7.cell? ⟨gb1208,1,none⟩ = some (.slice A0_1 l0_1.length c0_1):=(blk_cell BK1208.out 1).trans rfl;have hfz11_0:=blk_frozen BK1208.out 0;have hfz11_1:=blk_frozen BK1208.out 1))
 go_loopg [14] k (fun kq v14 w'=>∃ (x14_1:Int) (x1211001_1:List Int) (u1211001:Value),v14 = .int .i64 x14_1 ∧ Aside0 (spec_unMerge.l0 kq l1 l0_1 (l0_1.length:Int) x14_1 a0_0 l0_1 a0_0 x1211001_1 = some (r1,r2)) ∧ Aside0 (kq ≤ k) ∧ Aside0 (Kd.R (Kd.int .i64) 3 w' w.heap.size (fun _=>True) u1211001 x1211001_1) ∧ Aside0 (w'.heap[gb1208]? = some (.cells #[.int .i64 a0_0,(.slice A0_1 l0_1.length c0_1)] 26 (0,0))) ∧ Aside0 (w'.heap[gb1209]? = some (.cells #[.int .i64 0,(.slice none 0 0)] 26 (0,0))) ∧ Aside0 (w'.heap[gb1210]? = some (.cells #[.int .i64 a0_0,u1211001] 26 (0,0))) ∧ Aside0 (Below w.heap.size w w'))
 case atStart=>exact ⟨(0),(([]:List Int)),(.slice none 0 0),(by first|rfl|(simp;done)|(simp [*];done)),H',⟨Nat.le_refl _⟩,⟨by first|exact Kd.R_nil _ _ _ _ _|exact Kd.N_nil _ _ _ _ _|exact Kd.V_nil _ _ _ _ _|exact Kd.Q_nil _ _ _ _ _|exact Kd.S_nil _ _ _ _ _⟩,⟨by (with_reducible repeat (first|refine blk_drewN ?_ _|refine blk_drew ?_|refine blk_alloc ?_ _));refine blk_far ?_ NB1208_1210.out _;(with_reducible repeat (first|refine blk_drewN ?_ _|refine blk_drew ?_|refine blk_alloc ?_ _));refine blk_far ?_ NB1208_1210.out _;(with_reducible repeat (first|refine blk_drewN ?_ _|refine blk_drew ?_|refine blk_alloc ?_ _));exact BK1208.out⟩,⟨by (with_reducible repeat (first|refine blk_drewN ?_ _|refine blk_drew ?_|refine blk_alloc ?_ _));refine blk_far ?_ NB1209_1210.out _;(with_reducible repeat (first|refine blk_drewN ?_ _|refine blk_drew ?_|refine blk_alloc ?_ _));refine blk_far ?_ NB1209_1210.out _;(with_reducible repeat (first|refine blk_drewN ?_ _|refine blk_drew ?_|refine blk_alloc ?_ _));exact BK1209.out⟩,⟨by (with_reducible repeat (first|refine blk_drewN ?_ _|refine blk_drew ?_|refine blk_alloc ?_ _));refine blk_put (cs:=#[.int .i64 a0_0,.slice none 0 0]) ?_ 1 _ rfl;(with_reducible repeat (first|refine blk_drewN ?_ _|refine blk_drew ?_|refine blk_alloc ?_ _));refine blk_put (cs:=#[.int .i64 0,.slice none 0 0]) ?_ 0 _ rfl;(with_reducible repeat (first|refine blk_drewN ?_ _|refine blk_drew ?_|refine blk_alloc ?_ _));exact BK1210.out⟩,⟨by repeat (first|(with_reducible first|exact HB.out|apply below_alloc|apply pw_below_drewN|apply below_drew1|refine below_set ?_ GE1208.out|refine below_set ?_ GE1209.out|refine below_set ?_ GE1210.out)|exact HB.out)⟩⟩
 case round =>
  clear H'
  try clear c1
  try clear p2
  try clear c5
  try clear c8
  try clear c9
  try clear hcz10_0
  try clear hcz10_1
  try clear hcz11_0
  try clear hcz11_1
  try clear hcz6_0
  try clear hcz6_1
  try clear hfz10_0
  try clear hfz10_1
  try clear hfz11_0
  try clear hfz11_1
  try clear hfz6_0
  try clear hfz6_1
  obtain ⟨x14_1,x1211001_1,u1211001,rfl,HA,HK1,HO_1211001,BK1208,BK1209,BK1210,HB⟩:=hrel
  cases gk with
  | zero=>exact absurd HA.out (by simp [spec_unMerge.l0])
  | succ k1 =>
   have H:=HA.out
   clear HA
   simp only [spec_unMerge.l0] at H
   by_cases c12:x14_1 < (l0_1.length:Int)
   ·rw [if_pos c12] at H
    have c12b0:decide (x14_1 < (l0_1.length:Int)) = true:=decide_eq_true c12
    clear c12
    by_cases c13:0 ≤ x14_1
    ·rw [if_pos c13] at H
     have c13b0:decide (0 ≤ x14_1) = true:=decide_eq_true c13
     clear c13
     by_cases c14:x14_1 < (l0_1.length:Int)
     ·rw [if_pos c14] at H
      have c14b0:decide (x14_1 < (l0_1.length:Int)) = true:=decide_eq_true c14
      clear c14
      by_cases c15:0 < (l1.length:Int)
      ·rw [if_pos c15] at H
       have c15b0:decide (0 < (l1.length:Int)) = true:=decide_eq_true c15
       have c15b1:decide (0 < l1.length) = true:=decide_eq_true (by omega)
       clear c15
       by_cases c16:x14_1 = (rd l1 0)
       ·rw [if_pos c16] at H
        have c16b0:(x14_1 == (rd l1 0)) = true:=beq_iff_eq.mpr c16
        have c16b1:(x14_1 != (rd l1 0)) = false:=bne_eq_false_iff_eq.mpr c16
        clear c16
        replace H:=Option.bind_eq_some_iff.mp H
        obtain ⟨t1213,A170,H⟩:=H
        replace H:((spec_voWeight.f k1 a0_0 l0_1 t1213).bind fun t1214=>(if x1211001_1.length < 17592186044416 then (spec_unMerge.l0 k1 l1 l0_1 (l0_1.length:Int) (wrap64 (x14_1 + 1)) a0_0 l0_1 a0_0 (x1211001_1 ++ [t1214])) else (none))) = some (r1,r2):=H
        have A17:=Aside0.mk A170
        clear A170
        replace H:=Option.bind_eq_some_iff.mp H
        obtain ⟨t1214,A180,H⟩:=H
        replace H:(if x1211001_1.length < 17592186044416 then (spec_unMerge.l0 k1 l1 l0_1 (l0_1.length:Int) (wrap64 (x14_1 + 1)) a0_0 l0_1 a0_0 (x1211001_1 ++ [t1214])) else (none)) = some (r1,r2):=H
        have A18:=Aside0.mk A180
        clear A180
        by_cases c19:x1211001_1.length < 17592186044416
        ·rw [if_pos c19] at H
         have LMc19:=Aside0.mk c19
         clear c19
         obtain ⟨y1215,hy1215⟩:∃ y_:List Int,y_ = (x1211001_1 ++ [t1214]):=⟨_,rfl⟩
         replace H:(spec_unMerge.l0 k1 l1 l0_1 (l0_1.length:Int) (wrap64 (x14_1 + 1)) a0_0 l0_1 a0_0 y1215) = some (r1,r2):=by first|(rw [hy1215];with_reducible exact H)|(have H2_:=(Option.bind_some _ _).symm.trans H;rw [hy1215];with_reducible exact H2_)|(have H2_:=(Option.bind_some _ _).symm.trans H;with_reducible exact H2_)|with_reducible exact H|(rw [hy1215];exact H)|exact H
         have Ny1215:=Aside0.mk hy1215
         clear hy1215
         have H':=Aside0.mk H
         clear H
         have p1211:0 ≤ (x14_1:Int):=of_decide_eq_true (by first|(with_reducible assumption)|assumption)
         have q1211:x14_1 < (l0_1.length:Int):=of_decide_eq_true (by first|(with_reducible assumption)|assumption)
         obtain ⟨ad1211,e1211,hx1211_0⟩:=Kd.at_int HR0_1.out x14_1 p1211 q1211
         cases e1211
         replace hx1211_0:=(HB.out.cell (World.block_lt_of_cell? w _ hx1211_0)).trans hx1211_0
         replace p1211:=eq_true p1211
         replace q1211:=eq_true q1211
         have p1212:0 ≤ (0:Int):=(by omega)
         have q1212:0 < (l1.length:Int):=of_decide_eq_true (by first|(with_reducible assumption)|assumption)
         obtain ⟨ad1212,e1212,hx1212_0⟩:=Kd.at_int HR1.out 0 p1212 q1212
         cases e1212
         have qi1212:(0 < l1.length) = True:=eq_true (by omega)
         (try rw [show ((0:Int)).toNat = 0 from rfl] at hx1212_0)
         (try rw [Addr.add_zero'] at hx1212_0)
         replace hx1212_0:=(HB.out.cell (World.block_lt_of_cell? w _ hx1212_0)).trans hx1212_0
         replace p1212:=eq_true p1212
         replace q1212:=eq_true q1212
         try go_wp2
         have n0_:=Aside0.mk (Kd.R_drew HO_1211001.out)
         have n1_:=Aside0.mk (blk_drew BK1208.out)
         have n2_:=Aside0.mk (blk_drew BK1209.out)
         have n3_:=Aside0.mk (blk_drew BK1210.out)
         have n4_:=Aside0.mk (below_drew1 HB.out)
         clear HO_1211001
         clear BK1208
         clear BK1209
         clear BK1210
         clear HB
         have HO_1211001:=n0_
         have BK1208:=n1_
         have BK1209:=n2_
         have BK1210:=n3_
         have HB:=n4_
         clear n0_ n1_ n2_ n3_ n4_
         refine start_ (n:=10) (S:=fun w'=>w'.cell? ⟨gb1210,0,none⟩ = some (.int .i64 a0_0) ∧ w'.cell? ⟨gb1210,1,none⟩ = some (u1211001) ∧ w'.cell? ⟨gb1208,0,none⟩ = some (.int .i64 a0_0) ∧ w'.cell? ⟨gb1208,1,none⟩ = some (.slice (some ad1211) l0_1.length c0_1)) (ds:=[9]) #[false,false,false,false,false,false,false,false,false,false] (by kernel_rfl) rfl rfl ⟨(blk_cell BK1210.out 0).trans rfl,(blk_cell BK1210.out 1).trans rfl,(blk_cell BK1208.out 0).trans rfl,(blk_cell BK1208.out 1).trans rfl⟩ (fun hHeld=>?_);refine with_tabW spec_unMerge.tab6 spec_unMerge.bits6 (fun HT_ HW_=>?_)
         generalize wr.drew = w20 at HO_1211001 BK1208 BK1209 BK1210 HB hHeld ⊢
         refine pure_ (i:=0) (N:=some 25) (v:=?_) (a':=?_) #[true,false,false,false,false,false,false,false,false,false] rfl rfl (any_of HT_.out (by kernel_rfl)) (fun _ _ _ h=>h) (Or.inl ⟨by rfl,?_⟩) ?_ ?_
         rotate_left
         ·intro w'
          go_simp
          with_reducible rfl
         rotate_left
         ·simp only [Act.put,List.setIfInBounds_toArray,List.set_cons_zero,List.set_cons_succ,i64_w,i32_w]
          rfl
         refine pure_ (i:=3) (N:=some 28) (v:=?_) (a':=?_) #[true,false,false,true,false,false,false,false,false,false] rfl rfl (any_of HT_.out (by kernel_rfl)) (fun _ _ _ h=>h) (Or.inl ⟨by rfl,?_⟩) ?_ ?_
         rotate_left
         ·intro w'
          go_simp
          with_reducible rfl
         rotate_left
         ·simp only [Act.put,List.setIfInBounds_toArray,List.set_cons_zero,List.set_cons_succ,i64_w,i32_w]
          rfl
         refine take_ (i:=1) (N:=some 26) (v:=?_) (a':=?_) #[true,true,false,true,false,false,false,false,false,false] rfl rfl (take_ofW HT_.out HW_.out (by kernel_rfl)) (fun _ _ _ h=>h) (Or.inl ⟨by rfl,?_⟩) hHeld ?_ ?_
         rotate_left
         ·rintro w' ⟨s0,s1,s2,s3⟩
          go_simp
          with_reducible rfl
         rotate_left
         ·simp only [Act.put,List.setIfInBounds_toArray,List.set_cons_zero,List.set_cons_succ,i64_w,i32_w]
          rfl
         refine take_ (i:=2) (N:=some 27) (v:=?_) (a':=?_) #[true,true,true,true,false,false,false,false,false,false] rfl rfl (take_ofW HT_.out HW_.out (by kernel_rfl)) (fun _ _ _ h=>h) (Or.inl ⟨by rfl,?_⟩) hHeld ?_ ?_
         rotate_left
         ·rintro w' ⟨s0,s1,s2,s3⟩
          go_simp
          with_reducible rfl
         rotate_left
         ·simp only [Act.put,List.setIfInBounds_toArray,List.set_cons_zero,List.set_cons_succ,i64_w,i32_w]
          rfl
         refine one_ (i:=4) (N:=some 29) #[true,true,true,true,true,false,false,false,false,false] rfl rfl (one_of HT_.out (by kernel_rfl)) (by decide) (fun K hK=>?_)
         refine goes_ Try.func166 (by kernel_rfl) rfl #[.slice (some ad1212) l1.length c1] (by rfl) rfl rfl (by (try simp only [List.map_toArray,List.map_cons,List.map_nil]);first|done|rfl|(simp only [List.length_drop,List.length_take];rfl)) ?_
         with_reducible refine (spec_voBits.calls k1 _ _ l1 t1213 _ ?side1 ?side2 A17.out).mono ?_
         (case side1=>repeat (first|exact (Kd.C_below HR1.out HB.out)|(with_reducible refine Kd.C_alloc ?_ _)|(with_reducible refine Kd.C_drewN ?_ _)|(with_reducible refine Kd.C_drew ?_)))
         (case side2=>exact HC1.out)
         rintro e w' ⟨rfl,⟨nd,rfl⟩⟩
         refine ⟨_,rfl,?_⟩
         refine hK.out _ _ ⟨(blk_cell BK1210.out 0).trans rfl,(blk_cell BK1210.out 1).trans rfl,(blk_cell BK1208.out 0).trans rfl,(blk_cell BK1208.out 1).trans rfl⟩ (fun hHeld=>?_)
         clear hK K
         refine norm_ (a':=?_) ?_ ?_
         rotate_left
         ·show Act.put _ (some 29) _ = _
          simp only [Act.put,List.setIfInBounds_toArray,List.set_cons_zero,List.set_cons_succ,i64_w,i32_w]
          rfl
         refine one_ (i:=5) (N:=some 30) #[true,true,true,true,true,true,false,false,false,false] rfl rfl (one_of HT_.out (by kernel_rfl)) (by decide) (fun K hK=>?_)
         refine goes_ Try.func146 (by kernel_rfl) rfl #[.agg #[.int .i64 a0_0,.slice (some ad1211) l0_1.length c0_1],.int .i64 t1213] (by rfl) rfl rfl (by (try simp only [List.map_toArray,List.map_cons,List.map_nil]);first|done|rfl|(simp only [List.length_drop,List.length_take];rfl)) ?_
         with_reducible refine (spec_voWeight.calls k1 a0_0 _ _ l0_1 t1213 t1214 _ ?side1 ?side2 A18.out).mono ?_
         (case side1=>repeat (first|exact (Kd.C_below HR0_1.out (by repeat (first|(with_reducible first|exact HB.out|apply below_alloc|apply pw_below_drewN|apply below_drew1|refine below_set ?_ GE1208.out|refine below_set ?_ GE1209.out|refine below_set ?_ GE1210.out)|exact HB.out)))|(with_reducible refine Kd.C_alloc ?_ _)|(with_reducible refine Kd.C_drewN ?_ _)|(with_reducible refine Kd.C_drew ?_)))
         (case side2=>exact HC0_1.out)
         rintro e w21 ⟨rfl,hb⟩
         refine ⟨_,rfl,?_⟩
         have n0_:=Aside0.mk (Kd.R_below (by (with_reducible repeat (first|apply Kd.R_alloc|apply Kd.R_drewN|apply Kd.R_drew));exact HO_1211001.out) hb)
         have n1_:=Aside0.mk (blk_below (g:=gb1208) (o:=.cells #[.int .i64 a0_0,.slice (some ad1211) l0_1.length c0_1] 26 (0,0)) (by (with_reducible repeat (first|refine blk_drewN ?_ _|refine blk_drew ?_|refine blk_alloc ?_ _));exact BK1208.out) hb)
         have n2_:=Aside0.mk (blk_below (g:=gb1209) (o:=.cells #[.int .i64 0,.slice none 0 0] 26 (0,0)) (by (with_reducible repeat (first|refine blk_drewN ?_ _|refine blk_drew ?_|refine blk_alloc ?_ _));exact BK1209.out) hb)
         have n3_:=Aside0.mk (blk_below (g:=gb1210) (o:=.cells #[.int .i64 a0_0,u1211001] 26 (0,0)) (by (with_reducible repeat (first|refine blk_drewN ?_ _|refine blk_drew ?_|refine blk_alloc ?_ _));exact BK1210.out) hb)
         have n4_:=Aside0.mk (below_step (by repeat (first|(with_reducible first|exact HB.out|apply below_alloc|apply pw_below_drewN|apply below_drew1|refine below_set ?_ GE1208.out|refine below_set ?_ GE1209.out|refine below_set ?_ GE1210.out)|exact HB.out)) hb)
         clear HO_1211001
         clear BK1208
         clear BK1209
         clear BK1210
         clear HB
         have HO_1211001:=n0_
         have BK1208:=n1_
         have BK1209:=n2_
         have BK1210:=n3_
         have HB:=n4_
         clear n0_ n1_ n2_ n3_ n4_
         (try clear hb)
         (try clear hb2)
         (try clear hk)
         (try clear hi)
         refine hK.out _ _ ⟨(blk_cell BK1210.out 0).trans rfl,(blk_cell BK1210.out 1).trans rfl,(blk_cell BK1208.out 0).trans rfl,(blk_cell BK1208.out 1).trans rfl⟩ (fun hHeld=>?_)
         clear hK K
         refine norm_ (a':=?_) ?_ ?_
         rotate_left
         ·show Act.put _ (some 30) _ = _
          simp only [Act.put,List.setIfInBounds_toArray,List.set_cons_zero,List.set_cons_succ,i64_w,i32_w]
          rfl
         refine one_ (i:=6) (N:=some 31) #[true,true,true,true,true,true,true,false,false,false] rfl rfl (one_of HT_.out (by kernel_rfl)) (by decide) (fun K hK=>?_)
         refine value_ (w1:=?_) (v:=?_) (by rfl) rfl ?_ ?_
         rotate_left 2
         ·go_simp
          constructor
          ·rfl
          ·rfl
         refine hK.out _ _ ⟨(blk_cell (blk_alloc BK1210.out _) 0).trans rfl,(blk_cell (blk_alloc BK1210.out _) 1).trans rfl,(blk_cell (blk_alloc BK1208.out _) 0).trans rfl,(blk_cell (blk_alloc BK1208.out _) 1).trans rfl⟩ (fun hHeld=>?_)
         clear hK K
         refine norm_ (a':=?_) ?_ ?_
         rotate_left
         ·show Act.put _ (some 31) _ = _
          simp only [Act.put,List.setIfInBounds_toArray,List.set_cons_zero,List.set_cons_succ,i64_w,i32_w]
          rfl
         refine one_ (i:=7) (N:=some 32) #[true,true,true,true,true,true,true,true,false,false] rfl rfl (one_of HT_.out (by kernel_rfl)) (by decide) (fun K hK=>?_)
         refine Kd.R_append_step (Kd.int .i64) (w0:=w) w.heap.size (by rfl) (.tmp 26) (.tmp 31) 22 3 (.int .i64 0) 8 rfl Try.underlying22 info3 rfl (by decide) (by omega) u1211001 x1211001_1 t1214 [.int .i64 t1214] (fun _=>True) (fun _=>False) rfl rfl ?aP (fun _ hk=>hk.elim) ?aF ?aO ?aB ?aS ?aL ?_
         (case aP=>exact rfl)
         (case aB=>exact (by repeat (first|(with_reducible first|exact HB.out|apply below_alloc|apply pw_below_drewN|apply below_drew1|refine below_set ?_ GE1208.out|refine below_set ?_ GE1209.out|refine below_set ?_ GE1210.out)|exact HB.out)))
         (case aF=>exact (fun _ _=>trivial))
         (case aO=>exact (by (with_reducible repeat (first|apply Kd.R_alloc|apply Kd.R_drewN|apply Kd.R_drew));exact HO_1211001.out))
         (case aS=>exact (below_size (by repeat (first|(with_reducible first|exact HB.out|apply below_alloc|apply pw_below_drewN|apply below_drew1|refine below_set ?_ GE1208.out|refine below_set ?_ GE1209.out|refine below_set ?_ GE1210.out)|exact HB.out))))
         (case aL=>have:=LMc19.out;omega)
         intro v1216 w22 ho hb hg hat
         rw [← Ny1215.out] at ho
         have n0_:=Aside0.mk (blk_grown (g:=gb1208) (o:=.cells #[.int .i64 a0_0,.slice (some ad1211) l0_1.length c0_1] 26 (0,0)) (by (with_reducible repeat (first|refine blk_drewN ?_ _|refine blk_drew ?_|refine blk_alloc ?_ _));exact BK1208.out) hg (Kd.R_ne HO_1211001.out BK1208.out (by decide)))
         have n1_:=Aside0.mk (blk_grown (g:=gb1209) (o:=.cells #[.int .i64 0,.slice none 0 0] 26 (0,0)) (by (with_reducible repeat (first|refine blk_drewN ?_ _|refine blk_drew ?_|refine blk_alloc ?_ _));exact BK1209.out) hg (Kd.R_ne HO_1211001.out BK1209.out (by decide)))
         have n2_:=Aside0.mk (blk_grown (g:=gb1210) (o:=.cells #[.int .i64 a0_0,u1211001] 26 (0,0)) (by (with_reducible repeat (first|refine blk_drewN ?_ _|refine blk_drew ?_|refine blk_alloc ?_ _));exact BK1210.out) hg (Kd.R_ne HO_1211001.out BK1210.out (by decide)))
         have n3_:=Aside0.mk (hb)
         have n4_:=Aside0.mk (ho)
         clear BK1208
         clear BK1209
         clear BK1210
         clear HB
         clear HO_1211001
         have BK1208:=n0_
         have BK1209:=n1_
         have BK1210:=n2_
         have HB:=n3_
         have HO1217:=n4_
         clear n0_ n1_ n2_ n3_ n4_
         clear ho hb hg hat
         obtain ⟨Ao23,co23,eo23⟩:=Kd.R_slice HO1217.out
         (first|subst eo23|(injection eo23 with f1_ f2_ f3_;have f4_:=f1_.symm;have f5_:=f3_.symm;clear f1_ f2_ f3_;subst f4_;subst f5_))
         refine hK.out _ _ ⟨(blk_cell BK1210.out 0).trans rfl,(blk_cell BK1210.out 1).trans rfl,(blk_cell BK1208.out 0).trans rfl,(blk_cell BK1208.out 1).trans rfl⟩ (fun hHeld=>?_)
         clear hK K
         refine norm_ (a':=?_) ?_ ?_
         rotate_left
         ·show Act.put _ (some 32) _ = _
          simp only [Act.put,List.setIfInBounds_toArray,List.set_cons_zero,List.set_cons_succ,i64_w,i32_w]
          rfl
         refine pure_ (i:=8) (N:=some 33) (v:=?_) (a':=?_) #[true,true,true,true,true,true,true,true,true,false] rfl rfl (any_of HT_.out (by kernel_rfl)) (fun _ _ _ h=>h) (Or.inl ⟨by rfl,?_⟩) ?_ ?_
         rotate_left
         ·intro w'
          go_simp
          with_reducible rfl
         rotate_left
         ·simp only [Act.put,List.setIfInBounds_toArray,List.set_cons_zero,List.set_cons_succ,i64_w,i32_w]
          rfl
         refine last_ (i:=9) (N:=none) #[true,true,true,true,true,true,true,true,true,true] rfl rfl (one_of HT_.out (by kernel_rfl)) (by decide) (fun K hK=>?_)
         have hs24:w22.cell? ⟨gb1210,1,none⟩ = some (u1211001):=(blk_cell BK1210.out 1).trans rfl
         have hfs24:=blk_frozen BK1210.out 1
         have hns24_0:=NB1208_1210.out
         have hns24_1:=NB1209_1210.out
         have hms24_0:=NB1210_1208.out
         have hms24_1:=NB1210_1209.out
         refine skip_ (w1:=?_) (by rfl) rfl ?_ ?_
         rotate_left
         ·go_simp
          rfl
         refine hK.out _ _ ?_
         clear hK K
         refine done_ (done_of HT_.out (by kernel_rfl)) ?_
         try go_wp2
         go_roundg k1
         case measure=>have:=HK1.out;omega
         case rel=>exact ⟨(wrap64 (x14_1 + 1)),(y1215),(.slice Ao23 y1215.length co23),(by first|rfl|(simp;done)|(simp [*];done)),H',⟨by have:=HK1.out;omega⟩,⟨by (with_reducible repeat (first|apply Kd.R_alloc|apply Kd.R_drewN|apply Kd.R_drew));exact Kd.R_mono (Kd.R_far (p:=⟨gb1210,1,none⟩) (Kd.R_types HO1217.out BK1210.out (by decide)) (fun _ hk=>hk.2) (.slice Ao23 y1215.length co23)) (fun _ hk=>trivial)⟩,⟨by (with_reducible repeat (first|refine blk_drewN ?_ _|refine blk_drew ?_|refine blk_alloc ?_ _));refine blk_far ?_ NB1208_1210.out _;(with_reducible repeat (first|refine blk_drewN ?_ _|refine blk_drew ?_|refine blk_alloc ?_ _));exact BK1208.out⟩,⟨by (with_reducible repeat (first|refine blk_drewN ?_ _|refine blk_drew ?_|refine blk_alloc ?_ _));refine blk_far ?_ NB1209_1210.out _;(with_reducible repeat (first|refine blk_drewN ?_ _|refine blk_drew ?_|refine blk_alloc ?_ _));exact BK1209.out⟩,⟨by (with_reducible repeat (first|refine blk_drewN ?_ _|refine blk_drew ?_|refine blk_alloc ?_ _));refine blk_put (cs:=#[.int .i64 a0_0,u1211001]) ?_ 1 _ rfl;(with_reducible repeat (first|refine blk_drewN ?_ _|refine blk_drew ?_|refine blk_alloc ?_ _));exact BK1210.out⟩,⟨by repeat (first|(with_reducible first|exact HB.out|apply below_alloc|apply pw_below_drewN|apply below_drew1|refine below_set ?_ GE1208.out|refine below_set ?_ GE1209.out|refine below_set ?_ GE1210.out)|exact HB.out)⟩⟩
        ·rw [if_neg c19] at H
         exact absurd H (by simp)
       ·rw [if_neg c16] at H
        have c16b0:(x14_1 == (rd l1 0)) = false:=beq_eq_false_iff_ne.mpr c16
        have c16b1:(x14_1 != (rd l1 0)) = true:=bne_iff_ne.mpr c16
        replace H:=Option.bind_eq_some_iff.mp H
        obtain ⟨t1218,A250,H⟩:=H
        replace H:(if t1218 = true then (spec_unMerge.l0 k1 l1 l0_1 (l0_1.length:Int) (wrap64 (x14_1 + 1)) a0_0 l0_1 a0_0 x1211001_1) else (if x1211001_1.length < 17592186044416 then (spec_unMerge.l0 k1 l1 l0_1 (l0_1.length:Int) (wrap64 (x14_1 + 1)) a0_0 l0_1 a0_0 (x1211001_1 ++ [rd l0_1 x14_1])) else (none))) = some (r1,r2):=H
        have A25:=Aside0.mk A250
        clear A250
        by_cases c26:t1218 = true
        ·subst c26
         have H1:(spec_unMerge.l0 k1 l1 l0_1 (l0_1.length:Int) (wrap64 (x14_1 + 1)) a0_0 l0_1 a0_0 x1211001_1) = some (r1,r2):=by rw [if_pos rfl] at H;exact H
         clear H
         have H:=H1
         clear H1
         have H':=Aside0.mk H
         clear H
         have p1211:0 ≤ (x14_1:Int):=of_decide_eq_true (by first|(with_reducible assumption)|assumption)
         have q1211:x14_1 < (l0_1.length:Int):=of_decide_eq_true (by first|(with_reducible assumption)|assumption)
         obtain ⟨ad1211,e1211,hx1211_0⟩:=Kd.at_int HR0_1.out x14_1 p1211 q1211
         cases e1211
         replace hx1211_0:=(HB.out.cell (World.block_lt_of_cell? w _ hx1211_0)).trans hx1211_0
         replace p1211:=eq_true p1211
         replace q1211:=eq_true q1211
         have p1212:0 ≤ (0:Int):=(by omega)
         have q1212:0 < (l1.length:Int):=of_decide_eq_true (by first|(with_reducible assumption)|assumption)
         obtain ⟨ad1212,e1212,hx1212_0⟩:=Kd.at_int HR1.out 0 p1212 q1212
         cases e1212
         have qi1212:(0 < l1.length) = True:=eq_true (by omega)
         (try rw [show ((0:Int)).toNat = 0 from rfl] at hx1212_0)
         (try rw [Addr.add_zero'] at hx1212_0)
         replace hx1212_0:=(HB.out.cell (World.block_lt_of_cell? w _ hx1212_0)).trans hx1212_0
         replace p1212:=eq_true p1212
         replace q1212:=eq_true q1212
         go_wp2_with (first|((with_reducible refine gate_callee (f:=181) rfl ?_);refine goesL_ (some 37) rfl rfl Try.func181 (by kernel_rfl) rfl #[.slice (some ad1212) l1.length c1,.int .i64 x14_1] rfl (by (try simp only [List.map_toArray,List.map_cons,List.map_nil]);first|done|rfl|(simp only [List.length_drop,List.length_take];rfl)) ?_;(with_reducible refine (spec_l1Has.calls k1 _ _ l1 x14_1 true _ ?side1 ?side2 A25.out).mono ?_);(case side1=>repeat (first|exact (Kd.C_below HR1.out HB.out)|(with_reducible refine Kd.C_alloc ?_ _)|(with_reducible refine Kd.C_drewN ?_ _)|(with_reducible refine Kd.C_drew ?_)));(case side2=>exact HC1.out);rintro e w' ⟨rfl,⟨nd,rfl⟩⟩;refine ⟨_,rfl,?_⟩))
         go_roundg k1
         case measure=>have:=HK1.out;omega
         case rel=>exact ⟨(wrap64 (x14_1 + 1)),(x1211001_1),(u1211001),(by first|rfl|(simp;done)|(simp [*];done)),H',⟨by have:=HK1.out;omega⟩,⟨by (with_reducible repeat (first|apply Kd.R_alloc|apply Kd.R_drewN|apply Kd.R_drew));exact HO_1211001.out⟩,⟨by (with_reducible repeat (first|refine blk_drewN ?_ _|refine blk_drew ?_|refine blk_alloc ?_ _));exact BK1208.out⟩,⟨by (with_reducible repeat (first|refine blk_drewN ?_ _|refine blk_drew ?_|refine blk_alloc ?_ _));exact BK1209.out⟩,⟨by (with_reducible repeat (first|refine blk_drewN ?_ _|refine blk_drew ?_|refine blk_alloc ?_ _));exact BK1210.out⟩,⟨by repeat (first|(with_reducible first|exact HB.out|apply below_alloc|apply pw_below_drewN|apply below_drew1|refine below_set ?_ GE1208.out|refine below_set ?_ GE1209.out|refine below_set ?_ GE1210.out)|exact HB.out)⟩⟩
        ·replace c26:=Bool.eq_false_iff.mpr c26
         subst c26
         have H1:(if x1211001_1.length < 17592186044416 then (spec_unMerge.l0 k1 l1 l0_1 (l0_1.length:Int) (wrap64 (x14_1 + 1)) a0_0 l0_1 a0_0 (x1211001_1 ++ [rd l0_1 x14_1])) else (none)) = some (r1,r2):=by rw [if_neg (show ¬ (false = true) by decide)] at H;exact H
         clear H
         have H:=H1
         clear H1
         by_cases c27:x1211001_1.length < 17592186044416
         ·rw [if_pos c27] at H
          have LMc27:=Aside0.mk c27
          clear c27
          obtain ⟨y1219,hy1219⟩:∃ y_:List Int,y_ = (x1211001_1 ++ [rd l0_1 x14_1]):=⟨_,rfl⟩
          replace H:(spec_unMerge.l0 k1 l1 l0_1 (l0_1.length:Int) (wrap64 (x14_1 + 1)) a0_0 l0_1 a0_0 y1219) = some (r1,r2):=by first|(rw [hy1219];with_reducible exact H)|(have H2_:=(Option.bind_some _ _).symm.trans H;rw [hy1219];with_reducible exact H2_)|(have H2_:=(Option.bind_some _ _).symm.trans H;with_reducible exact H2_)|with_reducible exact H|(rw [hy1219];exact H)|exact H
          have Ny1219:=Aside0.mk hy1219
          clear hy1219
          have H':=Aside0.mk H
          clear H
          have p1211:0 ≤ (x14_1:Int):=of_decide_eq_true (by first|(with_reducible assumption)|assumption)
          have q1211:x14_1 < (l0_1.length:Int):=of_decide_eq_true (by first|(with_reducible assumption)|assumption)
          obtain ⟨ad1211,e1211,hx1211_0⟩:=Kd.at_int HR0_1.out x14_1 p1211 q1211
          cases e1211
          replace hx1211_0:=(HB.out.cell (World.block_lt_of_cell? w _ hx1211_0)).trans hx1211_0
          replace p1211:=eq_true p1211
          replace q1211:=eq_true q1211
          have p1212:0 ≤ (0:Int):=(by omega)
          have q1212:0 < (l1.length:Int):=of_decide_eq_true (by first|(with_reducible assumption)|assumption)
          obtain ⟨ad1212,e1212,hx1212_0⟩:=Kd.at_int HR1.out 0 p1212 q1212
          cases e1212
          have qi1212:(0 < l1.length) = True:=eq_true (by omega)
          (try rw [show ((0:Int)).toNat = 0 from rfl] at hx1212_0)
          (try rw [Addr.add_zero'] at hx1212_0)
          replace hx1212_0:=(HB.out.cell (World.block_lt_of_cell? w _ hx1212_0)).trans hx1212_0
          replace p1212:=eq_true p1212
          replace q1212:=eq_true q1212
          go_wp2_with (first|((with_reducible refine gate_callee (f:=181) rfl ?_);refine goesL_ (some 37) rfl rfl Try.func181 (by kernel_rfl) rfl #[.slice (some ad1212) l1.length c1,.int .i64 x14_1] rfl (by (try simp only [List.map_toArray,List.map_cons,List.map_nil]);first|done|rfl|(simp only [List.length_drop,List.length_take];rfl)) ?_;(with_reducible refine (spec_l1Has.calls k1 _ _ l1 x14_1 false _ ?side1 ?side2 A25.out).mono ?_);(case side1=>repeat (first|exact (Kd.C_below HR1.out HB.out)|(with_reducible refine Kd.C_alloc ?_ _)|(with_reducible refine Kd.C_drewN ?_ _)|(with_reducible refine Kd.C_drew ?_)));(case side2=>exact HC1.out);rintro e w' ⟨rfl,⟨nd,rfl⟩⟩;refine ⟨_,rfl,?_⟩;(try (rw [drewN_self wr];generalize hq_:World.drewN wr _ = wr;have n0_:Aside0 (Kd.R (Kd.int .i64) 3 wr w.heap.size (fun _=>True) u1211001 x1211001_1):=⟨by rw [← hq_];exact (by (with_reducible repeat (first|apply Kd.R_alloc|apply Kd.R_drewN|apply Kd.R_drew));exact HO_1211001.out)⟩;have n1_:Aside0 (wr.heap[gb1208]? = some (.cells #[.int .i64 a0_0,.slice (some ad1211) l0_1.length c0_1] 26 (0,0))):=⟨by rw [← hq_];exact (by (with_reducible repeat (first|refine blk_drewN ?_ _|refine blk_drew ?_|refine blk_alloc ?_ _));exact BK1208.out)⟩;have n2_:Aside0 (wr.heap[gb1209]? = some (.cells #[.int .i64 0,.slice none 0 0] 26 (0,0))):=⟨by rw [← hq_];exact (by (with_reducible repeat (first|refine blk_drewN ?_ _|refine blk_drew ?_|refine blk_alloc ?_ _));exact BK1209.out)⟩;have n3_:Aside0 (wr.heap[gb1210]? = some (.cells #[.int .i64 a0_0,u1211001] 26 (0,0))):=⟨by rw [← hq_];exact (by (with_reducible repeat (first|refine blk_drewN ?_ _|refine blk_drew ?_|refine blk_alloc ?_ _));exact BK1210.out)⟩;have n4_:Aside0 (Below w.heap.size w wr):=⟨by rw [← hq_];exact (by repeat (first|(with_reducible first|exact HB.out|apply below_alloc|apply pw_below_drewN|apply below_drew1|refine below_set ?_ GE1208.out|refine below_set ?_ GE1209.out|refine below_set ?_ GE1210.out)|exact HB.out))⟩;clear HO_1211001 BK1208 BK1209 BK1210 HB hq_;have HO_1211001:=n0_;have BK1208:=n1_;have BK1209:=n2_;have BK1210:=n3_;have HB:=n4_;clear n0_ n1_ n2_ n3_ n4_));have hnb28:=NB1210_1208.out;have hnc28:=NB1208_1210.out;have hnb29:=NB1210_1209.out;have hnc29:=NB1209_1210.out;have hcz30_0:wr.cell? ⟨gb1210,0,none⟩ = some (.int .i64 a0_0):=(blk_cell BK1210.out 0).trans rfl;have hcz30_1:wr.cell? ⟨gb1210,1,none⟩ = some (u1211001):=(blk_cell BK1210.out 1).trans rfl;have hfz30_0:=blk_frozen BK1210.out 0;have hfz30_1:=blk_frozen BK1210.out 1)|((with_reducible refine gate_builtin (b:=.append) (xs:=#[.tmp 40,.tmp 42]) rfl ?_);at_builtin;refine Kd.R_append (Kd.int .i64) (w0:=w) w.heap.size rfl (.tmp 40) (.tmp 42) 22 3 (.int .i64 0) 8 rfl Try.underlying22 info3 rfl (by decide) (by omega) u1211001 x1211001_1 (rd l0_1 x14_1) [.int .i64 (rd l0_1 x14_1)] (fun _=>True) (fun _=>False) rfl rfl ?aP (fun _ hk=>hk.elim) ?aF ?aO ?aB ?aS ?aL ?_;(case aP=>exact rfl);(case aB=>exact (by repeat (first|(with_reducible first|exact HB.out|apply below_alloc|apply pw_below_drewN|apply below_drew1|refine below_set ?_ GE1208.out|refine below_set ?_ GE1209.out|refine below_set ?_ GE1210.out)|exact HB.out)));(case aF=>exact (fun _ _=>trivial));(case aO=>exact (by (with_reducible repeat (first|apply Kd.R_alloc|apply Kd.R_drewN|apply Kd.R_drew));exact HO_1211001.out));(case aS=>exact (below_size (by repeat (first|(with_reducible first|exact HB.out|apply below_alloc|apply pw_below_drewN|apply below_drew1|refine below_set ?_ GE1208.out|refine below_set ?_ GE1209.out|refine below_set ?_ GE1210.out)|exact HB.out))));(case aL=>have:=LMc27.out;omega);intro v1220 w31 ho hb hg hat;rw [← Ny1219.out] at ho;have n0_:=Aside0.mk (blk_grown (g:=gb1208) (o:=.cells #[.int .i64 a0_0,.slice (some ad1211) l0_1.length c0_1] 26 (0,0)) (by (with_reducible repeat (first|refine blk_drewN ?_ _|refine blk_drew ?_|refine blk_alloc ?_ _));exact BK1208.out) hg (Kd.R_ne HO_1211001.out BK1208.out (by decide)));have n1_:=Aside0.mk (blk_grown (g:=gb1209) (o:=.cells #[.int .i64 0,.slice none 0 0] 26 (0,0)) (by (with_reducible repeat (first|refine blk_drewN ?_ _|refine blk_drew ?_|refine blk_alloc ?_ _));exact BK1209.out) hg (Kd.R_ne HO_1211001.out BK1209.out (by decide)));have n2_:=Aside0.mk (blk_grown (g:=gb1210) (o:=.cells #[.int .i64 a0_0,u1211001] 26 (0,0)) (by (with_reducible repeat (first|refine blk_drewN ?_ _|refine blk_drew ?_|refine blk_alloc ?_ _));exact BK1210.out) hg (Kd.R_ne HO_1211001.out BK1210.out (by decide)));have n3_:=Aside0.mk (hb);have n4_:=Aside0.mk (ho);clear BK1208;clear BK1209;clear BK1210;clear HB;clear HO_1211001;have BK1208:=n0_;have BK1209:=n1_;have BK1210:=n2_;have HB:=n3_;have HO1221:=n4_;clear n0_ n1_ n2_ n3_ n4_;clear ho hb hg hat;obtain ⟨Ao32,co32,eo32⟩:=Kd.R_slice HO1221.out;subst eo32;have hcz33_0:w31.cell? ⟨gb1210,0,none⟩ = some (.int .i64 a0_0):=(blk_cell BK1210.out 0).trans rfl;have hcz33_1:w31.cell? ⟨gb1210,1,none⟩ = some (u1211001):=(blk_cell BK1210.out 1).trans rfl;have hfz33_0:=blk_frozen BK1210.out 0;have hfz33_1:=blk_frozen BK1210.out 1))
          go_roundg k1
          case measure=>have:=HK1.out;omega
          case rel=>exact ⟨(wrap64 (x14_1 + 1)),(y1219),(.slice Ao32 y1219.length co32),(by first|rfl|(simp;done)|(simp [*];done)),H',⟨by have:=HK1.out;omega⟩,⟨by (with_reducible repeat (first|apply Kd.R_alloc|apply Kd.R_drewN|apply Kd.R_drew));exact Kd.R_mono (Kd.R_far (p:=⟨gb1210,1,none⟩) (Kd.R_types HO1221.out BK1210.out (by decide)) (fun _ hk=>hk.2) (.slice Ao32 y1219.length co32)) (fun _ hk=>trivial)⟩,⟨by (with_reducible repeat (first|refine blk_drewN ?_ _|refine blk_drew ?_|refine blk_alloc ?_ _));refine blk_far ?_ NB1208_1210.out _;(with_reducible repeat (first|refine blk_drewN ?_ _|refine blk_drew ?_|refine blk_alloc ?_ _));exact BK1208.out⟩,⟨by (with_reducible repeat (first|refine blk_drewN ?_ _|refine blk_drew ?_|refine blk_alloc ?_ _));refine blk_far ?_ NB1209_1210.out _;(with_reducible repeat (first|refine blk_drewN ?_ _|refine blk_drew ?_|refine blk_alloc ?_ _));exact BK1209.out⟩,⟨by (with_reducible repeat (first|refine blk_drewN ?_ _|refine blk_drew ?_|refine blk_alloc ?_ _));refine blk_put (cs:=#[.int .i64 a0_0,u1211001]) ?_ 1 _ rfl;(with_reducible repeat (first|refine blk_drewN ?_ _|refine blk_drew ?_|refine blk_alloc ?_ _));exact BK1210.out⟩,⟨by repeat (first|(with_reducible first|exact HB.out|apply below_alloc|apply pw_below_drewN|apply below_drew1|refine below_set ?_ GE1208.out|refine below_set ?_ GE1209.out|refine below_set ?_ GE1210.out)|exact HB.out)⟩⟩
         ·rw [if_neg c27] at H
          exact absurd H (by simp)
      ·rw [if_neg c15] at H
       exact absurd H (by simp)
     ·rw [if_neg c14] at H
      exact absurd H (by simp)
    ·rw [if_neg c13] at H
     exact absurd H (by simp)
   ·rw [if_neg c12] at H
    have c12b0:decide (x14_1 < (l0_1.length:Int)) = false:=decide_eq_false c12
    clear c12
    simp only [Option.some.injEq,Prod.mk.injEq] at H
    obtain ⟨rfl,rfl⟩:=H
    have hnb34:=NB1210_1208.out
    have hnc34:=NB1208_1210.out
    have hnb35:=NB1210_1209.out
    have hnc35:=NB1209_1210.out
    have hcz36_0:wr.cell? ⟨gb1210,0,none⟩ = some (.int .i64 a0_0):=(blk_cell BK1210.out 0).trans rfl
    have hcz36_1:wr.cell? ⟨gb1210,1,none⟩ = some (u1211001):=(blk_cell BK1210.out 1).trans rfl
    have hfz36_0:=blk_frozen BK1210.out 0
    have hfz36_1:=blk_frozen BK1210.out 1
    have hnb37:=NB1209_1208.out
    have hnc37:=NB1208_1209.out
    have hcz38_0:wr.cell? ⟨gb1209,0,none⟩ = some (.int .i64 0):=(blk_cell BK1209.out 0).trans rfl
    have hcz38_1:wr.cell? ⟨gb1209,1,none⟩ = some (.slice none 0 0):=(blk_cell BK1209.out 1).trans rfl
    have hfz38_0:=blk_frozen BK1209.out 0
    have hfz38_1:=blk_frozen BK1209.out 1
    obtain ⟨Ao39,co39,eo39⟩:=Kd.R_slice HO_1211001.out
    subst eo39
    go_wp2
    refine bodyPost_ret (results_cell_row rfl _ _ gb1209 26 #[.int .i64 a0_0,.slice Ao39 x1211001_1.length co39] (0,0) _ rfl (by (with_reducible repeat (first|refine blk_drewN ?_ _|refine blk_drew ?_|refine blk_alloc ?_ _));refine blk_put (cs:=#[.int .i64 a0_0,.slice none 0 0]) ?_ 1 _ rfl;(with_reducible repeat (first|refine blk_drewN ?_ _|refine blk_drew ?_|refine blk_alloc ?_ _));refine blk_put (cs:=#[.int .i64 0,.slice none 0 0]) ?_ 0 _ rfl;(with_reducible repeat (first|refine blk_drewN ?_ _|refine blk_drew ?_|refine blk_alloc ?_ _));exact BK1209.out) Try.underlying26 rfl (by kernel_rfl)) rfl ?_
    exact ⟨_,by first|rfl|(simp [errW_none,errW_some] <;> rfl)|(simp [*,errW_none,errW_some] <;> rfl),by (with_reducible repeat (first|apply Kd.R_alloc|apply Kd.R_drewN|apply Kd.R_drew));exact Kd.R_mono (Kd.R_far (p:=⟨gb1209,1,none⟩) (Kd.R_far (p:=⟨gb1209,0,none⟩) (Kd.R_types HO_1211001.out BK1209.out (by decide)) (fun _ hk=>hk.2) (.int .i64 a0_0)) (fun _ hk=>hk.2) (.slice Ao39 x1211001_1.length co39)) (fun _ hk=>trivial),by repeat (first|(with_reducible first|exact HB.out|apply below_alloc|apply pw_below_drewN|apply below_drew1|refine below_set ?_ GE1208.out|refine below_set ?_ GE1209.out|refine below_set ?_ GE1210.out)|exact HB.out)⟩


/-! ### spec_l1Rising: function 200 -/
def spec_l1Rising.l0:Nat → List Int → Int → Int → List Int → Int → Int → Option (Bool)
 | 0,_,_,_,_,_,_=>none
 | k + 1,x0,x1,x2,x9,x10,x11=>if x11 < x10 then (if 0 ≤ x11 then (if x11 < (x9.length:Int) then ((spec_l1In.f (rd x9 x11) x1 x2).bind fun t664=>(if t664 = true then (if x11 > 0 then (if 0 ≤ (wrap64 (x11 - 1)) then (if (wrap64 (x11 - 1)) < (x0.length:Int) then (if (rd x0 (wrap64 (x11 - 1))) ≥ (rd x9 x11) then (some false) else (spec_l1Rising.l0 k x0 x1 x2 x9 x10 (wrap64 (x11 + 1)))) else (none)) else (none)) else (spec_l1Rising.l0 k x0 x1 x2 x9 x10 (wrap64 (x11 + 1)))) else (some false))) else (none)) else (none)) else (some true)
def spec_l1Rising.f (k:Nat) (l0:List Int) (a1:Int) (a2:Int):Option (Bool):=spec_l1Rising.l0 k l0 a1 a2 l0 (l0.length:Int) 0
theorem spec_l1Rising.mono_l:∀ k,(∀ y0 y1 y2 y3 y4 y5,LeO (spec_l1Rising.l0 k y0 y1 y2 y3 y4 y5) (spec_l1Rising.l0 (k + 1) y0 y1 y2 y3 y4 y5))
 | 0=>fun _ _ _ _ _ _ r h=>by simp [spec_l1Rising.l0] at h
 | k + 1=>by
  have ih0:=spec_l1Rising.mono_l k
  ·intro y0 y1 y2 y3 y4 y5
   unfold spec_l1Rising.l0
   repeat' first
   | (with_reducible exact ih0 _ _ _ _ _ _)
   | (with_reducible exact LeO.refl _)
   | (with_reducible exact LeO.none _)
   | (with_reducible refine LeO.ite ?_ ?_)
   | (with_reducible refine LeO.bind ?_ (fun _=>?_))
   | exact ih0 _ _ _ _ _ _
   | exact LeO.none _
   | refine LeO.ite ?_ ?_
   | refine LeO.bind ?_ (fun _=>?_)
theorem spec_l1Rising.mono:∀ a0 a1 a2 k,LeO (spec_l1Rising.f k a0 a1 a2) (spec_l1Rising.f (k + 1) a0 a1 a2):=by
 intro a0 a1 a2 k
 have ih0:=spec_l1Rising.mono_l k
 unfold spec_l1Rising.f
 repeat' first
   | (with_reducible exact ih0 _ _ _ _ _ _)
   | (with_reducible exact LeO.refl _)
   | (with_reducible exact LeO.none _)
   | (with_reducible refine LeO.ite ?_ ?_)
   | (with_reducible refine LeO.bind ?_ (fun _=>?_))
   | exact ih0 _ _ _ _ _ _
   | exact LeO.none _
   | refine LeO.ite ?_ ?_
   | refine LeO.bind ?_ (fun _=>?_)
set_option maxHeartbeats 8000000 in
set_option maxRecDepth 100000 in
theorem spec_l1Rising.calls (k:Nat) (A0:Option Addr) (c0:Nat) (l0:List Int) (a1:Int) (a2:Int) (r:Bool) (w:World) (hr0:Kd.C (Kd.int .i64) w A0 l0.length l0) (hc0:l0.length ≤ c0) (h:spec_l1Rising.f k l0 a1 a2 = some r) :
  Calls Try.prog 200 #[.slice A0 l0.length c0,.int .i64 a1,.int .i64 a2] w fun e w'=>e = .returned (.bool r) ∧ Drawn0 w w':=by
 have HR0:=Aside0.mk hr0
 have HC0:=Aside0.mk hc0
 clear hr0 hc0
 have H:(spec_l1Rising.l0 k l0 a1 a2 l0 (l0.length:Int) 0) = some r:=h
 clear h
 have H':=Aside0.mk H
 clear H
 go_enter Try.func200,Try.ntmps200
 go_wp2
 go_loopg [11] k (fun kq v11 w'=>∃ (x11_1:Int),v11 = .int .i64 x11_1 ∧ Aside0 (spec_l1Rising.l0 kq l0 a1 a2 l0 (l0.length:Int) x11_1 = some r) ∧ Aside0 (kq ≤ k) ∧ Drawn0 w w')
 case atStart=>exact ⟨(0),(by first|rfl|(simp;done)|(simp [*];done)),H',⟨Nat.le_refl _⟩,by repeat (first|exact Drawn0.refl _|apply Drawn0.step)⟩
 case round =>
  clear H'
  try clear c2
  try clear p2
  obtain ⟨x11_1,rfl,HA,HK1,⟨m1,rfl⟩⟩:=hrel
  cases gk with
  | zero=>exact absurd HA.out (by simp [spec_l1Rising.l0])
  | succ k1 =>
   have H:=HA.out
   clear HA
   simp only [spec_l1Rising.l0] at H
   by_cases c4:x11_1 < (l0.length:Int)
   ·rw [if_pos c4] at H
    have c4b0:decide (x11_1 < (l0.length:Int)) = true:=decide_eq_true c4
    clear c4
    by_cases c5:0 ≤ x11_1
    ·rw [if_pos c5] at H
     have c5b0:decide (0 ≤ x11_1) = true:=decide_eq_true c5
     clear c5
     by_cases c6:x11_1 < (l0.length:Int)
     ·rw [if_pos c6] at H
      have c6b0:decide (x11_1 < (l0.length:Int)) = true:=decide_eq_true c6
      clear c6
      replace H:=Option.bind_eq_some_iff.mp H
      obtain ⟨t664,A70,H⟩:=H
      replace H:(if t664 = true then (if x11_1 > 0 then (if 0 ≤ (wrap64 (x11_1 - 1)) then (if (wrap64 (x11_1 - 1)) < (l0.length:Int) then (if (rd l0 (wrap64 (x11_1 - 1))) ≥ (rd l0 x11_1) then (some false) else (spec_l1Rising.l0 k1 l0 a1 a2 l0 (l0.length:Int) (wrap64 (x11_1 + 1)))) else (none)) else (none)) else (spec_l1Rising.l0 k1 l0 a1 a2 l0 (l0.length:Int) (wrap64 (x11_1 + 1)))) else (some false)) = some r:=H
      have A7:=Aside0.mk A70
      clear A70
      by_cases c8:t664 = true
      ·subst c8
       have H1:(if x11_1 > 0 then (if 0 ≤ (wrap64 (x11_1 - 1)) then (if (wrap64 (x11_1 - 1)) < (l0.length:Int) then (if (rd l0 (wrap64 (x11_1 - 1))) ≥ (rd l0 x11_1) then (some false) else (spec_l1Rising.l0 k1 l0 a1 a2 l0 (l0.length:Int) (wrap64 (x11_1 + 1)))) else (none)) else (none)) else (spec_l1Rising.l0 k1 l0 a1 a2 l0 (l0.length:Int) (wrap64 (x11_1 + 1)))) = some r:=by rw [if_pos rfl] at H;exact H
       clear H
       have H:=H1
       clear H1
       by_cases c9:x11_1 > 0
       ·rw [if_pos c9] at H
        have c9b0:decide (0 < x11_1) = true:=decide_eq_true c9
        clear c9
        obtain ⟨ji10,hji10⟩:∃ j_:Int,(wrap64 (x11_1 - 1)) = j_:=⟨_,rfl⟩
        replace H:(if 0 ≤ (ji10) then (if (ji10) < (l0.length:Int) then (if (rd l0 (ji10)) ≥ (rd l0 x11_1) then (some false) else (spec_l1Rising.l0 k1 l0 a1 a2 l0 (l0.length:Int) (wrap64 (x11_1 + 1)))) else (none)) else (none)) = some r:=by first|(rw [hji10] at H;exact H)|(simp only [hji10] at H ⊢;exact H)
        (try rw [hji10] at A7)
        have hji10w:(IntKind.i64.wrap (x11_1 - 1)) = ji10:=(i64_w _).trans hji10
        by_cases c11:0 ≤ (ji10)
        ·rw [if_pos c11] at H
         have c11b0:decide (0 ≤ (ji10)) = true:=decide_eq_true c11
         clear c11
         by_cases c12:(ji10) < (l0.length:Int)
         ·rw [if_pos c12] at H
          have c12b0:decide ((ji10) < (l0.length:Int)) = true:=decide_eq_true c12
          clear c12
          by_cases c13:(rd l0 (ji10)) ≥ (rd l0 x11_1)
          ·rw [if_pos c13] at H
           have c13b0:decide ((rd l0 x11_1) ≤ (rd l0 (ji10))) = true:=decide_eq_true c13
           clear c13
           obtain rfl:=Option.some.inj H
           have p663:0 ≤ (x11_1:Int):=of_decide_eq_true (by first|(with_reducible assumption)|assumption)
           have q663:x11_1 < (l0.length:Int):=of_decide_eq_true (by first|(with_reducible assumption)|assumption)
           obtain ⟨ad663,e663,hx663_0⟩:=Kd.at_int HR0.out x11_1 p663 q663
           cases e663
           replace p663:=eq_true p663
           replace q663:=eq_true q663
           go_wp2_with (first|((with_reducible refine gate_callee (f:=115) rfl ?_);refine goesL_ (some 19) rfl rfl Try.func115 (by kernel_rfl) rfl #[.int .i64 (rd l0 x11_1),.int .i64 a1,.int .i64 a2] rfl (by (try simp only [List.map_toArray,List.map_cons,List.map_nil]);first|done|rfl|(simp only [List.length_drop,List.length_take];rfl)) ?_;(with_reducible refine (spec_l1In.calls (rd l0 x11_1) a1 a2 true _ A7.out).mono ?_);rintro e w' ⟨rfl,⟨nd,rfl⟩⟩;refine ⟨_,rfl,?_⟩;have p665:0 ≤ ((ji10):Int):=of_decide_eq_true (by first|(with_reducible assumption)|assumption);have q665:(ji10) < (l0.length:Int):=of_decide_eq_true (by first|(with_reducible assumption)|assumption);obtain ⟨ad665,e665,hx665_0⟩:=Kd.at_int HR0.out (ji10) p665 q665;obtain rfl:ad663 = ad665:=(by injection e665);replace p665:=eq_true p665;replace q665:=eq_true q665))
           go_ret
           exact ⟨by first|rfl|(simp;done)|(simp only [← hji10] <;> (first|rfl|simp))|(simp [*];done),by repeat (first|exact Drawn0.refl _|apply Drawn0.step)⟩
          ·rw [if_neg c13] at H
           have c13b0:decide ((rd l0 x11_1) ≤ (rd l0 (ji10))) = false:=decide_eq_false c13
           clear c13
           have H':=Aside0.mk H
           clear H
           have p663:0 ≤ (x11_1:Int):=of_decide_eq_true (by first|(with_reducible assumption)|assumption)
           have q663:x11_1 < (l0.length:Int):=of_decide_eq_true (by first|(with_reducible assumption)|assumption)
           obtain ⟨ad663,e663,hx663_0⟩:=Kd.at_int HR0.out x11_1 p663 q663
           cases e663
           replace p663:=eq_true p663
           replace q663:=eq_true q663
           go_wp2_with (first|((with_reducible refine gate_callee (f:=115) rfl ?_);refine goesL_ (some 19) rfl rfl Try.func115 (by kernel_rfl) rfl #[.int .i64 (rd l0 x11_1),.int .i64 a1,.int .i64 a2] rfl (by (try simp only [List.map_toArray,List.map_cons,List.map_nil]);first|done|rfl|(simp only [List.length_drop,List.length_take];rfl)) ?_;(with_reducible refine (spec_l1In.calls (rd l0 x11_1) a1 a2 true _ A7.out).mono ?_);rintro e w' ⟨rfl,⟨nd,rfl⟩⟩;refine ⟨_,rfl,?_⟩;have p665:0 ≤ ((ji10):Int):=of_decide_eq_true (by first|(with_reducible assumption)|assumption);have q665:(ji10) < (l0.length:Int):=of_decide_eq_true (by first|(with_reducible assumption)|assumption);obtain ⟨ad665,e665,hx665_0⟩:=Kd.at_int HR0.out (ji10) p665 q665;obtain rfl:ad663 = ad665:=(by injection e665);replace p665:=eq_true p665;replace q665:=eq_true q665))
           go_roundg k1
           case measure=>have:=HK1.out;omega
           case rel=>exact ⟨(wrap64 (x11_1 + 1)),(by first|rfl|(simp;done)|(simp [*];done)),H',⟨by have:=HK1.out;omega⟩,by repeat (first|exact Drawn0.refl _|apply Drawn0.step)⟩
         ·rw [if_neg c12] at H
          exact absurd H (by simp)
        ·rw [if_neg c11] at H
         exact absurd H (by simp)
       ·rw [if_neg c9] at H
        have c9b0:decide (0 < x11_1) = false:=decide_eq_false c9
        clear c9
        have H':=Aside0.mk H
        clear H
        have p663:0 ≤ (x11_1:Int):=of_decide_eq_true (by first|(with_reducible assumption)|assumption)
        have q663:x11_1 < (l0.length:Int):=of_decide_eq_true (by first|(with_reducible assumption)|assumption)
        obtain ⟨ad663,e663,hx663_0⟩:=Kd.at_int HR0.out x11_1 p663 q663
        cases e663
        replace p663:=eq_true p663
        replace q663:=eq_true q663
        go_wp2_with (first|((with_reducible refine gate_callee (f:=115) rfl ?_);refine goesL_ (some 19) rfl rfl Try.func115 (by kernel_rfl) rfl #[.int .i64 (rd l0 x11_1),.int .i64 a1,.int .i64 a2] rfl (by (try simp only [List.map_toArray,List.map_cons,List.map_nil]);first|done|rfl|(simp only [List.length_drop,List.length_take];rfl)) ?_;(with_reducible refine (spec_l1In.calls (rd l0 x11_1) a1 a2 true _ A7.out).mono ?_);rintro e w' ⟨rfl,⟨nd,rfl⟩⟩;refine ⟨_,rfl,?_⟩))
        go_roundg k1
        case measure=>have:=HK1.out;omega
        case rel=>exact ⟨(wrap64 (x11_1 + 1)),(by first|rfl|(simp;done)|(simp [*];done)),H',⟨by have:=HK1.out;omega⟩,by repeat (first|exact Drawn0.refl _|apply Drawn0.step)⟩
      ·replace c8:=Bool.eq_false_iff.mpr c8
       subst c8
       have H1:(some false) = some r:=by rw [if_neg (show ¬ (false = true) by decide)] at H;exact H
       clear H
       have H:=H1
       clear H1
       obtain rfl:=Option.some.inj H
       have p663:0 ≤ (x11_1:Int):=of_decide_eq_true (by first|(with_reducible assumption)|assumption)
       have q663:x11_1 < (l0.length:Int):=of_decide_eq_true (by first|(with_reducible assumption)|assumption)
       obtain ⟨ad663,e663,hx663_0⟩:=Kd.at_int HR0.out x11_1 p663 q663
       cases e663
       replace p663:=eq_true p663
       replace q663:=eq_true q663
       go_wp2_with (first|((with_reducible refine gate_callee (f:=115) rfl ?_);refine goesL_ (some 19) rfl rfl Try.func115 (by kernel_rfl) rfl #[.int .i64 (rd l0 x11_1),.int .i64 a1,.int .i64 a2] rfl (by (try simp only [List.map_toArray,List.map_cons,List.map_nil]);first|done|rfl|(simp only [List.length_drop,List.length_take];rfl)) ?_;(with_reducible refine (spec_l1In.calls (rd l0 x11_1) a1 a2 false _ A7.out).mono ?_);rintro e w' ⟨rfl,⟨nd,rfl⟩⟩;refine ⟨_,rfl,?_⟩))
       go_ret
       exact ⟨by first|rfl|(simp;done)|(simp [*];done),by repeat (first|exact Drawn0.refl _|apply Drawn0.step)⟩
     ·rw [if_neg c6] at H
      exact absurd H (by simp)
    ·rw [if_neg c5] at H
     exact absurd H (by simp)
   ·rw [if_neg c4] at H
    have c4b0:decide (x11_1 < (l0.length:Int)) = false:=decide_eq_false c4
    clear c4
    obtain rfl:=Option.some.inj H
    go_wp2
    go_ret
    exact ⟨by first|rfl|(simp;done)|(simp [*];done),by repeat (first|exact Drawn0.refl _|apply Drawn0.step)⟩


/-! ### spec_voSet: function 175 -/
def spec_voSet.f (k:Nat) (a0:Int) (l1:List Int):Option (Bool):=(spec_l1Rising.f k l1 0 (wrap64 (a0 - 1))).bind fun t666=>(some t666)
theorem spec_voSet.mono:∀ a0 a1 k,LeO (spec_voSet.f k a0 a1) (spec_voSet.f (k + 1) a0 a1):=by
 intro a0 a1 k
 unfold spec_voSet.f
 repeat' first
   | (with_reducible exact spec_l1Rising.mono _ _ _ _)
   | (with_reducible exact LeO.refl _)
   | (with_reducible exact LeO.none _)
   | (with_reducible refine LeO.ite ?_ ?_)
   | (with_reducible refine LeO.bind ?_ (fun _=>?_))
   | exact spec_l1Rising.mono _ _ _ _
   | exact LeO.none _
   | refine LeO.ite ?_ ?_
   | refine LeO.bind ?_ (fun _=>?_)
set_option maxHeartbeats 8000000 in
set_option maxRecDepth 100000 in
theorem spec_voSet.calls (k:Nat) (a0:Int) (A1:Option Addr) (c1:Nat) (l1:List Int) (r:Bool) (w:World) (hr1:Kd.C (Kd.int .i64) w A1 l1.length l1) (hc1:l1.length ≤ c1) (h:spec_voSet.f k a0 l1 = some r) :
  Calls Try.prog 175 #[.int .i64 a0,.slice A1 l1.length c1] w fun e w'=>e = .returned (.bool r) ∧ Drawn0 w w':=by
 have HR1:=Aside0.mk hr1
 have HC1:=Aside0.mk hc1
 clear hr1 hc1
 have H:((spec_l1Rising.f k l1 0 (wrap64 (a0 - 1))).bind fun t666=>(some t666)) = some r:=h
 clear h
 replace H:=Option.bind_eq_some_iff.mp H
 obtain ⟨t666,A30,H⟩:=H
 replace H:(some t666) = some r:=H
 have A3:=Aside0.mk A30
 clear A30
 obtain rfl:=Option.some.inj H
 go_enter Try.func175,Try.ntmps175
 go_wp2_with (first|((with_reducible refine gate_callee (f:=200) rfl ?_);refine goesL_ (some 8) rfl rfl Try.func200 (by kernel_rfl) rfl #[.slice A1 l1.length c1,.int .i64 0,.int .i64 (wrap64 (a0 - 1))] rfl (by (try simp only [List.map_toArray,List.map_cons,List.map_nil]);first|done|rfl|(simp only [List.length_drop,List.length_take];rfl)) ?_;(with_reducible refine (spec_l1Rising.calls k _ _ l1 0 (wrap64 (a0 - 1)) t666 _ ?side1 ?side2 A3.out).mono ?_);(case side1=>repeat (first|exact HR1.out|(with_reducible refine Kd.C_alloc ?_ _)|(with_reducible refine Kd.C_drewN ?_ _)|(with_reducible refine Kd.C_drew ?_)));(case side2=>exact HC1.out);rintro e w' ⟨rfl,⟨nd,rfl⟩⟩;refine ⟨_,rfl,?_⟩))
 go_ret
 exact ⟨by first|rfl|(simp;done)|(simp [*];done),by repeat (first|exact Drawn0.refl _|apply Drawn0.step)⟩


/-! ### spec_voAsked: function 180 -/
def spec_voAsked.f (k:Nat) (a0_0:Int) (l0_1:List Int) (l1:List Int):Option (Bool):=(spec_voGood.f k a0_0 l0_1).bind fun t1223=>(if t1223 = true then ((spec_voSet.f k (l0_1.length:Int) l1).bind fun t1224=>(some t1224)) else (some false))
theorem spec_voAsked.mono:∀ a0 a1 a2 k,LeO (spec_voAsked.f k a0 a1 a2) (spec_voAsked.f (k + 1) a0 a1 a2):=by
 intro a0 a1 a2 k
 unfold spec_voAsked.f
 repeat' first
   | (with_reducible exact spec_voGood.mono _ _ _)
   | (with_reducible exact spec_voSet.mono _ _ _)
   | (with_reducible exact LeO.refl _)
   | (with_reducible exact LeO.none _)
   | (with_reducible refine LeO.ite ?_ ?_)
   | (with_reducible refine LeO.bind ?_ (fun _=>?_))
   | exact spec_voGood.mono _ _ _
   | exact spec_voSet.mono _ _ _
   | exact LeO.none _
   | refine LeO.ite ?_ ?_
   | refine LeO.bind ?_ (fun _=>?_)
set_option maxHeartbeats 8000000 in
set_option maxRecDepth 100000 in
theorem spec_voAsked.calls (k:Nat) (a0_0:Int) (A0_1:Option Addr) (c0_1:Nat) (l0_1:List Int) (A1:Option Addr) (c1:Nat) (l1:List Int) (r:Bool) (w:World) (hr0_1:Kd.C (Kd.int .i64) w A0_1 l0_1.length l0_1) (hc0_1:l0_1.length ≤ c0_1) (hr1:Kd.C (Kd.int .i64) w A1 l1.length l1) (hc1:l1.length ≤ c1) (h:spec_voAsked.f k a0_0 l0_1 l1 = some r) :
  Calls Try.prog 180 #[.agg #[.int .i64 a0_0,.slice A0_1 l0_1.length c0_1],.slice A1 l1.length c1] w fun e w'=>e = .returned (.bool r) ∧ Below w.heap.size w w':=by
 have hu26:=Try.underlying26
 have HR0_1:=Aside0.mk hr0_1
 have HC0_1:=Aside0.mk hc0_1
 clear hr0_1 hc0_1
 have HR1:=Aside0.mk hr1
 have HC1:=Aside0.mk hc1
 clear hr1 hc1
 have HB:=Aside0.mk (Below.refl w.heap.size w)
 have H:((spec_voGood.f k a0_0 l0_1).bind fun t1223=>(if t1223 = true then ((spec_voSet.f k (l0_1.length:Int) l1).bind fun t1224=>(some t1224)) else (some false))) = some r:=h
 clear h
 replace H:=Option.bind_eq_some_iff.mp H
 obtain ⟨t1223,A30,H⟩:=H
 replace H:(if t1223 = true then ((spec_voSet.f k (l0_1.length:Int) l1).bind fun t1224=>(some t1224)) else (some false)) = some r:=H
 have A3:=Aside0.mk A30
 clear A30
 by_cases c4:t1223 = true
 ·subst c4
  have H1:((spec_voSet.f k (l0_1.length:Int) l1).bind fun t1224=>(some t1224)) = some r:=by rw [if_pos rfl] at H;exact H
  clear H
  have H:=H1
  clear H1
  replace H:=Option.bind_eq_some_iff.mp H
  obtain ⟨t1224,A50,H⟩:=H
  replace H:(some t1224) = some r:=H
  have A5:=Aside0.mk A50
  clear A50
  obtain rfl:=Option.some.inj H
  go_enter Try.func180,Try.ntmps180
  go_wp2_with (first|((with_reducible refine gate_dst (N:=2) rfl ?_);(try (refine gate_guard (by rfl) ?_;dsimp only));refine box_event ?hg (N:=2) ?hd (cs:=#[.int .i64 a0_0,.slice A0_1 l0_1.length c0_1]) (t:=26) ?hr ?_;(case hd=>rfl);(case hg=>rfl);(case hr=>first|(go_simp;done)|(go_simp;rfl));intro gb1222 hg w6 hbox hb;have n0_:=Aside0.mk (below_step (by repeat (first|(with_reducible first|exact HB.out|apply below_alloc|apply pw_below_drewN|apply below_drew1)|exact HB.out)) hb);have n1_:=Aside0.mk (hbox);have n2_:=Aside0.mk ((by rw [hg];exact (below_size (by repeat (first|(with_reducible first|exact HB.out|apply below_alloc|apply pw_below_drewN|apply below_drew1)|exact HB.out))):w.heap.size ≤ gb1222));have n3_:=Aside0.mk ((by rw [hg];exact (below_size (by repeat (first|(with_reducible first|exact HB.out|apply below_alloc|apply pw_below_drewN|apply below_drew1)|exact HB.out))):w.heap.size ≤ gb1222));clear HB;have HB:=n0_;have BK1222:=n1_;have GW1222:=n2_;have GE1222:=n3_;clear n0_ n1_ n2_ n3_;clear hb hbox hg;have hcz7_0:w6.cell? ⟨gb1222,0,none⟩ = some (.int .i64 a0_0):=(blk_cell BK1222.out 0).trans rfl;have hcz7_1:w6.cell? ⟨gb1222,1,none⟩ = some (.slice A0_1 l0_1.length c0_1):=(blk_cell BK1222.out 1).trans rfl;have hfz7_0:=blk_frozen BK1222.out 0;have hfz7_1:=blk_frozen BK1222.out 1)|((with_reducible refine gate_callee (f:=154) rfl ?_);refine goesL_ (some 6) rfl rfl Try.func154 (by kernel_rfl) rfl #[.agg #[.int .i64 a0_0,.slice A0_1 l0_1.length c0_1]] rfl (by (try simp only [List.map_toArray,List.map_cons,List.map_nil]);first|done|rfl|(simp only [List.length_drop,List.length_take];rfl)) ?_;(with_reducible refine (spec_voGood.calls k a0_0 _ _ l0_1 true _ ?side1 ?side2 A3.out).mono ?_);(case side1=>repeat (first|exact (Kd.C_below HR0_1.out HB.out)|(with_reducible refine Kd.C_alloc ?_ _)|(with_reducible refine Kd.C_drewN ?_ _)|(with_reducible refine Kd.C_drew ?_)));(case side2=>exact HC0_1.out);rintro e w8 ⟨rfl,hb⟩;refine ⟨_,rfl,?_⟩;have n0_:=Aside0.mk (blk_below (g:=gb1222) (o:=.cells #[.int .i64 a0_0,.slice A0_1 l0_1.length c0_1] 26 (0,0)) (by (with_reducible repeat (first|refine blk_drewN ?_ _|refine blk_drew ?_|refine blk_alloc ?_ _));exact BK1222.out) hb);have n1_:=Aside0.mk (below_step (by repeat (first|(with_reducible first|exact HB.out|apply below_alloc|apply pw_below_drewN|apply below_drew1|refine below_set ?_ GE1222.out)|exact HB.out)) hb);clear BK1222;clear HB;have BK1222:=n0_;have HB:=n1_;clear n0_ n1_;(try clear hb);(try clear hb2);(try clear hk);(try clear hi);have hcz9_0:w8.cell? ⟨gb1222,0,none⟩ = some (.int .i64 a0_0):=(blk_cell BK1222.out 0).trans rfl;have hcz9_1:w8.cell? ⟨gb1222,1,none⟩ = some (.slice A0_1 l0_1.length c0_1):=(blk_cell BK1222.out 1).trans rfl;have hfz9_0:=blk_frozen BK1222.out 0;have hfz9_1:=blk_frozen BK1222.out 1)|(go_at_call 175;(with_reducible refine (spec_voSet.calls k (l0_1.length:Int) _ _ l1 t1224 _ ?side1 ?side2 A5.out).mono ?_);(case side1=>repeat (first|exact (Kd.C_below HR1.out HB.out)|(with_reducible refine Kd.C_alloc ?_ _)|(with_reducible refine Kd.C_drewN ?_ _)|(with_reducible refine Kd.C_drew ?_)));(case side2=>exact HC1.out);rintro e w' ⟨rfl,⟨nd,rfl⟩⟩))
  go_ret
  exact ⟨by first|rfl|(simp [errW_none,errW_some] <;> rfl)|(simp [*,errW_none,errW_some] <;> rfl),by repeat (first|(with_reducible first|exact HB.out|apply below_alloc|apply pw_below_drewN|apply below_drew1|refine below_set ?_ GE1222.out)|exact HB.out)⟩
 ·replace c4:=Bool.eq_false_iff.mpr c4
  subst c4
  have H1:(some false) = some r:=by rw [if_neg (show ¬ (false = true) by decide)] at H;exact H
  clear H
  have H:=H1
  clear H1
  obtain rfl:=Option.some.inj H
  go_enter Try.func180,Try.ntmps180
  go_wp2_with (first|((with_reducible refine gate_dst (N:=2) rfl ?_);(try (refine gate_guard (by rfl) ?_;dsimp only));refine box_event ?hg (N:=2) ?hd (cs:=#[.int .i64 a0_0,.slice A0_1 l0_1.length c0_1]) (t:=26) ?hr ?_;(case hd=>rfl);(case hg=>rfl);(case hr=>first|(go_simp;done)|(go_simp;rfl));intro gb1222 hg w10 hbox hb;have n0_:=Aside0.mk (below_step (by repeat (first|(with_reducible first|exact HB.out|apply below_alloc|apply pw_below_drewN|apply below_drew1)|exact HB.out)) hb);have n1_:=Aside0.mk (hbox);have n2_:=Aside0.mk ((by rw [hg];exact (below_size (by repeat (first|(with_reducible first|exact HB.out|apply below_alloc|apply pw_below_drewN|apply below_drew1)|exact HB.out))):w.heap.size ≤ gb1222));have n3_:=Aside0.mk ((by rw [hg];exact (below_size (by repeat (first|(with_reducible first|exact HB.out|apply below_alloc|apply pw_below_drewN|apply below_drew1)|exact HB.out))):w.heap.size ≤ gb1222));clear HB;have HB:=n0_;have BK1222:=n1_;have GW1222:=n2_;have GE1222:=n3_;clear n0_ n1_ n2_ n3_;clear hb hbox hg;have hcz11_0:w10.cell? ⟨gb1222,0,none⟩ = some (.int .i64 a0_0):=(blk_cell BK1222.out 0).trans rfl;have hcz11_1:w10.cell? ⟨gb1222,1,none⟩ = some (.slice A0_1 l0_1.length c0_1):=(blk_cell BK1222.out 1).trans rfl;have hfz11_0:=blk_frozen BK1222.out 0;have hfz11_1:=blk_frozen BK1222.out 1)|((with_reducible refine gate_callee (f:=154) rfl ?_);refine goesL_ (some 6) rfl rfl Try.func154 (by kernel_rfl) rfl #[.agg #[.int .i64 a0_0,.slice A0_1 l0_1.length c0_1]] rfl (by (try simp only [List.map_toArray,List.map_cons,List.map_nil]);first|done|rfl|(simp only [List.length_drop,List.length_take];rfl)) ?_;(with_reducible refine (spec_voGood.calls k a0_0 _ _ l0_1 false _ ?side1 ?side2 A3.out).mono ?_);(case side1=>repeat (first|exact (Kd.C_below HR0_1.out HB.out)|(with_reducible refine Kd.C_alloc ?_ _)|(with_reducible refine Kd.C_drewN ?_ _)|(with_reducible refine Kd.C_drew ?_)));(case side2=>exact HC0_1.out);rintro e w12 ⟨rfl,hb⟩;refine ⟨_,rfl,?_⟩;have n0_:=Aside0.mk (blk_below (g:=gb1222) (o:=.cells #[.int .i64 a0_0,.slice A0_1 l0_1.length c0_1] 26 (0,0)) (by (with_reducible repeat (first|refine blk_drewN ?_ _|refine blk_drew ?_|refine blk_alloc ?_ _));exact BK1222.out) hb);have n1_:=Aside0.mk (below_step (by repeat (first|(with_reducible first|exact HB.out|apply below_alloc|apply pw_below_drewN|apply below_drew1|refine below_set ?_ GE1222.out)|exact HB.out)) hb);clear BK1222;clear HB;have BK1222:=n0_;have HB:=n1_;clear n0_ n1_;(try clear hb);(try clear hb2);(try clear hk);(try clear hi)))
  go_ret
  exact ⟨by first|rfl|(simp [errW_none,errW_some] <;> rfl)|(simp [*,errW_none,errW_some] <;> rfl),by repeat (first|(with_reducible first|exact HB.out|apply below_alloc|apply pw_below_drewN|apply below_drew1|refine below_set ?_ GE1222.out)|exact HB.out)⟩


/-! ### spec_unSet: function 124 -/
def spec_unSet.f (k:Nat) (a0_0:Int) (l0_1:List Int) (l1:List Int):Option (Bool):=(spec_voAsked.f k a0_0 l0_1 l1).bind fun t1226=>(if t1226 = true then (if (l1.length:Int) > 0 then ((spec_unMerge.f k a0_0 l0_1 l1).bind fun bt1227=>((spec_voGood.f k bt1227.1 bt1227.2).bind fun t1231=>(some t1231))) else (some false)) else (some false))
theorem spec_unSet.mono:∀ a0 a1 a2 k,LeO (spec_unSet.f k a0 a1 a2) (spec_unSet.f (k + 1) a0 a1 a2):=by
 intro a0 a1 a2 k
 unfold spec_unSet.f
 repeat' first
   | (with_reducible exact spec_unMerge.mono _ _ _ _)
   | (with_reducible exact spec_voAsked.mono _ _ _ _)
   | (with_reducible exact spec_voGood.mono _ _ _)
   | (with_reducible exact LeO.refl _)
   | (with_reducible exact LeO.none _)
   | (with_reducible refine LeO.ite ?_ ?_)
   | (with_reducible refine LeO.bind ?_ (fun _=>?_))
   | exact spec_unMerge.mono _ _ _ _
   | exact spec_voAsked.mono _ _ _ _
   | exact spec_voGood.mono _ _ _
   | exact LeO.none _
   | refine LeO.ite ?_ ?_
   | refine LeO.bind ?_ (fun _=>?_)
set_option maxHeartbeats 8000000 in
set_option maxRecDepth 100000 in
theorem spec_unSet.calls (k:Nat) (a0_0:Int) (A0_1:Option Addr) (c0_1:Nat) (l0_1:List Int) (A1:Option Addr) (c1:Nat) (l1:List Int) (r:Bool) (w:World) (hr0_1:Kd.C (Kd.int .i64) w A0_1 l0_1.length l0_1) (hc0_1:l0_1.length ≤ c0_1) (hr1:Kd.C (Kd.int .i64) w A1 l1.length l1) (hc1:l1.length ≤ c1) (h:spec_unSet.f k a0_0 l0_1 l1 = some r) :
  Calls Try.prog 124 #[.agg #[.int .i64 a0_0,.slice A0_1 l0_1.length c0_1],.slice A1 l1.length c1] w fun e w'=>e = .returned (.bool r) ∧ Below w.heap.size w w':=by
 have hu26:=Try.underlying26
 have HR0_1:=Aside0.mk hr0_1
 have HC0_1:=Aside0.mk hc0_1
 clear hr0_1 hc0_1
 have HR1:=Aside0.mk hr1
 have HC1:=Aside0.mk hc1
 clear hr1 hc1
 have HB:=Aside0.mk (Below.refl w.heap.size w)
 have H:((spec_voAsked.f k a0_0 l0_1 l1).bind fun t1226=>(if t1226 = true then (if (l1.length:Int) > 0 then ((spec_unMerge.f k a0_0 l0_1 l1).bind fun bt1227=>((spec_voGood.f k bt1227.1 bt1227.2).bind fun t1231=>(some t1231))) else (some false)) else (some false))) = some r:=h
 clear h
 replace H:=Option.bind_eq_some_iff.mp H
 obtain ⟨t1226,A30,H⟩:=H
 replace H:(if t1226 = true then (if (l1.length:Int) > 0 then ((spec_unMerge.f k a0_0 l0_1 l1).bind fun bt1227=>((spec_voGood.f k bt1227.1 bt1227.2).bind fun t1231=>(some t1231))) else (some false)) else (some false)) = some r:=H
 have A3:=Aside0.mk A30
 clear A30
 by_cases c4:t1226 = true
 ·subst c4
  have H1:(if (l1.length:Int) > 0 then ((spec_unMerge.f k a0_0 l0_1 l1).bind fun bt1227=>((spec_voGood.f k bt1227.1 bt1227.2).bind fun t1231=>(some t1231))) else (some false)) = some r:=by rw [if_pos rfl] at H;exact H
  clear H
  have H:=H1
  clear H1
  by_cases c5:(l1.length:Int) > 0
  ·rw [if_pos c5] at H
   have c5b0:decide (0 < (l1.length:Int)) = true:=decide_eq_true c5
   have c5b1:decide (0 < l1.length) = true:=decide_eq_true (by omega)
   clear c5
   replace H:=Option.bind_eq_some_iff.mp H
   obtain ⟨⟨t1227,t1228⟩,A60,H⟩:=H
   replace H:((spec_voGood.f k t1227 t1228).bind fun t1231=>(some t1231)) = some r:=H
   have A6:=Aside0.mk A60
   clear A60
   replace H:=Option.bind_eq_some_iff.mp H
   obtain ⟨t1231,A70,H⟩:=H
   replace H:(some t1231) = some r:=H
   have A7:=Aside0.mk A70
   clear A70
   obtain rfl:=Option.some.inj H
   go_enter Try.func124,Try.ntmps124
   go_wp2_with (first|((with_reducible refine gate_dst (N:=2) rfl ?_);(try (refine gate_guard (by rfl) ?_;dsimp only));refine box_event ?hg (N:=2) ?hd (cs:=#[.int .i64 a0_0,.slice A0_1 l0_1.length c0_1]) (t:=26) ?hr ?_;(case hd=>rfl);(case hg=>rfl);(case hr=>first|(go_simp;done)|(go_simp;rfl));intro gb1225 hg w8 hbox hb;have n0_:=Aside0.mk (below_step (by repeat (first|(with_reducible first|exact HB.out|apply below_alloc|apply pw_below_drewN|apply below_drew1)|exact HB.out)) hb);have n1_:=Aside0.mk (hbox);have n2_:=Aside0.mk ((by rw [hg];exact (below_size (by repeat (first|(with_reducible first|exact HB.out|apply below_alloc|apply pw_below_drewN|apply below_drew1)|exact HB.out))):w.heap.size ≤ gb1225));have n3_:=Aside0.mk ((by rw [hg];exact (below_size (by repeat (first|(with_reducible first|exact HB.out|apply below_alloc|apply pw_below_drewN|apply below_drew1)|exact HB.out))):w.heap.size ≤ gb1225));clear HB;have HB:=n0_;have BK1225:=n1_;have GW1225:=n2_;have GE1225:=n3_;clear n0_ n1_ n2_ n3_;clear hb hbox hg;have hcz9_0:w8.cell? ⟨gb1225,0,none⟩ = some (.int .i64 a0_0):=(blk_cell BK1225.out 0).trans rfl;have hcz9_1:w8.cell? ⟨gb1225,1,none⟩ = some (.slice A0_1 l0_1.length c0_1):=(blk_cell BK1225.out 1).trans rfl;have hfz9_0:=blk_frozen BK1225.out 0;have hfz9_1:=blk_frozen BK1225.out 1)|((with_reducible refine gate_callee (f:=180) rfl ?_);refine goesL_ (some 7) rfl rfl Try.func180 (by kernel_rfl) rfl #[.agg #[.int .i64 a0_0,.slice A0_1 l0_1.length c0_1],.slice A1 l1.length c1] rfl (by (try simp only [List.map_toArray,List.map_cons,List.map_nil]);first|done|rfl|(simp only [List.length_drop,List.length_take];rfl)) ?_;(with_reducible refine (spec_voAsked.calls k a0_0 _ _ l0_1 _ _ l1 true _ ?side1 ?side2 ?side3 ?side4 A3.out).mono ?_);(case side1=>repeat (first|exact (Kd.C_below HR0_1.out HB.out)|(with_reducible refine Kd.C_alloc ?_ _)|(with_reducible refine Kd.C_drewN ?_ _)|(with_reducible refine Kd.C_drew ?_)));(case side2=>exact HC0_1.out);(case side3=>repeat (first|exact (Kd.C_below HR1.out HB.out)|(with_reducible refine Kd.C_alloc ?_ _)|(with_reducible refine Kd.C_drewN ?_ _)|(with_reducible refine Kd.C_drew ?_)));(case side4=>exact HC1.out);rintro e w10 ⟨rfl,hb⟩;refine ⟨_,rfl,?_⟩;have n0_:=Aside0.mk (blk_below (g:=gb1225) (o:=.cells #[.int .i64 a0_0,.slice A0_1 l0_1.length c0_1] 26 (0,0)) (by (with_reducible repeat (first|refine blk_drewN ?_ _|refine blk_drew ?_|refine blk_alloc ?_ _));exact BK1225.out) hb);have n1_:=Aside0.mk (below_step (by repeat (first|(with_reducible first|exact HB.out|apply below_alloc|apply pw_below_drewN|apply below_drew1|refine below_set ?_ GE1225.out)|exact HB.out)) hb);clear BK1225;clear HB;have BK1225:=n0_;have HB:=n1_;clear n0_ n1_;(try clear hb);(try clear hb2);(try clear hk);(try clear hi);have hcz11_0:w10.cell? ⟨gb1225,0,none⟩ = some (.int .i64 a0_0):=(blk_cell BK1225.out 0).trans rfl;have hcz11_1:w10.cell? ⟨gb1225,1,none⟩ = some (.slice A0_1 l0_1.length c0_1):=(blk_cell BK1225.out 1).trans rfl;have hfz11_0:=blk_frozen BK1225.out 0;have hfz11_1:=blk_frozen BK1225.out 1)|(go_at_call 125;(with_reducible refine (spec_unMerge.calls k a0_0 _ _ l0_1 _ _ l1 t1227 t1228 _ ?side1 ?side2 ?side3 ?side4 A6.out).mono ?_);(case side1=>repeat (first|exact (Kd.C_below HR0_1.out HB.out)|(with_reducible refine Kd.C_alloc ?_ _)|(with_reducible refine Kd.C_drewN ?_ _)|(with_reducible refine Kd.C_drew ?_)));(case side2=>exact HC0_1.out);(case side3=>repeat (first|exact (Kd.C_below HR1.out HB.out)|(with_reducible refine Kd.C_alloc ?_ _)|(with_reducible refine Kd.C_drewN ?_ _)|(with_reducible refine Kd.C_drew ?_)));(case side4=>exact HC1.out);rintro e w12 ⟨v1229,rfl,ho0,hb⟩;have n0_:=Aside0.mk (Kd.R_lower ho0 (below_size (by repeat (first|(with_reducible first|exact HB.out|apply below_alloc|apply pw_below_drewN|apply below_drew1|refine below_set ?_ GE1225.out)|exact HB.out))));have n1_:=Aside0.mk (blk_below (g:=gb1225) (o:=.cells #[.int .i64 a0_0,.slice A0_1 l0_1.length c0_1] 26 (0,0)) (by (with_reducible repeat (first|refine blk_drewN ?_ _|refine blk_drew ?_|refine blk_alloc ?_ _));exact BK1225.out) hb);have n2_:=Aside0.mk (below_step (by repeat (first|(with_reducible first|exact HB.out|apply below_alloc|apply pw_below_drewN|apply below_drew1|refine below_set ?_ GE1225.out)|exact HB.out)) hb);clear BK1225;clear HB;have HO1230:=n0_;have BK1225:=n1_;have HB:=n2_;clear n0_ n1_ n2_;(try clear hb);(try clear hb2);(try clear hk);(try clear hi);(try clear ho0);obtain ⟨Ao13,co13,eo13⟩:=Kd.R_slice HO1230.out;subst eo13)|(go_at_call 154;(with_reducible refine (spec_voGood.calls k t1227 _ _ t1228 t1231 _ ?side1 ?side2 A7.out).mono ?_);(case side1=>repeat (first|exact (Kd.R_reads' HO1230.out).2.2|(with_reducible refine Kd.C_alloc ?_ _)|(with_reducible refine Kd.C_drewN ?_ _)|(with_reducible refine Kd.C_drew ?_)));(case side2=>exact (Kd.R_reads' HO1230.out).2.1);rintro e w14 ⟨rfl,hb⟩;have n0_:=Aside0.mk (Kd.R_below (by (with_reducible repeat (first|apply Kd.R_alloc|apply Kd.R_drewN|apply Kd.R_drew));exact HO1230.out) hb);have n1_:=Aside0.mk (blk_below (g:=gb1225) (o:=.cells #[.int .i64 a0_0,.slice A0_1 l0_1.length c0_1] 26 (0,0)) (by (with_reducible repeat (first|refine blk_drewN ?_ _|refine blk_drew ?_|refine blk_alloc ?_ _));exact BK1225.out) hb);have n2_:=Aside0.mk (below_step (by repeat (first|(with_reducible first|exact HB.out|apply below_alloc|apply pw_below_drewN|apply below_drew1|refine below_set ?_ GE1225.out)|exact HB.out)) hb);clear HO1230;clear BK1225;clear HB;have HO1230:=n0_;have BK1225:=n1_;have HB:=n2_;clear n0_ n1_ n2_;(try clear hb);(try clear hb2);(try clear hk);(try clear hi)))
   go_ret
   exact ⟨by first|rfl|(simp [errW_none,errW_some] <;> rfl)|(simp [*,errW_none,errW_some] <;> rfl),by repeat (first|(with_reducible first|exact HB.out|apply below_alloc|apply pw_below_drewN|apply below_drew1|refine below_set ?_ GE1225.out)|exact HB.out)⟩
  ·rw [if_neg c5] at H
   have c5b0:decide (0 < (l1.length:Int)) = false:=decide_eq_false c5
   have c5b1:decide (0 < l1.length) = false:=decide_eq_false (by omega)
   clear c5
   obtain rfl:=Option.some.inj H
   go_enter Try.func124,Try.ntmps124
   go_wp2_with (first|((with_reducible refine gate_dst (N:=2) rfl ?_);(try (refine gate_guard (by rfl) ?_;dsimp only));refine box_event ?hg (N:=2) ?hd (cs:=#[.int .i64 a0_0,.slice A0_1 l0_1.length c0_1]) (t:=26) ?hr ?_;(case hd=>rfl);(case hg=>rfl);(case hr=>first|(go_simp;done)|(go_simp;rfl));intro gb1225 hg w15 hbox hb;have n0_:=Aside0.mk (below_step (by repeat (first|(with_reducible first|exact HB.out|apply below_alloc|apply pw_below_drewN|apply below_drew1)|exact HB.out)) hb);have n1_:=Aside0.mk (hbox);have n2_:=Aside0.mk ((by rw [hg];exact (below_size (by repeat (first|(with_reducible first|exact HB.out|apply below_alloc|apply pw_below_drewN|apply below_drew1)|exact HB.out))):w.heap.size ≤ gb1225));have n3_:=Aside0.mk ((by rw [hg];exact (below_size (by repeat (first|(with_reducible first|exact HB.out|apply below_alloc|apply pw_below_drewN|apply below_drew1)|exact HB.out))):w.heap.size ≤ gb1225));clear HB;have HB:=n0_;have BK1225:=n1_;have GW1225:=n2_;have GE1225:=n3_;clear n0_ n1_ n2_ n3_;clear hb hbox hg;have hcz16_0:w15.cell? ⟨gb1225,0,none⟩ = some (.int .i64 a0_0):=(blk_cell BK1225.out 0).trans rfl;have hcz16_1:w15.cell? ⟨gb1225,1,none⟩ = some (.slice A0_1 l0_1.length c0_1):=(blk_cell BK1225.out 1).trans rfl;have hfz16_0:=blk_frozen BK1225.out 0;have hfz16_1:=blk_frozen BK1225.out 1)|((with_reducible refine gate_callee (f:=180) rfl ?_);refine goesL_ (some 7) rfl rfl Try.func180 (by kernel_rfl) rfl #[.agg #[.int .i64 a0_0,.slice A0_1 l0_1.length c0_1],.slice A1 l1.length c1] rfl (by (try simp only [List.map_toArray,List.map_cons,List.map_nil]);first|done|rfl|(simp only [List.length_drop,List.length_take];rfl)) ?_;(with_reducible refine (spec_voAsked.calls k a0_0 _ _ l0_1 _ _ l1 true _ ?side1 ?side2 ?side3 ?side4 A3.out).mono ?_);(case side1=>repeat (first|exact (Kd.C_below HR0_1.out HB.out)|(with_reducible refine Kd.C_alloc ?_ _)|(with_reducible refine Kd.C_drewN ?_ _)|(with_reducible refine Kd.C_drew ?_)));(case side2=>exact HC0_1.out);(case side3=>repeat (first|exact (Kd.C_below HR1.out HB.out)|(with_reducible refine Kd.C_alloc ?_ _)|(with_reducible refine Kd.C_drewN ?_ _)|(with_reducible refine Kd.C_drew ?_)));(case side4=>exact HC1.out);rintro e w17 ⟨rfl,hb⟩;refine ⟨_,rfl,?_⟩;have n0_:=Aside0.mk (blk_below (g:=gb1225) (o:=.cells #[.int .i64 a0_0,.slice A0_1 l0_1.length c0_1] 26 (0,0)) (by (with_reducible repeat (first|refine blk_drewN ?_ _|refine blk_drew ?_|refine blk_alloc ?_ _));exact BK1225.out) hb);have n1_:=Aside0.mk (below_step (by repeat (first|(with_reducible first|exact HB.out|apply below_alloc|apply pw_below_drewN|apply below_drew1|refine below_set ?_ GE1225.out)|exact HB.out)) hb);clear BK1225;clear HB;have BK1225:=n0_;have HB:=n1_;clear n0_ n1_;(try clear hb);(try clear hb2);(try clear hk);(try clear hi)))
   go_ret
   exact ⟨by first|rfl|(simp [errW_none,errW_some] <;> rfl)|(simp [*,errW_none,errW_some] <;> rfl),by repeat (first|(with_reducible first|exact HB.out|apply below_alloc|apply pw_below_drewN|apply below_drew1|refine below_set ?_ GE1225.out)|exact HB.out)⟩
 ·replace c4:=Bool.eq_false_iff.mpr c4
  subst c4
  have H1:(some false) = some r:=by rw [if_neg (show ¬ (false = true) by decide)] at H;exact H
  clear H
  have H:=H1
  clear H1
  obtain rfl:=Option.some.inj H
  go_enter Try.func124,Try.ntmps124
  go_wp2_with (first|((with_reducible refine gate_dst (N:=2) rfl ?_);(try (refine gate_guard (by rfl) ?_;dsimp only));refine box_event ?hg (N:=2) ?hd (cs:=#[.int .i64 a0_0,.slice A0_1 l0_1.length c0_1]) (t:=26) ?hr ?_;(case hd=>rfl);(case hg=>rfl);(case hr=>first|(go_simp;done)|(go_simp;rfl));intro gb1225 hg w18 hbox hb;have n0_:=Aside0.mk (below_step (by repeat (first|(with_reducible first|exact HB.out|apply below_alloc|apply pw_below_drewN|apply below_drew1)|exact HB.out)) hb);have n1_:=Aside0.mk (hbox);have n2_:=Aside0.mk ((by rw [hg];exact (below_size (by repeat (first|(with_reducible first|exact HB.out|apply below_alloc|apply pw_below_drewN|apply below_drew1)|exact HB.out))):w.heap.size ≤ gb1225));have n3_:=Aside0.mk ((by rw [hg];exact (below_size (by repeat (first|(with_reducible first|exact HB.out|apply below_alloc|apply pw_below_drewN|apply below_drew1)|exact HB.out))):w.heap.size ≤ gb1225));clear HB;have HB:=n0_;have BK1225:=n1_;have GW1225:=n2_;have GE1225:=n3_;clear n0_ n1_ n2_ n3_;clear hb hbox hg;have hcz19_0:w18.cell? ⟨gb1225,0,none⟩ = some (.int .i64 a0_0):=(blk_cell BK1225.out 0).trans rfl;have hcz19_1:w18.cell? ⟨gb1225,1,none⟩ = some (.slice A0_1 l0_1.length c0_1):=(blk_cell BK1225.out 1).trans rfl;have hfz19_0:=blk_frozen BK1225.out 0;have hfz19_1:=blk_frozen BK1225.out 1)|((with_reducible refine gate_callee (f:=180) rfl ?_);refine goesL_ (some 7) rfl rfl Try.func180 (by kernel_rfl) rfl #[.agg #[.int .i64 a0_0,.slice A0_1 l0_1.length c0_1],.slice A1 l1.length c1] rfl (by (try simp only [List.map_toArray,List.map_cons,List.map_nil]);first|done|rfl|(simp only [List.length_drop,List.length_take];rfl)) ?_;(with_reducible refine (spec_voAsked.calls k a0_0 _ _ l0_1 _ _ l1 false _ ?side1 ?side2 ?side3 ?side4 A3.out).mono ?_);(case side1=>repeat (first|exact (Kd.C_below HR0_1.out HB.out)|(with_reducible refine Kd.C_alloc ?_ _)|(with_reducible refine Kd.C_drewN ?_ _)|(with_reducible refine Kd.C_drew ?_)));(case side2=>exact HC0_1.out);(case side3=>repeat (first|exact (Kd.C_below HR1.out HB.out)|(with_reducible refine Kd.C_alloc ?_ _)|(with_reducible refine Kd.C_drewN ?_ _)|(with_reducible refine Kd.C_drew ?_)));(case side4=>exact HC1.out);rintro e w20 ⟨rfl,hb⟩;refine ⟨_,rfl,?_⟩;have n0_:=Aside0.mk (blk_below (g:=gb1225) (o:=.cells #[.int .i64 a0_0,.slice A0_1 l0_1.length c0_1] 26 (0,0)) (by (with_reducible repeat (first|refine blk_drewN ?_ _|refine blk_drew ?_|refine blk_alloc ?_ _));exact BK1225.out) hb);have n1_:=Aside0.mk (below_step (by repeat (first|(with_reducible first|exact HB.out|apply below_alloc|apply pw_below_drewN|apply below_drew1|refine below_set ?_ GE1225.out)|exact HB.out)) hb);clear BK1225;clear HB;have BK1225:=n0_;have HB:=n1_;clear n0_ n1_;(try clear hb);(try clear hb2);(try clear hk);(try clear hi)))
  go_ret
  exact ⟨by first|rfl|(simp [errW_none,errW_some] <;> rfl)|(simp [*,errW_none,errW_some] <;> rfl),by repeat (first|(with_reducible first|exact HB.out|apply below_alloc|apply pw_below_drewN|apply below_drew1|refine below_set ?_ GE1225.out)|exact HB.out)⟩


/-! ### spec_l1Least: function 130 -/
def spec_l1Least.f (a0:Int) (a1:Int):Option (Int):=if a0 < a1 then (some a0) else (some a1)
set_option maxHeartbeats 8000000 in
set_option maxRecDepth 100000 in
theorem spec_l1Least.calls (a0:Int) (a1:Int) (r:Int) (w:World) (h:spec_l1Least.f a0 a1 = some r) :
  Calls Try.prog 130 #[.int .i64 a0,.int .i64 a1] w fun e w'=>e = .returned (.int .i64 r) ∧ Drawn0 w w':=by
 have H:(if a0 < a1 then (some a0) else (some a1)) = some r:=h
 clear h
 by_cases c3:a0 < a1
 ·rw [if_pos c3] at H
  have c3b0:decide (a0 < a1) = true:=decide_eq_true c3
  clear c3
  obtain rfl:=Option.some.inj H
  go_enter Try.func130,Try.ntmps130
  go_wp2
  go_ret
  exact ⟨by first|rfl|(simp;done)|(simp [*];done),by repeat (first|exact Drawn0.refl _|apply Drawn0.step)⟩
 ·rw [if_neg c3] at H
  have c3b0:decide (a0 < a1) = false:=decide_eq_false c3
  clear c3
  obtain rfl:=Option.some.inj H
  go_enter Try.func130,Try.ntmps130
  go_wp2
  go_ret
  exact ⟨by first|rfl|(simp;done)|(simp [*];done),by repeat (first|exact Drawn0.refl _|apply Drawn0.step)⟩


/-! ### spec_l1Most: function 131 -/
def spec_l1Most.f (a0:Int) (a1:Int):Option (Int):=if a0 > a1 then (some a0) else (some a1)
set_option maxHeartbeats 8000000 in
set_option maxRecDepth 100000 in
theorem spec_l1Most.calls (a0:Int) (a1:Int) (r:Int) (w:World) (h:spec_l1Most.f a0 a1 = some r) :
  Calls Try.prog 131 #[.int .i64 a0,.int .i64 a1] w fun e w'=>e = .returned (.int .i64 r) ∧ Drawn0 w w':=by
 have H:(if a0 > a1 then (some a0) else (some a1)) = some r:=h
 clear h
 by_cases c3:a0 > a1
 ·rw [if_pos c3] at H
  have c3b0:decide (a1 < a0) = true:=decide_eq_true c3
  clear c3
  obtain rfl:=Option.some.inj H
  go_enter Try.func131,Try.ntmps131
  go_wp2
  go_ret
  exact ⟨by first|rfl|(simp;done)|(simp [*];done),by repeat (first|exact Drawn0.refl _|apply Drawn0.step)⟩
 ·rw [if_neg c3] at H
  have c3b0:decide (a1 < a0) = false:=decide_eq_false c3
  clear c3
  obtain rfl:=Option.some.inj H
  go_enter Try.func131,Try.ntmps131
  go_wp2
  go_ret
  exact ⟨by first|rfl|(simp;done)|(simp [*];done),by repeat (first|exact Drawn0.refl _|apply Drawn0.step)⟩


/-! ### spec_BestPartners: function 61 -/
mutual
def spec_BestPartners.j0:Nat → Int → Bool → Int → List Int → Option (List Int × Bool)
 | 0,_,_,_,_=>none
 | k + 1,x1,x24,x1433000,x1433001=>if x24 = true then (some (([]:List Int),false)) else (spec_BestPartners.l0 k x1 ([]:List Int) 0 (x1433001.length:Int) 0 x1433000 x1433001)
def spec_BestPartners.l0:Nat → Int → List Int → Int → Int → Int → Int → List Int → Option (List Int × Bool)
 | 0,_,_,_,_,_,_,_=>none
 | k + 1,x1,x6,x7,x27,x28,x1433000,x1433001=>if x28 < x27 then ((spec_l1Least.f x28 x1).bind fun t1434=>((spec_l1Most.f x28 x1).bind fun t1435=>((some (([t1434,t1435]:List Int):List Int)).bind fun y1436=>(if x28 = x1 then (spec_BestPartners.j2 k x1 x6 x7 x28 y1436 x27 x28 true x1433000 x1433001) else ((spec_unSet.f k x1433000 x1433001 y1436).bind fun t1439=>(spec_BestPartners.j2 k x1 x6 x7 x28 y1436 x27 x28 (!t1439) x1433000 x1433001)))))) else (if (x6.length:Int) = 0 then (some (([]:List Int),false)) else (some (x6,true)))
def spec_BestPartners.j2:Nat → Int → List Int → Int → Int → List Int → Int → Int → Bool → Int → List Int → Option (List Int × Bool)
 | 0,_,_,_,_,_,_,_,_,_,_=>none
 | k + 1,x1,x6,x7,x8,x9,x27,x28,x46,x1433000,x1433001=>if x46 = true then (spec_BestPartners.l0 k x1 x6 x7 x27 (wrap64 (x28 + 1)) x1433000 x1433001) else ((spec_unPivots.f k x1433000 x1433001 x9).bind fun bt1440=>((spec_unMerge.f k x1433000 x1433001 x9).bind fun bt1442=>(if 1 ≤ (x9.length:Int) then ((spec_unPivots.f k bt1442.1 bt1442.2 (x9.take 1)).bind fun bt1450=>(if (x6.length:Int) = 0 then (spec_BestPartners.j3 k x1 x6 x7 x8 bt1440.2 (wrap64 ((wrap64 (bt1450.1 * (x1433001.length:Int))) - bt1440.1)) x27 x28 true x1433000 x1433001) else (spec_BestPartners.j3 k x1 x6 x7 x8 bt1440.2 (wrap64 ((wrap64 (bt1450.1 * (x1433001.length:Int))) - bt1440.1)) x27 x28 (decide ((wrap64 ((wrap64 (bt1450.1 * (x1433001.length:Int))) - bt1440.1)) > x7)) x1433000 x1433001))) else (none))))
def spec_BestPartners.j3:Nat → Int → List Int → Int → Int → Int → Int → Int → Int → Bool → Int → List Int → Option (List Int × Bool)
 | 0,_,_,_,_,_,_,_,_,_,_,_=>none
 | k + 1,x1,x6,x7,x8,x11,x14,x27,x28,x76,x1433000,x1433001=>if x76 = true then (if x11 > 0 then (if ([]:List Int).length < 17592186044416 then (spec_BestPartners.l0 k x1 (([]:List Int) ++ [x8]) x14 x27 (wrap64 (x28 + 1)) x1433000 x1433001) else (none)) else (spec_BestPartners.l0 k x1 ([]:List Int) x14 x27 (wrap64 (x28 + 1)) x1433000 x1433001)) else (if x14 = x7 then (if x11 > 0 then (if x6.length < 17592186044416 then (spec_BestPartners.l0 k x1 (x6 ++ [x8]) x7 x27 (wrap64 (x28 + 1)) x1433000 x1433001) else (none)) else (spec_BestPartners.l0 k x1 x6 x7 x27 (wrap64 (x28 + 1)) x1433000 x1433001)) else (spec_BestPartners.l0 k x1 x6 x7 x27 (wrap64 (x28 + 1)) x1433000 x1433001))
end
def spec_BestPartners.f (k:Nat) (a0_0:Int) (l0_1:List Int) (a1:Int):Option (List Int × Bool):=(spec_pwMember.f k a0_0 l0_1 a1).bind fun t1433=>(if t1433 = true then (spec_BestPartners.j0 k a1 (decide ((l0_1.length:Int) < 2)) a0_0 l0_1) else (spec_BestPartners.j0 k a1 true a0_0 l0_1))
theorem spec_BestPartners.mono_l:∀ k,(∀ y0 y1 y2 y3,LeO (spec_BestPartners.j0 k y0 y1 y2 y3) (spec_BestPartners.j0 (k + 1) y0 y1 y2 y3)) ∧ (∀ y0 y1 y2 y3 y4 y5 y6,LeO (spec_BestPartners.l0 k y0 y1 y2 y3 y4 y5 y6) (spec_BestPartners.l0 (k + 1) y0 y1 y2 y3 y4 y5 y6)) ∧ (∀ y0 y1 y2 y3 y4 y5 y6 y7 y8 y9,LeO (spec_BestPartners.j2 k y0 y1 y2 y3 y4 y5 y6 y7 y8 y9) (spec_BestPartners.j2 (k + 1) y0 y1 y2 y3 y4 y5 y6 y7 y8 y9)) ∧ (∀ y0 y1 y2 y3 y4 y5 y6 y7 y8 y9 y10,LeO (spec_BestPartners.j3 k y0 y1 y2 y3 y4 y5 y6 y7 y8 y9 y10) (spec_BestPartners.j3 (k + 1) y0 y1 y2 y3 y4 y5 y6 y7 y8 y9 y10))
 | 0=>⟨fun _ _ _ _ r h=>by simp [spec_BestPartners.j0] at h,fun _ _ _ _ _ _ _ r h=>by simp [spec_BestPartners.l0] at h,fun _ _ _ _ _ _ _ _ _ _ r h=>by simp [spec_BestPartners.j2] at h,fun _ _ _ _ _ _ _ _ _ _ _ r h=>by simp [spec_BestPartners.j3] at h⟩
 | k + 1=>by
  obtain ⟨ih0,ih1,ih2,ih3⟩:=spec_BestPartners.mono_l k
  refine ⟨?_,?_,?_,?_⟩
  ·intro y0 y1 y2 y3
   unfold spec_BestPartners.j0
   repeat' first
   | (with_reducible exact ih0 _ _ _ _)
   | (with_reducible exact ih1 _ _ _ _ _ _ _)
   | (with_reducible exact ih2 _ _ _ _ _ _ _ _ _ _)
   | (with_reducible exact ih3 _ _ _ _ _ _ _ _ _ _ _)
   | (with_reducible exact spec_pwMember.mono _ _ _ _)
   | (with_reducible exact spec_unMerge.mono _ _ _ _)
   | (with_reducible exact spec_unPivots.mono _ _ _ _)
   | (with_reducible exact spec_unSet.mono _ _ _ _)
   | (with_reducible exact LeO.refl _)
   | (with_reducible exact LeO.none _)
   | (with_reducible refine LeO.ite ?_ ?_)
   | (with_reducible refine LeO.bind ?_ (fun _=>?_))
   | exact ih0 _ _ _ _
   | exact ih1 _ _ _ _ _ _ _
   | exact ih2 _ _ _ _ _ _ _ _ _ _
   | exact ih3 _ _ _ _ _ _ _ _ _ _ _
   | exact spec_pwMember.mono _ _ _ _
   | exact spec_unMerge.mono _ _ _ _
   | exact spec_unPivots.mono _ _ _ _
   | exact spec_unSet.mono _ _ _ _
   | exact LeO.none _
   | refine LeO.ite ?_ ?_
   | refine LeO.bind ?_ (fun _=>?_)
  ·intro y0 y1 y2 y3 y4 y5 y6
   unfold spec_BestPartners.l0
   repeat' first
   | (with_reducible exact ih0 _ _ _ _)
   | (with_reducible exact ih1 _ _ _ _ _ _ _)
   | (with_reducible exact ih2 _ _ _ _ _ _ _ _ _ _)
   | (with_reducible exact ih3 _ _ _ _ _ _ _ _ _ _ _)
   | (with_reducible exact spec_pwMember.mono _ _ _ _)
   | (with_reducible exact spec_unMerge.mono _ _ _ _)
   | (with_reducible exact spec_unPivots.mono _ _ _ _)
   | (with_reducible exact spec_unSet.mono _ _ _ _)
   | (with_reducible exact LeO.refl _)
   | (with_reducible exact LeO.none _)
   | (with_reducible refine LeO.ite ?_ ?_)
   | (with_reducible refine LeO.bind ?_ (fun _=>?_))
   | exact ih0 _ _ _ _
   | exact ih1 _ _ _ _ _ _ _
   | exact ih2 _ _ _ _ _ _ _ _ _ _
   | exact ih3 _ _ _ _ _ _ _ _ _ _ _
   | exact spec_pwMember.mono _ _ _ _
   | exact spec_unMerge.mono _ _ _ _
   | exact spec_unPivots.mono _ _ _ _
   | exact spec_unSet.mono _ _ _ _
   | exact LeO.none _
   | refine LeO.ite ?_ ?_
   | refine LeO.bind ?_ (fun _=>?_)
  ·intro y0 y1 y2 y3 y4 y5 y6 y7 y8 y9
   unfold spec_BestPartners.j2
   repeat' first
   | (with_reducible exact ih0 _ _ _ _)
   | (with_reducible exact ih1 _ _ _ _ _ _ _)
   | (with_reducible exact ih2 _ _ _ _ _ _ _ _ _ _)
   | (with_reducible exact ih3 _ _ _ _ _ _ _ _ _ _ _)
   | (with_reducible exact spec_pwMember.mono _ _ _ _)
   | (with_reducible exact spec_unMerge.mono _ _ _ _)
   | (with_reducible exact spec_unPivots.mono _ _ _ _)
   | (with_reducible exact spec_unSet.mono _ _ _ _)
   | (with_reducible exact LeO.refl _)
   | (with_reducible exact LeO.none _)
   | (with_reducible refine LeO.ite ?_ ?_)
   | (with_reducible refine LeO.bind ?_ (fun _=>?_))
   | exact ih0 _ _ _ _
   | exact ih1 _ _ _ _ _ _ _
   | exact ih2 _ _ _ _ _ _ _ _ _ _
   | exact ih3 _ _ _ _ _ _ _ _ _ _ _
   | exact spec_pwMember.mono _ _ _ _
   | exact spec_unMerge.mono _ _ _ _
   | exact spec_unPivots.mono _ _ _ _
   | exact spec_unSet.mono _ _ _ _
   | exact LeO.none _
   | refine LeO.ite ?_ ?_
   | refine LeO.bind ?_ (fun _=>?_)
  ·intro y0 y1 y2 y3 y4 y5 y6 y7 y8 y9 y10
   unfold spec_BestPartners.j3
   repeat' first
   | (with_reducible exact ih0 _ _ _ _)
   | (with_reducible exact ih1 _ _ _ _ _ _ _)
   | (with_reducible exact ih2 _ _ _ _ _ _ _ _ _ _)
   | (with_reducible exact ih3 _ _ _ _ _ _ _ _ _ _ _)
   | (with_reducible exact spec_pwMember.mono _ _ _ _)
   | (with_reducible exact spec_unMerge.mono _ _ _ _)
   | (with_reducible exact spec_unPivots.mono _ _ _ _)
   | (with_reducible exact spec_unSet.mono _ _ _ _)
   | (with_reducible exact LeO.refl _)
   | (with_reducible exact LeO.none _)
   | (with_reducible refine LeO.ite ?_ ?_)
   | (with_reducible refine LeO.bind ?_ (fun _=>?_))
   | exact ih0 _ _ _ _
   | exact ih1 _ _ _ _ _ _ _
   | exact ih2 _ _ _ _ _ _ _ _ _ _
   | exact ih3 _ _ _ _ _ _ _ _ _ _ _
   | exact spec_pwMember.mono _ _ _ _
   | exact spec_unMerge.mono _ _ _ _
   | exact spec_unPivots.mono _ _ _ _
   | exact spec_unSet.mono _ _ _ _
   | exact LeO.none _
   | refine LeO.ite ?_ ?_
   | refine LeO.bind ?_ (fun _=>?_)
theorem spec_BestPartners.mono:∀ a0 a1 a2 k,LeO (spec_BestPartners.f k a0 a1 a2) (spec_BestPartners.f (k + 1) a0 a1 a2):=by
 intro a0 a1 a2 k
 obtain ⟨ih0,ih1,ih2,ih3⟩:=spec_BestPartners.mono_l k
 unfold spec_BestPartners.f
 repeat' first
   | (with_reducible exact ih0 _ _ _ _)
   | (with_reducible exact ih1 _ _ _ _ _ _ _)
   | (with_reducible exact ih2 _ _ _ _ _ _ _ _ _ _)
   | (with_reducible exact ih3 _ _ _ _ _ _ _ _ _ _ _)
   | (with_reducible exact spec_pwMember.mono _ _ _ _)
   | (with_reducible exact spec_unMerge.mono _ _ _ _)
   | (with_reducible exact spec_unPivots.mono _ _ _ _)
   | (with_reducible exact spec_unSet.mono _ _ _ _)
   | (with_reducible exact LeO.refl _)
   | (with_reducible exact LeO.none _)
   | (with_reducible refine LeO.ite ?_ ?_)
   | (with_reducible refine LeO.bind ?_ (fun _=>?_))
   | exact ih0 _ _ _ _
   | exact ih1 _ _ _ _ _ _ _
   | exact ih2 _ _ _ _ _ _ _ _ _ _
   | exact ih3 _ _ _ _ _ _ _ _ _ _ _
   | exact spec_pwMember.mono _ _ _ _
   | exact spec_unMerge.mono _ _ _ _
   | exact spec_unPivots.mono _ _ _ _
   | exact spec_unSet.mono _ _ _ _
   | exact LeO.none _
   | refine LeO.ite ?_ ?_
   | refine LeO.bind ?_ (fun _=>?_)
def spec_BestPartners.T11:Bool × List (List Nat × List Nat):=(true,[([],[]),([],[]),([0,1],[0,1]),([],[]),([3],[3]),([2,4,2],[2,4]),([5],[5]),([6],[6]),([6],[6]),([7,5,0,1,2,3,4,5,6,7],[7]),([8,9,0,1,2,3,4,5,6,7,8,9],[8])])
def spec_BestPartners.B11:List Nat:=[0,0,3,0,8,31,63,127,127,255,1023]
theorem spec_BestPartners.tab11:rtab .any (opsOf Try.f61 11) = spec_BestPartners.T11:=by kernel_rfl
theorem spec_BestPartners.bits11:waitsOk spec_BestPartners.T11.2 spec_BestPartners.B11 = true:=by kernel_rfl
set_option maxHeartbeats 8000000 in
set_option maxRecDepth 100000 in
theorem spec_BestPartners.calls (k:Nat) (a0_0:Int) (A0_1:Option Addr) (c0_1:Nat) (l0_1:List Int) (a1:Int) (r1:List Int) (r2:Bool) (w:World) (hr0_1:Kd.C (Kd.int .i64) w A0_1 l0_1.length l0_1) (hc0_1:l0_1.length ≤ c0_1) (h:spec_BestPartners.f k a0_0 l0_1 a1 = some (r1,r2)) :
  Calls Try.prog 61 #[.agg #[.int .i64 a0_0,.slice A0_1 l0_1.length c0_1],.int .i64 a1] w fun e w'=>∃ v0_:Value,e = .returned (.tuple #[v0_,.bool r2]) ∧ Kd.R (Kd.int .i64) 3 w' w.heap.size (fun _=>True) v0_ r1 ∧ Below w.heap.size w w':=by
 have hu26:=Try.underlying26
 have HR0_1:=Aside0.mk hr0_1
 have HC0_1:=Aside0.mk hc0_1
 clear hr0_1 hc0_1
 have HB:=Aside0.mk (Below.refl w.heap.size w)
 have H:((spec_pwMember.f k a0_0 l0_1 a1).bind fun t1433=>(if t1433 = true then (spec_BestPartners.j0 k a1 (decide ((l0_1.length:Int) < 2)) a0_0 l0_1) else (spec_BestPartners.j0 k a1 true a0_0 l0_1))) = some (r1,r2):=h
 clear h
 have HC3:=Aside0.mk H
 clear H
 go_enter Try.func61,Try.ntmps61
 go_upto_region 1 with (first|((with_reducible refine gate_dst (N:=2) rfl ?_);(try (refine gate_guard (by rfl) ?_;dsimp only));refine box_event ?hg (N:=2) ?hd (cs:=#[.int .i64 a0_0,.slice A0_1 l0_1.length c0_1]) (t:=26) ?hr ?_;(case hd=>rfl);(case hg=>rfl);(case hr=>first|(go_simp;done)|(go_simp;rfl));intro gb1432 hg w4 hbox hb;have n0_:=Aside0.mk (below_step (by repeat (first|(with_reducible first|exact HB.out|apply below_alloc|apply pw_below_drewN|apply below_drew1)|exact HB.out)) hb);have n1_:=Aside0.mk (hbox);have n2_:=Aside0.mk ((by rw [hg];exact (below_size (by repeat (first|(with_reducible first|exact HB.out|apply below_alloc|apply pw_below_drewN|apply below_drew1)|exact HB.out))):w.heap.size ≤ gb1432));have n3_:=Aside0.mk ((by rw [hg];exact (below_size (by repeat (first|(with_reducible first|exact HB.out|apply below_alloc|apply pw_below_drewN|apply below_drew1)|exact HB.out))):w.heap.size ≤ gb1432));clear HB;have HB:=n0_;have BK1432:=n1_;have GW1432:=n2_;have GE1432:=n3_;clear n0_ n1_ n2_ n3_;clear hb hbox hg))
 (try simp only [Act.put,List.setIfInBounds_toArray,List.set_cons_zero,List.set_cons_succ])
 go_cut [24] (fun v24 wc=>∃ (kq:Nat) (x24_2:Bool),v24 = .bool x24_2 ∧ Aside0 (spec_BestPartners.j0 kq a1 x24_2 a0_0 l0_1 = some (r1,r2)) ∧ Aside0 (kq ≤ k) ∧ Aside0 (wc.heap[gb1432]? = some (.cells #[.int .i64 a0_0,(.slice A0_1 l0_1.length c0_1)] 26 (0,0))) ∧ Aside0 (Below w.heap.size w wc))
 case first =>
  have H:=HC3.out
  clear HC3
  replace H:=Option.bind_eq_some_iff.mp H
  obtain ⟨t1433,A50,H⟩:=H
  replace H:(if t1433 = true then (spec_BestPartners.j0 k a1 (decide ((l0_1.length:Int) < 2)) a0_0 l0_1) else (spec_BestPartners.j0 k a1 true a0_0 l0_1)) = some (r1,r2):=H
  have A5:=Aside0.mk A50
  clear A50
  by_cases c6:t1433 = true
  ·subst c6
   have H1:(spec_BestPartners.j0 k a1 (decide ((l0_1.length:Int) < 2)) a0_0 l0_1) = some (r1,r2):=by rw [if_pos rfl] at H;exact H
   clear H
   have H:=H1
   clear H1
   have H':=Aside0.mk H
   clear H
   have hcz7_0:w4.cell? ⟨gb1432,0,none⟩ = some (.int .i64 a0_0):=(blk_cell BK1432.out 0).trans rfl
   have hcz7_1:w4.cell? ⟨gb1432,1,none⟩ = some (.slice A0_1 l0_1.length c0_1):=(blk_cell BK1432.out 1).trans rfl
   have hfz7_0:=blk_frozen BK1432.out 0
   have hfz7_1:=blk_frozen BK1432.out 1
   go_wp2_with (first|((with_reducible refine gate_callee (f:=91) rfl ?_);refine goesL_ (some 17) rfl rfl Try.func91 (by kernel_rfl) rfl #[.agg #[.int .i64 a0_0,.slice A0_1 l0_1.length c0_1],.int .i64 a1] rfl (by (try simp only [List.map_toArray,List.map_cons,List.map_nil]);first|done|rfl|(simp only [List.length_drop,List.length_take];rfl)) ?_;(with_reducible refine (spec_pwMember.calls k a0_0 _ _ l0_1 a1 true _ ?side1 ?side2 A5.out).mono ?_);(case side1=>repeat (first|exact (Kd.C_below HR0_1.out HB.out)|(with_reducible refine Kd.C_alloc ?_ _)|(with_reducible refine Kd.C_drewN ?_ _)|(with_reducible refine Kd.C_drew ?_)));(case side2=>exact HC0_1.out);rintro e w8 ⟨rfl,hb⟩;refine ⟨_,rfl,?_⟩;have n0_:=Aside0.mk (blk_below (g:=gb1432) (o:=.cells #[.int .i64 a0_0,.slice A0_1 l0_1.length c0_1] 26 (0,0)) (by (with_reducible repeat (first|refine blk_drewN ?_ _|refine blk_drew ?_|refine blk_alloc ?_ _));exact BK1432.out) hb);have n1_:=Aside0.mk (below_step (by repeat (first|(with_reducible first|exact HB.out|apply below_alloc|apply pw_below_drewN|apply below_drew1|refine below_set ?_ GE1432.out)|exact HB.out)) hb);clear BK1432;clear HB;have BK1432:=n0_;have HB:=n1_;clear n0_ n1_;(try clear hb);(try clear hb2);(try clear hk);(try clear hi);have hcz9_0:w8.cell? ⟨gb1432,0,none⟩ = some (.int .i64 a0_0):=(blk_cell BK1432.out 0).trans rfl;have hcz9_1:w8.cell? ⟨gb1432,1,none⟩ = some (.slice A0_1 l0_1.length c0_1):=(blk_cell BK1432.out 1).trans rfl;have hfz9_0:=blk_frozen BK1432.out 0;have hfz9_1:=blk_frozen BK1432.out 1))
   go_meet
   case rel=>exact ⟨_,(decide ((l0_1.length:Int) < 2)),(by first|rfl|(simp;done)|(simp [*];done)),H',⟨by first|omega|exact Nat.le_refl _⟩,⟨by (with_reducible repeat (first|refine blk_drewN ?_ _|refine blk_drew ?_|refine blk_alloc ?_ _));exact BK1432.out⟩,⟨by repeat (first|(with_reducible first|exact HB.out|apply below_alloc|apply pw_below_drewN|apply below_drew1|refine below_set ?_ GE1432.out)|exact HB.out)⟩⟩
  ·replace c6:=Bool.eq_false_iff.mpr c6
   subst c6
   have H1:(spec_BestPartners.j0 k a1 true a0_0 l0_1) = some (r1,r2):=by rw [if_neg (show ¬ (false = true) by decide)] at H;exact H
   clear H
   have H:=H1
   clear H1
   have H':=Aside0.mk H
   clear H
   have hcz10_0:w4.cell? ⟨gb1432,0,none⟩ = some (.int .i64 a0_0):=(blk_cell BK1432.out 0).trans rfl
   have hcz10_1:w4.cell? ⟨gb1432,1,none⟩ = some (.slice A0_1 l0_1.length c0_1):=(blk_cell BK1432.out 1).trans rfl
   have hfz10_0:=blk_frozen BK1432.out 0
   have hfz10_1:=blk_frozen BK1432.out 1
   go_wp2_with (first|((with_reducible refine gate_callee (f:=91) rfl ?_);refine goesL_ (some 17) rfl rfl Try.func91 (by kernel_rfl) rfl #[.agg #[.int .i64 a0_0,.slice A0_1 l0_1.length c0_1],.int .i64 a1] rfl (by (try simp only [List.map_toArray,List.map_cons,List.map_nil]);first|done|rfl|(simp only [List.length_drop,List.length_take];rfl)) ?_;(with_reducible refine (spec_pwMember.calls k a0_0 _ _ l0_1 a1 false _ ?side1 ?side2 A5.out).mono ?_);(case side1=>repeat (first|exact (Kd.C_below HR0_1.out HB.out)|(with_reducible refine Kd.C_alloc ?_ _)|(with_reducible refine Kd.C_drewN ?_ _)|(with_reducible refine Kd.C_drew ?_)));(case side2=>exact HC0_1.out);rintro e w11 ⟨rfl,hb⟩;refine ⟨_,rfl,?_⟩;have n0_:=Aside0.mk (blk_below (g:=gb1432) (o:=.cells #[.int .i64 a0_0,.slice A0_1 l0_1.length c0_1] 26 (0,0)) (by (with_reducible repeat (first|refine blk_drewN ?_ _|refine blk_drew ?_|refine blk_alloc ?_ _));exact BK1432.out) hb);have n1_:=Aside0.mk (below_step (by repeat (first|(with_reducible first|exact HB.out|apply below_alloc|apply pw_below_drewN|apply below_drew1|refine below_set ?_ GE1432.out)|exact HB.out)) hb);clear BK1432;clear HB;have BK1432:=n0_;have HB:=n1_;clear n0_ n1_;(try clear hb);(try clear hb2);(try clear hk);(try clear hi)))
   go_meet
   case rel=>exact ⟨_,(true),(by first|rfl|(simp;done)|(simp [*];done)),H',⟨by first|omega|exact Nat.le_refl _⟩,⟨by (with_reducible repeat (first|refine blk_drewN ?_ _|refine blk_drew ?_|refine blk_alloc ?_ _));exact BK1432.out⟩,⟨by repeat (first|(with_reducible first|exact HB.out|apply below_alloc|apply pw_below_drewN|apply below_drew1|refine below_set ?_ GE1432.out)|exact HB.out)⟩⟩
 case rest =>
  clear HC3
  try clear p2
  try clear c6
  try clear c9
  try clear hcz10_0
  try clear hcz10_1
  try clear hcz7_0
  try clear hcz7_1
  try clear hcz9_0
  try clear hcz9_1
  try clear hfz10_0
  try clear hfz10_1
  try clear hfz7_0
  try clear hfz7_1
  try clear hfz9_0
  try clear hfz9_1
  obtain ⟨kq,x24_2,rfl,HA,HJ2,BK1432,HB⟩:=hcut
  cases kq with
  | zero=>exact absurd HA.out (by simp [spec_BestPartners.j0])
  | succ kj2 =>
   have H:=HA.out
   clear HA
   simp only [spec_BestPartners.j0] at H
   by_cases c12:x24_2 = true
   ·subst c12
    have H1:(some (([]:List Int),false)) = some (r1,r2):=by rw [if_pos rfl] at H;exact H
    clear H
    have H:=H1
    clear H1
    simp only [Option.some.injEq,Prod.mk.injEq] at H
    obtain ⟨rfl,rfl⟩:=H
    go_wp2
    go_ret2
    exact ⟨_,by first|rfl|(simp [errW_none,errW_some] <;> rfl)|(simp [*,errW_none,errW_some] <;> rfl),by first|exact Kd.R_nil _ _ _ _ _|exact Kd.N_nil _ _ _ _ _|exact Kd.V_nil _ _ _ _ _|exact Kd.Q_nil _ _ _ _ _|exact Kd.S_nil _ _ _ _ _,by repeat (first|(with_reducible first|exact HB.out|apply below_alloc|apply pw_below_drewN|apply below_drew1|refine below_set ?_ GE1432.out)|exact HB.out)⟩
   ·replace c12:=Bool.eq_false_iff.mpr c12
    subst c12
    have H1:(spec_BestPartners.l0 kj2 a1 ([]:List Int) 0 (l0_1.length:Int) 0 a0_0 l0_1) = some (r1,r2):=by rw [if_neg (show ¬ (false = true) by decide)] at H;exact H
    clear H
    have H:=H1
    clear H1
    have H':=Aside0.mk H
    clear H
    have hcz13_0:wc.cell? ⟨gb1432,0,none⟩ = some (.int .i64 a0_0):=(blk_cell BK1432.out 0).trans rfl
    have hcz13_1:wc.cell? ⟨gb1432,1,none⟩ = some (.slice A0_1 l0_1.length c0_1):=(blk_cell BK1432.out 1).trans rfl
    have hfz13_0:=blk_frozen BK1432.out 0
    have hfz13_1:=blk_frozen BK1432.out 1
    go_wp2
    go_loopg [6,7,28] kj2 (fun kq v6 v7 v28 w'=>∃ (x6_2:List Int) (x7_2:Int) (x28_2:Int),v7 = .int .i64 x7_2 ∧ v28 = .int .i64 x28_2 ∧ Aside0 (spec_BestPartners.l0 kq a1 x6_2 x7_2 (l0_1.length:Int) x28_2 a0_0 l0_1 = some (r1,r2)) ∧ Aside0 (kq ≤ kj2) ∧ Aside0 (Kd.R (Kd.int .i64) 3 w' w.heap.size (fun _=>True) v6 x6_2) ∧ Aside0 (w'.heap[gb1432]? = some (.cells #[.int .i64 a0_0,(.slice A0_1 l0_1.length c0_1)] 26 (0,0))) ∧ Aside0 (Below w.heap.size w w'))
    case atStart=>exact ⟨(([]:List Int)),(0),(0),(by first|rfl|(simp;done)|(simp [*];done)),(by first|rfl|(simp;done)|(simp [*];done)),H',⟨Nat.le_refl _⟩,⟨by first|exact Kd.R_nil _ _ _ _ _|exact Kd.N_nil _ _ _ _ _|exact Kd.V_nil _ _ _ _ _|exact Kd.Q_nil _ _ _ _ _|exact Kd.S_nil _ _ _ _ _⟩,⟨by (with_reducible repeat (first|refine blk_drewN ?_ _|refine blk_drew ?_|refine blk_alloc ?_ _));exact BK1432.out⟩,⟨by repeat (first|(with_reducible first|exact HB.out|apply below_alloc|apply pw_below_drewN|apply below_drew1|refine below_set ?_ GE1432.out)|exact HB.out)⟩⟩
    case round =>
     clear H'
     try clear c1
     try clear p2
     try clear c6
     try clear c9
     try clear c12
     try clear hcz10_0
     try clear hcz10_1
     try clear hcz13_0
     try clear hcz13_1
     try clear hcz7_0
     try clear hcz7_1
     try clear hcz9_0
     try clear hcz9_1
     try clear hfz10_0
     try clear hfz10_1
     try clear hfz13_0
     try clear hfz13_1
     try clear hfz7_0
     try clear hfz7_1
     try clear hfz9_0
     try clear hfz9_1
     try clear p2
     obtain ⟨x6_2,x7_2,x28_2,rfl,rfl,HA,HK2,HO_6,BK1432,HB⟩:=hrel
     cases gk with
     | zero=>exact absurd HA.out (by simp [spec_BestPartners.l0])
     | succ k2 =>
      have H:=HA.out
      clear HA
      simp only [spec_BestPartners.l0] at H
      by_cases c14:x28_2 < (l0_1.length:Int)
      ·rw [if_pos c14] at H
       have c14b0:decide (x28_2 < (l0_1.length:Int)) = true:=decide_eq_true c14
       clear c14
       replace H:=Option.bind_eq_some_iff.mp H
       obtain ⟨t1434,A150,H⟩:=H
       replace H:((spec_l1Most.f x28_2 a1).bind fun t1435=>((some (([t1434,t1435]:List Int):List Int)).bind fun y1436=>(if x28_2 = a1 then (spec_BestPartners.j2 k2 a1 x6_2 x7_2 x28_2 y1436 (l0_1.length:Int) x28_2 true a0_0 l0_1) else ((spec_unSet.f k2 a0_0 l0_1 y1436).bind fun t1439=>(spec_BestPartners.j2 k2 a1 x6_2 x7_2 x28_2 y1436 (l0_1.length:Int) x28_2 (!t1439) a0_0 l0_1))))) = some (r1,r2):=H
       have A15:=Aside0.mk A150
       clear A150
       replace H:=Option.bind_eq_some_iff.mp H
       obtain ⟨t1435,A160,H⟩:=H
       replace H:((some (([t1434,t1435]:List Int):List Int)).bind fun y1436=>(if x28_2 = a1 then (spec_BestPartners.j2 k2 a1 x6_2 x7_2 x28_2 y1436 (l0_1.length:Int) x28_2 true a0_0 l0_1) else ((spec_unSet.f k2 a0_0 l0_1 y1436).bind fun t1439=>(spec_BestPartners.j2 k2 a1 x6_2 x7_2 x28_2 y1436 (l0_1.length:Int) x28_2 (!t1439) a0_0 l0_1)))) = some (r1,r2):=H
       have A16:=Aside0.mk A160
       clear A160
       obtain ⟨y1436,hy1436⟩:∃ y_:List Int,y_ = (([t1434,t1435]:List Int)):=⟨_,rfl⟩
       replace H:(if x28_2 = a1 then (spec_BestPartners.j2 k2 a1 x6_2 x7_2 x28_2 y1436 (l0_1.length:Int) x28_2 true a0_0 l0_1) else ((spec_unSet.f k2 a0_0 l0_1 y1436).bind fun t1439=>(spec_BestPartners.j2 k2 a1 x6_2 x7_2 x28_2 y1436 (l0_1.length:Int) x28_2 (!t1439) a0_0 l0_1))) = some (r1,r2):=by first|(rw [hy1436];with_reducible exact H)|(have H2_:=(Option.bind_some _ _).symm.trans H;rw [hy1436];with_reducible exact H2_)|(have H2_:=(Option.bind_some _ _).symm.trans H;with_reducible exact H2_)|with_reducible exact H|(rw [hy1436];exact H)|exact H
       have Ny1436:=Aside0.mk hy1436
       clear hy1436
       have HC17:=Aside0.mk H
       clear H
       go_upto_region 9 with (first|((with_reducible refine gate_callee (f:=130) rfl ?_);refine goesL_ (some 33) rfl rfl Try.func130 (by kernel_rfl) rfl #[.int .i64 x28_2,.int .i64 a1] rfl (by (try simp only [List.map_toArray,List.map_cons,List.map_nil]);first|done|rfl|(simp only [List.length_drop,List.length_take];rfl)) ?_;(with_reducible refine (spec_l1Least.calls x28_2 a1 t1434 _ A15.out).mono ?_);rintro e w' ⟨rfl,⟨nd,rfl⟩⟩;refine ⟨_,rfl,?_⟩)|((with_reducible refine gate_callee (f:=131) rfl ?_);refine goesL_ (some 36) rfl rfl Try.func131 (by kernel_rfl) rfl #[.int .i64 x28_2,.int .i64 a1] rfl (by (try simp only [List.map_toArray,List.map_cons,List.map_nil]);first|done|rfl|(simp only [List.length_drop,List.length_take];rfl)) ?_;(with_reducible refine (spec_l1Most.calls x28_2 a1 t1435 _ A16.out).mono ?_);rintro e w' ⟨rfl,⟨nd,rfl⟩⟩;refine ⟨_,rfl,?_⟩)|((with_reducible refine gate_dst (N:=37) rfl ?_);(try (refine gate_guard (by rfl) ?_;dsimp only));refine Kd.R_lit (Kd.int .i64) _ 3 ?hg (N:=37) ?hd (xs:=([t1434,t1435]:List Int)) (inner:=[.int .i64 t1434,.int .i64 t1435]) (ok:=fun _=>True) (okp:=fun _=>True) ?hr ?hp (fun _ hk=>hk) trivial (Below.refl _ _) (Nat.le_refl _) (by simp) ?_;(case hd=>rfl);(case hg=>rfl);(case hr=>first|(go_simp;done)|(go_simp;rfl));(case hp=>exact (Reps.one (show Kd.M (Kd.int .i64) _ _ _ t1434 [.int .i64 t1434] from rfl) (Reps.one (show Kd.M (Kd.int .i64) _ _ _ t1435 [.int .i64 t1435] from rfl) (Reps.none _ _))));intro v1437 w18 ho19 hb hg_ hnew_;clear hg_ hnew_;(first|rw [← Ny1436.out] at ho19|(simp only [Int.reduceToNat] at ho19;rw [← Ny1436.out] at ho19));have n0_:=Aside0.mk (Kd.R_elder' (by (with_reducible repeat (first|apply Kd.R_alloc|apply Kd.R_drewN|apply Kd.R_drew));exact HO_6.out) (Kd.R_base ho19) hb);have n1_:=Aside0.mk (Kd.R_lower (Kd.R_new' ho19 (Kd.R_lt (by (with_reducible repeat (first|apply Kd.R_alloc|apply Kd.R_drewN|apply Kd.R_drew));exact HO_6.out))) (below_size (by repeat (first|(with_reducible first|exact HB.out|apply below_alloc|apply pw_below_drewN|apply below_drew1|refine below_set ?_ GE1432.out)|exact HB.out))));have n2_:=Aside0.mk (blk_below (g:=gb1432) (o:=.cells #[.int .i64 a0_0,.slice A0_1 l0_1.length c0_1] 26 (0,0)) (by (with_reducible repeat (first|refine blk_drewN ?_ _|refine blk_drew ?_|refine blk_alloc ?_ _));exact BK1432.out) hb);have n3_:=Aside0.mk (below_step (by repeat (first|(with_reducible first|exact HB.out|apply below_alloc|apply pw_below_drewN|apply below_drew1|refine below_set ?_ GE1432.out)|exact HB.out)) hb);clear HO_6;clear BK1432;clear HB;have HO_6:=n0_;have HO1438:=n1_;have BK1432:=n2_;have HB:=n3_;clear n0_ n1_ n2_ n3_;clear hb ho19))
       (try simp only [Act.put,List.setIfInBounds_toArray,List.set_cons_zero,List.set_cons_succ])
       go_cut [46] (fun v46 wc=>∃ (kq:Nat) (x46_16:Bool),v46 = .bool x46_16 ∧ Aside0 (spec_BestPartners.j2 kq a1 x6_2 x7_2 x28_2 y1436 (l0_1.length:Int) x28_2 x46_16 a0_0 l0_1 = some (r1,r2)) ∧ Aside0 (kq ≤ k2) ∧ Aside0 (Kd.R (Kd.int .i64) 3 wc w.heap.size (fun k_=>some k_ ≠ (v1437:Value).ownBlock) u6 x6_2) ∧ Aside0 (Kd.R (Kd.int .i64) 3 wc w.heap.size (fun k_=>some k_ ≠ (u6:Value).ownBlock) v1437 y1436) ∧ Aside0 (wc.heap[gb1432]? = some (.cells #[.int .i64 a0_0,(.slice A0_1 l0_1.length c0_1)] 26 (0,0))) ∧ Aside0 (Below w.heap.size w wc))
       case first =>
        have H:=HC17.out
        clear HC17
        by_cases c20:x28_2 = a1
        ·rw [if_pos c20] at H
         have c20b0:(x28_2 == a1) = true:=beq_iff_eq.mpr c20
         have c20b1:(x28_2 != a1) = false:=bne_eq_false_iff_eq.mpr c20
         clear c20
         (first|rw [c20b0]|(simp only [i64_w,i32_w];rw [c20b0])|skip)
         have H':=Aside0.mk H
         clear H
         go_wp2
         go_meet
         case rel=>exact ⟨_,(true),(by first|rfl|(simp;done)|(simp [*];done)),H',⟨by have:=HJ2.out;have:=HK2.out;first|omega|exact Nat.le_refl _⟩,⟨by (with_reducible repeat (first|apply Kd.R_alloc|apply Kd.R_drewN|apply Kd.R_drew));exact Kd.R_mono HO_6.out (fun _ hk=>hk.2)⟩,⟨by (with_reducible repeat (first|apply Kd.R_alloc|apply Kd.R_drewN|apply Kd.R_drew));exact Kd.R_mono HO1438.out (fun _ hk=>hk.2)⟩,⟨by (with_reducible repeat (first|refine blk_drewN ?_ _|refine blk_drew ?_|refine blk_alloc ?_ _));exact BK1432.out⟩,⟨by repeat (first|(with_reducible first|exact HB.out|apply below_alloc|apply pw_below_drewN|apply below_drew1|refine below_set ?_ GE1432.out)|exact HB.out)⟩⟩
        ·rw [if_neg c20] at H
         have c20b0:(x28_2 == a1) = false:=beq_eq_false_iff_ne.mpr c20
         have c20b1:(x28_2 != a1) = true:=bne_iff_ne.mpr c20
         (first|rw [c20b0]|(simp only [i64_w,i32_w];rw [c20b0])|skip)
         replace H:=Option.bind_eq_some_iff.mp H
         obtain ⟨t1439,A210,H⟩:=H
         replace H:(spec_BestPartners.j2 k2 a1 x6_2 x7_2 x28_2 y1436 (l0_1.length:Int) x28_2 (!t1439) a0_0 l0_1) = some (r1,r2):=H
         have A21:=Aside0.mk A210
         clear A210
         have H':=Aside0.mk H
         clear H
         have hcz22_0:w18.cell? ⟨gb1432,0,none⟩ = some (.int .i64 a0_0):=(blk_cell BK1432.out 0).trans rfl
         have hcz22_1:w18.cell? ⟨gb1432,1,none⟩ = some (.slice A0_1 l0_1.length c0_1):=(blk_cell BK1432.out 1).trans rfl
         have hfz22_0:=blk_frozen BK1432.out 0
         have hfz22_1:=blk_frozen BK1432.out 1
         obtain ⟨Ao23,co23,eo23⟩:=Kd.R_slice HO1438.out
         subst eo23
         go_wp2_with (first|(go_at_call 124;(with_reducible refine (spec_unSet.calls k2 a0_0 _ _ l0_1 _ _ y1436 t1439 _ ?side1 ?side2 ?side3 ?side4 A21.out).mono ?_);(case side1=>repeat (first|exact (Kd.C_below HR0_1.out HB.out)|(with_reducible refine Kd.C_alloc ?_ _)|(with_reducible refine Kd.C_drewN ?_ _)|(with_reducible refine Kd.C_drew ?_)));(case side2=>exact HC0_1.out);(case side3=>repeat (first|exact (Kd.R_reads' HO1438.out).2.2|(with_reducible refine Kd.C_alloc ?_ _)|(with_reducible refine Kd.C_drewN ?_ _)|(with_reducible refine Kd.C_drew ?_)));(case side4=>exact (Kd.R_reads' HO1438.out).2.1);rintro e w24 ⟨rfl,hb⟩;have n0_:=Aside0.mk (Kd.R_below (by (with_reducible repeat (first|apply Kd.R_alloc|apply Kd.R_drewN|apply Kd.R_drew));exact HO_6.out) hb);have n1_:=Aside0.mk (Kd.R_below (by (with_reducible repeat (first|apply Kd.R_alloc|apply Kd.R_drewN|apply Kd.R_drew));exact HO1438.out) hb);have n2_:=Aside0.mk (blk_below (g:=gb1432) (o:=.cells #[.int .i64 a0_0,.slice A0_1 l0_1.length c0_1] 26 (0,0)) (by (with_reducible repeat (first|refine blk_drewN ?_ _|refine blk_drew ?_|refine blk_alloc ?_ _));exact BK1432.out) hb);have n3_:=Aside0.mk (below_step (by repeat (first|(with_reducible first|exact HB.out|apply below_alloc|apply pw_below_drewN|apply below_drew1|refine below_set ?_ GE1432.out)|exact HB.out)) hb);clear HO_6;clear HO1438;clear BK1432;clear HB;have HO_6:=n0_;have HO1438:=n1_;have BK1432:=n2_;have HB:=n3_;clear n0_ n1_ n2_ n3_;(try clear hb);(try clear hb2);(try clear hk);(try clear hi)))
         go_meet
         case rel=>exact ⟨_,(!t1439),(by first|rfl|(simp;done)|(simp [*];done)),H',⟨by have:=HJ2.out;have:=HK2.out;first|omega|exact Nat.le_refl _⟩,⟨by (with_reducible repeat (first|apply Kd.R_alloc|apply Kd.R_drewN|apply Kd.R_drew));exact Kd.R_mono HO_6.out (fun _ hk=>hk.2)⟩,⟨by (with_reducible repeat (first|apply Kd.R_alloc|apply Kd.R_drewN|apply Kd.R_drew));exact Kd.R_mono HO1438.out (fun _ hk=>hk.2)⟩,⟨by (with_reducible repeat (first|refine blk_drewN ?_ _|refine blk_drew ?_|refine blk_alloc ?_ _));exact BK1432.out⟩,⟨by repeat (first|(with_reducible first|exact HB.out|apply below_alloc|apply pw_below_drewN|apply below_drew1|refine below_set ?_ GE1432.out)|exact HB.out)⟩⟩
       case rest =>
        clear HC17
        try clear c1
        try clear c2
        try clear p2
        try clear c6
        try clear c9
        try clear c12
        try clear c13
        try clear c14
        try clear c14b0
        try clear c20
        try clear c20b0
        try clear c20b1
        try clear hcz10_0
        try clear hcz10_1
        try clear hcz13_0
        try clear hcz13_1
        try clear hcz22_0
        try clear hcz22_1
        try clear hcz7_0
        try clear hcz7_1
        try clear hcz9_0
        try clear hcz9_1
        try clear hfz10_0
        try clear hfz10_1
        try clear hfz13_0
        try clear hfz13_1
        try clear hfz22_0
        try clear hfz22_1
        try clear hfz7_0
        try clear hfz7_1
        try clear hfz9_0
        try clear hfz9_1
        try clear p2
        obtain ⟨kq,x46_16,rfl,HA,HJ16,HO_6,HO_9,BK1432,HB⟩:=hcut
        cases kq with
        | zero=>exact absurd HA.out (by simp [spec_BestPartners.j2])
        | succ kj16 =>
         have H:=HA.out
         clear HA
         simp only [spec_BestPartners.j2] at H
         by_cases c25:x46_16 = true
         ·subst c25
          have H1:(spec_BestPartners.l0 kj16 a1 x6_2 x7_2 (l0_1.length:Int) (wrap64 (x28_2 + 1)) a0_0 l0_1) = some (r1,r2):=by rw [if_pos rfl] at H;exact H
          clear H
          have H:=H1
          clear H1
          have H':=Aside0.mk H
          clear H
          go_wp2
          go_roundg kj16
          case measure=>have:=HJ2.out;have:=HK2.out;have:=HJ16.out;omega
          case rel=>exact ⟨(x6_2),(x7_2),(wrap64 (x28_2 + 1)),(by first|rfl|(simp;done)|(simp [*];done)),(by first|rfl|(simp;done)|(simp [*];done)),H',⟨by have:=HJ2.out;have:=HK2.out;have:=HJ16.out;omega⟩,⟨by (with_reducible repeat (first|apply Kd.R_alloc|apply Kd.R_drewN|apply Kd.R_drew));exact Kd.R_mono HO_6.out (fun _ hk=>trivial)⟩,⟨by (with_reducible repeat (first|refine blk_drewN ?_ _|refine blk_drew ?_|refine blk_alloc ?_ _));exact BK1432.out⟩,⟨by repeat (first|(with_reducible first|exact HB.out|apply below_alloc|apply pw_below_drewN|apply below_drew1|refine below_set ?_ GE1432.out)|exact HB.out)⟩⟩
         ·replace c25:=Bool.eq_false_iff.mpr c25
          subst c25
          have H1:((spec_unPivots.f kj16 a0_0 l0_1 y1436).bind fun bt1440=>((spec_unMerge.f kj16 a0_0 l0_1 y1436).bind fun bt1442=>(if 1 ≤ (y1436.length:Int) then ((spec_unPivots.f kj16 bt1442.1 bt1442.2 (y1436.take 1)).bind fun bt1450=>(if (x6_2.length:Int) = 0 then (spec_BestPartners.j3 kj16 a1 x6_2 x7_2 x28_2 bt1440.2 (wrap64 ((wrap64 (bt1450.1 * (l0_1.length:Int))) - bt1440.1)) (l0_1.length:Int) x28_2 true a0_0 l0_1) else (spec_BestPartners.j3 kj16 a1 x6_2 x7_2 x28_2 bt1440.2 (wrap64 ((wrap64 (bt1450.1 * (l0_1.length:Int))) - bt1440.1)) (l0_1.length:Int) x28_2 (decide ((wrap64 ((wrap64 (bt1450.1 * (l0_1.length:Int))) - bt1440.1)) > x7_2)) a0_0 l0_1))) else (none)))) = some (r1,r2):=by rw [if_neg (show ¬ (false = true) by decide)] at H;exact H
          clear H
          have H:=H1
          clear H1
          replace H:=Option.bind_eq_some_iff.mp H
          obtain ⟨⟨t1440,t1441⟩,A260,H⟩:=H
          replace H:((spec_unMerge.f kj16 a0_0 l0_1 y1436).bind fun bt1442=>(if 1 ≤ (y1436.length:Int) then ((spec_unPivots.f kj16 bt1442.1 bt1442.2 (y1436.take 1)).bind fun bt1450=>(if (x6_2.length:Int) = 0 then (spec_BestPartners.j3 kj16 a1 x6_2 x7_2 x28_2 t1441 (wrap64 ((wrap64 (bt1450.1 * (l0_1.length:Int))) - t1440)) (l0_1.length:Int) x28_2 true a0_0 l0_1) else (spec_BestPartners.j3 kj16 a1 x6_2 x7_2 x28_2 t1441 (wrap64 ((wrap64 (bt1450.1 * (l0_1.length:Int))) - t1440)) (l0_1.length:Int) x28_2 (decide ((wrap64 ((wrap64 (bt1450.1 * (l0_1.length:Int))) - t1440)) > x7_2)) a0_0 l0_1))) else (none))) = some (r1,r2):=H
          have A26:=Aside0.mk A260
          clear A260
          replace H:=Option.bind_eq_some_iff.mp H
          obtain ⟨⟨t1442,t1443⟩,A270,H⟩:=H
          replace H:(if 1 ≤ (y1436.length:Int) then ((spec_unPivots.f kj16 t1442 t1443 (y1436.take 1)).bind fun bt1450=>(if (x6_2.length:Int) = 0 then (spec_BestPartners.j3 kj16 a1 x6_2 x7_2 x28_2 t1441 (wrap64 ((wrap64 (bt1450.1 * (l0_1.length:Int))) - t1440)) (l0_1.length:Int) x28_2 true a0_0 l0_1) else (spec_BestPartners.j3 kj16 a1 x6_2 x7_2 x28_2 t1441 (wrap64 ((wrap64 (bt1450.1 * (l0_1.length:Int))) - t1440)) (l0_1.length:Int) x28_2 (decide ((wrap64 ((wrap64 (bt1450.1 * (l0_1.length:Int))) - t1440)) > x7_2)) a0_0 l0_1))) else (none)) = some (r1,r2):=H
          have A27:=Aside0.mk A270
          clear A270
          by_cases c28:1 ≤ (y1436.length:Int)
          ·rw [if_pos c28] at H
           have c28b0:=eq_true c28
           have c28b1:decide (1 ≤ (y1436.length:Int)) = true:=decide_eq_true c28
           clear c28
           obtain ⟨y1446,hy1446⟩:∃ y_:List Int,y_ = (y1436.take 1):=⟨_,rfl⟩
           replace H:((spec_unPivots.f kj16 t1442 t1443 y1446).bind fun bt1450=>(if (x6_2.length:Int) = 0 then (spec_BestPartners.j3 kj16 a1 x6_2 x7_2 x28_2 t1441 (wrap64 ((wrap64 (bt1450.1 * (l0_1.length:Int))) - t1440)) (l0_1.length:Int) x28_2 true a0_0 l0_1) else (spec_BestPartners.j3 kj16 a1 x6_2 x7_2 x28_2 t1441 (wrap64 ((wrap64 (bt1450.1 * (l0_1.length:Int))) - t1440)) (l0_1.length:Int) x28_2 (decide ((wrap64 ((wrap64 (bt1450.1 * (l0_1.length:Int))) - t1440)) > x7_2)) a0_0 l0_1))) = some (r1,r2):=by first|(rw [hy1446];with_reducible exact H)|(have H2_:=(Option.bind_some _ _).symm.trans H;rw [hy1446];with_reducible exact H2_)|(have H2_:=(Option.bind_some _ _).symm.trans H;with_reducible exact H2_)|with_reducible exact H|(rw [hy1446];exact H)|exact H
           have Ny1446:=Aside0.mk hy1446
           clear hy1446
           replace H:=Option.bind_eq_some_iff.mp H
           obtain ⟨⟨t1450,t1451⟩,A290,H⟩:=H
           replace H:(if (x6_2.length:Int) = 0 then (spec_BestPartners.j3 kj16 a1 x6_2 x7_2 x28_2 t1441 (wrap64 ((wrap64 (t1450 * (l0_1.length:Int))) - t1440)) (l0_1.length:Int) x28_2 true a0_0 l0_1) else (spec_BestPartners.j3 kj16 a1 x6_2 x7_2 x28_2 t1441 (wrap64 ((wrap64 (t1450 * (l0_1.length:Int))) - t1440)) (l0_1.length:Int) x28_2 (decide ((wrap64 ((wrap64 (t1450 * (l0_1.length:Int))) - t1440)) > x7_2)) a0_0 l0_1)) = some (r1,r2):=H
           have A29:=Aside0.mk A290
           clear A290
           have HC30:=Aside0.mk H
           clear H
           have hcz31_0:wc.cell? ⟨gb1432,0,none⟩ = some (.int .i64 a0_0):=(blk_cell BK1432.out 0).trans rfl
           have hcz31_1:wc.cell? ⟨gb1432,1,none⟩ = some (.slice A0_1 l0_1.length c0_1):=(blk_cell BK1432.out 1).trans rfl
           have hfz31_0:=blk_frozen BK1432.out 0
           have hfz31_1:=blk_frozen BK1432.out 1
           obtain ⟨Ao32,co32,eo32⟩:=Kd.R_slice HO_9.out
           subst eo32
           try go_wp2_with (first|((with_reducible refine gate_callee (f:=93) rfl ?_);refine goesL_ (some 50) rfl rfl Try.func93 (by kernel_rfl) rfl #[.agg #[.int .i64 a0_0,.slice A0_1 l0_1.length c0_1],.slice Ao32 y1436.length co32] rfl (by (try simp only [List.map_toArray,List.map_cons,List.map_nil]);first|done|rfl|(simp only [List.length_drop,List.length_take];rfl)) ?_;(with_reducible refine (spec_unPivots.calls kj16 a0_0 _ _ l0_1 _ _ y1436 t1440 t1441 _ ?side1 ?side2 ?side3 ?side4 A26.out).mono ?_);(case side1=>repeat (first|exact (Kd.C_below HR0_1.out HB.out)|(with_reducible refine Kd.C_alloc ?_ _)|(with_reducible refine Kd.C_drewN ?_ _)|(with_reducible refine Kd.C_drew ?_)));(case side2=>exact HC0_1.out);(case side3=>repeat (first|exact (Kd.R_reads' HO_9.out).2.2|(with_reducible refine Kd.C_alloc ?_ _)|(with_reducible refine Kd.C_drewN ?_ _)|(with_reducible refine Kd.C_drew ?_)));(case side4=>exact (Kd.R_reads' HO_9.out).2.1);rintro e w33 ⟨rfl,hb⟩;refine ⟨_,rfl,?_⟩;have n0_:=Aside0.mk (Kd.R_below (by (with_reducible repeat (first|apply Kd.R_alloc|apply Kd.R_drewN|apply Kd.R_drew));exact HO_6.out) hb);have n1_:=Aside0.mk (Kd.R_below (by (with_reducible repeat (first|apply Kd.R_alloc|apply Kd.R_drewN|apply Kd.R_drew));exact HO_9.out) hb);have n2_:=Aside0.mk (blk_below (g:=gb1432) (o:=.cells #[.int .i64 a0_0,.slice A0_1 l0_1.length c0_1] 26 (0,0)) (by (with_reducible repeat (first|refine blk_drewN ?_ _|refine blk_drew ?_|refine blk_alloc ?_ _));exact BK1432.out) hb);have n3_:=Aside0.mk (below_step (by repeat (first|(with_reducible first|exact HB.out|apply below_alloc|apply pw_below_drewN|apply below_drew1|refine below_set ?_ GE1432.out)|exact HB.out)) hb);clear HO_6;clear HO_9;clear BK1432;clear HB;have HO_6:=n0_;have HO_9:=n1_;have BK1432:=n2_;have HB:=n3_;clear n0_ n1_ n2_ n3_;(try clear hb);(try clear hb2);(try clear hk);(try clear hi)))
           have n0_:=Aside0.mk (Kd.R_drew HO_6.out)
           have n1_:=Aside0.mk (Kd.R_drew HO_9.out)
           have n2_:=Aside0.mk (blk_drew BK1432.out)
           have n3_:=Aside0.mk (below_drew1 HB.out)
           clear HO_6
           clear HO_9
           clear BK1432
           clear HB
           have HO_6:=n0_
           have HO_9:=n1_
           have BK1432:=n2_
           have HB:=n3_
           clear n0_ n1_ n2_ n3_
           have q35:(1:Int) ≤ ((y1436.length:Int):Int):=of_decide_eq_true (by first|(with_reducible assumption)|assumption)
           obtain ⟨i035,hi035,_,hsz35,_⟩:=info_parts info3
           have hroom35:y1436.length ≤ co32:=(Kd.R_reads' HO_9.out).2.1
           have hC35:Kd.C (Kd.int .i64) _ Ao32 y1436.length y1436:=(Kd.R_reads' HO_9.out).2.2
           have hcut35:=cut_to (P:=Try.prog) 22 3 .i64 Try.underlying22 hi035 Ao32 y1436.length co32 1 (by omega) q35 hroom35
           have hr35:=Kd.C_take (m:=1) hC35 (by omega)
           have hy35:y1446.length = (1:Int).toNat:=(by rw [Ny1446.out,List.length_take];omega)
           rw [← Ny1446.out] at hr35
           rw [← hy35] at hcut35
           have HR1449:=Aside0.mk hr35
           have HC1449:=Aside0.mk (show y1446.length ≤ co32 from by omega)
           clear hr35 hC35 hroom35 hi035 hsz35
           have KY35:=Aside0.mk hy35
           clear hy35
           have KL35:=Aside0.mk (show 1 ≤ y1436.length from by omega)
           replace q35:=eq_true q35
           refine start_ (n:=11) (S:=fun w'=>w'.cell? ⟨gb1432,0,none⟩ = some (.int .i64 a0_0) ∧ w'.cell? ⟨gb1432,1,none⟩ = some (.slice A0_1 l0_1.length c0_1)) (ds:=[]) #[false,false,false,false,false,false,false,false,false,false,false] (by kernel_rfl) rfl rfl ⟨(blk_cell BK1432.out 0).trans rfl,(blk_cell BK1432.out 1).trans rfl⟩ (fun hHeld=>?_);refine with_tabW spec_BestPartners.tab11 spec_BestPartners.bits11 (fun HT_ HW_=>?_)
           generalize w33.drew = w34 at HO_6 HO_9 BK1432 HB HR1449 hHeld ⊢
           refine pure_ (i:=1) (N:=some 55) (v:=?_) (a':=?_) #[false,true,false,false,false,false,false,false,false,false,false] rfl rfl (any_of HT_.out (by kernel_rfl)) (fun _ _ _ h=>h) (Or.inl ⟨by rfl,?_⟩) ?_ ?_
           rotate_left
           ·intro w'
            go_simp
            with_reducible rfl
           rotate_left
           ·simp only [Act.put,List.setIfInBounds_toArray,List.set_cons_zero,List.set_cons_succ,i64_w,i32_w]
            rfl
           refine pure_ (i:=3) (N:=some 57) (v:=?_) (a':=?_) #[false,true,false,true,false,false,false,false,false,false,false] rfl rfl (any_of HT_.out (by kernel_rfl)) (fun _ _ _ h=>h) (Or.inl ⟨by rfl,?_⟩) ?_ ?_
           rotate_left
           ·intro w'
            go_simp
            with_reducible rfl
           rotate_left
           ·simp only [Act.put,List.setIfInBounds_toArray,List.set_cons_zero,List.set_cons_succ,i64_w,i32_w]
            rfl
           refine pure_ (i:=4) (N:=some 58) (v:=?_) (a':=?_) #[false,true,false,true,true,false,false,false,false,false,false] rfl rfl (any_of HT_.out (by kernel_rfl)) (fun _ _ _ h=>h) (Or.inl ⟨by rfl,?_⟩) ?_ ?_
           rotate_left
           ·intro w'
            go_simp
            with_reducible rfl
           rotate_left
           ·simp only [Act.put,List.setIfInBounds_toArray,List.set_cons_zero,List.set_cons_succ,i64_w,i32_w]
            rfl
           refine take_ (i:=0) (N:=some 54) (v:=?_) (a':=?_) #[true,true,false,true,true,false,false,false,false,false,false] rfl rfl (take_ofW HT_.out HW_.out (by kernel_rfl)) (fun _ _ _ h=>h) (Or.inl ⟨by rfl,?_⟩) hHeld ?_ ?_
           rotate_left
           ·rintro w' ⟨s0,s1⟩
            go_simp
            with_reducible rfl
           rotate_left
           ·simp only [Act.put,List.setIfInBounds_toArray,List.set_cons_zero,List.set_cons_succ,i64_w,i32_w]
            rfl
           refine one_ (i:=2) (N:=some 56) #[true,true,true,true,true,false,false,false,false,false,false] rfl rfl (one_of HT_.out (by kernel_rfl)) (by decide) (fun K hK=>?_)
           refine goes_ Try.func125 (by kernel_rfl) rfl #[.agg #[.int .i64 a0_0,.slice A0_1 l0_1.length c0_1],.slice Ao32 y1436.length co32] (by rfl) rfl rfl (by (try simp only [List.map_toArray,List.map_cons,List.map_nil]);first|done|rfl|(simp only [List.length_drop,List.length_take];rfl)) ?_
           with_reducible refine (spec_unMerge.calls kj16 a0_0 _ _ l0_1 _ _ y1436 t1442 t1443 _ ?side1 ?side2 ?side3 ?side4 A27.out).mono ?_
           (case side1=>repeat (first|exact (Kd.C_below HR0_1.out HB.out)|(with_reducible refine Kd.C_alloc ?_ _)|(with_reducible refine Kd.C_drewN ?_ _)|(with_reducible refine Kd.C_drew ?_)))
           (case side2=>exact HC0_1.out)
           (case side3=>repeat (first|exact (Kd.R_reads' HO_9.out).2.2|(with_reducible refine Kd.C_alloc ?_ _)|(with_reducible refine Kd.C_drewN ?_ _)|(with_reducible refine Kd.C_drew ?_)))
           (case side4=>exact (Kd.R_reads' HO_9.out).2.1)
           rintro e w36 ⟨v1444,rfl,ho0,hb⟩
           refine ⟨_,rfl,?_⟩
           have n0_:=Aside0.mk (Kd.R_elder' (by (with_reducible repeat (first|apply Kd.R_alloc|apply Kd.R_drewN|apply Kd.R_drew));exact HO_6.out) (Kd.R_base ho0) hb)
           have n1_:=Aside0.mk (Kd.R_elder' (by (with_reducible repeat (first|apply Kd.R_alloc|apply Kd.R_drewN|apply Kd.R_drew));exact HO_9.out) (Kd.R_base ho0) hb)
           have n2_:=Aside0.mk (Kd.R_lower (Kd.R_new' (Kd.R_new' ho0 (Kd.R_lt (by (with_reducible repeat (first|apply Kd.R_alloc|apply Kd.R_drewN|apply Kd.R_drew));exact HO_6.out))) (Kd.R_lt (by (with_reducible repeat (first|apply Kd.R_alloc|apply Kd.R_drewN|apply Kd.R_drew));exact HO_9.out))) (below_size (by repeat (first|(with_reducible first|exact HB.out|apply below_alloc|apply pw_below_drewN|apply below_drew1|refine below_set ?_ GE1432.out)|exact HB.out))))
           have n3_:=Aside0.mk (blk_below (g:=gb1432) (o:=.cells #[.int .i64 a0_0,.slice A0_1 l0_1.length c0_1] 26 (0,0)) (by (with_reducible repeat (first|refine blk_drewN ?_ _|refine blk_drew ?_|refine blk_alloc ?_ _));exact BK1432.out) hb)
           have n4_:=Aside0.mk (Kd.C_below (by repeat (first|(with_reducible exact HR1449.out)|(with_reducible refine Kd.C_alloc ?_ _)|(with_reducible refine Kd.C_drewN ?_ _)|(with_reducible refine Kd.C_drew ?_)|exact HR1449.out)) hb)
           have n5_:=Aside0.mk (below_step (by repeat (first|(with_reducible first|exact HB.out|apply below_alloc|apply pw_below_drewN|apply below_drew1|refine below_set ?_ GE1432.out)|exact HB.out)) hb)
           clear HO_6
           clear HO_9
           clear BK1432
           clear HR1449
           clear HB
           have HO_6:=n0_
           have HO_9:=n1_
           have HO1445:=n2_
           have BK1432:=n3_
           have HR1449:=n4_
           have HB:=n5_
           clear n0_ n1_ n2_ n3_ n4_ n5_
           (try clear hb)
           (try clear hb2)
           (try clear hk)
           (try clear hi)
           (try clear ho0)
           obtain ⟨Ao37,co37,eo37⟩:=Kd.R_slice HO1445.out
           (first|subst eo37|(injection eo37 with f1_ f2_ f3_;have f4_:=f1_.symm;have f5_:=f3_.symm;clear f1_ f2_ f3_;subst f4_;subst f5_))
           refine hK.out _ _ ⟨(blk_cell BK1432.out 0).trans rfl,(blk_cell BK1432.out 1).trans rfl⟩ (fun hHeld=>?_)
           clear hK K
           refine norm_ (a':=?_) ?_ ?_
           rotate_left
           ·show Act.put _ (some 56) _ = _
            simp only [Act.put,List.setIfInBounds_toArray,List.set_cons_zero,List.set_cons_succ,i64_w,i32_w]
            rfl
           refine one_ (i:=5) (N:=some 59) #[true,true,true,true,true,true,false,false,false,false,false] rfl rfl (one_of HT_.out (by kernel_rfl)) (by decide) (fun K hK=>?_)
           refine goes_ Try.func93 (by kernel_rfl) rfl #[.agg #[.int .i64 t1442,.slice Ao37 t1443.length co37],.slice Ao32 y1446.length co32] (by rfl) rfl rfl (by (try simp only [List.map_toArray,List.map_cons,List.map_nil]);first|done|rfl|(simp only [List.length_drop,List.length_take];rfl)) ?_
           with_reducible refine (spec_unPivots.calls kj16 t1442 _ _ t1443 _ _ y1446 t1450 t1451 _ ?side1 ?side2 ?side3 ?side4 A29.out).mono ?_
           (case side1=>repeat (first|exact (Kd.R_reads' HO1445.out).2.2|(with_reducible refine Kd.C_alloc ?_ _)|(with_reducible refine Kd.C_drewN ?_ _)|(with_reducible refine Kd.C_drew ?_)))
           (case side2=>exact (Kd.R_reads' HO1445.out).2.1)
           (case side3=>repeat (first|exact (by repeat (first|(with_reducible exact HR1449.out)|(with_reducible refine Kd.C_alloc ?_ _)|(with_reducible refine Kd.C_drewN ?_ _)|(with_reducible refine Kd.C_drew ?_)|exact HR1449.out))|(with_reducible refine Kd.C_alloc ?_ _)|(with_reducible refine Kd.C_drewN ?_ _)|(with_reducible refine Kd.C_drew ?_)))
           (case side4=>exact HC1449.out)
           rintro e w38 ⟨rfl,hb⟩
           refine ⟨_,rfl,?_⟩
           have n0_:=Aside0.mk (Kd.R_below (by (with_reducible repeat (first|apply Kd.R_alloc|apply Kd.R_drewN|apply Kd.R_drew));exact HO_6.out) hb)
           have n1_:=Aside0.mk (Kd.R_below (by (with_reducible repeat (first|apply Kd.R_alloc|apply Kd.R_drewN|apply Kd.R_drew));exact HO_9.out) hb)
           have n2_:=Aside0.mk (Kd.R_below (by (with_reducible repeat (first|apply Kd.R_alloc|apply Kd.R_drewN|apply Kd.R_drew));exact HO1445.out) hb)
           have n3_:=Aside0.mk (blk_below (g:=gb1432) (o:=.cells #[.int .i64 a0_0,.slice A0_1 l0_1.length c0_1] 26 (0,0)) (by (with_reducible repeat (first|refine blk_drewN ?_ _|refine blk_drew ?_|refine blk_alloc ?_ _));exact BK1432.out) hb)
           have n4_:=Aside0.mk (Kd.C_below (by repeat (first|(with_reducible exact HR1449.out)|(with_reducible refine Kd.C_alloc ?_ _)|(with_reducible refine Kd.C_drewN ?_ _)|(with_reducible refine Kd.C_drew ?_)|exact HR1449.out)) hb)
           have n5_:=Aside0.mk (below_step (by repeat (first|(with_reducible first|exact HB.out|apply below_alloc|apply pw_below_drewN|apply below_drew1|refine below_set ?_ GE1432.out)|exact HB.out)) hb)
           clear HO_6
           clear HO_9
           clear HO1445
           clear BK1432
           clear HR1449
           clear HB
           have HO_6:=n0_
           have HO_9:=n1_
           have HO1445:=n2_
           have BK1432:=n3_
           have HR1449:=n4_
           have HB:=n5_
           clear n0_ n1_ n2_ n3_ n4_ n5_
           (try clear hb)
           (try clear hb2)
           (try clear hk)
           (try clear hi)
           refine hK.out _ _ ⟨(blk_cell BK1432.out 0).trans rfl,(blk_cell BK1432.out 1).trans rfl⟩ (fun hHeld=>?_)
           clear hK K
           refine norm_ (a':=?_) ?_ ?_
           rotate_left
           ·show Act.put _ (some 59) _ = _
            simp only [Act.put,List.setIfInBounds_toArray,List.set_cons_zero,List.set_cons_succ,i64_w,i32_w]
            rfl
           refine pure_ (i:=6) (N:=some 53) (v:=?_) (a':=?_) #[true,true,true,true,true,true,true,false,false,false,false] rfl rfl (any_of HT_.out (by kernel_rfl)) (fun _ _ _ h=>h) (Or.inl ⟨by rfl,?_⟩) ?_ ?_
           rotate_left
           ·intro w'
            go_simp
            with_reducible rfl
           rotate_left
           ·simp only [Act.put,List.setIfInBounds_toArray,List.set_cons_zero,List.set_cons_succ,i64_w,i32_w]
            rfl
           refine pure_ (i:=7) (N:=some 60) (v:=?_) (a':=?_) #[true,true,true,true,true,true,true,true,false,false,false] rfl rfl (any_of HT_.out (by kernel_rfl)) (fun _ _ _ h=>h) (Or.inl ⟨by rfl,?_⟩) ?_ ?_
           rotate_left
           ·intro w'
            go_simp
            with_reducible rfl
           rotate_left
           ·simp only [Act.put,List.setIfInBounds_toArray,List.set_cons_zero,List.set_cons_succ,i64_w,i32_w]
            rfl
           refine pure_ (i:=8) (N:=some 61) (v:=?_) (a':=?_) #[true,true,true,true,true,true,true,true,true,false,false] rfl rfl (any_of HT_.out (by kernel_rfl)) (fun _ _ _ h=>h) (Or.inl ⟨by rfl,?_⟩) ?_ ?_
           rotate_left
           ·intro w'
            go_simp
            with_reducible rfl
           rotate_left
           ·simp only [Act.put,List.setIfInBounds_toArray,List.set_cons_zero,List.set_cons_succ,i64_w,i32_w]
            rfl
           refine pure_ (i:=9) (N:=some 12) (v:=?_) (a':=?_) #[true,true,true,true,true,true,true,true,true,true,false] rfl rfl (any_of HT_.out (by kernel_rfl)) (fun _ _ _ h=>h) (Or.inl ⟨by rfl,?_⟩) ?_ ?_
           rotate_left
           ·intro w'
            go_simp
            with_reducible rfl
           rotate_left
           ·simp only [Act.put,List.setIfInBounds_toArray,List.set_cons_zero,List.set_cons_succ,i64_w,i32_w]
            rfl
           refine pure_ (i:=10) (N:=some 13) (v:=?_) (a':=?_) #[true,true,true,true,true,true,true,true,true,true,true] rfl rfl (any_of HT_.out (by kernel_rfl)) (fun _ _ _ h=>h) (Or.inl ⟨by rfl,?_⟩) ?_ ?_
           rotate_left
           ·intro w'
            go_simp
            with_reducible rfl
           rotate_left
           ·simp only [Act.put,List.setIfInBounds_toArray,List.set_cons_zero,List.set_cons_succ,i64_w,i32_w]
            rfl
           refine done_ (done_of HT_.out (by kernel_rfl)) ?_
           have hcz39_0:w38.cell? ⟨gb1432,0,none⟩ = some (.int .i64 a0_0):=(blk_cell BK1432.out 0).trans rfl
           have hcz39_1:w38.cell? ⟨gb1432,1,none⟩ = some (.slice A0_1 l0_1.length c0_1):=(blk_cell BK1432.out 1).trans rfl
           have hfz39_0:=blk_frozen BK1432.out 0
           have hfz39_1:=blk_frozen BK1432.out 1
           go_upto_region 13 with (fail)
           go_cut [76] (fun v76 wc=>∃ (kq:Nat) (x76_29:Bool),v76 = .bool x76_29 ∧ Aside0 (spec_BestPartners.j3 kq a1 x6_2 x7_2 x28_2 t1441 (wrap64 ((wrap64 (t1450 * (l0_1.length:Int))) - t1440)) (l0_1.length:Int) x28_2 x76_29 a0_0 l0_1 = some (r1,r2)) ∧ Aside0 (kq ≤ kj16) ∧ Aside0 (Kd.R (Kd.int .i64) 3 wc w.heap.size (fun _=>True) u6 x6_2) ∧ Aside0 (wc.heap[gb1432]? = some (.cells #[.int .i64 a0_0,(.slice A0_1 l0_1.length c0_1)] 26 (0,0))) ∧ Aside0 (Kd.C (Kd.int .i64) wc Ao32 y1446.length y1446) ∧ Aside0 (Below w.heap.size w wc))
           case first =>
            have H:=HC30.out
            clear HC30
            by_cases c40:(x6_2.length:Int) = 0
            ·rw [if_pos c40] at H
             have c40b0:((x6_2.length:Int) == 0) = true:=beq_iff_eq.mpr c40
             have c40b1:((x6_2.length:Int) != 0) = false:=bne_eq_false_iff_eq.mpr c40
             clear c40
             (first|rw [c40b0]|(simp only [i64_w,i32_w];rw [c40b0])|skip)
             have H':=Aside0.mk H
             clear H
             obtain ⟨Ao41,co41,eo41⟩:=Kd.R_slice HO_6.out
             subst eo41
             go_wp2
             go_meet
             case rel=>exact ⟨_,(true),(by first|rfl|(simp;done)|(simp [*];done)),H',⟨by have:=HJ2.out;have:=HK2.out;have:=HJ16.out;first|omega|exact Nat.le_refl _⟩,⟨by (with_reducible repeat (first|apply Kd.R_alloc|apply Kd.R_drewN|apply Kd.R_drew));exact Kd.R_mono HO_6.out (fun _ hk=>trivial)⟩,⟨by (with_reducible repeat (first|refine blk_drewN ?_ _|refine blk_drew ?_|refine blk_alloc ?_ _));exact BK1432.out⟩,⟨by repeat (first|(with_reducible exact HR1449.out)|(with_reducible refine Kd.C_alloc ?_ _)|(with_reducible refine Kd.C_drewN ?_ _)|(with_reducible refine Kd.C_drew ?_)|exact HR1449.out)⟩,⟨by repeat (first|(with_reducible first|exact HB.out|apply below_alloc|apply pw_below_drewN|apply below_drew1|refine below_set ?_ GE1432.out)|exact HB.out)⟩⟩
            ·rw [if_neg c40] at H
             have c40b0:((x6_2.length:Int) == 0) = false:=beq_eq_false_iff_ne.mpr c40
             have c40b1:((x6_2.length:Int) != 0) = true:=bne_iff_ne.mpr c40
             have c40b2:¬ (x6_2 = []):=fun h_=>c40 (by rw [h_];rfl)
             (first|rw [c40b0]|(simp only [i64_w,i32_w];rw [c40b0])|skip)
             have H':=Aside0.mk H
             clear H
             obtain ⟨Ao42,co42,eo42⟩:=Kd.R_slice HO_6.out
             subst eo42
             go_wp2
             go_meet
             case rel=>exact ⟨_,(decide ((wrap64 ((wrap64 (t1450 * (l0_1.length:Int))) - t1440)) > x7_2)),(by first|rfl|(simp;done)|(simp [*];done)),H',⟨by have:=HJ2.out;have:=HK2.out;have:=HJ16.out;first|omega|exact Nat.le_refl _⟩,⟨by (with_reducible repeat (first|apply Kd.R_alloc|apply Kd.R_drewN|apply Kd.R_drew));exact Kd.R_mono HO_6.out (fun _ hk=>trivial)⟩,⟨by (with_reducible repeat (first|refine blk_drewN ?_ _|refine blk_drew ?_|refine blk_alloc ?_ _));exact BK1432.out⟩,⟨by repeat (first|(with_reducible exact HR1449.out)|(with_reducible refine Kd.C_alloc ?_ _)|(with_reducible refine Kd.C_drewN ?_ _)|(with_reducible refine Kd.C_drew ?_)|exact HR1449.out)⟩,⟨by repeat (first|(with_reducible first|exact HB.out|apply below_alloc|apply pw_below_drewN|apply below_drew1|refine below_set ?_ GE1432.out)|exact HB.out)⟩⟩
           case rest =>
            clear HC30
            try clear c1
            try clear c2
            try clear p2
            try clear q3
            try clear c4
            try clear c6
            try clear p6
            try clear c9
            try clear c12
            try clear c13
            try clear c14
            try clear c14b0
            try clear c20
            try clear c20b0
            try clear c20b1
            try clear c25
            try clear c28
            try clear c28b0
            try clear c28b1
            try clear q35
            try clear c40
            try clear c40b0
            try clear c40b1
            try clear c40b2
            try clear hcz10_0
            try clear hcz10_1
            try clear hcz13_0
            try clear hcz13_1
            try clear hcz22_0
            try clear hcz22_1
            try clear hcz31_0
            try clear hcz31_1
            try clear hcz39_0
            try clear hcz39_1
            try clear hcz7_0
            try clear hcz7_1
            try clear hcz9_0
            try clear hcz9_1
            try clear hfz10_0
            try clear hfz10_1
            try clear hfz13_0
            try clear hfz13_1
            try clear hfz22_0
            try clear hfz22_1
            try clear hfz31_0
            try clear hfz31_1
            try clear hfz39_0
            try clear hfz39_1
            try clear hfz7_0
            try clear hfz7_1
            try clear hfz9_0
            try clear hfz9_1
            try clear p2
            try clear q35
            obtain ⟨kq,x76_29,rfl,HA,HJ29,HO_6,BK1432,HR1449,HB⟩:=hcut
            cases kq with
            | zero=>exact absurd HA.out (by simp [spec_BestPartners.j3])
            | succ kj29 =>
             have H:=HA.out
             clear HA
             simp only [spec_BestPartners.j3] at H
             by_cases c43:x76_29 = true
             ·subst c43
              have H1:(if t1441 > 0 then (if ([]:List Int).length < 17592186044416 then (spec_BestPartners.l0 kj29 a1 (([]:List Int) ++ [x28_2]) (wrap64 ((wrap64 (t1450 * (l0_1.length:Int))) - t1440)) (l0_1.length:Int) (wrap64 (x28_2 + 1)) a0_0 l0_1) else (none)) else (spec_BestPartners.l0 kj29 a1 ([]:List Int) (wrap64 ((wrap64 (t1450 * (l0_1.length:Int))) - t1440)) (l0_1.length:Int) (wrap64 (x28_2 + 1)) a0_0 l0_1)) = some (r1,r2):=by rw [if_pos rfl] at H;exact H
              clear H
              have H:=H1
              clear H1
              by_cases c44:t1441 > 0
              ·rw [if_pos c44] at H
               have c44b0:decide (0 < t1441) = true:=decide_eq_true c44
               clear c44
               by_cases c45:([]:List Int).length < 17592186044416
               ·rw [if_pos c45] at H
                have LMc45:=Aside0.mk c45
                clear c45
                obtain ⟨y1452,hy1452⟩:∃ y_:List Int,y_ = (([]:List Int) ++ [x28_2]):=⟨_,rfl⟩
                replace H:(spec_BestPartners.l0 kj29 a1 y1452 (wrap64 ((wrap64 (t1450 * (l0_1.length:Int))) - t1440)) (l0_1.length:Int) (wrap64 (x28_2 + 1)) a0_0 l0_1) = some (r1,r2):=by first|(rw [hy1452];with_reducible exact H)|(have H2_:=(Option.bind_some _ _).symm.trans H;rw [hy1452];with_reducible exact H2_)|(have H2_:=(Option.bind_some _ _).symm.trans H;with_reducible exact H2_)|with_reducible exact H|(rw [hy1452];exact H)|exact H
                have Ny1452:=Aside0.mk hy1452
                clear hy1452
                have H':=Aside0.mk H
                clear H
                go_wp2_with (first|((with_reducible refine gate_builtin (b:=.append) (xs:=#[.tmp 85,.tmp 87]) rfl ?_);(try (refine gate_guard (by rfl) ?_;dsimp only));at_builtin;refine Kd.R_append (Kd.int .i64) (w0:=w) w.heap.size rfl (.tmp 85) (.tmp 87) 22 3 (.int .i64 0) 8 rfl Try.underlying22 info3 rfl (by decide) (by omega) (.slice none 0 0) ([]:List Int) x28_2 [.int .i64 x28_2] (fun k_=>some k_ ≠ (u6:Value).ownBlock) (fun _=>False) rfl rfl ?aP (fun _ hk=>hk.elim) ?aF ?aO ?aB ?aS ?aL ?_;(case aP=>exact rfl);(case aB=>exact (by repeat (first|(with_reducible first|exact HB.out|apply below_alloc|apply pw_below_drewN|apply below_drew1|refine below_set ?_ GE1432.out)|exact HB.out)));(case aF=>exact (fun k_ hk=>Kd.fresh' (Kd.R_lt (by (with_reducible repeat (first|apply Kd.R_alloc|apply Kd.R_drewN|apply Kd.R_drew));exact HO_6.out)) k_ hk));(case aO=>exact ((Kd.R_nil _ _ _ _ (fun k_=>some k_ ≠ (u6:Value).ownBlock))));(case aS=>exact (below_size (by repeat (first|(with_reducible first|exact HB.out|apply below_alloc|apply pw_below_drewN|apply below_drew1|refine below_set ?_ GE1432.out)|exact HB.out))));(case aL=>have:=LMc45.out;omega);intro v1453 w46 ho hb hg hat;rw [← Ny1452.out] at ho;have n0_:=Aside0.mk (Kd.R_after (Kd.R_apart_nil (by (with_reducible repeat (first|apply Kd.R_alloc|apply Kd.R_drewN|apply Kd.R_drew));exact HO_6.out)) hg hat);have n1_:=Aside0.mk (blk_grown (g:=gb1432) (o:=.cells #[.int .i64 a0_0,.slice A0_1 l0_1.length c0_1] 26 (0,0)) (by (with_reducible repeat (first|refine blk_drewN ?_ _|refine blk_drew ?_|refine blk_alloc ?_ _));exact BK1432.out) hg (by simp [Value.ownBlock]));have n2_:=Aside0.mk (hb);have n3_:=Aside0.mk (ho);clear HO_6;clear BK1432;clear HB;have HO_6:=n0_;have BK1432:=n1_;have HB:=n2_;have HO1454:=n3_;clear n0_ n1_ n2_ n3_;clear ho hb hg hat))
                go_roundg kj29
                case measure=>have:=HJ2.out;have:=HK2.out;have:=HJ16.out;have:=HJ29.out;omega
                case rel=>exact ⟨(y1452),((wrap64 ((wrap64 (t1450 * (l0_1.length:Int))) - t1440))),(wrap64 (x28_2 + 1)),(by first|rfl|(simp;done)|(simp [*];done)),(by first|rfl|(simp;done)|(simp [*];done)),H',⟨by have:=HJ2.out;have:=HK2.out;have:=HJ16.out;have:=HJ29.out;omega⟩,⟨by (with_reducible repeat (first|apply Kd.R_alloc|apply Kd.R_drewN|apply Kd.R_drew));exact Kd.R_mono HO1454.out (fun _ hk=>trivial)⟩,⟨by (with_reducible repeat (first|refine blk_drewN ?_ _|refine blk_drew ?_|refine blk_alloc ?_ _));exact BK1432.out⟩,⟨by repeat (first|(with_reducible first|exact HB.out|apply below_alloc|apply pw_below_drewN|apply below_drew1|refine below_set ?_ GE1432.out)|exact HB.out)⟩⟩
               ·rw [if_neg c45] at H
                exact absurd H (by simp)
              ·rw [if_neg c44] at H
               have c44b0:decide (0 < t1441) = false:=decide_eq_false c44
               clear c44
               have H':=Aside0.mk H
               clear H
               go_wp2
               go_roundg kj29
               case measure=>have:=HJ2.out;have:=HK2.out;have:=HJ16.out;have:=HJ29.out;omega
               case rel=>exact ⟨(([]:List Int)),((wrap64 ((wrap64 (t1450 * (l0_1.length:Int))) - t1440))),(wrap64 (x28_2 + 1)),(by first|rfl|(simp;done)|(simp [*];done)),(by first|rfl|(simp;done)|(simp [*];done)),H',⟨by have:=HJ2.out;have:=HK2.out;have:=HJ16.out;have:=HJ29.out;omega⟩,⟨by first|exact Kd.R_nil _ _ _ _ _|exact Kd.N_nil _ _ _ _ _|exact Kd.V_nil _ _ _ _ _|exact Kd.Q_nil _ _ _ _ _|exact Kd.S_nil _ _ _ _ _⟩,⟨by (with_reducible repeat (first|refine blk_drewN ?_ _|refine blk_drew ?_|refine blk_alloc ?_ _));exact BK1432.out⟩,⟨by repeat (first|(with_reducible first|exact HB.out|apply below_alloc|apply pw_below_drewN|apply below_drew1|refine below_set ?_ GE1432.out)|exact HB.out)⟩⟩
             ·replace c43:=Bool.eq_false_iff.mpr c43
              subst c43
              have H1:(if (wrap64 ((wrap64 (t1450 * (l0_1.length:Int))) - t1440)) = x7_2 then (if t1441 > 0 then (if x6_2.length < 17592186044416 then (spec_BestPartners.l0 kj29 a1 (x6_2 ++ [x28_2]) x7_2 (l0_1.length:Int) (wrap64 (x28_2 + 1)) a0_0 l0_1) else (none)) else (spec_BestPartners.l0 kj29 a1 x6_2 x7_2 (l0_1.length:Int) (wrap64 (x28_2 + 1)) a0_0 l0_1)) else (spec_BestPartners.l0 kj29 a1 x6_2 x7_2 (l0_1.length:Int) (wrap64 (x28_2 + 1)) a0_0 l0_1)) = some (r1,r2):=by rw [if_neg (show ¬ (false = true) by decide)] at H;exact H
              clear H
              have H:=H1
              clear H1
              by_cases c47:(wrap64 ((wrap64 (t1450 * (l0_1.length:Int))) - t1440)) = x7_2
              ·rw [if_pos c47] at H
               have c47b0:((wrap64 ((wrap64 (t1450 * (l0_1.length:Int))) - t1440)) == x7_2) = true:=beq_iff_eq.mpr c47
               have c47b1:((wrap64 ((wrap64 (t1450 * (l0_1.length:Int))) - t1440)) != x7_2) = false:=bne_eq_false_iff_eq.mpr c47
               clear c47
               by_cases c48:t1441 > 0
               ·rw [if_pos c48] at H
                have c48b0:decide (0 < t1441) = true:=decide_eq_true c48
                clear c48
                by_cases c49:x6_2.length < 17592186044416
                ·rw [if_pos c49] at H
                 have LMc49:=Aside0.mk c49
                 clear c49
                 obtain ⟨y1455,hy1455⟩:∃ y_:List Int,y_ = (x6_2 ++ [x28_2]):=⟨_,rfl⟩
                 replace H:(spec_BestPartners.l0 kj29 a1 y1455 x7_2 (l0_1.length:Int) (wrap64 (x28_2 + 1)) a0_0 l0_1) = some (r1,r2):=by first|(rw [hy1455];with_reducible exact H)|(have H2_:=(Option.bind_some _ _).symm.trans H;rw [hy1455];with_reducible exact H2_)|(have H2_:=(Option.bind_some _ _).symm.trans H;with_reducible exact H2_)|with_reducible exact H|(rw [hy1455];exact H)|exact H
                 have Ny1455:=Aside0.mk hy1455
                 clear hy1455
                 have H':=Aside0.mk H
                 clear H
                 go_wp2_with (first|((with_reducible refine gate_builtin (b:=.append) (xs:=#[.tmp 85,.tmp 87]) rfl ?_);(try (refine gate_guard (by rfl) ?_;dsimp only));at_builtin;refine Kd.R_append (Kd.int .i64) (w0:=w) w.heap.size rfl (.tmp 85) (.tmp 87) 22 3 (.int .i64 0) 8 rfl Try.underlying22 info3 rfl (by decide) (by omega) u6 x6_2 x28_2 [.int .i64 x28_2] (fun _=>True) (fun _=>False) rfl rfl ?aP (fun _ hk=>hk.elim) ?aF ?aO ?aB ?aS ?aL ?_;(case aP=>exact rfl);(case aB=>exact (by repeat (first|(with_reducible first|exact HB.out|apply below_alloc|apply pw_below_drewN|apply below_drew1|refine below_set ?_ GE1432.out)|exact HB.out)));(case aF=>exact (fun _ _=>trivial));(case aO=>exact (by (with_reducible repeat (first|apply Kd.R_alloc|apply Kd.R_drewN|apply Kd.R_drew));exact HO_6.out));(case aS=>exact (below_size (by repeat (first|(with_reducible first|exact HB.out|apply below_alloc|apply pw_below_drewN|apply below_drew1|refine below_set ?_ GE1432.out)|exact HB.out))));(case aL=>have:=LMc49.out;omega);intro v1456 w50 ho hb hg hat;rw [← Ny1455.out] at ho;have n0_:=Aside0.mk (blk_grown (g:=gb1432) (o:=.cells #[.int .i64 a0_0,.slice A0_1 l0_1.length c0_1] 26 (0,0)) (by (with_reducible repeat (first|refine blk_drewN ?_ _|refine blk_drew ?_|refine blk_alloc ?_ _));exact BK1432.out) hg (Kd.R_ne HO_6.out BK1432.out (by decide)));have n1_:=Aside0.mk (hb);have n2_:=Aside0.mk (ho);clear BK1432;clear HB;clear HO_6;have BK1432:=n0_;have HB:=n1_;have HO1457:=n2_;clear n0_ n1_ n2_;clear ho hb hg hat))
                 go_roundg kj29
                 case measure=>have:=HJ2.out;have:=HK2.out;have:=HJ16.out;have:=HJ29.out;omega
                 case rel=>exact ⟨(y1455),(x7_2),(wrap64 (x28_2 + 1)),(by first|rfl|(simp;done)|(simp [*];done)),(by first|rfl|(simp;done)|(simp [*];done)),H',⟨by have:=HJ2.out;have:=HK2.out;have:=HJ16.out;have:=HJ29.out;omega⟩,⟨by (with_reducible repeat (first|apply Kd.R_alloc|apply Kd.R_drewN|apply Kd.R_drew));exact HO1457.out⟩,⟨by (with_reducible repeat (first|refine blk_drewN ?_ _|refine blk_drew ?_|refine blk_alloc ?_ _));exact BK1432.out⟩,⟨by repeat (first|(with_reducible first|exact HB.out|apply below_alloc|apply pw_below_drewN|apply below_drew1|refine below_set ?_ GE1432.out)|exact HB.out)⟩⟩
                ·rw [if_neg c49] at H
                 exact absurd H (by simp)
               ·rw [if_neg c48] at H
                have c48b0:decide (0 < t1441) = false:=decide_eq_false c48
                clear c48
                have H':=Aside0.mk H
                clear H
                go_wp2
                go_roundg kj29
                case measure=>have:=HJ2.out;have:=HK2.out;have:=HJ16.out;have:=HJ29.out;omega
                case rel=>exact ⟨(x6_2),(x7_2),(wrap64 (x28_2 + 1)),(by first|rfl|(simp;done)|(simp [*];done)),(by first|rfl|(simp;done)|(simp [*];done)),H',⟨by have:=HJ2.out;have:=HK2.out;have:=HJ16.out;have:=HJ29.out;omega⟩,⟨by (with_reducible repeat (first|apply Kd.R_alloc|apply Kd.R_drewN|apply Kd.R_drew));exact HO_6.out⟩,⟨by (with_reducible repeat (first|refine blk_drewN ?_ _|refine blk_drew ?_|refine blk_alloc ?_ _));exact BK1432.out⟩,⟨by repeat (first|(with_reducible first|exact HB.out|apply below_alloc|apply pw_below_drewN|apply below_drew1|refine below_set ?_ GE1432.out)|exact HB.out)⟩⟩
              ·rw [if_neg c47] at H
               have c47b0:((wrap64 ((wrap64 (t1450 * (l0_1.length:Int))) - t1440)) == x7_2) = false:=beq_eq_false_iff_ne.mpr c47
               have c47b1:((wrap64 ((wrap64 (t1450 * (l0_1.length:Int))) - t1440)) != x7_2) = true:=bne_iff_ne.mpr c47
               have H':=Aside0.mk H
               clear H
               go_wp2
               go_roundg kj29
               case measure=>have:=HJ2.out;have:=HK2.out;have:=HJ16.out;have:=HJ29.out;omega
               case rel=>exact ⟨(x6_2),(x7_2),(wrap64 (x28_2 + 1)),(by first|rfl|(simp;done)|(simp [*];done)),(by first|rfl|(simp;done)|(simp [*];done)),H',⟨by have:=HJ2.out;have:=HK2.out;have:=HJ16.out;have:=HJ29.out;omega⟩,⟨by (with_reducible repeat (first|apply Kd.R_alloc|apply Kd.R_drewN|apply Kd.R_drew));exact HO_6.out⟩,⟨by (with_reducible repeat (first|refine blk_drewN ?_ _|refine blk_drew ?_|refine blk_alloc ?_ _));exact BK1432.out⟩,⟨by repeat (first|(with_reducible first|exact HB.out|apply below_alloc|apply pw_below_drewN|apply below_drew1|refine below_set ?_ GE1432.out)|exact HB.out)⟩⟩
          ·rw [if_neg c28] at H
           exact absurd H (by simp)
      ·rw [if_neg c14] at H
       have c14b0:decide (x28_2 < (l0_1.length:Int)) = false:=decide_eq_false c14
       clear c14
       by_cases c51:(x6_2.length:Int) = 0
       ·rw [if_pos c51] at H
        have c51b0:((x6_2.length:Int) == 0) = true:=beq_iff_eq.mpr c51
        have c51b1:((x6_2.length:Int) != 0) = false:=bne_eq_false_iff_eq.mpr c51
        clear c51
        simp only [Option.some.injEq,Prod.mk.injEq] at H
        obtain ⟨rfl,rfl⟩:=H
        obtain ⟨Ao52,co52,eo52⟩:=Kd.R_slice HO_6.out
        subst eo52
        go_wp2
        go_ret2
        exact ⟨_,by first|rfl|(simp [errW_none,errW_some] <;> rfl)|(simp [*,errW_none,errW_some] <;> rfl),by first|exact Kd.R_nil _ _ _ _ _|exact Kd.N_nil _ _ _ _ _|exact Kd.V_nil _ _ _ _ _|exact Kd.Q_nil _ _ _ _ _|exact Kd.S_nil _ _ _ _ _,by repeat (first|(with_reducible first|exact HB.out|apply below_alloc|apply pw_below_drewN|apply below_drew1|refine below_set ?_ GE1432.out)|exact HB.out)⟩
       ·rw [if_neg c51] at H
        have c51b0:((x6_2.length:Int) == 0) = false:=beq_eq_false_iff_ne.mpr c51
        have c51b1:((x6_2.length:Int) != 0) = true:=bne_iff_ne.mpr c51
        have c51b2:¬ (x6_2 = []):=fun h_=>c51 (by rw [h_];rfl)
        simp only [Option.some.injEq,Prod.mk.injEq] at H
        obtain ⟨rfl,rfl⟩:=H
        obtain ⟨Ao53,co53,eo53⟩:=Kd.R_slice HO_6.out
        subst eo53
        go_wp2
        go_ret2
        exact ⟨_,by first|rfl|(simp [errW_none,errW_some] <;> rfl)|(simp [*,errW_none,errW_some] <;> rfl),by (with_reducible repeat (first|apply Kd.R_alloc|apply Kd.R_drewN|apply Kd.R_drew));exact HO_6.out,by repeat (first|(with_reducible first|exact HB.out|apply below_alloc|apply pw_below_drewN|apply below_drew1|refine below_set ?_ GE1432.out)|exact HB.out)⟩


/-! ### impl_within: function 69 -/
def impl_within.f (a0:Int) (a1:Int) (a2:Int):Option (Bool):=if a0 ≥ a1 then (some (decide (a0 ≤ a2))) else (some false)
set_option maxHeartbeats 8000000 in
set_option maxRecDepth 100000 in
theorem impl_within.calls (a0:Int) (a1:Int) (a2:Int) (r:Bool) (w:World) (h:impl_within.f a0 a1 a2 = some r) :
  Calls Try.prog 69 #[.int .i64 a0,.int .i64 a1,.int .i64 a2] w fun e w'=>e = .returned (.bool r) ∧ Drawn0 w w':=by
 have H:(if a0 ≥ a1 then (some (decide (a0 ≤ a2))) else (some false)) = some r:=h
 clear h
 by_cases c4:a0 ≥ a1
 ·rw [if_pos c4] at H
  have c4b0:decide (a1 ≤ a0) = true:=decide_eq_true c4
  clear c4
  obtain rfl:=Option.some.inj H
  go_enter Try.func69,Try.ntmps69
  go_wp2
  go_ret
  exact ⟨by first|rfl|(simp;done)|(simp [*];done),by repeat (first|exact Drawn0.refl _|apply Drawn0.step)⟩
 ·rw [if_neg c4] at H
  have c4b0:decide (a1 ≤ a0) = false:=decide_eq_false c4
  clear c4
  obtain rfl:=Option.some.inj H
  go_enter Try.func69,Try.ntmps69
  go_wp2
  go_ret
  exact ⟨by first|rfl|(simp;done)|(simp [*];done),by repeat (first|exact Drawn0.refl _|apply Drawn0.step)⟩


/-! ### impl_sumOf: function 96 -/
def impl_sumOf.l0:Nat → Int → List Int → Int → Int → Option (Int)
 | 0,_,_,_,_=>none
 | k + 1,x3,x6,x7,x8=>if x8 < x7 then (if 0 ≤ x8 then (if x8 < (x6.length:Int) then (impl_sumOf.l0 k (wrap64 (x3 + (rd x6 x8))) x6 x7 (wrap64 (x8 + 1))) else (none)) else (none)) else (some x3)
def impl_sumOf.f (k:Nat) (l0:List Int):Option (Int):=impl_sumOf.l0 k 0 l0 (l0.length:Int) 0
theorem impl_sumOf.mono_l:∀ k,(∀ y0 y1 y2 y3,LeO (impl_sumOf.l0 k y0 y1 y2 y3) (impl_sumOf.l0 (k + 1) y0 y1 y2 y3))
 | 0=>fun _ _ _ _ r h=>by simp [impl_sumOf.l0] at h
 | k + 1=>by
  have ih0:=impl_sumOf.mono_l k
  ·intro y0 y1 y2 y3
   unfold impl_sumOf.l0
   repeat' first
   | (with_reducible exact ih0 _ _ _ _)
   | (with_reducible exact LeO.refl _)
   | (with_reducible exact LeO.none _)
   | (with_reducible refine LeO.ite ?_ ?_)
   | (with_reducible refine LeO.bind ?_ (fun _=>?_))
   | exact ih0 _ _ _ _
   | exact LeO.none _
   | refine LeO.ite ?_ ?_
   | refine LeO.bind ?_ (fun _=>?_)
theorem impl_sumOf.mono:∀ a0 k,LeO (impl_sumOf.f k a0) (impl_sumOf.f (k + 1) a0):=by
 intro a0 k
 have ih0:=impl_sumOf.mono_l k
 unfold impl_sumOf.f
 repeat' first
   | (with_reducible exact ih0 _ _ _ _)
   | (with_reducible exact LeO.refl _)
   | (with_reducible exact LeO.none _)
   | (with_reducible refine LeO.ite ?_ ?_)
   | (with_reducible refine LeO.bind ?_ (fun _=>?_))
   | exact ih0 _ _ _ _
   | exact LeO.none _
   | refine LeO.ite ?_ ?_
   | refine LeO.bind ?_ (fun _=>?_)
set_option maxHeartbeats 8000000 in
set_option maxRecDepth 100000 in
theorem impl_sumOf.calls (k:Nat) (A0:Option Addr) (c0:Nat) (l0:List Int) (r:Int) (w:World) (hr0:Kd.C (Kd.int .i64) w A0 l0.length l0) (hc0:l0.length ≤ c0) (h:impl_sumOf.f k l0 = some r) :
  Calls Try.prog 96 #[.slice A0 l0.length c0] w fun e w'=>e = .returned (.int .i64 r) ∧ Drawn0 w w':=by
 have HR0:=Aside0.mk hr0
 have HC0:=Aside0.mk hc0
 clear hr0 hc0
 have H:(impl_sumOf.l0 k 0 l0 (l0.length:Int) 0) = some r:=h
 clear h
 have H':=Aside0.mk H
 clear H
 go_enter Try.func96,Try.ntmps96
 go_wp2
 go_loopg [3,8] k (fun kq v3 v8 w'=>∃ (x3_1:Int) (x8_1:Int),v3 = .int .i64 x3_1 ∧ v8 = .int .i64 x8_1 ∧ Aside0 (impl_sumOf.l0 kq x3_1 l0 (l0.length:Int) x8_1 = some r) ∧ Aside0 (kq ≤ k) ∧ Drawn0 w w')
 case atStart=>exact ⟨(0),(0),(by first|rfl|(simp;done)|(simp [*];done)),(by first|rfl|(simp;done)|(simp [*];done)),H',⟨Nat.le_refl _⟩,by repeat (first|exact Drawn0.refl _|apply Drawn0.step)⟩
 case round =>
  clear H'
  obtain ⟨x3_1,x8_1,rfl,rfl,HA,HK1,⟨m1,rfl⟩⟩:=hrel
  cases gk with
  | zero=>exact absurd HA.out (by simp [impl_sumOf.l0])
  | succ k1 =>
   have H:=HA.out
   clear HA
   simp only [impl_sumOf.l0] at H
   by_cases c2:x8_1 < (l0.length:Int)
   ·rw [if_pos c2] at H
    have c2b0:decide (x8_1 < (l0.length:Int)) = true:=decide_eq_true c2
    clear c2
    by_cases c3:0 ≤ x8_1
    ·rw [if_pos c3] at H
     have c3b0:decide (0 ≤ x8_1) = true:=decide_eq_true c3
     clear c3
     by_cases c4:x8_1 < (l0.length:Int)
     ·rw [if_pos c4] at H
      have c4b0:decide (x8_1 < (l0.length:Int)) = true:=decide_eq_true c4
      clear c4
      have H':=Aside0.mk H
      clear H
      have p160:0 ≤ (x8_1:Int):=of_decide_eq_true (by first|(with_reducible assumption)|assumption)
      have q160:x8_1 < (l0.length:Int):=of_decide_eq_true (by first|(with_reducible assumption)|assumption)
      obtain ⟨ad160,e160,hx160_0⟩:=Kd.at_int HR0.out x8_1 p160 q160
      cases e160
      replace p160:=eq_true p160
      replace q160:=eq_true q160
      go_wp2
      go_roundg k1
      case measure=>have:=HK1.out;omega
      case rel=>exact ⟨(wrap64 (x3_1 + (rd l0 x8_1))),(wrap64 (x8_1 + 1)),(by first|rfl|(simp;done)|(simp [*];done)),(by first|rfl|(simp;done)|(simp [*];done)),H',⟨by have:=HK1.out;omega⟩,by repeat (first|exact Drawn0.refl _|apply Drawn0.step)⟩
     ·rw [if_neg c4] at H
      exact absurd H (by simp)
    ·rw [if_neg c3] at H
     exact absurd H (by simp)
   ·rw [if_neg c2] at H
    have c2b0:decide (x8_1 < (l0.length:Int)) = false:=decide_eq_false c2
    clear c2
    obtain rfl:=Option.some.inj H
    go_wp2
    go_ret
    exact ⟨by first|rfl|(simp;done)|(simp [*];done),by repeat (first|exact Drawn0.refl _|apply Drawn0.step)⟩


/-! ### slices_IndexFunc_int_int: function 211 -/
def slices_IndexFunc_int_int.l0:Nat → List Int → (Int → Option (Bool)) → Int → Int → Option (Int)
 | 0,_,_,_,_=>none
 | k + 1,x0,x1,x7,x8=>if x8 < x7 then (if 0 ≤ x8 then (if x8 < (x0.length:Int) then ((x1 (rd x0 x8)).bind fun t162=>(if t162 = true then (some x8) else (slices_IndexFunc_int_int.l0 k x0 x1 x7 (wrap64 (x8 + 1))))) else (none)) else (none)) else (some (-1))
def slices_IndexFunc_int_int.f (k:Nat) (l0:List Int) (a1:(Int → Option (Bool))):Option (Int):=slices_IndexFunc_int_int.l0 k l0 a1 (l0.length:Int) 0
theorem slices_IndexFunc_int_int.mono_l:∀ k,(∀ y0 y1 y2 y3,LeO (slices_IndexFunc_int_int.l0 k y0 y1 y2 y3) (slices_IndexFunc_int_int.l0 (k + 1) y0 y1 y2 y3))
 | 0=>fun _ _ _ _ r h=>by simp [slices_IndexFunc_int_int.l0] at h
 | k + 1=>by
  have ih0:=slices_IndexFunc_int_int.mono_l k
  ·intro y0 y1 y2 y3
   unfold slices_IndexFunc_int_int.l0
   repeat' first
   | (with_reducible exact ih0 _ _ _ _)
   | (with_reducible exact LeO.refl _)
   | (with_reducible exact LeO.none _)
   | (with_reducible refine LeO.ite ?_ ?_)
   | (with_reducible refine LeO.bind ?_ (fun _=>?_))
   | exact ih0 _ _ _ _
   | exact LeO.none _
   | refine LeO.ite ?_ ?_
   | refine LeO.bind ?_ (fun _=>?_)
theorem slices_IndexFunc_int_int.mono:∀ a0 a1 k,LeO (slices_IndexFunc_int_int.f k a0 a1) (slices_IndexFunc_int_int.f (k + 1) a0 a1):=by
 intro a0 a1 k
 have ih0:=slices_IndexFunc_int_int.mono_l k
 unfold slices_IndexFunc_int_int.f
 repeat' first
   | (with_reducible exact ih0 _ _ _ _)
   | (with_reducible exact LeO.refl _)
   | (with_reducible exact LeO.none _)
   | (with_reducible refine LeO.ite ?_ ?_)
   | (with_reducible refine LeO.bind ?_ (fun _=>?_))
   | exact ih0 _ _ _ _
   | exact LeO.none _
   | refine LeO.ite ?_ ?_
   | refine LeO.bind ?_ (fun _=>?_)
theorem slices_IndexFunc_int_int.monop_l {p_ q_:(Int → Option (Bool))} (h_:∀ x0_,LeO (p_ x0_) (q_ x0_)):∀ k,(∀ y0 y2 y3,LeO (slices_IndexFunc_int_int.l0 k y0 p_ y2 y3) (slices_IndexFunc_int_int.l0 k y0 q_ y2 y3))
 | 0=>fun _ _ _ r hz=>by simp [slices_IndexFunc_int_int.l0] at hz
 | k + 1=>by
  have ih0:=slices_IndexFunc_int_int.monop_l h_ k
  ·intro y0 y1 y2
   unfold slices_IndexFunc_int_int.l0
   repeat' first
   | (with_reducible exact ih0 _ _ _)
   | (with_reducible exact h_ _)
   | (with_reducible exact LeO.refl _)
   | (with_reducible refine LeO.ite ?_ ?_)
   | (with_reducible refine LeO.bind ?_ (fun _=>?_))
   | exact ih0 _ _ _
   | exact h_ _
   | exact LeO.refl _
   | refine LeO.ite ?_ ?_
   | refine LeO.bind ?_ (fun _=>?_)
theorem slices_IndexFunc_int_int.mono_p {p_ q_:(Int → Option (Bool))} (h_:∀ x0_,LeO (p_ x0_) (q_ x0_)):∀ a0 k,LeO (slices_IndexFunc_int_int.f k a0 p_) (slices_IndexFunc_int_int.f k a0 q_):=by
 intro a0 k
 have ih0:=slices_IndexFunc_int_int.monop_l h_ k
 unfold slices_IndexFunc_int_int.f
 repeat' first
   | (with_reducible exact ih0 _ _ _)
   | (with_reducible exact h_ _)
   | (with_reducible exact LeO.refl _)
   | (with_reducible refine LeO.ite ?_ ?_)
   | (with_reducible refine LeO.bind ?_ (fun _=>?_))
   | exact ih0 _ _ _
   | exact h_ _
   | exact LeO.refl _
   | refine LeO.ite ?_ ?_
   | refine LeO.bind ?_ (fun _=>?_)
set_option maxHeartbeats 8000000 in
set_option maxRecDepth 100000 in
theorem slices_IndexFunc_int_int.calls (k:Nat) (A0:Option Addr) (c0:Nat) (l0:List Int) (a1:(Int → Option (Bool))) (g1_:Nat) (lb1_:Array Value) (eg1_:∀ (args:Array Value) (w:World),(callFunc g1_ args).run Try.prog w = .ok (.enter g1_ args) w) (r:Int) (w:World) (hr0:Kd.C (Kd.int .i64) w A0 l0.length l0) (hc0:l0.length ≤ c0) (hp1:∀ (W:World) (b0_:Int) (r0_:Bool),a1 b0_ = some r0_ → Below w.heap.size w W → Calls Try.prog g1_ (#[.int .i64 b0_] ++ lb1_) W fun e w'=>e = .returned (.bool r0_) ∧ Below W.heap.size W w') (h:slices_IndexFunc_int_int.f k l0 a1 = some r) :
  Calls Try.prog 211 #[.slice A0 l0.length c0,.func (.func g1_) #[] lb1_] w fun e w'=>e = .returned (.int .i64 r) ∧ Below w.heap.size w w':=by
 have HR0:=Aside0.mk hr0
 have HC0:=Aside0.mk hc0
 clear hr0 hc0
 have HP1:=Aside0.mk hp1
 clear hp1
 have HB:=Aside0.mk (Below.refl w.heap.size w)
 have H:(slices_IndexFunc_int_int.l0 k l0 a1 (l0.length:Int) 0) = some r:=h
 clear h
 have H':=Aside0.mk H
 clear H
 go_enter Try.func211,Try.ntmps211
 go_wp2
 go_loopg [8] k (fun kq v8 w'=>∃ (x8_1:Int),v8 = .int .i64 x8_1 ∧ Aside0 (slices_IndexFunc_int_int.l0 kq l0 a1 (l0.length:Int) x8_1 = some r) ∧ Aside0 (kq ≤ k) ∧ Aside0 (Below w.heap.size w w'))
 case atStart=>exact ⟨(0),(by first|rfl|(simp;done)|(simp [*];done)),H',⟨Nat.le_refl _⟩,⟨by repeat (first|(with_reducible first|exact HB.out|apply below_alloc|apply pw_below_drewN|apply below_drew1)|exact HB.out)⟩⟩
 case round =>
  clear H'
  try clear p1
  try clear c2
  try clear p2
  obtain ⟨x8_1,rfl,HA,HK1,HB⟩:=hrel
  cases gk with
  | zero=>exact absurd HA.out (by simp [slices_IndexFunc_int_int.l0])
  | succ k1 =>
   have H:=HA.out
   clear HA
   simp only [slices_IndexFunc_int_int.l0] at H
   by_cases c3:x8_1 < (l0.length:Int)
   ·rw [if_pos c3] at H
    have c3b0:decide (x8_1 < (l0.length:Int)) = true:=decide_eq_true c3
    clear c3
    by_cases c4:0 ≤ x8_1
    ·rw [if_pos c4] at H
     have c4b0:decide (0 ≤ x8_1) = true:=decide_eq_true c4
     clear c4
     by_cases c5:x8_1 < (l0.length:Int)
     ·rw [if_pos c5] at H
      have c5b0:decide (x8_1 < (l0.length:Int)) = true:=decide_eq_true c5
      clear c5
      replace H:=Option.bind_eq_some_iff.mp H
      obtain ⟨t162,A60,H⟩:=H
      replace H:(if t162 = true then (some x8_1) else (slices_IndexFunc_int_int.l0 k1 l0 a1 (l0.length:Int) (wrap64 (x8_1 + 1)))) = some r:=H
      have A6:=Aside0.mk A60
      clear A60
      by_cases c7:t162 = true
      ·subst c7
       have H1:(some x8_1) = some r:=by rw [if_pos rfl] at H;exact H
       clear H
       have H:=H1
       clear H1
       obtain rfl:=Option.some.inj H
       have p161:0 ≤ (x8_1:Int):=of_decide_eq_true (by first|(with_reducible assumption)|assumption)
       have q161:x8_1 < (l0.length:Int):=of_decide_eq_true (by first|(with_reducible assumption)|assumption)
       obtain ⟨ad161,e161,hx161_0⟩:=Kd.at_int HR0.out x8_1 p161 q161
       cases e161
       replace hx161_0:=(HB.out.cell (World.block_lt_of_cell? w _ hx161_0)).trans hx161_0
       replace p161:=eq_true p161
       replace q161:=eq_true q161
       go_wp2_with (first|((with_reducible refine gate_fn (t:=11) rfl ?_);refine goesFL_ (some 16) rfl rfl eg1_ #[.int .i64 (rd l0 x8_1)] rfl rfl (by (try simp only [List.map_toArray,List.map_cons,List.map_nil]);first|done|rfl|(simp only [List.length_drop,List.length_take];rfl)) ?_;(with_reducible refine (HP1.out _ (rd l0 x8_1) true A6.out ?side1).mono ?_);(case side1=>repeat (first|(with_reducible first|exact HB.out|apply below_alloc|apply pw_below_drewN|apply below_drew1)|exact HB.out));rintro e w8 ⟨rfl,hb⟩;refine ⟨_,rfl,?_⟩;have n0_:=Aside0.mk (below_step (by repeat (first|(with_reducible first|exact HB.out|apply below_alloc|apply pw_below_drewN|apply below_drew1)|exact HB.out)) hb);clear HB;have HB:=n0_;clear n0_;(try clear hb);(try clear hb2);(try clear hk);(try clear hi)))
       go_ret
       exact ⟨by first|rfl|(simp [errW_none,errW_some] <;> rfl)|(simp [*,errW_none,errW_some] <;> rfl),by repeat (first|(with_reducible first|exact HB.out|apply below_alloc|apply pw_below_drewN|apply below_drew1)|exact HB.out)⟩
      ·replace c7:=Bool.eq_false_iff.mpr c7
       subst c7
       have H1:(slices_IndexFunc_int_int.l0 k1 l0 a1 (l0.length:Int) (wrap64 (x8_1 + 1))) = some r:=by rw [if_neg (show ¬ (false = true) by decide)] at H;exact H
       clear H
       have H:=H1
       clear H1
       have H':=Aside0.mk H
       clear H
       have p161:0 ≤ (x8_1:Int):=of_decide_eq_true (by first|(with_reducible assumption)|assumption)
       have q161:x8_1 < (l0.length:Int):=of_decide_eq_true (by first|(with_reducible assumption)|assumption)
       obtain ⟨ad161,e161,hx161_0⟩:=Kd.at_int HR0.out x8_1 p161 q161
       cases e161
       replace hx161_0:=(HB.out.cell (World.block_lt_of_cell? w _ hx161_0)).trans hx161_0
       replace p161:=eq_true p161
       replace q161:=eq_true q161
       go_wp2_with (first|((with_reducible refine gate_fn (t:=11) rfl ?_);refine goesFL_ (some 16) rfl rfl eg1_ #[.int .i64 (rd l0 x8_1)] rfl rfl (by (try simp only [List.map_toArray,List.map_cons,List.map_nil]);first|done|rfl|(simp only [List.length_drop,List.length_take];rfl)) ?_;(with_reducible refine (HP1.out _ (rd l0 x8_1) false A6.out ?side1).mono ?_);(case side1=>repeat (first|(with_reducible first|exact HB.out|apply below_alloc|apply pw_below_drewN|apply below_drew1)|exact HB.out));rintro e w9 ⟨rfl,hb⟩;refine ⟨_,rfl,?_⟩;have n0_:=Aside0.mk (below_step (by repeat (first|(with_reducible first|exact HB.out|apply below_alloc|apply pw_below_drewN|apply below_drew1)|exact HB.out)) hb);clear HB;have HB:=n0_;clear n0_;(try clear hb);(try clear hb2);(try clear hk);(try clear hi)))
       go_roundg k1
       case measure=>have:=HK1.out;omega
       case rel=>exact ⟨(wrap64 (x8_1 + 1)),(by first|rfl|(simp;done)|(simp [*];done)),H',⟨by have:=HK1.out;omega⟩,⟨by repeat (first|(with_reducible first|exact HB.out|apply below_alloc|apply pw_below_drewN|apply below_drew1)|exact HB.out)⟩⟩
     ·rw [if_neg c5] at H
      exact absurd H (by simp)
    ·rw [if_neg c4] at H
     exact absurd H (by simp)
   ·rw [if_neg c3] at H
    have c3b0:decide (x8_1 < (l0.length:Int)) = false:=decide_eq_false c3
    clear c3
    obtain rfl:=Option.some.inj H
    go_wp2
    go_ret
    exact ⟨by first|rfl|(simp [errW_none,errW_some] <;> rfl)|(simp [*,errW_none,errW_some] <;> rfl),by repeat (first|(with_reducible first|exact HB.out|apply below_alloc|apply pw_below_drewN|apply below_drew1)|exact HB.out)⟩


/-! ### slices_ContainsFunc_int_int: function 198 -/
def slices_ContainsFunc_int_int.f (k:Nat) (l0:List Int) (a1:(Int → Option (Bool))):Option (Bool):=(slices_IndexFunc_int_int.f k l0 a1).bind fun t163=>(some (decide (t163 ≥ 0)))
theorem slices_ContainsFunc_int_int.mono:∀ a0 a1 k,LeO (slices_ContainsFunc_int_int.f k a0 a1) (slices_ContainsFunc_int_int.f (k + 1) a0 a1):=by
 intro a0 a1 k
 unfold slices_ContainsFunc_int_int.f
 repeat' first
   | (with_reducible exact slices_IndexFunc_int_int.mono _ _ _)
   | (with_reducible exact LeO.refl _)
   | (with_reducible exact LeO.none _)
   | (with_reducible refine LeO.trans (slices_IndexFunc_int_int.mono _ _ _) (slices_IndexFunc_int_int.mono_p (fun _=>?_) _ _))
   | (with_reducible refine LeO.ite ?_ ?_)
   | (with_reducible refine LeO.bind ?_ (fun _=>?_))
   | exact slices_IndexFunc_int_int.mono _ _ _
   | exact LeO.none _
   | refine LeO.ite ?_ ?_
   | refine LeO.bind ?_ (fun _=>?_)
theorem slices_ContainsFunc_int_int.mono_p {p_ q_:(Int → Option (Bool))} (h_:∀ x0_,LeO (p_ x0_) (q_ x0_)):∀ a0 k,LeO (slices_ContainsFunc_int_int.f k a0 p_) (slices_ContainsFunc_int_int.f k a0 q_):=by
 intro a0 k
 unfold slices_ContainsFunc_int_int.f
 repeat' first
   | (with_reducible exact h_ _)
   | (with_reducible refine slices_IndexFunc_int_int.mono_p (fun _=>?_) _ _)
   | (with_reducible exact LeO.refl _)
   | (with_reducible refine LeO.ite ?_ ?_)
   | (with_reducible refine LeO.bind ?_ (fun _=>?_))
   | exact h_ _
   | exact LeO.refl _
   | refine LeO.ite ?_ ?_
   | refine LeO.bind ?_ (fun _=>?_)
set_option maxHeartbeats 8000000 in
set_option maxRecDepth 100000 in
theorem slices_ContainsFunc_int_int.calls (k:Nat) (A0:Option Addr) (c0:Nat) (l0:List Int) (a1:(Int → Option (Bool))) (g1_:Nat) (lb1_:Array Value) (eg1_:∀ (args:Array Value) (w:World),(callFunc g1_ args).run Try.prog w = .ok (.enter g1_ args) w) (r:Bool) (w:World) (hr0:Kd.C (Kd.int .i64) w A0 l0.length l0) (hc0:l0.length ≤ c0) (hp1:∀ (W:World) (b0_:Int) (r0_:Bool),a1 b0_ = some r0_ → Below w.heap.size w W → Calls Try.prog g1_ (#[.int .i64 b0_] ++ lb1_) W fun e w'=>e = .returned (.bool r0_) ∧ Below W.heap.size W w') (h:slices_ContainsFunc_int_int.f k l0 a1 = some r) :
  Calls Try.prog 198 #[.slice A0 l0.length c0,.func (.func g1_) #[] lb1_] w fun e w'=>e = .returned (.bool r) ∧ Below w.heap.size w w':=by
 have HR0:=Aside0.mk hr0
 have HC0:=Aside0.mk hc0
 clear hr0 hc0
 have HP1:=Aside0.mk hp1
 clear hp1
 have HB:=Aside0.mk (Below.refl w.heap.size w)
 have H:((slices_IndexFunc_int_int.f k l0 a1).bind fun t163=>(some (decide (t163 ≥ 0)))) = some r:=h
 clear h
 replace H:=Option.bind_eq_some_iff.mp H
 obtain ⟨t163,A30,H⟩:=H
 replace H:(some (decide (t163 ≥ 0))) = some r:=H
 have A3:=Aside0.mk A30
 clear A30
 obtain rfl:=Option.some.inj H
 go_enter Try.func198,Try.ntmps198
 go_wp2_with (first|((with_reducible refine gate_callee (f:=211) rfl ?_);refine goesL_ (some 7) rfl rfl Try.func211 (by kernel_rfl) rfl #[.slice A0 l0.length c0,.func (.func g1_) #[] lb1_] rfl (by (try simp only [List.map_toArray,List.map_cons,List.map_nil]);first|done|rfl|(simp only [List.length_drop,List.length_take];rfl)) ?_;(with_reducible refine (slices_IndexFunc_int_int.calls k _ _ l0 a1 g1_ lb1_ eg1_ t163 _ ?side1 ?side2 ?side3 A3.out).mono ?_);(case side1=>repeat (first|exact HR0.out|(with_reducible refine Kd.C_alloc ?_ _)|(with_reducible refine Kd.C_drewN ?_ _)|(with_reducible refine Kd.C_drew ?_)));(case side2=>exact HC0.out);(case side3=>exact (fun W_ a0_ r0_ hx_ hb_ =>HP1.out W_ a0_ r0_ hx_ (below_step (by repeat (first|(with_reducible first|exact HB.out|apply below_alloc|apply pw_below_drewN|apply below_drew1)|exact HB.out)) hb_) ));rintro e w4 ⟨rfl,hb⟩;refine ⟨_,rfl,?_⟩;have n0_:=Aside0.mk (below_step (by repeat (first|(with_reducible first|exact HB.out|apply below_alloc|apply pw_below_drewN|apply below_drew1)|exact HB.out)) hb);clear HB;have HB:=n0_;clear n0_;(try clear hb);(try clear hb2);(try clear hk);(try clear hi)))
 go_ret
 exact ⟨by first|rfl|(simp [errW_none,errW_some] <;> rfl)|(simp [*,errW_none,errW_some] <;> rfl),by repeat (first|(with_reducible first|exact HB.out|apply below_alloc|apply pw_below_drewN|apply below_drew1)|exact HB.out)⟩


/-! ### impl_areIn_1: function 206 -/
def impl_areIn_1.f (a0:Int) (a1:Int) (a2:Int):Option (Bool):=(impl_within.f a0 a1 a2).bind fun t164=>(some (!t164))
set_option maxHeartbeats 8000000 in
set_option maxRecDepth 100000 in
theorem impl_areIn_1.calls (a0:Int) (gc1:Nat) (a1:Int) (gc2:Nat) (a2:Int) (r:Bool) (w:World) (hb1:w.heap[gc1]? = some (.cells #[.int .i64 a1] 3 (0,0))) (hb2:w.heap[gc2]? = some (.cells #[.int .i64 a2] 3 (0,0))) (hn1_2:gc1 ≠ gc2) (h:impl_areIn_1.f a0 a1 a2 = some r) :
  Calls Try.prog 206 #[.int .i64 a0,.pointer (some ⟨gc1,0,none⟩),.pointer (some ⟨gc2,0,none⟩)] w fun e w'=>e = .returned (.bool r) ∧ Drawn0 w w':=by
 have BK1:=Aside0.mk hb1
 clear hb1
 have BK2:=Aside0.mk hb2
 clear hb2
 have NB1_2:=Aside0.mk hn1_2
 have NB2_1:=Aside0.mk (Ne.symm hn1_2)
 clear hn1_2
 have H:((impl_within.f a0 a1 a2).bind fun t164=>(some (!t164))) = some r:=h
 clear h
 replace H:=Option.bind_eq_some_iff.mp H
 obtain ⟨t164,A40,H⟩:=H
 replace H:(some (!t164)) = some r:=H
 have A4:=Aside0.mk A40
 clear A40
 obtain rfl:=Option.some.inj H
 have hnb5:=NB1_2.out
 have hnc5:=NB2_1.out
 have hcz6_0:w.cell? ⟨gc1,0,none⟩ = some (.int .i64 a1):=(blk_cell BK1.out 0).trans rfl
 have hfz6_0:=blk_frozen BK1.out 0
 have hcz7_0:w.cell? ⟨gc2,0,none⟩ = some (.int .i64 a2):=(blk_cell BK2.out 0).trans rfl
 have hfz7_0:=blk_frozen BK2.out 0
 go_enter Try.func206,Try.ntmps206
 go_wp2_with (first|((with_reducible refine gate_callee (f:=69) rfl ?_);refine goesL_ (some 8) rfl rfl Try.func69 (by kernel_rfl) rfl #[.int .i64 a0,.int .i64 a1,.int .i64 a2] rfl (by (try simp only [List.map_toArray,List.map_cons,List.map_nil]);first|done|rfl|(simp only [List.length_drop,List.length_take];rfl)) ?_;(with_reducible refine (impl_within.calls a0 a1 a2 t164 _ A4.out).mono ?_);rintro e w' ⟨rfl,⟨nd,rfl⟩⟩;refine ⟨_,rfl,?_⟩))
 go_ret
 exact ⟨by first|rfl|(simp;done)|(simp [*];done),by repeat (first|exact Drawn0.refl _|apply Drawn0.step)⟩
theorem impl_areIn_1.enters:∀ (args:Array Value) (w:World),(callFunc 206 args).run Try.prog w = .ok (.enter 206 args) w:=enters_of Try.func206 (by kernel_rfl) rfl


/-! ### impl_areIn: function 187 -/
def impl_areIn.f (k:Nat) (l0:List Int) (a1:Int) (a2:Int):Option (Bool):=(slices_ContainsFunc_int_int.f k l0 (fun y0_=>impl_areIn_1.f y0_ a1 a2)).bind fun t167=>(some (!t167))
theorem impl_areIn.mono:∀ a0 a1 a2 k,LeO (impl_areIn.f k a0 a1 a2) (impl_areIn.f (k + 1) a0 a1 a2):=by
 intro a0 a1 a2 k
 unfold impl_areIn.f
 repeat' first
   | (with_reducible exact slices_ContainsFunc_int_int.mono _ _ _)
   | (with_reducible exact LeO.refl _)
   | (with_reducible exact LeO.none _)
   | (with_reducible refine LeO.trans (slices_ContainsFunc_int_int.mono _ _ _) (slices_ContainsFunc_int_int.mono_p (fun _=>?_) _ _))
   | (with_reducible refine LeO.ite ?_ ?_)
   | (with_reducible refine LeO.bind ?_ (fun _=>?_))
   | exact slices_ContainsFunc_int_int.mono _ _ _
   | exact LeO.none _
   | refine LeO.ite ?_ ?_
   | refine LeO.bind ?_ (fun _=>?_)
set_option maxHeartbeats 8000000 in
set_option maxRecDepth 100000 in
theorem impl_areIn.calls (k:Nat) (A0:Option Addr) (c0:Nat) (l0:List Int) (a1:Int) (a2:Int) (r:Bool) (w:World) (hr0:Kd.C (Kd.int .i64) w A0 l0.length l0) (hc0:l0.length ≤ c0) (h:impl_areIn.f k l0 a1 a2 = some r) :
  Calls Try.prog 187 #[.slice A0 l0.length c0,.int .i64 a1,.int .i64 a2] w fun e w'=>e = .returned (.bool r) ∧ Below w.heap.size w w':=by
 have hmf:∀ (fn:Fn) (first cap:Array Value) (w:World),(Instr.makeFunc fn first cap).run Try.prog w = .ok (.func fn first cap) w:=fun _ _ _ _=>rfl
 have HR0:=Aside0.mk hr0
 have HC0:=Aside0.mk hc0
 clear hr0 hc0
 have HB:=Aside0.mk (Below.refl w.heap.size w)
 have H:((slices_ContainsFunc_int_int.f k l0 (fun y0_=>impl_areIn_1.f y0_ a1 a2)).bind fun t167=>(some (!t167))) = some r:=h
 clear h
 replace H:=Option.bind_eq_some_iff.mp H
 obtain ⟨t167,A40,H⟩:=H
 replace H:(some (!t167)) = some r:=H
 have A4:=Aside0.mk A40
 clear A40
 obtain rfl:=Option.some.inj H
 go_enter Try.func187,Try.ntmps187
 go_wp2_with (first|((with_reducible refine gate_dst (N:=4) rfl ?_);refine box_event ?hg (N:=4) ?hd (cs:=#[.int .i64 a1]) (t:=3) ?hr ?_;(case hd=>rfl);(case hg=>rfl);(case hr=>first|(go_simp;done)|(go_simp;rfl));intro gb165 hg w5 hbox hb;have n0_:=Aside0.mk (below_step (by repeat (first|(with_reducible first|exact HB.out|apply below_alloc|apply pw_below_drewN|apply below_drew1)|exact HB.out)) hb);have n1_:=Aside0.mk (hbox);have n2_:=Aside0.mk ((by rw [hg];exact (below_size (by repeat (first|(with_reducible first|exact HB.out|apply below_alloc|apply pw_below_drewN|apply below_drew1)|exact HB.out))):w.heap.size ≤ gb165));have n3_:=Aside0.mk ((by rw [hg];exact (below_size (by repeat (first|(with_reducible first|exact HB.out|apply below_alloc|apply pw_below_drewN|apply below_drew1)|exact HB.out))):w.heap.size ≤ gb165));clear HB;have HB:=n0_;have BK165:=n1_;have GW165:=n2_;have GE165:=n3_;clear n0_ n1_ n2_ n3_;clear hb hbox hg)|((with_reducible refine gate_dst (N:=5) rfl ?_);refine box_event ?hg (N:=5) ?hd (cs:=#[.int .i64 a2]) (t:=3) ?hr ?_;(case hd=>rfl);(case hg=>rfl);(case hr=>first|(go_simp;done)|(go_simp;rfl));intro gb166 hg w6 hbox hb;have n0_:=Aside0.mk (blk_below (g:=gb165) (o:=.cells #[.int .i64 a1] 3 (0,0)) (by (with_reducible repeat (first|refine blk_drewN ?_ _|refine blk_drew ?_|refine blk_alloc ?_ _));exact BK165.out) hb);have n1_:=Aside0.mk (below_step (by repeat (first|(with_reducible first|exact HB.out|apply below_alloc|apply pw_below_drewN|apply below_drew1|refine below_set ?_ GE165.out)|exact HB.out)) hb);have n2_:=Aside0.mk (hbox);have n3_:=Aside0.mk ((by rw [hg];exact (below_size (by repeat (first|(with_reducible first|exact HB.out|apply below_alloc|apply pw_below_drewN|apply below_drew1|refine below_set ?_ GE165.out)|exact HB.out))):w.heap.size ≤ gb166));have n4_:=Aside0.mk ((by rw [hg];exact (below_size (by repeat (first|(with_reducible first|exact HB.out|apply below_alloc|apply pw_below_drewN|apply below_drew1|refine below_set ?_ GE165.out)|exact HB.out))):w.heap.size ≤ gb166));have n5_:=Aside0.mk ((by rw [hg];exact Nat.ne_of_lt (blk_lt (g:=gb165) (o:=.cells #[.int .i64 a1] 3 (0,0)) (by (with_reducible repeat (first|refine blk_drewN ?_ _|refine blk_drew ?_|refine blk_alloc ?_ _));exact BK165.out)):gb165 ≠ gb166));have n6_:=Aside0.mk ((by rw [hg];exact Nat.ne_of_gt (blk_lt (g:=gb165) (o:=.cells #[.int .i64 a1] 3 (0,0)) (by (with_reducible repeat (first|refine blk_drewN ?_ _|refine blk_drew ?_|refine blk_alloc ?_ _));exact BK165.out)):gb166 ≠ gb165));clear BK165;clear HB;have BK165:=n0_;have HB:=n1_;have BK166:=n2_;have GW166:=n3_;have GE166:=n4_;have NB165_166:=n5_;have NB166_165:=n6_;clear n0_ n1_ n2_ n3_ n4_ n5_ n6_;clear hb hbox hg)|((with_reducible refine gate_callee (f:=198) rfl ?_);refine goesL_ (some 9) rfl rfl Try.func198 (by kernel_rfl) rfl #[.slice A0 l0.length c0,.func (.func 206) #[] #[.pointer (some ⟨gb165,0,none⟩),.pointer (some ⟨gb166,0,none⟩)]] rfl (by (try simp only [List.map_toArray,List.map_cons,List.map_nil]);first|done|rfl|(simp only [List.length_drop,List.length_take];rfl)) ?_;(with_reducible refine (slices_ContainsFunc_int_int.calls k _ _ l0 (fun y0_=>impl_areIn_1.f y0_ a1 a2) 206 #[.pointer (some ⟨gb165,0,none⟩),.pointer (some ⟨gb166,0,none⟩)] impl_areIn_1.enters t167 _ ?side1 ?side2 ?side3 A4.out).mono ?_);(case side1=>repeat (first|exact (Kd.C_below HR0.out HB.out)|(with_reducible refine Kd.C_alloc ?_ _)|(with_reducible refine Kd.C_drewN ?_ _)|(with_reducible refine Kd.C_drew ?_)));(case side2=>exact HC0.out);(case side3=>exact (fun W_ a0_ r0_ hx_ hb_ =>(impl_areIn_1.calls a0_ gb165 a1 gb166 a2 r0_ W_  (box_later (by (with_reducible repeat (first|refine blk_drewN ?_ _|refine blk_drew ?_|refine blk_alloc ?_ _));exact BK165.out) hb_) (box_later (by (with_reducible repeat (first|refine blk_drewN ?_ _|refine blk_drew ?_|refine blk_alloc ?_ _));exact BK166.out) hb_) NB165_166.out hx_).mono (fun _ _ h_=>⟨h_.1,h_.2.below⟩)));rintro e w7 ⟨rfl,hb⟩;refine ⟨_,rfl,?_⟩;have n0_:=Aside0.mk (blk_below (g:=gb165) (o:=.cells #[.int .i64 a1] 3 (0,0)) (by (with_reducible repeat (first|refine blk_drewN ?_ _|refine blk_drew ?_|refine blk_alloc ?_ _));exact BK165.out) hb);have n1_:=Aside0.mk (blk_below (g:=gb166) (o:=.cells #[.int .i64 a2] 3 (0,0)) (by (with_reducible repeat (first|refine blk_drewN ?_ _|refine blk_drew ?_|refine blk_alloc ?_ _));exact BK166.out) hb);have n2_:=Aside0.mk (below_step (by repeat (first|(with_reducible first|exact HB.out|apply below_alloc|apply pw_below_drewN|apply below_drew1|refine below_set ?_ GE165.out|refine below_set ?_ GE166.out)|exact HB.out)) hb);clear BK165;clear BK166;clear HB;have BK165:=n0_;have BK166:=n1_;have HB:=n2_;clear n0_ n1_ n2_;(try clear hb);(try clear hb2);(try clear hk);(try clear hi)))
 go_ret
 exact ⟨by first|rfl|(simp [errW_none,errW_some] <;> rfl)|(simp [*,errW_none,errW_some] <;> rfl),by repeat (first|(with_reducible first|exact HB.out|apply below_alloc|apply pw_below_drewN|apply below_drew1|refine below_set ?_ GE165.out|refine below_set ?_ GE166.out)|exact HB.out)⟩


/-! ### impl_IsCommittee: function 142 -/
def impl_IsCommittee.f (k:Nat) (a0_0:Int) (l0_1:List Int):Option (Bool):=if (l0_1.length:Int) ≥ 1 then (if (l0_1.length:Int) ≤ 9 then ((impl_areIn.f k l0_1 0 1000).bind fun t169=>(if t169 = true then ((impl_sumOf.f k l0_1).bind fun t170=>((impl_within.f a0_0 1 t170).bind fun t171=>(some t171))) else (some false))) else (some false)) else (some false)
theorem impl_IsCommittee.mono:∀ a0 a1 k,LeO (impl_IsCommittee.f k a0 a1) (impl_IsCommittee.f (k + 1) a0 a1):=by
 intro a0 a1 k
 unfold impl_IsCommittee.f
 repeat' first
   | (with_reducible exact impl_areIn.mono _ _ _ _)
   | (with_reducible exact impl_sumOf.mono _ _)
   | (with_reducible exact LeO.refl _)
   | (with_reducible exact LeO.none _)
   | (with_reducible refine LeO.ite ?_ ?_)
   | (with_reducible refine LeO.bind ?_ (fun _=>?_))
   | exact impl_areIn.mono _ _ _ _
   | exact impl_sumOf.mono _ _
   | exact LeO.none _
   | refine LeO.ite ?_ ?_
   | refine LeO.bind ?_ (fun _=>?_)
def impl_IsCommittee.T1:Bool × List (List Nat × List Nat):=(true,[([],[]),([0],[0]),([1],[1]),([2],[2]),([3],[3]),([4],[4]),([5,4],[4,5]),([6,4],[4,6]),([7,4],[4,7]),([4,8],[4,8]),([9,4],[9]),([10],[10]),([11,10],[10,11]),([12,10,10],[10,12]),([10,13],[10,13]),([14,13],[14]),([15],[15]),([16,15],[15,16]),([15],[15]),([18,15],[15,18]),([19,15,15],[15,19]),([17,20,20,15],[15,17,20]),([15,21],[15,21]),([22,21,0,1,2,3,4,5,6,7,8,9,10,11,12,13,14,15,16,17,18,19,20,21,22],[22])])
def impl_IsCommittee.B1:List Nat:=[0,1,3,7,15,31,63,127,255,511,1023,2047,4095,8191,16383,32767,65535,131071,65535,327679,851967,2097151,4194303,8388607]
theorem impl_IsCommittee.tab1:rtab .any (opsOf Try.f142 1) = impl_IsCommittee.T1:=by kernel_rfl
theorem impl_IsCommittee.bits1:waitsOk impl_IsCommittee.T1.2 impl_IsCommittee.B1 = true:=by kernel_rfl
set_option maxHeartbeats 8000000 in
set_option maxRecDepth 100000 in
theorem impl_IsCommittee.calls (k:Nat) (a0_0:Int) (A0_1:Option Addr) (c0_1:Nat) (l0_1:List Int) (r:Bool) (w:World) (hr0_1:Kd.C (Kd.int .i64) w A0_1 l0_1.length l0_1) (hc0_1:l0_1.length ≤ c0_1) (h:impl_IsCommittee.f k a0_0 l0_1 = some r) :
  Calls Try.prog 142 #[.agg #[.int .i64 a0_0,.slice A0_1 l0_1.length c0_1]] w fun e w'=>e = .returned (.bool r) ∧ Below w.heap.size w w':=by
 have hu26:=Try.underlying26
 have HR0_1:=Aside0.mk hr0_1
 have HC0_1:=Aside0.mk hc0_1
 clear hr0_1 hc0_1
 have HB:=Aside0.mk (Below.refl w.heap.size w)
 have H:(if (l0_1.length:Int) ≥ 1 then (if (l0_1.length:Int) ≤ 9 then ((impl_areIn.f k l0_1 0 1000).bind fun t169=>(if t169 = true then ((impl_sumOf.f k l0_1).bind fun t170=>((impl_within.f a0_0 1 t170).bind fun t171=>(some t171))) else (some false))) else (some false)) else (some false)) = some r:=h
 clear h
 by_cases c2:(l0_1.length:Int) ≥ 1
 ·rw [if_pos c2] at H
  have c2b0:decide (1 ≤ (l0_1.length:Int)) = true:=decide_eq_true c2
  have c2b1:decide (1 ≤ l0_1.length) = true:=decide_eq_true (by omega)
  clear c2
  by_cases c3:(l0_1.length:Int) ≤ 9
  ·rw [if_pos c3] at H
   have c3b0:decide ((l0_1.length:Int) ≤ 9) = true:=decide_eq_true c3
   have c3b1:decide (l0_1.length ≤ 9) = true:=decide_eq_true (by omega)
   clear c3
   replace H:=Option.bind_eq_some_iff.mp H
   obtain ⟨t169,A40,H⟩:=H
   replace H:(if t169 = true then ((impl_sumOf.f k l0_1).bind fun t170=>((impl_within.f a0_0 1 t170).bind fun t171=>(some t171))) else (some false)) = some r:=H
   have A4:=Aside0.mk A40
   clear A40
   by_cases c5:t169 = true
   ·subst c5
    have H1:((impl_sumOf.f k l0_1).bind fun t170=>((impl_within.f a0_0 1 t170).bind fun t171=>(some t171))) = some r:=by rw [if_pos rfl] at H;exact H
    clear H
    have H:=H1
    clear H1
    replace H:=Option.bind_eq_some_iff.mp H
    obtain ⟨t170,A60,H⟩:=H
    replace H:((impl_within.f a0_0 1 t170).bind fun t171=>(some t171)) = some r:=H
    have A6:=Aside0.mk A60
    clear A60
    replace H:=Option.bind_eq_some_iff.mp H
    obtain ⟨t171,A70,H⟩:=H
    replace H:(some t171) = some r:=H
    have A7:=Aside0.mk A70
    clear A70
    obtain rfl:=Option.some.inj H
    go_enter Try.func142,Try.ntmps142
    try go_wp2_with (first|((with_reducible refine gate_dst (N:=1) rfl ?_);(try (refine gate_guard (by rfl) ?_;dsimp only));refine box_event ?hg (N:=1) ?hd (cs:=#[.int .i64 a0_0,.slice A0_1 l0_1.length c0_1]) (t:=26) ?hr ?_;(case hd=>rfl);(case hg=>rfl);(case hr=>first|(go_simp;done)|(go_simp;rfl));intro gb168 hg w8 hbox hb;have n0_:=Aside0.mk (below_step (by repeat (first|(with_reducible first|exact HB.out|apply below_alloc|apply pw_below_drewN|apply below_drew1)|exact HB.out)) hb);have n1_:=Aside0.mk (hbox);have n2_:=Aside0.mk ((by rw [hg];exact (below_size (by repeat (first|(with_reducible first|exact HB.out|apply below_alloc|apply pw_below_drewN|apply below_drew1)|exact HB.out))):w.heap.size ≤ gb168));have n3_:=Aside0.mk ((by rw [hg];exact (below_size (by repeat (first|(with_reducible first|exact HB.out|apply below_alloc|apply pw_below_drewN|apply below_drew1)|exact HB.out))):w.heap.size ≤ gb168));clear HB;have HB:=n0_;have BK168:=n1_;have GW168:=n2_;have GE168:=n3_;clear n0_ n1_ n2_ n3_;clear hb hbox hg))
    have n0_:=Aside0.mk (blk_drew BK168.out)
    have n1_:=Aside0.mk (below_drew1 HB.out)
    clear BK168
    clear HB
    have BK168:=n0_
    have HB:=n1_
    clear n0_ n1_
    refine start_ (n:=24) (S:=fun w'=>w'.cell? ⟨gb168,0,none⟩ = some (.int .i64 a0_0) ∧ w'.cell? ⟨gb168,1,none⟩ = some (.slice A0_1 l0_1.length c0_1)) (ds:=[]) #[false,false,false,false,false,false,false,false,false,false,false,false,false,false,false,false,false,false,false,false,false,false,false,false] (by kernel_rfl) rfl rfl ⟨(blk_cell BK168.out 0).trans rfl,(blk_cell BK168.out 1).trans rfl⟩ (fun hHeld=>?_);refine with_tabW impl_IsCommittee.tab1 impl_IsCommittee.bits1 (fun HT_ HW_=>?_)
    generalize w8.drew = w9 at BK168 HB hHeld ⊢
    refine pure_ (i:=0) (N:=some 3) (v:=?_) (a':=?_) #[true,false,false,false,false,false,false,false,false,false,false,false,false,false,false,false,false,false,false,false,false,false,false,false] rfl rfl (any_of HT_.out (by kernel_rfl)) (fun _ _ _ h=>h) (Or.inl ⟨by rfl,?_⟩) ?_ ?_
    rotate_left
    ·intro w'
     go_simp
     with_reducible rfl
    rotate_left
    ·simp only [Act.put,List.setIfInBounds_toArray,List.set_cons_zero,List.set_cons_succ,i64_w,i32_w]
     rfl
    refine take_ (i:=1) (N:=some 4) (v:=?_) (a':=?_) #[true,true,false,false,false,false,false,false,false,false,false,false,false,false,false,false,false,false,false,false,false,false,false,false] rfl rfl (take_ofW HT_.out HW_.out (by kernel_rfl)) (fun _ _ _ h=>h) (Or.inl ⟨by rfl,?_⟩) hHeld ?_ ?_
    rotate_left
    ·rintro w' ⟨s0,s1⟩
     go_simp
     with_reducible rfl
    rotate_left
    ·simp only [Act.put,List.setIfInBounds_toArray,List.set_cons_zero,List.set_cons_succ,i64_w,i32_w]
     rfl
    refine pure_ (i:=2) (N:=some 5) (v:=?_) (a':=?_) #[true,true,true,false,false,false,false,false,false,false,false,false,false,false,false,false,false,false,false,false,false,false,false,false] rfl rfl (any_of HT_.out (by kernel_rfl)) (fun _ _ _ h=>h) (Or.inl ⟨by rfl,?_⟩) ?_ ?_
    rotate_left
    ·intro w'
     go_simp
     with_reducible rfl
    rotate_left
    ·simp only [Act.put,List.setIfInBounds_toArray,List.set_cons_zero,List.set_cons_succ,i64_w,i32_w]
     rfl
    refine pure_ (i:=3) (N:=some 6) (v:=?_) (a':=?_) #[true,true,true,true,false,false,false,false,false,false,false,false,false,false,false,false,false,false,false,false,false,false,false,false] rfl rfl (any_of HT_.out (by kernel_rfl)) (fun _ _ _ h=>h) (Or.inl ⟨by rfl,?_⟩) ?_ ?_
    rotate_left
    ·intro w'
     go_simp
     with_reducible rfl
    rotate_left
    ·simp only [Act.put,List.setIfInBounds_toArray,List.set_cons_zero,List.set_cons_succ,i64_w,i32_w]
     rfl
    refine pure_ (i:=4) (N:=some 7) (v:=?_) (a':=?_) #[true,true,true,true,true,false,false,false,false,false,false,false,false,false,false,false,false,false,false,false,false,false,false,false] rfl rfl (any_of HT_.out (by kernel_rfl)) (fun _ _ _ h=>h) (Or.inl ⟨by rfl,?_⟩) ?_ ?_
    rotate_left
    ·intro w'
     go_simp
     with_reducible rfl
    rotate_left
    ·simp only [Act.put,List.setIfInBounds_toArray,List.set_cons_zero,List.set_cons_succ,i64_w,i32_w]
     rfl
    refine pure_ (i:=5) (N:=some 8) (v:=?_) (a':=?_) #[true,true,true,true,true,true,false,false,false,false,false,false,false,false,false,false,false,false,false,false,false,false,false,false] rfl rfl (any_of HT_.out (by kernel_rfl)) (fun _ _ _ h=>h) (Or.inl ⟨by rfl,?_⟩) ?_ ?_
    rotate_left
    ·intro w'
     go_simp
     with_reducible rfl
    rotate_left
    ·simp only [Act.put,List.setIfInBounds_toArray,List.set_cons_zero,List.set_cons_succ,i64_w,i32_w]
     rfl
    refine take_ (i:=6) (N:=some 9) (v:=?_) (a':=?_) #[true,true,true,true,true,true,true,false,false,false,false,false,false,false,false,false,false,false,false,false,false,false,false,false] rfl rfl (take_ofW HT_.out HW_.out (by kernel_rfl)) (fun _ _ _ h=>h) (Or.inl ⟨by rfl,?_⟩) hHeld ?_ ?_
    rotate_left
    ·rintro w' ⟨s0,s1⟩
     go_simp
     with_reducible rfl
    rotate_left
    ·simp only [Act.put,List.setIfInBounds_toArray,List.set_cons_zero,List.set_cons_succ,i64_w,i32_w]
     rfl
    refine pure_ (i:=7) (N:=some 10) (v:=?_) (a':=?_) #[true,true,true,true,true,true,true,true,false,false,false,false,false,false,false,false,false,false,false,false,false,false,false,false] rfl rfl (any_of HT_.out (by kernel_rfl)) (fun _ _ _ h=>h) (Or.inl ⟨by rfl,?_⟩) ?_ ?_
    rotate_left
    ·intro w'
     go_simp
     with_reducible rfl
    rotate_left
    ·simp only [Act.put,List.setIfInBounds_toArray,List.set_cons_zero,List.set_cons_succ,i64_w,i32_w]
     rfl
    refine pure_ (i:=8) (N:=some 11) (v:=?_) (a':=?_) #[true,true,true,true,true,true,true,true,true,false,false,false,false,false,false,false,false,false,false,false,false,false,false,false] rfl rfl (any_of HT_.out (by kernel_rfl)) (fun _ _ _ h=>h) (Or.inl ⟨by rfl,?_⟩) ?_ ?_
    rotate_left
    ·intro w'
     go_simp
     with_reducible rfl
    rotate_left
    ·simp only [Act.put,List.setIfInBounds_toArray,List.set_cons_zero,List.set_cons_succ,i64_w,i32_w]
     rfl
    refine pure_ (i:=9) (N:=some 12) (v:=?_) (a':=?_) #[true,true,true,true,true,true,true,true,true,true,false,false,false,false,false,false,false,false,false,false,false,false,false,false] rfl rfl (any_of HT_.out (by kernel_rfl)) (fun _ _ _ h=>h) (Or.inl ⟨by rfl,?_⟩) ?_ ?_
    rotate_left
    ·intro w'
     go_simp
     with_reducible rfl
    rotate_left
    ·simp only [Act.put,List.setIfInBounds_toArray,List.set_cons_zero,List.set_cons_succ,i64_w,i32_w]
     rfl
    refine pure_ (i:=10) (N:=some 13) (v:=?_) (a':=?_) #[true,true,true,true,true,true,true,true,true,true,true,false,false,false,false,false,false,false,false,false,false,false,false,false] rfl rfl (any_of HT_.out (by kernel_rfl)) (fun _ _ _ h=>h) (Or.inl ⟨by rfl,?_⟩) ?_ ?_
    rotate_left
    ·intro w'
     go_simp
     with_reducible rfl
    rotate_left
    ·simp only [Act.put,List.setIfInBounds_toArray,List.set_cons_zero,List.set_cons_succ,i64_w,i32_w]
     rfl
    refine pure_ (i:=11) (N:=some 14) (v:=?_) (a':=?_) #[true,true,true,true,true,true,true,true,true,true,true,true,false,false,false,false,false,false,false,false,false,false,false,false] rfl rfl (any_of HT_.out (by kernel_rfl)) (fun _ _ _ h=>h) (Or.inl ⟨by rfl,?_⟩) ?_ ?_
    rotate_left
    ·intro w'
     go_simp
     with_reducible rfl
    rotate_left
    ·simp only [Act.put,List.setIfInBounds_toArray,List.set_cons_zero,List.set_cons_succ,i64_w,i32_w]
     rfl
    refine take_ (i:=12) (N:=some 15) (v:=?_) (a':=?_) #[true,true,true,true,true,true,true,true,true,true,true,true,true,false,false,false,false,false,false,false,false,false,false,false] rfl rfl (take_ofW HT_.out HW_.out (by kernel_rfl)) (fun _ _ _ h=>h) (Or.inl ⟨by rfl,?_⟩) hHeld ?_ ?_
    rotate_left
    ·rintro w' ⟨s0,s1⟩
     go_simp
     with_reducible rfl
    rotate_left
    ·simp only [Act.put,List.setIfInBounds_toArray,List.set_cons_zero,List.set_cons_succ,i64_w,i32_w]
     rfl
    refine one_ (i:=13) (N:=some 16) #[true,true,true,true,true,true,true,true,true,true,true,true,true,true,false,false,false,false,false,false,false,false,false,false] rfl rfl (one_of HT_.out (by kernel_rfl)) (by decide) (fun K hK=>?_)
    refine goes_ Try.func187 (by kernel_rfl) rfl #[.slice A0_1 l0_1.length c0_1,.int .i64 0,.int .i64 1000] (by rfl) rfl rfl (by (try simp only [List.map_toArray,List.map_cons,List.map_nil]);first|done|rfl|(simp only [List.length_drop,List.length_take];rfl)) ?_
    with_reducible refine (impl_areIn.calls k _ _ l0_1 0 1000 true _ ?side1 ?side2 A4.out).mono ?_
    (case side1=>repeat (first|exact (Kd.C_below HR0_1.out HB.out)|(with_reducible refine Kd.C_alloc ?_ _)|(with_reducible refine Kd.C_drewN ?_ _)|(with_reducible refine Kd.C_drew ?_)))
    (case side2=>exact HC0_1.out)
    rintro e w10 ⟨rfl,hb⟩
    refine ⟨_,rfl,?_⟩
    have n0_:=Aside0.mk (blk_below (g:=gb168) (o:=.cells #[.int .i64 a0_0,.slice A0_1 l0_1.length c0_1] 26 (0,0)) (by (with_reducible repeat (first|refine blk_drewN ?_ _|refine blk_drew ?_|refine blk_alloc ?_ _));exact BK168.out) hb)
    have n1_:=Aside0.mk (below_step (by repeat (first|(with_reducible first|exact HB.out|apply below_alloc|apply pw_below_drewN|apply below_drew1|refine below_set ?_ GE168.out)|exact HB.out)) hb)
    clear BK168
    clear HB
    have BK168:=n0_
    have HB:=n1_
    clear n0_ n1_
    (try clear hb)
    (try clear hb2)
    (try clear hk)
    (try clear hi)
    refine hK.out _ _ ⟨(blk_cell BK168.out 0).trans rfl,(blk_cell BK168.out 1).trans rfl⟩ (fun hHeld=>?_)
    clear hK K
    refine norm_ (a':=?_) ?_ ?_
    rotate_left
    ·show Act.put _ (some 16) _ = _
     simp only [Act.put,List.setIfInBounds_toArray,List.set_cons_zero,List.set_cons_succ,i64_w,i32_w]
     rfl
    refine pure_ (i:=14) (N:=some 17) (v:=?_) (a':=?_) #[true,true,true,true,true,true,true,true,true,true,true,true,true,true,true,false,false,false,false,false,false,false,false,false] rfl rfl (any_of HT_.out (by kernel_rfl)) (fun _ _ _ h=>h) (Or.inl ⟨by rfl,?_⟩) ?_ ?_
    rotate_left
    ·intro w'
     go_simp
     with_reducible rfl
    rotate_left
    ·simp only [Act.put,List.setIfInBounds_toArray,List.set_cons_zero,List.set_cons_succ,i64_w,i32_w]
     rfl
    refine pure_ (i:=15) (N:=some 18) (v:=?_) (a':=?_) #[true,true,true,true,true,true,true,true,true,true,true,true,true,true,true,true,false,false,false,false,false,false,false,false] rfl rfl (any_of HT_.out (by kernel_rfl)) (fun _ _ _ h=>h) (Or.inl ⟨by rfl,?_⟩) ?_ ?_
    rotate_left
    ·intro w'
     go_simp
     with_reducible rfl
    rotate_left
    ·simp only [Act.put,List.setIfInBounds_toArray,List.set_cons_zero,List.set_cons_succ,i64_w,i32_w]
     rfl
    refine pure_ (i:=16) (N:=some 19) (v:=?_) (a':=?_) #[true,true,true,true,true,true,true,true,true,true,true,true,true,true,true,true,true,false,false,false,false,false,false,false] rfl rfl (any_of HT_.out (by kernel_rfl)) (fun _ _ _ h=>h) (Or.inl ⟨by rfl,?_⟩) ?_ ?_
    rotate_left
    ·intro w'
     go_simp
     with_reducible rfl
    rotate_left
    ·simp only [Act.put,List.setIfInBounds_toArray,List.set_cons_zero,List.set_cons_succ,i64_w,i32_w]
     rfl
    refine pure_ (i:=18) (N:=some 21) (v:=?_) (a':=?_) #[true,true,true,true,true,true,true,true,true,true,true,true,true,true,true,true,true,false,true,false,false,false,false,false] rfl rfl (any_of HT_.out (by kernel_rfl)) (fun _ _ _ h=>h) (Or.inl ⟨by rfl,?_⟩) ?_ ?_
    rotate_left
    ·intro w'
     go_simp
     with_reducible rfl
    rotate_left
    ·simp only [Act.put,List.setIfInBounds_toArray,List.set_cons_zero,List.set_cons_succ,i64_w,i32_w]
     rfl
    refine take_ (i:=17) (N:=some 20) (v:=?_) (a':=?_) #[true,true,true,true,true,true,true,true,true,true,true,true,true,true,true,true,true,true,true,false,false,false,false,false] rfl rfl (take_ofW HT_.out HW_.out (by kernel_rfl)) (fun _ _ _ h=>h) (Or.inl ⟨by rfl,?_⟩) hHeld ?_ ?_
    rotate_left
    ·rintro w' ⟨s0,s1⟩
     go_simp
     with_reducible rfl
    rotate_left
    ·simp only [Act.put,List.setIfInBounds_toArray,List.set_cons_zero,List.set_cons_succ,i64_w,i32_w]
     rfl
    refine take_ (i:=19) (N:=some 22) (v:=?_) (a':=?_) #[true,true,true,true,true,true,true,true,true,true,true,true,true,true,true,true,true,true,true,true,false,false,false,false] rfl rfl (take_ofW HT_.out HW_.out (by kernel_rfl)) (fun _ _ _ h=>h) (Or.inl ⟨by rfl,?_⟩) hHeld ?_ ?_
    rotate_left
    ·rintro w' ⟨s0,s1⟩
     go_simp
     with_reducible rfl
    rotate_left
    ·simp only [Act.put,List.setIfInBounds_toArray,List.set_cons_zero,List.set_cons_succ,i64_w,i32_w]
     rfl
    refine one_ (i:=20) (N:=some 23) #[true,true,true,true,true,true,true,true,true,true,true,true,true,true,true,true,true,true,true,true,true,false,false,false] rfl rfl (one_of HT_.out (by kernel_rfl)) (by decide) (fun K hK=>?_)
    refine goes_ Try.func96 (by kernel_rfl) rfl #[.slice A0_1 l0_1.length c0_1] (by rfl) rfl rfl (by (try simp only [List.map_toArray,List.map_cons,List.map_nil]);first|done|rfl|(simp only [List.length_drop,List.length_take];rfl)) ?_
    with_reducible refine (impl_sumOf.calls k _ _ l0_1 t170 _ ?side1 ?side2 A6.out).mono ?_
    (case side1=>repeat (first|exact (Kd.C_below HR0_1.out HB.out)|(with_reducible refine Kd.C_alloc ?_ _)|(with_reducible refine Kd.C_drewN ?_ _)|(with_reducible refine Kd.C_drew ?_)))
    (case side2=>exact HC0_1.out)
    rintro e w' ⟨rfl,⟨nd,rfl⟩⟩
    refine ⟨_,rfl,?_⟩
    refine hK.out _ _ ⟨(blk_cell BK168.out 0).trans rfl,(blk_cell BK168.out 1).trans rfl⟩ (fun hHeld=>?_)
    clear hK K
    refine norm_ (a':=?_) ?_ ?_
    rotate_left
    ·show Act.put _ (some 23) _ = _
     simp only [Act.put,List.setIfInBounds_toArray,List.set_cons_zero,List.set_cons_succ,i64_w,i32_w]
     rfl
    refine one_ (i:=21) (N:=some 24) #[true,true,true,true,true,true,true,true,true,true,true,true,true,true,true,true,true,true,true,true,true,true,false,false] rfl rfl (one_of HT_.out (by kernel_rfl)) (by decide) (fun K hK=>?_)
    refine goes_ Try.func69 (by kernel_rfl) rfl #[.int .i64 a0_0,.int .i64 1,.int .i64 t170] (by rfl) rfl rfl (by (try simp only [List.map_toArray,List.map_cons,List.map_nil]);first|done|rfl|(simp only [List.length_drop,List.length_take];rfl)) ?_
    with_reducible refine (impl_within.calls a0_0 1 t170 t171 _ A7.out).mono ?_
    rintro e w' ⟨rfl,⟨nd,rfl⟩⟩
    refine ⟨_,rfl,?_⟩
    refine hK.out _ _ ⟨(blk_cell BK168.out 0).trans rfl,(blk_cell BK168.out 1).trans rfl⟩ (fun hHeld=>?_)
    clear hK K
    refine norm_ (a':=?_) ?_ ?_
    rotate_left
    ·show Act.put _ (some 24) _ = _
     simp only [Act.put,List.setIfInBounds_toArray,List.set_cons_zero,List.set_cons_succ,i64_w,i32_w]
     rfl
    refine pure_ (i:=22) (N:=some 25) (v:=?_) (a':=?_) #[true,true,true,true,true,true,true,true,true,true,true,true,true,true,true,true,true,true,true,true,true,true,true,false] rfl rfl (any_of HT_.out (by kernel_rfl)) (fun _ _ _ h=>h) (Or.inl ⟨by rfl,?_⟩) ?_ ?_
    rotate_left
    ·intro w'
     go_simp
     with_reducible rfl
    rotate_left
    ·simp only [Act.put,List.setIfInBounds_toArray,List.set_cons_zero,List.set_cons_succ,i64_w,i32_w]
     rfl
    refine pure_ (i:=23) (N:=some 2) (v:=?_) (a':=?_) #[true,true,true,true,true,true,true,true,true,true,true,true,true,true,true,true,true,true,true,true,true,true,true,true] rfl rfl (any_of HT_.out (by kernel_rfl)) (fun _ _ _ h=>h) (Or.inl ⟨by rfl,?_⟩) ?_ ?_
    rotate_left
    ·intro w'
     go_simp
     with_reducible rfl
    rotate_left
    ·simp only [Act.put,List.setIfInBounds_toArray,List.set_cons_zero,List.set_cons_succ,i64_w,i32_w]
     rfl
    refine done_ (done_of HT_.out (by kernel_rfl)) ?_
    try go_wp2
    go_ret
    exact ⟨by first|rfl|(simp [errW_none,errW_some] <;> rfl)|(simp [*,errW_none,errW_some] <;> rfl),by repeat (first|(with_reducible first|exact HB.out|apply below_alloc|apply pw_below_drewN|apply below_drew1|refine below_set ?_ GE168.out)|exact HB.out)⟩
   ·replace c5:=Bool.eq_false_iff.mpr c5
    subst c5
    have H1:(some false) = some r:=by rw [if_neg (show ¬ (false = true) by decide)] at H;exact H
    clear H
    have H:=H1
    clear H1
    obtain rfl:=Option.some.inj H
    go_enter Try.func142,Try.ntmps142
    try go_wp2_with (first|((with_reducible refine gate_dst (N:=1) rfl ?_);(try (refine gate_guard (by rfl) ?_;dsimp only));refine box_event ?hg (N:=1) ?hd (cs:=#[.int .i64 a0_0,.slice A0_1 l0_1.length c0_1]) (t:=26) ?hr ?_;(case hd=>rfl);(case hg=>rfl);(case hr=>first|(go_simp;done)|(go_simp;rfl));intro gb168 hg w11 hbox hb;have n0_:=Aside0.mk (below_step (by repeat (first|(with_reducible first|exact HB.out|apply below_alloc|apply pw_below_drewN|apply below_drew1)|exact HB.out)) hb);have n1_:=Aside0.mk (hbox);have n2_:=Aside0.mk ((by rw [hg];exact (below_size (by repeat (first|(with_reducible first|exact HB.out|apply below_alloc|apply pw_below_drewN|apply below_drew1)|exact HB.out))):w.heap.size ≤ gb168));have n3_:=Aside0.mk ((by rw [hg];exact (below_size (by repeat (first|(with_reducible first|exact HB.out|apply below_alloc|apply pw_below_drewN|apply below_drew1)|exact HB.out))):w.heap.size ≤ gb168));clear HB;have HB:=n0_;have BK168:=n1_;have GW168:=n2_;have GE168:=n3_;clear n0_ n1_ n2_ n3_;clear hb hbox hg))
    have n0_:=Aside0.mk (blk_drew BK168.out)
    have n1_:=Aside0.mk (below_drew1 HB.out)
    clear BK168
    clear HB
    have BK168:=n0_
    have HB:=n1_
    clear n0_ n1_
    refine start_ (n:=24) (S:=fun w'=>w'.cell? ⟨gb168,0,none⟩ = some (.int .i64 a0_0) ∧ w'.cell? ⟨gb168,1,none⟩ = some (.slice A0_1 l0_1.length c0_1)) (ds:=[]) #[false,false,false,false,false,false,false,false,false,false,false,false,false,false,false,false,false,false,false,false,false,false,false,false] (by kernel_rfl) rfl rfl ⟨(blk_cell BK168.out 0).trans rfl,(blk_cell BK168.out 1).trans rfl⟩ (fun hHeld=>?_);refine with_tabW impl_IsCommittee.tab1 impl_IsCommittee.bits1 (fun HT_ HW_=>?_)
    generalize w11.drew = w12 at BK168 HB hHeld ⊢
    refine pure_ (i:=0) (N:=some 3) (v:=?_) (a':=?_) #[true,false,false,false,false,false,false,false,false,false,false,false,false,false,false,false,false,false,false,false,false,false,false,false] rfl rfl (any_of HT_.out (by kernel_rfl)) (fun _ _ _ h=>h) (Or.inl ⟨by rfl,?_⟩) ?_ ?_
    rotate_left
    ·intro w'
     go_simp
     with_reducible rfl
    rotate_left
    ·simp only [Act.put,List.setIfInBounds_toArray,List.set_cons_zero,List.set_cons_succ,i64_w,i32_w]
     rfl
    refine take_ (i:=1) (N:=some 4) (v:=?_) (a':=?_) #[true,true,false,false,false,false,false,false,false,false,false,false,false,false,false,false,false,false,false,false,false,false,false,false] rfl rfl (take_ofW HT_.out HW_.out (by kernel_rfl)) (fun _ _ _ h=>h) (Or.inl ⟨by rfl,?_⟩) hHeld ?_ ?_
    rotate_left
    ·rintro w' ⟨s0,s1⟩
     go_simp
     with_reducible rfl
    rotate_left
    ·simp only [Act.put,List.setIfInBounds_toArray,List.set_cons_zero,List.set_cons_succ,i64_w,i32_w]
     rfl
    refine pure_ (i:=2) (N:=some 5) (v:=?_) (a':=?_) #[true,true,true,false,false,false,false,false,false,false,false,false,false,false,false,false,false,false,false,false,false,false,false,false] rfl rfl (any_of HT_.out (by kernel_rfl)) (fun _ _ _ h=>h) (Or.inl ⟨by rfl,?_⟩) ?_ ?_
    rotate_left
    ·intro w'
     go_simp
     with_reducible rfl
    rotate_left
    ·simp only [Act.put,List.setIfInBounds_toArray,List.set_cons_zero,List.set_cons_succ,i64_w,i32_w]
     rfl
    refine pure_ (i:=3) (N:=some 6) (v:=?_) (a':=?_) #[true,true,true,true,false,false,false,false,false,false,false,false,false,false,false,false,false,false,false,false,false,false,false,false] rfl rfl (any_of HT_.out (by kernel_rfl)) (fun _ _ _ h=>h) (Or.inl ⟨by rfl,?_⟩) ?_ ?_
    rotate_left
    ·intro w'
     go_simp
     with_reducible rfl
    rotate_left
    ·simp only [Act.put,List.setIfInBounds_toArray,List.set_cons_zero,List.set_cons_succ,i64_w,i32_w]
     rfl
    refine pure_ (i:=4) (N:=some 7) (v:=?_) (a':=?_) #[true,true,true,true,true,false,false,false,false,false,false,false,false,false,false,false,false,false,false,false,false,false,false,false] rfl rfl (any_of HT_.out (by kernel_rfl)) (fun _ _ _ h=>h) (Or.inl ⟨by rfl,?_⟩) ?_ ?_
    rotate_left
    ·intro w'
     go_simp
     with_reducible rfl
    rotate_left
    ·simp only [Act.put,List.setIfInBounds_toArray,List.set_cons_zero,List.set_cons_succ,i64_w,i32_w]
     rfl
    refine pure_ (i:=5) (N:=some 8) (v:=?_) (a':=?_) #[true,true,true,true,true,true,false,false,false,false,false,false,false,false,false,false,false,false,false,false,false,false,false,false] rfl rfl (any_of HT_.out (by kernel_rfl)) (fun _ _ _ h=>h) (Or.inl ⟨by rfl,?_⟩) ?_ ?_
    rotate_left
    ·intro w'
     go_simp
     with_reducible rfl
    rotate_left
    ·simp only [Act.put,List.setIfInBounds_toArray,List.set_cons_zero,List.set_cons_succ,i64_w,i32_w]
     rfl
    refine take_ (i:=6) (N:=some 9) (v:=?_) (a':=?_) #[true,true,true,true,true,true,true,false,false,false,false,false,false,false,false,false,false,false,false,false,false,false,false,false] rfl rfl (take_ofW HT_.out HW_.out (by kernel_rfl)) (fun _ _ _ h=>h) (Or.inl ⟨by rfl,?_⟩) hHeld ?_ ?_
    rotate_left
    ·rintro w' ⟨s0,s1⟩
     go_simp
     with_reducible rfl
    rotate_left
    ·simp only [Act.put,List.setIfInBounds_toArray,List.set_cons_zero,List.set_cons_succ,i64_w,i32_w]
     rfl
    refine pure_ (i:=7) (N:=some 10) (v:=?_) (a':=?_) #[true,true,true,true,true,true,true,true,false,false,false,false,false,false,false,false,false,false,false,false,false,false,false,false] rfl rfl (any_of HT_.out (by kernel_rfl)) (fun _ _ _ h=>h) (Or.inl ⟨by rfl,?_⟩) ?_ ?_
    rotate_left
    ·intro w'
     go_simp
     with_reducible rfl
    rotate_left
    ·simp only [Act.put,List.setIfInBounds_toArray,List.set_cons_zero,List.set_cons_succ,i64_w,i32_w]
     rfl
    refine pure_ (i:=8) (N:=some 11) (v:=?_) (a':=?_) #[true,true,true,true,true,true,true,true,true,false,false,false,false,false,false,false,false,false,false,false,false,false,false,false] rfl rfl (any_of HT_.out (by kernel_rfl)) (fun _ _ _ h=>h) (Or.inl ⟨by rfl,?_⟩) ?_ ?_
    rotate_left
    ·intro w'
     go_simp
     with_reducible rfl
    rotate_left
    ·simp only [Act.put,List.setIfInBounds_toArray,List.set_cons_zero,List.set_cons_succ,i64_w,i32_w]
     rfl
    refine pure_ (i:=9) (N:=some 12) (v:=?_) (a':=?_) #[true,true,true,true,true,true,true,true,true,true,false,false,false,false,false,false,false,false,false,false,false,false,false,false] rfl rfl (any_of HT_.out (by kernel_rfl)) (fun _ _ _ h=>h) (Or.inl ⟨by rfl,?_⟩) ?_ ?_
    rotate_left
    ·intro w'
     go_simp
     with_reducible rfl
    rotate_left
    ·simp only [Act.put,List.setIfInBounds_toArray,List.set_cons_zero,List.set_cons_succ,i64_w,i32_w]
     rfl
    refine pure_ (i:=10) (N:=some 13) (v:=?_) (a':=?_) #[true,true,true,true,true,true,true,true,true,true,true,false,false,false,false,false,false,false,false,false,false,false,false,false] rfl rfl (any_of HT_.out (by kernel_rfl)) (fun _ _ _ h=>h) (Or.inl ⟨by rfl,?_⟩) ?_ ?_
    rotate_left
    ·intro w'
     go_simp
     with_reducible rfl
    rotate_left
    ·simp only [Act.put,List.setIfInBounds_toArray,List.set_cons_zero,List.set_cons_succ,i64_w,i32_w]
     rfl
    refine pure_ (i:=11) (N:=some 14) (v:=?_) (a':=?_) #[true,true,true,true,true,true,true,true,true,true,true,true,false,false,false,false,false,false,false,false,false,false,false,false] rfl rfl (any_of HT_.out (by kernel_rfl)) (fun _ _ _ h=>h) (Or.inl ⟨by rfl,?_⟩) ?_ ?_
    rotate_left
    ·intro w'
     go_simp
     with_reducible rfl
    rotate_left
    ·simp only [Act.put,List.setIfInBounds_toArray,List.set_cons_zero,List.set_cons_succ,i64_w,i32_w]
     rfl
    refine take_ (i:=12) (N:=some 15) (v:=?_) (a':=?_) #[true,true,true,true,true,true,true,true,true,true,true,true,true,false,false,false,false,false,false,false,false,false,false,false] rfl rfl (take_ofW HT_.out HW_.out (by kernel_rfl)) (fun _ _ _ h=>h) (Or.inl ⟨by rfl,?_⟩) hHeld ?_ ?_
    rotate_left
    ·rintro w' ⟨s0,s1⟩
     go_simp
     with_reducible rfl
    rotate_left
    ·simp only [Act.put,List.setIfInBounds_toArray,List.set_cons_zero,List.set_cons_succ,i64_w,i32_w]
     rfl
    refine one_ (i:=13) (N:=some 16) #[true,true,true,true,true,true,true,true,true,true,true,true,true,true,false,false,false,false,false,false,false,false,false,false] rfl rfl (one_of HT_.out (by kernel_rfl)) (by decide) (fun K hK=>?_)
    refine goes_ Try.func187 (by kernel_rfl) rfl #[.slice A0_1 l0_1.length c0_1,.int .i64 0,.int .i64 1000] (by rfl) rfl rfl (by (try simp only [List.map_toArray,List.map_cons,List.map_nil]);first|done|rfl|(simp only [List.length_drop,List.length_take];rfl)) ?_
    with_reducible refine (impl_areIn.calls k _ _ l0_1 0 1000 false _ ?side1 ?side2 A4.out).mono ?_
    (case side1=>repeat (first|exact (Kd.C_below HR0_1.out HB.out)|(with_reducible refine Kd.C_alloc ?_ _)|(with_reducible refine Kd.C_drewN ?_ _)|(with_reducible refine Kd.C_drew ?_)))
    (case side2=>exact HC0_1.out)
    rintro e w13 ⟨rfl,hb⟩
    refine ⟨_,rfl,?_⟩
    have n0_:=Aside0.mk (blk_below (g:=gb168) (o:=.cells #[.int .i64 a0_0,.slice A0_1 l0_1.length c0_1] 26 (0,0)) (by (with_reducible repeat (first|refine blk_drewN ?_ _|refine blk_drew ?_|refine blk_alloc ?_ _));exact BK168.out) hb)
    have n1_:=Aside0.mk (below_step (by repeat (first|(with_reducible first|exact HB.out|apply below_alloc|apply pw_below_drewN|apply below_drew1|refine below_set ?_ GE168.out)|exact HB.out)) hb)
    clear BK168
    clear HB
    have BK168:=n0_
    have HB:=n1_
    clear n0_ n1_
    (try clear hb)
    (try clear hb2)
    (try clear hk)
    (try clear hi)
    refine hK.out _ _ ⟨(blk_cell BK168.out 0).trans rfl,(blk_cell BK168.out 1).trans rfl⟩ (fun hHeld=>?_)
    clear hK K
    refine norm_ (a':=?_) ?_ ?_
    rotate_left
    ·show Act.put _ (some 16) _ = _
     simp only [Act.put,List.setIfInBounds_toArray,List.set_cons_zero,List.set_cons_succ,i64_w,i32_w]
     rfl
    refine pure_ (i:=14) (N:=some 17) (v:=?_) (a':=?_) #[true,true,true,true,true,true,true,true,true,true,true,true,true,true,true,false,false,false,false,false,false,false,false,false] rfl rfl (any_of HT_.out (by kernel_rfl)) (fun _ _ _ h=>h) (Or.inl ⟨by rfl,?_⟩) ?_ ?_
    rotate_left
    ·intro w'
     go_simp
     with_reducible rfl
    rotate_left
    ·simp only [Act.put,List.setIfInBounds_toArray,List.set_cons_zero,List.set_cons_succ,i64_w,i32_w]
     rfl
    refine pure_ (i:=15) (N:=some 18) (v:=?_) (a':=?_) #[true,true,true,true,true,true,true,true,true,true,true,true,true,true,true,true,false,false,false,false,false,false,false,false] rfl rfl (any_of HT_.out (by kernel_rfl)) (fun _ _ _ h=>h) (Or.inl ⟨by rfl,?_⟩) ?_ ?_
    rotate_left
    ·intro w'
     go_simp
     with_reducible rfl
    rotate_left
    ·simp only [Act.put,List.setIfInBounds_toArray,List.set_cons_zero,List.set_cons_succ,i64_w,i32_w]
     rfl
    refine pure_ (i:=16) (N:=some 19) (v:=undef) (a':=?_) #[true,true,true,true,true,true,true,true,true,true,true,true,true,true,true,true,true,false,false,false,false,false,false,false] rfl rfl (any_of HT_.out (by kernel_rfl)) (fun _ _ _ h=>h) (Or.inr ⟨by rfl,rfl⟩) ?_ ?_
    rotate_left
    ·simp only [Act.put,List.setIfInBounds_toArray,List.set_cons_zero,List.set_cons_succ,i64_w,i32_w]
     rfl
    refine pure_ (i:=17) (N:=some 20) (v:=undef) (a':=?_) #[true,true,true,true,true,true,true,true,true,true,true,true,true,true,true,true,true,true,false,false,false,false,false,false] rfl rfl (any_of HT_.out (by kernel_rfl)) (fun _ _ _ h=>h) (Or.inr ⟨by rfl,rfl⟩) ?_ ?_
    rotate_left
    ·simp only [Act.put,List.setIfInBounds_toArray,List.set_cons_zero,List.set_cons_succ,i64_w,i32_w]
     rfl
    refine pure_ (i:=18) (N:=some 21) (v:=undef) (a':=?_) #[true,true,true,true,true,true,true,true,true,true,true,true,true,true,true,true,true,true,true,false,false,false,false,false] rfl rfl (any_of HT_.out (by kernel_rfl)) (fun _ _ _ h=>h) (Or.inr ⟨by rfl,rfl⟩) ?_ ?_
    rotate_left
    ·simp only [Act.put,List.setIfInBounds_toArray,List.set_cons_zero,List.set_cons_succ,i64_w,i32_w]
     rfl
    refine pure_ (i:=19) (N:=some 22) (v:=undef) (a':=?_) #[true,true,true,true,true,true,true,true,true,true,true,true,true,true,true,true,true,true,true,true,false,false,false,false] rfl rfl (any_of HT_.out (by kernel_rfl)) (fun _ _ _ h=>h) (Or.inr ⟨by rfl,rfl⟩) ?_ ?_
    rotate_left
    ·simp only [Act.put,List.setIfInBounds_toArray,List.set_cons_zero,List.set_cons_succ,i64_w,i32_w]
     rfl
    refine pure_ (i:=20) (N:=some 23) (v:=undef) (a':=?_) #[true,true,true,true,true,true,true,true,true,true,true,true,true,true,true,true,true,true,true,true,true,false,false,false] rfl rfl (any_of HT_.out (by kernel_rfl)) (fun _ _ _ h=>h) (Or.inr ⟨by rfl,rfl⟩) ?_ ?_
    rotate_left
    ·simp only [Act.put,List.setIfInBounds_toArray,List.set_cons_zero,List.set_cons_succ,i64_w,i32_w]
     rfl
    refine pure_ (i:=21) (N:=some 24) (v:=undef) (a':=?_) #[true,true,true,true,true,true,true,true,true,true,true,true,true,true,true,true,true,true,true,true,true,true,false,false] rfl rfl (any_of HT_.out (by kernel_rfl)) (fun _ _ _ h=>h) (Or.inr ⟨by rfl,rfl⟩) ?_ ?_
    rotate_left
    ·simp only [Act.put,List.setIfInBounds_toArray,List.set_cons_zero,List.set_cons_succ,i64_w,i32_w]
     rfl
    refine pure_ (i:=22) (N:=some 25) (v:=?_) (a':=?_) #[true,true,true,true,true,true,true,true,true,true,true,true,true,true,true,true,true,true,true,true,true,true,true,false] rfl rfl (any_of HT_.out (by kernel_rfl)) (fun _ _ _ h=>h) (Or.inl ⟨by rfl,?_⟩) ?_ ?_
    rotate_left
    ·intro w'
     go_simp
     with_reducible rfl
    rotate_left
    ·simp only [Act.put,List.setIfInBounds_toArray,List.set_cons_zero,List.set_cons_succ,i64_w,i32_w]
     rfl
    refine pure_ (i:=23) (N:=some 2) (v:=?_) (a':=?_) #[true,true,true,true,true,true,true,true,true,true,true,true,true,true,true,true,true,true,true,true,true,true,true,true] rfl rfl (any_of HT_.out (by kernel_rfl)) (fun _ _ _ h=>h) (Or.inl ⟨by rfl,?_⟩) ?_ ?_
    rotate_left
    ·intro w'
     go_simp
     with_reducible rfl
    rotate_left
    ·simp only [Act.put,List.setIfInBounds_toArray,List.set_cons_zero,List.set_cons_succ,i64_w,i32_w]
     rfl
    refine done_ (done_of HT_.out (by kernel_rfl)) ?_
    try go_wp2
    go_ret
    exact ⟨by first|rfl|(simp [errW_none,errW_some] <;> rfl)|(simp [*,errW_none,errW_some] <;> rfl),by repeat (first|(with_reducible first|exact HB.out|apply below_alloc|apply pw_below_drewN|apply below_drew1|refine below_set ?_ GE168.out)|exact HB.out)⟩
  ·rw [if_neg c3] at H
   have c3b0:decide ((l0_1.length:Int) ≤ 9) = false:=decide_eq_false c3
   have c3b1:decide (l0_1.length ≤ 9) = false:=decide_eq_false (by omega)
   clear c3
   obtain rfl:=Option.some.inj H
   go_enter Try.func142,Try.ntmps142
   try go_wp2_with (first|((with_reducible refine gate_dst (N:=1) rfl ?_);(try (refine gate_guard (by rfl) ?_;dsimp only));refine box_event ?hg (N:=1) ?hd (cs:=#[.int .i64 a0_0,.slice A0_1 l0_1.length c0_1]) (t:=26) ?hr ?_;(case hd=>rfl);(case hg=>rfl);(case hr=>first|(go_simp;done)|(go_simp;rfl));intro gb168 hg w14 hbox hb;have n0_:=Aside0.mk (below_step (by repeat (first|(with_reducible first|exact HB.out|apply below_alloc|apply pw_below_drewN|apply below_drew1)|exact HB.out)) hb);have n1_:=Aside0.mk (hbox);have n2_:=Aside0.mk ((by rw [hg];exact (below_size (by repeat (first|(with_reducible first|exact HB.out|apply below_alloc|apply pw_below_drewN|apply below_drew1)|exact HB.out))):w.heap.size ≤ gb168));have n3_:=Aside0.mk ((by rw [hg];exact (below_size (by repeat (first|(with_reducible first|exact HB.out|apply below_alloc|apply pw_below_drewN|apply below_drew1)|exact HB.out))):w.heap.size ≤ gb168));clear HB;have HB:=n0_;have BK168:=n1_;have GW168:=n2_;have GE168:=n3_;clear n0_ n1_ n2_ n3_;clear hb hbox hg))
   have n0_:=Aside0.mk (blk_drew BK168.out)
   have n1_:=Aside0.mk (below_drew1 HB.out)
   clear BK168
   clear HB
   have BK168:=n0_
   have HB:=n1_
   clear n0_ n1_
   refine start_ (n:=24) (S:=fun w'=>w'.cell? ⟨gb168,0,none⟩ = some (.int .i64 a0_0) ∧ w'.cell? ⟨gb168,1,none⟩ = some (.slice A0_1 l0_1.length c0_1)) (ds:=[]) #[false,false,false,false,false,false,false,false,false,false,false,false,false,false,false,false,false,false,false,false,false,false,false,false] (by kernel_rfl) rfl rfl ⟨(blk_cell BK168.out 0).trans rfl,(blk_cell BK168.out 1).trans rfl⟩ (fun hHeld=>?_);refine with_tabW impl_IsCommittee.tab1 impl_IsCommittee.bits1 (fun HT_ HW_=>?_)
   generalize w14.drew = w15 at BK168 HB hHeld ⊢
   refine pure_ (i:=0) (N:=some 3) (v:=?_) (a':=?_) #[true,false,false,false,false,false,false,false,false,false,false,false,false,false,false,false,false,false,false,false,false,false,false,false] rfl rfl (any_of HT_.out (by kernel_rfl)) (fun _ _ _ h=>h) (Or.inl ⟨by rfl,?_⟩) ?_ ?_
   rotate_left
   ·intro w'
    go_simp
    with_reducible rfl
   rotate_left
   ·simp only [Act.put,List.setIfInBounds_toArray,List.set_cons_zero,List.set_cons_succ,i64_w,i32_w]
    rfl
   refine take_ (i:=1) (N:=some 4) (v:=?_) (a':=?_) #[true,true,false,false,false,false,false,false,false,false,false,false,false,false,false,false,false,false,false,false,false,false,false,false] rfl rfl (take_ofW HT_.out HW_.out (by kernel_rfl)) (fun _ _ _ h=>h) (Or.inl ⟨by rfl,?_⟩) hHeld ?_ ?_
   rotate_left
   ·rintro w' ⟨s0,s1⟩
    go_simp
    with_reducible rfl
   rotate_left
   ·simp only [Act.put,List.setIfInBounds_toArray,List.set_cons_zero,List.set_cons_succ,i64_w,i32_w]
    rfl
   refine pure_ (i:=2) (N:=some 5) (v:=?_) (a':=?_) #[true,true,true,false,false,false,false,false,false,false,false,false,false,false,false,false,false,false,false,false,false,false,false,false] rfl rfl (any_of HT_.out (by kernel_rfl)) (fun _ _ _ h=>h) (Or.inl ⟨by rfl,?_⟩) ?_ ?_
   rotate_left
   ·intro w'
    go_simp
    with_reducible rfl
   rotate_left
   ·simp only [Act.put,List.setIfInBounds_toArray,List.set_cons_zero,List.set_cons_succ,i64_w,i32_w]
    rfl
   refine pure_ (i:=3) (N:=some 6) (v:=?_) (a':=?_) #[true,true,true,true,false,false,false,false,false,false,false,false,false,false,false,false,false,false,false,false,false,false,false,false] rfl rfl (any_of HT_.out (by kernel_rfl)) (fun _ _ _ h=>h) (Or.inl ⟨by rfl,?_⟩) ?_ ?_
   rotate_left
   ·intro w'
    go_simp
    with_reducible rfl
   rotate_left
   ·simp only [Act.put,List.setIfInBounds_toArray,List.set_cons_zero,List.set_cons_succ,i64_w,i32_w]
    rfl
   refine pure_ (i:=4) (N:=some 7) (v:=?_) (a':=?_) #[true,true,true,true,true,false,false,false,false,false,false,false,false,false,false,false,false,false,false,false,false,false,false,false] rfl rfl (any_of HT_.out (by kernel_rfl)) (fun _ _ _ h=>h) (Or.inl ⟨by rfl,?_⟩) ?_ ?_
   rotate_left
   ·intro w'
    go_simp
    with_reducible rfl
   rotate_left
   ·simp only [Act.put,List.setIfInBounds_toArray,List.set_cons_zero,List.set_cons_succ,i64_w,i32_w]
    rfl
   refine pure_ (i:=5) (N:=some 8) (v:=?_) (a':=?_) #[true,true,true,true,true,true,false,false,false,false,false,false,false,false,false,false,false,false,false,false,false,false,false,false] rfl rfl (any_of HT_.out (by kernel_rfl)) (fun _ _ _ h=>h) (Or.inl ⟨by rfl,?_⟩) ?_ ?_
   rotate_left
   ·intro w'
    go_simp
    with_reducible rfl
   rotate_left
   ·simp only [Act.put,List.setIfInBounds_toArray,List.set_cons_zero,List.set_cons_succ,i64_w,i32_w]
    rfl
   refine take_ (i:=6) (N:=some 9) (v:=?_) (a':=?_) #[true,true,true,true,true,true,true,false,false,false,false,false,false,false,false,false,false,false,false,false,false,false,false,false] rfl rfl (take_ofW HT_.out HW_.out (by kernel_rfl)) (fun _ _ _ h=>h) (Or.inl ⟨by rfl,?_⟩) hHeld ?_ ?_
   rotate_left
   ·rintro w' ⟨s0,s1⟩
    go_simp
    with_reducible rfl
   rotate_left
   ·simp only [Act.put,List.setIfInBounds_toArray,List.set_cons_zero,List.set_cons_succ,i64_w,i32_w]
    rfl
   refine pure_ (i:=7) (N:=some 10) (v:=?_) (a':=?_) #[true,true,true,true,true,true,true,true,false,false,false,false,false,false,false,false,false,false,false,false,false,false,false,false] rfl rfl (any_of HT_.out (by kernel_rfl)) (fun _ _ _ h=>h) (Or.inl ⟨by rfl,?_⟩) ?_ ?_
   rotate_left
   ·intro w'
    go_simp
    with_reducible rfl
   rotate_left
   ·simp only [Act.put,List.setIfInBounds_toArray,List.set_cons_zero,List.set_cons_succ,i64_w,i32_w]
    rfl
   refine pure_ (i:=8) (N:=some 11) (v:=?_) (a':=?_) #[true,true,true,true,true,true,true,true,true,false,false,false,false,false,false,false,false,false,false,false,false,false,false,false] rfl rfl (any_of HT_.out (by kernel_rfl)) (fun _ _ _ h=>h) (Or.inl ⟨by rfl,?_⟩) ?_ ?_
   rotate_left
   ·intro w'
    go_simp
    with_reducible rfl
   rotate_left
   ·simp only [Act.put,List.setIfInBounds_toArray,List.set_cons_zero,List.set_cons_succ,i64_w,i32_w]
    rfl
   refine pure_ (i:=9) (N:=some 12) (v:=?_) (a':=?_) #[true,true,true,true,true,true,true,true,true,true,false,false,false,false,false,false,false,false,false,false,false,false,false,false] rfl rfl (any_of HT_.out (by kernel_rfl)) (fun _ _ _ h=>h) (Or.inl ⟨by rfl,?_⟩) ?_ ?_
   rotate_left
   ·intro w'
    go_simp
    with_reducible rfl
   rotate_left
   ·simp only [Act.put,List.setIfInBounds_toArray,List.set_cons_zero,List.set_cons_succ,i64_w,i32_w]
    rfl
   refine pure_ (i:=10) (N:=some 13) (v:=?_) (a':=?_) #[true,true,true,true,true,true,true,true,true,true,true,false,false,false,false,false,false,false,false,false,false,false,false,false] rfl rfl (any_of HT_.out (by kernel_rfl)) (fun _ _ _ h=>h) (Or.inl ⟨by rfl,?_⟩) ?_ ?_
   rotate_left
   ·intro w'
    go_simp
    with_reducible rfl
   rotate_left
   ·simp only [Act.put,List.setIfInBounds_toArray,List.set_cons_zero,List.set_cons_succ,i64_w,i32_w]
    rfl
   refine pure_ (i:=11) (N:=some 14) (v:=undef) (a':=?_) #[true,true,true,true,true,true,true,true,true,true,true,true,false,false,false,false,false,false,false,false,false,false,false,false] rfl rfl (any_of HT_.out (by kernel_rfl)) (fun _ _ _ h=>h) (Or.inr ⟨by rfl,rfl⟩) ?_ ?_
   rotate_left
   ·simp only [Act.put,List.setIfInBounds_toArray,List.set_cons_zero,List.set_cons_succ,i64_w,i32_w]
    rfl
   refine pure_ (i:=12) (N:=some 15) (v:=undef) (a':=?_) #[true,true,true,true,true,true,true,true,true,true,true,true,true,false,false,false,false,false,false,false,false,false,false,false] rfl rfl (any_of HT_.out (by kernel_rfl)) (fun _ _ _ h=>h) (Or.inr ⟨by rfl,rfl⟩) ?_ ?_
   rotate_left
   ·simp only [Act.put,List.setIfInBounds_toArray,List.set_cons_zero,List.set_cons_succ,i64_w,i32_w]
    rfl
   refine pure_ (i:=13) (N:=some 16) (v:=undef) (a':=?_) #[true,true,true,true,true,true,true,true,true,true,true,true,true,true,false,false,false,false,false,false,false,false,false,false] rfl rfl (any_of HT_.out (by kernel_rfl)) (fun _ _ _ h=>h) (Or.inr ⟨by rfl,rfl⟩) ?_ ?_
   rotate_left
   ·simp only [Act.put,List.setIfInBounds_toArray,List.set_cons_zero,List.set_cons_succ,i64_w,i32_w]
    rfl
   refine pure_ (i:=14) (N:=some 17) (v:=?_) (a':=?_) #[true,true,true,true,true,true,true,true,true,true,true,true,true,true,true,false,false,false,false,false,false,false,false,false] rfl rfl (any_of HT_.out (by kernel_rfl)) (fun _ _ _ h=>h) (Or.inl ⟨by rfl,?_⟩) ?_ ?_
   rotate_left
   ·intro w'
    go_simp
    with_reducible rfl
   rotate_left
   ·simp only [Act.put,List.setIfInBounds_toArray,List.set_cons_zero,List.set_cons_succ,i64_w,i32_w]
    rfl
   refine pure_ (i:=15) (N:=some 18) (v:=?_) (a':=?_) #[true,true,true,true,true,true,true,true,true,true,true,true,true,true,true,true,false,false,false,false,false,false,false,false] rfl rfl (any_of HT_.out (by kernel_rfl)) (fun _ _ _ h=>h) (Or.inl ⟨by rfl,?_⟩) ?_ ?_
   rotate_left
   ·intro w'
    go_simp
    with_reducible rfl
   rotate_left
   ·simp only [Act.put,List.setIfInBounds_toArray,List.set_cons_zero,List.set_cons_succ,i64_w,i32_w]
    rfl
   refine pure_ (i:=16) (N:=some 19) (v:=undef) (a':=?_) #[true,true,true,true,true,true,true,true,true,true,true,true,true,true,true,true,true,false,false,false,false,false,false,false] rfl rfl (any_of HT_.out (by kernel_rfl)) (fun _ _ _ h=>h) (Or.inr ⟨by rfl,rfl⟩) ?_ ?_
   rotate_left
   ·simp only [Act.put,List.setIfInBounds_toArray,List.set_cons_zero,List.set_cons_succ,i64_w,i32_w]
    rfl
   refine pure_ (i:=17) (N:=some 20) (v:=undef) (a':=?_) #[true,true,true,true,true,true,true,true,true,true,true,true,true,true,true,true,true,true,false,false,false,false,false,false] rfl rfl (any_of HT_.out (by kernel_rfl)) (fun _ _ _ h=>h) (Or.inr ⟨by rfl,rfl⟩) ?_ ?_
   rotate_left
   ·simp only [Act.put,List.setIfInBounds_toArray,List.set_cons_zero,List.set_cons_succ,i64_w,i32_w]
    rfl
   refine pure_ (i:=18) (N:=some 21) (v:=undef) (a':=?_) #[true,true,true,true,true,true,true,true,true,true,true,true,true,true,true,true,true,true,true,false,false,false,false,false] rfl rfl (any_of HT_.out (by kernel_rfl)) (fun _ _ _ h=>h) (Or.inr ⟨by rfl,rfl⟩) ?_ ?_
   rotate_left
   ·simp only [Act.put,List.setIfInBounds_toArray,List.set_cons_zero,List.set_cons_succ,i64_w,i32_w]
    rfl
   refine pure_ (i:=19) (N:=some 22) (v:=undef) (a':=?_) #[true,true,true,true,true,true,true,true,true,true,true,true,true,true,true,true,true,true,true,true,false,false,false,false] rfl rfl (any_of HT_.out (by kernel_rfl)) (fun _ _ _ h=>h) (Or.inr ⟨by rfl,rfl⟩) ?_ ?_
   rotate_left
   ·simp only [Act.put,List.setIfInBounds_toArray,List.set_cons_zero,List.set_cons_succ,i64_w,i32_w]
    rfl
   refine pure_ (i:=20) (N:=some 23) (v:=undef) (a':=?_) #[true,true,true,true,true,true,true,true,true,true,true,true,true,true,true,true,true,true,true,true,true,false,false,false] rfl rfl (any_of HT_.out (by kernel_rfl)) (fun _ _ _ h=>h) (Or.inr ⟨by rfl,rfl⟩) ?_ ?_
   rotate_left
   ·simp only [Act.put,List.setIfInBounds_toArray,List.set_cons_zero,List.set_cons_succ,i64_w,i32_w]
    rfl
   refine pure_ (i:=21) (N:=some 24) (v:=undef) (a':=?_) #[true,true,true,true,true,true,true,true,true,true,true,true,true,true,true,true,true,true,true,true,true,true,false,false] rfl rfl (any_of HT_.out (by kernel_rfl)) (fun _ _ _ h=>h) (Or.inr ⟨by rfl,rfl⟩) ?_ ?_
   rotate_left
   ·simp only [Act.put,List.setIfInBounds_toArray,List.set_cons_zero,List.set_cons_succ,i64_w,i32_w]
    rfl
   refine pure_ (i:=22) (N:=some 25) (v:=?_) (a':=?_) #[true,true,true,true,true,true,true,true,true,true,true,true,true,true,true,true,true,true,true,true,true,true,true,false] rfl rfl (any_of HT_.out (by kernel_rfl)) (fun _ _ _ h=>h) (Or.inl ⟨by rfl,?_⟩) ?_ ?_
   rotate_left
   ·intro w'
    go_simp
    with_reducible rfl
   rotate_left
   ·simp only [Act.put,List.setIfInBounds_toArray,List.set_cons_zero,List.set_cons_succ,i64_w,i32_w]
    rfl
   refine pure_ (i:=23) (N:=some 2) (v:=?_) (a':=?_) #[true,true,true,true,true,true,true,true,true,true,true,true,true,true,true,true,true,true,true,true,true,true,true,true] rfl rfl (any_of HT_.out (by kernel_rfl)) (fun _ _ _ h=>h) (Or.inl ⟨by rfl,?_⟩) ?_ ?_
   rotate_left
   ·intro w'
    go_simp
    with_reducible rfl
   rotate_left
   ·simp only [Act.put,List.setIfInBounds_toArray,List.set_cons_zero,List.set_cons_succ,i64_w,i32_w]
    rfl
   refine done_ (done_of HT_.out (by kernel_rfl)) ?_
   try go_wp2
   go_ret
   exact ⟨by first|rfl|(simp [errW_none,errW_some] <;> rfl)|(simp [*,errW_none,errW_some] <;> rfl),by repeat (first|(with_reducible first|exact HB.out|apply below_alloc|apply pw_below_drewN|apply below_drew1|refine below_set ?_ GE168.out)|exact HB.out)⟩
 ·rw [if_neg c2] at H
  have c2b0:decide (1 ≤ (l0_1.length:Int)) = false:=decide_eq_false c2
  have c2b1:decide (1 ≤ l0_1.length) = false:=decide_eq_false (by omega)
  clear c2
  obtain rfl:=Option.some.inj H
  go_enter Try.func142,Try.ntmps142
  try go_wp2_with (first|((with_reducible refine gate_dst (N:=1) rfl ?_);(try (refine gate_guard (by rfl) ?_;dsimp only));refine box_event ?hg (N:=1) ?hd (cs:=#[.int .i64 a0_0,.slice A0_1 l0_1.length c0_1]) (t:=26) ?hr ?_;(case hd=>rfl);(case hg=>rfl);(case hr=>first|(go_simp;done)|(go_simp;rfl));intro gb168 hg w16 hbox hb;have n0_:=Aside0.mk (below_step (by repeat (first|(with_reducible first|exact HB.out|apply below_alloc|apply pw_below_drewN|apply below_drew1)|exact HB.out)) hb);have n1_:=Aside0.mk (hbox);have n2_:=Aside0.mk ((by rw [hg];exact (below_size (by repeat (first|(with_reducible first|exact HB.out|apply below_alloc|apply pw_below_drewN|apply below_drew1)|exact HB.out))):w.heap.size ≤ gb168));have n3_:=Aside0.mk ((by rw [hg];exact (below_size (by repeat (first|(with_reducible first|exact HB.out|apply below_alloc|apply pw_below_drewN|apply below_drew1)|exact HB.out))):w.heap.size ≤ gb168));clear HB;have HB:=n0_;have BK168:=n1_;have GW168:=n2_;have GE168:=n3_;clear n0_ n1_ n2_ n3_;clear hb hbox hg))
  have n0_:=Aside0.mk (blk_drew BK168.out)
  have n1_:=Aside0.mk (below_drew1 HB.out)
  clear BK168
  clear HB
  have BK168:=n0_
  have HB:=n1_
  clear n0_ n1_
  refine start_ (n:=24) (S:=fun w'=>w'.cell? ⟨gb168,0,none⟩ = some (.int .i64 a0_0) ∧ w'.cell? ⟨gb168,1,none⟩ = some (.slice A0_1 l0_1.length c0_1)) (ds:=[]) #[false,false,false,false,false,false,false,false,false,false,false,false,false,false,false,false,false,false,false,false,false,false,false,false] (by kernel_rfl) rfl rfl ⟨(blk_cell BK168.out 0).trans rfl,(blk_cell BK168.out 1).trans rfl⟩ (fun hHeld=>?_);refine with_tabW impl_IsCommittee.tab1 impl_IsCommittee.bits1 (fun HT_ HW_=>?_)
  generalize w16.drew = w17 at BK168 HB hHeld ⊢
  refine pure_ (i:=0) (N:=some 3) (v:=?_) (a':=?_) #[true,false,false,false,false,false,false,false,false,false,false,false,false,false,false,false,false,false,false,false,false,false,false,false] rfl rfl (any_of HT_.out (by kernel_rfl)) (fun _ _ _ h=>h) (Or.inl ⟨by rfl,?_⟩) ?_ ?_
  rotate_left
  ·intro w'
   go_simp
   with_reducible rfl
  rotate_left
  ·simp only [Act.put,List.setIfInBounds_toArray,List.set_cons_zero,List.set_cons_succ,i64_w,i32_w]
   rfl
  refine take_ (i:=1) (N:=some 4) (v:=?_) (a':=?_) #[true,true,false,false,false,false,false,false,false,false,false,false,false,false,false,false,false,false,false,false,false,false,false,false] rfl rfl (take_ofW HT_.out HW_.out (by kernel_rfl)) (fun _ _ _ h=>h) (Or.inl ⟨by rfl,?_⟩) hHeld ?_ ?_
  rotate_left
  ·rintro w' ⟨s0,s1⟩
   go_simp
   with_reducible rfl
  rotate_left
  ·simp only [Act.put,List.setIfInBounds_toArray,List.set_cons_zero,List.set_cons_succ,i64_w,i32_w]
   rfl
  refine pure_ (i:=2) (N:=some 5) (v:=?_) (a':=?_) #[true,true,true,false,false,false,false,false,false,false,false,false,false,false,false,false,false,false,false,false,false,false,false,false] rfl rfl (any_of HT_.out (by kernel_rfl)) (fun _ _ _ h=>h) (Or.inl ⟨by rfl,?_⟩) ?_ ?_
  rotate_left
  ·intro w'
   go_simp
   with_reducible rfl
  rotate_left
  ·simp only [Act.put,List.setIfInBounds_toArray,List.set_cons_zero,List.set_cons_succ,i64_w,i32_w]
   rfl
  refine pure_ (i:=3) (N:=some 6) (v:=?_) (a':=?_) #[true,true,true,true,false,false,false,false,false,false,false,false,false,false,false,false,false,false,false,false,false,false,false,false] rfl rfl (any_of HT_.out (by kernel_rfl)) (fun _ _ _ h=>h) (Or.inl ⟨by rfl,?_⟩) ?_ ?_
  rotate_left
  ·intro w'
   go_simp
   with_reducible rfl
  rotate_left
  ·simp only [Act.put,List.setIfInBounds_toArray,List.set_cons_zero,List.set_cons_succ,i64_w,i32_w]
   rfl
  refine pure_ (i:=4) (N:=some 7) (v:=?_) (a':=?_) #[true,true,true,true,true,false,false,false,false,false,false,false,false,false,false,false,false,false,false,false,false,false,false,false] rfl rfl (any_of HT_.out (by kernel_rfl)) (fun _ _ _ h=>h) (Or.inl ⟨by rfl,?_⟩) ?_ ?_
  rotate_left
  ·intro w'
   go_simp
   with_reducible rfl
  rotate_left
  ·simp only [Act.put,List.setIfInBounds_toArray,List.set_cons_zero,List.set_cons_succ,i64_w,i32_w]
   rfl
  refine pure_ (i:=5) (N:=some 8) (v:=undef) (a':=?_) #[true,true,true,true,true,true,false,false,false,false,false,false,false,false,false,false,false,false,false,false,false,false,false,false] rfl rfl (any_of HT_.out (by kernel_rfl)) (fun _ _ _ h=>h) (Or.inr ⟨by rfl,rfl⟩) ?_ ?_
  rotate_left
  ·simp only [Act.put,List.setIfInBounds_toArray,List.set_cons_zero,List.set_cons_succ,i64_w,i32_w]
   rfl
  refine pure_ (i:=6) (N:=some 9) (v:=undef) (a':=?_) #[true,true,true,true,true,true,true,false,false,false,false,false,false,false,false,false,false,false,false,false,false,false,false,false] rfl rfl (any_of HT_.out (by kernel_rfl)) (fun _ _ _ h=>h) (Or.inr ⟨by rfl,rfl⟩) ?_ ?_
  rotate_left
  ·simp only [Act.put,List.setIfInBounds_toArray,List.set_cons_zero,List.set_cons_succ,i64_w,i32_w]
   rfl
  refine pure_ (i:=7) (N:=some 10) (v:=undef) (a':=?_) #[true,true,true,true,true,true,true,true,false,false,false,false,false,false,false,false,false,false,false,false,false,false,false,false] rfl rfl (any_of HT_.out (by kernel_rfl)) (fun _ _ _ h=>h) (Or.inr ⟨by rfl,rfl⟩) ?_ ?_
  rotate_left
  ·simp only [Act.put,List.setIfInBounds_toArray,List.set_cons_zero,List.set_cons_succ,i64_w,i32_w]
   rfl
  refine pure_ (i:=8) (N:=some 11) (v:=undef) (a':=?_) #[true,true,true,true,true,true,true,true,true,false,false,false,false,false,false,false,false,false,false,false,false,false,false,false] rfl rfl (any_of HT_.out (by kernel_rfl)) (fun _ _ _ h=>h) (Or.inr ⟨by rfl,rfl⟩) ?_ ?_
  rotate_left
  ·simp only [Act.put,List.setIfInBounds_toArray,List.set_cons_zero,List.set_cons_succ,i64_w,i32_w]
   rfl
  refine pure_ (i:=9) (N:=some 12) (v:=?_) (a':=?_) #[true,true,true,true,true,true,true,true,true,true,false,false,false,false,false,false,false,false,false,false,false,false,false,false] rfl rfl (any_of HT_.out (by kernel_rfl)) (fun _ _ _ h=>h) (Or.inl ⟨by rfl,?_⟩) ?_ ?_
  rotate_left
  ·intro w'
   go_simp
   with_reducible rfl
  rotate_left
  ·simp only [Act.put,List.setIfInBounds_toArray,List.set_cons_zero,List.set_cons_succ,i64_w,i32_w]
   rfl
  refine pure_ (i:=10) (N:=some 13) (v:=?_) (a':=?_) #[true,true,true,true,true,true,true,true,true,true,true,false,false,false,false,false,false,false,false,false,false,false,false,false] rfl rfl (any_of HT_.out (by kernel_rfl)) (fun _ _ _ h=>h) (Or.inl ⟨by rfl,?_⟩) ?_ ?_
  rotate_left
  ·intro w'
   go_simp
   with_reducible rfl
  rotate_left
  ·simp only [Act.put,List.setIfInBounds_toArray,List.set_cons_zero,List.set_cons_succ,i64_w,i32_w]
   rfl
  refine pure_ (i:=11) (N:=some 14) (v:=undef) (a':=?_) #[true,true,true,true,true,true,true,true,true,true,true,true,false,false,false,false,false,false,false,false,false,false,false,false] rfl rfl (any_of HT_.out (by kernel_rfl)) (fun _ _ _ h=>h) (Or.inr ⟨by rfl,rfl⟩) ?_ ?_
  rotate_left
  ·simp only [Act.put,List.setIfInBounds_toArray,List.set_cons_zero,List.set_cons_succ,i64_w,i32_w]
   rfl
  refine pure_ (i:=12) (N:=some 15) (v:=undef) (a':=?_) #[true,true,true,true,true,true,true,true,true,true,true,true,true,false,false,false,false,false,false,false,false,false,false,false] rfl rfl (any_of HT_.out (by kernel_rfl)) (fun _ _ _ h=>h) (Or.inr ⟨by rfl,rfl⟩) ?_ ?_
  rotate_left
  ·simp only [Act.put,List.setIfInBounds_toArray,List.set_cons_zero,List.set_cons_succ,i64_w,i32_w]
   rfl
  refine pure_ (i:=13) (N:=some 16) (v:=undef) (a':=?_) #[true,true,true,true,true,true,true,true,true,true,true,true,true,true,false,false,false,false,false,false,false,false,false,false] rfl rfl (any_of HT_.out (by kernel_rfl)) (fun _ _ _ h=>h) (Or.inr ⟨by rfl,rfl⟩) ?_ ?_
  rotate_left
  ·simp only [Act.put,List.setIfInBounds_toArray,List.set_cons_zero,List.set_cons_succ,i64_w,i32_w]
   rfl
  refine pure_ (i:=14) (N:=some 17) (v:=?_) (a':=?_) #[true,true,true,true,true,true,true,true,true,true,true,true,true,true,true,false,false,false,false,false,false,false,false,false] rfl rfl (any_of HT_.out (by kernel_rfl)) (fun _ _ _ h=>h) (Or.inl ⟨by rfl,?_⟩) ?_ ?_
  rotate_left
  ·intro w'
   go_simp
   with_reducible rfl
  rotate_left
  ·simp only [Act.put,List.setIfInBounds_toArray,List.set_cons_zero,List.set_cons_succ,i64_w,i32_w]
   rfl
  refine pure_ (i:=15) (N:=some 18) (v:=?_) (a':=?_) #[true,true,true,true,true,true,true,true,true,true,true,true,true,true,true,true,false,false,false,false,false,false,false,false] rfl rfl (any_of HT_.out (by kernel_rfl)) (fun _ _ _ h=>h) (Or.inl ⟨by rfl,?_⟩) ?_ ?_
  rotate_left
  ·intro w'
   go_simp
   with_reducible rfl
  rotate_left
  ·simp only [Act.put,List.setIfInBounds_toArray,List.set_cons_zero,List.set_cons_succ,i64_w,i32_w]
   rfl
  refine pure_ (i:=16) (N:=some 19) (v:=undef) (a':=?_) #[true,true,true,true,true,true,true,true,true,true,true,true,true,true,true,true,true,false,false,false,false,false,false,false] rfl rfl (any_of HT_.out (by kernel_rfl)) (fun _ _ _ h=>h) (Or.inr ⟨by rfl,rfl⟩) ?_ ?_
  rotate_left
  ·simp only [Act.put,List.setIfInBounds_toArray,List.set_cons_zero,List.set_cons_succ,i64_w,i32_w]
   rfl
  refine pure_ (i:=17) (N:=some 20) (v:=undef) (a':=?_) #[true,true,true,true,true,true,true,true,true,true,true,true,true,true,true,true,true,true,false,false,false,false,false,false] rfl rfl (any_of HT_.out (by kernel_rfl)) (fun _ _ _ h=>h) (Or.inr ⟨by rfl,rfl⟩) ?_ ?_
  rotate_left
  ·simp only [Act.put,List.setIfInBounds_toArray,List.set_cons_zero,List.set_cons_succ,i64_w,i32_w]
   rfl
  refine pure_ (i:=18) (N:=some 21) (v:=undef) (a':=?_) #[true,true,true,true,true,true,true,true,true,true,true,true,true,true,true,true,true,true,true,false,false,false,false,false] rfl rfl (any_of HT_.out (by kernel_rfl)) (fun _ _ _ h=>h) (Or.inr ⟨by rfl,rfl⟩) ?_ ?_
  rotate_left
  ·simp only [Act.put,List.setIfInBounds_toArray,List.set_cons_zero,List.set_cons_succ,i64_w,i32_w]
   rfl
  refine pure_ (i:=19) (N:=some 22) (v:=undef) (a':=?_) #[true,true,true,true,true,true,true,true,true,true,true,true,true,true,true,true,true,true,true,true,false,false,false,false] rfl rfl (any_of HT_.out (by kernel_rfl)) (fun _ _ _ h=>h) (Or.inr ⟨by rfl,rfl⟩) ?_ ?_
  rotate_left
  ·simp only [Act.put,List.setIfInBounds_toArray,List.set_cons_zero,List.set_cons_succ,i64_w,i32_w]
   rfl
  refine pure_ (i:=20) (N:=some 23) (v:=undef) (a':=?_) #[true,true,true,true,true,true,true,true,true,true,true,true,true,true,true,true,true,true,true,true,true,false,false,false] rfl rfl (any_of HT_.out (by kernel_rfl)) (fun _ _ _ h=>h) (Or.inr ⟨by rfl,rfl⟩) ?_ ?_
  rotate_left
  ·simp only [Act.put,List.setIfInBounds_toArray,List.set_cons_zero,List.set_cons_succ,i64_w,i32_w]
   rfl
  refine pure_ (i:=21) (N:=some 24) (v:=undef) (a':=?_) #[true,true,true,true,true,true,true,true,true,true,true,true,true,true,true,true,true,true,true,true,true,true,false,false] rfl rfl (any_of HT_.out (by kernel_rfl)) (fun _ _ _ h=>h) (Or.inr ⟨by rfl,rfl⟩) ?_ ?_
  rotate_left
  ·simp only [Act.put,List.setIfInBounds_toArray,List.set_cons_zero,List.set_cons_succ,i64_w,i32_w]
   rfl
  refine pure_ (i:=22) (N:=some 25) (v:=?_) (a':=?_) #[true,true,true,true,true,true,true,true,true,true,true,true,true,true,true,true,true,true,true,true,true,true,true,false] rfl rfl (any_of HT_.out (by kernel_rfl)) (fun _ _ _ h=>h) (Or.inl ⟨by rfl,?_⟩) ?_ ?_
  rotate_left
  ·intro w'
   go_simp
   with_reducible rfl
  rotate_left
  ·simp only [Act.put,List.setIfInBounds_toArray,List.set_cons_zero,List.set_cons_succ,i64_w,i32_w]
   rfl
  refine pure_ (i:=23) (N:=some 2) (v:=?_) (a':=?_) #[true,true,true,true,true,true,true,true,true,true,true,true,true,true,true,true,true,true,true,true,true,true,true,true] rfl rfl (any_of HT_.out (by kernel_rfl)) (fun _ _ _ h=>h) (Or.inl ⟨by rfl,?_⟩) ?_ ?_
  rotate_left
  ·intro w'
   go_simp
   with_reducible rfl
  rotate_left
  ·simp only [Act.put,List.setIfInBounds_toArray,List.set_cons_zero,List.set_cons_succ,i64_w,i32_w]
   rfl
  refine done_ (done_of HT_.out (by kernel_rfl)) ?_
  try go_wp2
  go_ret
  exact ⟨by first|rfl|(simp [errW_none,errW_some] <;> rfl)|(simp [*,errW_none,errW_some] <;> rfl),by repeat (first|(with_reducible first|exact HB.out|apply below_alloc|apply pw_below_drewN|apply below_drew1|refine below_set ?_ GE168.out)|exact HB.out)⟩


/-! ### impl_isMember: function 68 -/
def impl_isMember.f (k:Nat) (a0_0:Int) (l0_1:List Int) (a1:Int):Option (Bool):=(impl_IsCommittee.f k a0_0 l0_1).bind fun t173=>(if t173 = true then ((impl_within.f a1 0 (wrap64 ((l0_1.length:Int) - 1))).bind fun t174=>(some t174)) else (some false))
theorem impl_isMember.mono:∀ a0 a1 a2 k,LeO (impl_isMember.f k a0 a1 a2) (impl_isMember.f (k + 1) a0 a1 a2):=by
 intro a0 a1 a2 k
 unfold impl_isMember.f
 repeat' first
   | (with_reducible exact impl_IsCommittee.mono _ _ _)
   | (with_reducible exact LeO.refl _)
   | (with_reducible exact LeO.none _)
   | (with_reducible refine LeO.ite ?_ ?_)
   | (with_reducible refine LeO.bind ?_ (fun _=>?_))
   | exact impl_IsCommittee.mono _ _ _
   | exact LeO.none _
   | refine LeO.ite ?_ ?_
   | refine LeO.bind ?_ (fun _=>?_)
set_option maxHeartbeats 8000000 in
set_option maxRecDepth 100000 in
theorem impl_isMember.calls (k:Nat) (a0_0:Int) (A0_1:Option Addr) (c0_1:Nat) (l0_1:List Int) (a1:Int) (r:Bool) (w:World) (hr0_1:Kd.C (Kd.int .i64) w A0_1 l0_1.length l0_1) (hc0_1:l0_1.length ≤ c0_1) (h:impl_isMember.f k a0_0 l0_1 a1 = some r) :
  Calls Try.prog 68 #[.agg #[.int .i64 a0_0,.slice A0_1 l0_1.length c0_1],.int .i64 a1] w fun e w'=>e = .returned (.bool r) ∧ Below w.heap.size w w':=by
 have hu26:=Try.underlying26
 have HR0_1:=Aside0.mk hr0_1
 have HC0_1:=Aside0.mk hc0_1
 clear hr0_1 hc0_1
 have HB:=Aside0.mk (Below.refl w.heap.size w)
 have H:((impl_IsCommittee.f k a0_0 l0_1).bind fun t173=>(if t173 = true then ((impl_within.f a1 0 (wrap64 ((l0_1.length:Int) - 1))).bind fun t174=>(some t174)) else (some false))) = some r:=h
 clear h
 replace H:=Option.bind_eq_some_iff.mp H
 obtain ⟨t173,A30,H⟩:=H
 replace H:(if t173 = true then ((impl_within.f a1 0 (wrap64 ((l0_1.length:Int) - 1))).bind fun t174=>(some t174)) else (some false)) = some r:=H
 have A3:=Aside0.mk A30
 clear A30
 by_cases c4:t173 = true
 ·subst c4
  have H1:((impl_within.f a1 0 (wrap64 ((l0_1.length:Int) - 1))).bind fun t174=>(some t174)) = some r:=by rw [if_pos rfl] at H;exact H
  clear H
  have H:=H1
  clear H1
  replace H:=Option.bind_eq_some_iff.mp H
  obtain ⟨t174,A50,H⟩:=H
  replace H:(some t174) = some r:=H
  have A5:=Aside0.mk A50
  clear A50
  obtain rfl:=Option.some.inj H
  go_enter Try.func68,Try.ntmps68
  go_wp2_with (first|((with_reducible refine gate_dst (N:=2) rfl ?_);(try (refine gate_guard (by rfl) ?_;dsimp only));refine box_event ?hg (N:=2) ?hd (cs:=#[.int .i64 a0_0,.slice A0_1 l0_1.length c0_1]) (t:=26) ?hr ?_;(case hd=>rfl);(case hg=>rfl);(case hr=>first|(go_simp;done)|(go_simp;rfl));intro gb172 hg w6 hbox hb;have n0_:=Aside0.mk (below_step (by repeat (first|(with_reducible first|exact HB.out|apply below_alloc|apply pw_below_drewN|apply below_drew1)|exact HB.out)) hb);have n1_:=Aside0.mk (hbox);have n2_:=Aside0.mk ((by rw [hg];exact (below_size (by repeat (first|(with_reducible first|exact HB.out|apply below_alloc|apply pw_below_drewN|apply below_drew1)|exact HB.out))):w.heap.size ≤ gb172));have n3_:=Aside0.mk ((by rw [hg];exact (below_size (by repeat (first|(with_reducible first|exact HB.out|apply below_alloc|apply pw_below_drewN|apply below_drew1)|exact HB.out))):w.heap.size ≤ gb172));clear HB;have HB:=n0_;have BK172:=n1_;have GW172:=n2_;have GE172:=n3_;clear n0_ n1_ n2_ n3_;clear hb hbox hg;have hcz7_0:w6.cell? ⟨gb172,0,none⟩ = some (.int .i64 a0_0):=(blk_cell BK172.out 0).trans rfl;have hcz7_1:w6.cell? ⟨gb172,1,none⟩ = some (.slice A0_1 l0_1.length c0_1):=(blk_cell BK172.out 1).trans rfl;have hfz7_0:=blk_frozen BK172.out 0;have hfz7_1:=blk_frozen BK172.out 1)|((with_reducible refine gate_callee (f:=142) rfl ?_);refine goesL_ (some 6) rfl rfl Try.func142 (by kernel_rfl) rfl #[.agg #[.int .i64 a0_0,.slice A0_1 l0_1.length c0_1]] rfl (by (try simp only [List.map_toArray,List.map_cons,List.map_nil]);first|done|rfl|(simp only [List.length_drop,List.length_take];rfl)) ?_;(with_reducible refine (impl_IsCommittee.calls k a0_0 _ _ l0_1 true _ ?side1 ?side2 A3.out).mono ?_);(case side1=>repeat (first|exact (Kd.C_below HR0_1.out HB.out)|(with_reducible refine Kd.C_alloc ?_ _)|(with_reducible refine Kd.C_drewN ?_ _)|(with_reducible refine Kd.C_drew ?_)));(case side2=>exact HC0_1.out);rintro e w8 ⟨rfl,hb⟩;refine ⟨_,rfl,?_⟩;have n0_:=Aside0.mk (blk_below (g:=gb172) (o:=.cells #[.int .i64 a0_0,.slice A0_1 l0_1.length c0_1] 26 (0,0)) (by (with_reducible repeat (first|refine blk_drewN ?_ _|refine blk_drew ?_|refine blk_alloc ?_ _));exact BK172.out) hb);have n1_:=Aside0.mk (below_step (by repeat (first|(with_reducible first|exact HB.out|apply below_alloc|apply pw_below_drewN|apply below_drew1|refine below_set ?_ GE172.out)|exact HB.out)) hb);clear BK172;clear HB;have BK172:=n0_;have HB:=n1_;clear n0_ n1_;(try clear hb);(try clear hb2);(try clear hk);(try clear hi);have hcz9_0:w8.cell? ⟨gb172,0,none⟩ = some (.int .i64 a0_0):=(blk_cell BK172.out 0).trans rfl;have hcz9_1:w8.cell? ⟨gb172,1,none⟩ = some (.slice A0_1 l0_1.length c0_1):=(blk_cell BK172.out 1).trans rfl;have hfz9_0:=blk_frozen BK172.out 0;have hfz9_1:=blk_frozen BK172.out 1)|(go_at_call 69;(with_reducible refine (impl_within.calls a1 0 (wrap64 ((l0_1.length:Int) - 1)) t174 _ A5.out).mono ?_);rintro e w' ⟨rfl,⟨nd,rfl⟩⟩))
  go_ret
  exact ⟨by first|rfl|(simp [errW_none,errW_some] <;> rfl)|(simp [*,errW_none,errW_some] <;> rfl),by repeat (first|(with_reducible first|exact HB.out|apply below_alloc|apply pw_below_drewN|apply below_drew1|refine below_set ?_ GE172.out)|exact HB.out)⟩
 ·replace c4:=Bool.eq_false_iff.mpr c4
  subst c4
  have H1:(some false) = some r:=by rw [if_neg (show ¬ (false = true) by decide)] at H;exact H
  clear H
  have H:=H1
  clear H1
  obtain rfl:=Option.some.inj H
  go_enter Try.func68,Try.ntmps68
  go_wp2_with (first|((with_reducible refine gate_dst (N:=2) rfl ?_);(try (refine gate_guard (by rfl) ?_;dsimp only));refine box_event ?hg (N:=2) ?hd (cs:=#[.int .i64 a0_0,.slice A0_1 l0_1.length c0_1]) (t:=26) ?hr ?_;(case hd=>rfl);(case hg=>rfl);(case hr=>first|(go_simp;done)|(go_simp;rfl));intro gb172 hg w10 hbox hb;have n0_:=Aside0.mk (below_step (by repeat (first|(with_reducible first|exact HB.out|apply below_alloc|apply pw_below_drewN|apply below_drew1)|exact HB.out)) hb);have n1_:=Aside0.mk (hbox);have n2_:=Aside0.mk ((by rw [hg];exact (below_size (by repeat (first|(with_reducible first|exact HB.out|apply below_alloc|apply pw_below_drewN|apply below_drew1)|exact HB.out))):w.heap.size ≤ gb172));have n3_:=Aside0.mk ((by rw [hg];exact (below_size (by repeat (first|(with_reducible first|exact HB.out|apply below_alloc|apply pw_below_drewN|apply below_drew1)|exact HB.out))):w.heap.size ≤ gb172));clear HB;have HB:=n0_;have BK172:=n1_;have GW172:=n2_;have GE172:=n3_;clear n0_ n1_ n2_ n3_;clear hb hbox hg;have hcz11_0:w10.cell? ⟨gb172,0,none⟩ = some (.int .i64 a0_0):=(blk_cell BK172.out 0).trans rfl;have hcz11_1:w10.cell? ⟨gb172,1,none⟩ = some (.slice A0_1 l0_1.length c0_1):=(blk_cell BK172.out 1).trans rfl;have hfz11_0:=blk_frozen BK172.out 0;have hfz11_1:=blk_frozen BK172.out 1)|((with_reducible refine gate_callee (f:=142) rfl ?_);refine goesL_ (some 6) rfl rfl Try.func142 (by kernel_rfl) rfl #[.agg #[.int .i64 a0_0,.slice A0_1 l0_1.length c0_1]] rfl (by (try simp only [List.map_toArray,List.map_cons,List.map_nil]);first|done|rfl|(simp only [List.length_drop,List.length_take];rfl)) ?_;(with_reducible refine (impl_IsCommittee.calls k a0_0 _ _ l0_1 false _ ?side1 ?side2 A3.out).mono ?_);(case side1=>repeat (first|exact (Kd.C_below HR0_1.out HB.out)|(with_reducible refine Kd.C_alloc ?_ _)|(with_reducible refine Kd.C_drewN ?_ _)|(with_reducible refine Kd.C_drew ?_)));(case side2=>exact HC0_1.out);rintro e w12 ⟨rfl,hb⟩;refine ⟨_,rfl,?_⟩;have n0_:=Aside0.mk (blk_below (g:=gb172) (o:=.cells #[.int .i64 a0_0,.slice A0_1 l0_1.length c0_1] 26 (0,0)) (by (with_reducible repeat (first|refine blk_drewN ?_ _|refine blk_drew ?_|refine blk_alloc ?_ _));exact BK172.out) hb);have n1_:=Aside0.mk (below_step (by repeat (first|(with_reducible first|exact HB.out|apply below_alloc|apply pw_below_drewN|apply below_drew1|refine below_set ?_ GE172.out)|exact HB.out)) hb);clear BK172;clear HB;have BK172:=n0_;have HB:=n1_;clear n0_ n1_;(try clear hb);(try clear hb2);(try clear hk);(try clear hi)))
  go_ret
  exact ⟨by first|rfl|(simp [errW_none,errW_some] <;> rfl)|(simp [*,errW_none,errW_some] <;> rfl),by repeat (first|(with_reducible first|exact HB.out|apply below_alloc|apply pw_below_drewN|apply below_drew1|refine below_set ?_ GE172.out)|exact HB.out)⟩

end Go.Proofs.Ythkbaolpiigioaa.P
