/- Part 4 of the texts below the law FnExactBestSplits. Printed by this session's driver over the kit's printer, but for the hand contracts and the plain laws. -/
import Derived.Test.YthkbaolpiigioaaCBestSplits1
import Derived.Test.YthkbaolpiigioaaCBestSplits2
import Derived.Test.YthkbaolpiigioaaCBestSplits3
set_option linter.unusedVariables false
set_option linter.unusedSimpArgs false
namespace Go.Proofs.Ythkbaolpiigioaa.P
open Go.RowKit Go.Proofs.YthkbaolpiigioaaW.PrintWords Go.Proofs.YthkbaolpiigioaaW.PrintLast Go.Proofs.YthkbaolpiigioaaW.PrintMore
attribute [local go_sem] max2_int min2_int max_two min_two max_three min_three max_four min_four   -- for this text's walks alone
set_option linter.unusedVariables false
set_option linter.unusedSimpArgs false

/-! ### impl_BestSplits: function 60 -/
mutual
def impl_BestSplits.j0:Nat → Int → Bool → Int → List Int → Option (List Int × Bool)
 | 0,_,_,_,_=>none
 | k + 1,x1,x24,x1354000,x1354001=>if x24 = true then (some (([]:List Int),false)) else (if 0 ≤ x1 then (if x1 < (x1354001.length:Int) then (impl_BestSplits.l0 k x1 (([]:List Int)) (wrap64 ((rd x1354001 x1) + 1)) 0 x1354000 x1354001 (-1) 1) else (none)) else (none))
def impl_BestSplits.l0:Nat → Int → List Int → Int → Int → Int → List Int → Int → Int → Option (List Int × Bool)
 | 0,_,_,_,_,_,_,_,_=>none
 | k + 1,x1,x6,x32,x33,x1354000,x1354001,x1360000,x1360001=>if x33 < x32 then ((impl_SplitMember.f k x1354000 x1354001 x1 x33).bind fun bt1361=>(if bt1361.2.2 = true then ((impl_bySwings.f k bt1361.1 bt1361.2.1).bind fun bt1367=>((impl_powers_of.f k bt1367.1 bt1367.2 (([x1,wrap64 (x1 + 1)]:List Int))).bind fun t1375=>((impl_shareOf.f k t1375 bt1367.2).bind fun bt1376=>((impl_compare.f bt1376.1 bt1376.2 x1360000 x1360001).bind fun t1379=>(if t1379 > 0 then (impl_BestSplits.j2 k x1 (([]:List Int)) x33 x32 x33 x1354000 x1354001 bt1376.1 bt1376.2 bt1376.1 bt1376.2) else (impl_BestSplits.j2 k x1 x6 x33 x32 x33 x1354000 x1354001 x1360000 x1360001 bt1376.1 bt1376.2)))))) else (some (([]:List Int),false)))) else (some (x6,true))
def impl_BestSplits.j2:Nat → Int → List Int → Int → Int → Int → Int → List Int → Int → Int → Int → Int → Option (List Int × Bool)
 | 0,_,_,_,_,_,_,_,_,_,_,_=>none
 | k + 1,x1,x6,x8,x32,x33,x1354000,x1354001,x1360000,x1360001,x1379000,x1379001=>(impl_compare.f x1379000 x1379001 x1360000 x1360001).bind fun t1383=>(if t1383 = 0 then (if x6.length < 17592186044416 then (impl_BestSplits.l0 k x1 (x6 ++ [x8]) x32 (wrap64 (x33 + 1)) x1354000 x1354001 x1360000 x1360001) else (none)) else (impl_BestSplits.l0 k x1 x6 x32 (wrap64 (x33 + 1)) x1354000 x1354001 x1360000 x1360001))
end
def impl_BestSplits.f (k:Nat) (a0_0:Int) (l0_1:List Int) (a1:Int):Option (List Int × Bool):=(impl_isMember.f k a0_0 l0_1 a1).bind fun t1354=>(if t1354 = true then (if 0 ≤ a1 then (if a1 < (l0_1.length:Int) then (impl_BestSplits.j0 k a1 (decide ((rd l0_1 a1) > 20)) a0_0 l0_1) else (none)) else (none)) else (impl_BestSplits.j0 k a1 true a0_0 l0_1))
theorem impl_BestSplits.mono_l:∀ k,(∀ y0 y1 y2 y3,LeO (impl_BestSplits.j0 k y0 y1 y2 y3) (impl_BestSplits.j0 (k + 1) y0 y1 y2 y3)) ∧ (∀ y0 y1 y2 y3 y4 y5 y6 y7,LeO (impl_BestSplits.l0 k y0 y1 y2 y3 y4 y5 y6 y7) (impl_BestSplits.l0 (k + 1) y0 y1 y2 y3 y4 y5 y6 y7)) ∧ (∀ y0 y1 y2 y3 y4 y5 y6 y7 y8 y9 y10,LeO (impl_BestSplits.j2 k y0 y1 y2 y3 y4 y5 y6 y7 y8 y9 y10) (impl_BestSplits.j2 (k + 1) y0 y1 y2 y3 y4 y5 y6 y7 y8 y9 y10))
 | 0=>⟨fun _ _ _ _ r h=>by simp [impl_BestSplits.j0] at h,fun _ _ _ _ _ _ _ _ r h=>by simp [impl_BestSplits.l0] at h,fun _ _ _ _ _ _ _ _ _ _ _ r h=>by simp [impl_BestSplits.j2] at h⟩
 | k + 1=>by
  obtain ⟨ih0,ih1,ih2⟩:=impl_BestSplits.mono_l k
  refine ⟨?_,?_,?_⟩
  ·intro y0 y1 y2 y3
   unfold impl_BestSplits.j0
   repeat' first
   | (with_reducible exact ih0 _ _ _ _)
   | (with_reducible exact ih1 _ _ _ _ _ _ _ _)
   | (with_reducible exact ih2 _ _ _ _ _ _ _ _ _ _ _)
   | (with_reducible exact impl_SplitMember.mono _ _ _ _ _)
   | (with_reducible exact impl_bySwings.mono _ _ _)
   | (with_reducible exact impl_isMember.mono _ _ _ _)
   | (with_reducible exact impl_powers_of.mono _ _ _ _)
   | (with_reducible exact impl_shareOf.mono _ _ _)
   | (with_reducible exact LeO.refl _)
   | (with_reducible exact LeO.none _)
   | (with_reducible refine LeO.ite ?_ ?_)
   | (with_reducible refine LeO.bind ?_ (fun _=>?_))
   | exact ih0 _ _ _ _
   | exact ih1 _ _ _ _ _ _ _ _
   | exact ih2 _ _ _ _ _ _ _ _ _ _ _
   | exact impl_SplitMember.mono _ _ _ _ _
   | exact impl_bySwings.mono _ _ _
   | exact impl_isMember.mono _ _ _ _
   | exact impl_powers_of.mono _ _ _ _
   | exact impl_shareOf.mono _ _ _
   | exact LeO.none _
   | refine LeO.ite ?_ ?_
   | refine LeO.bind ?_ (fun _=>?_)
  ·intro y0 y1 y2 y3 y4 y5 y6 y7
   unfold impl_BestSplits.l0
   repeat' first
   | (with_reducible exact ih0 _ _ _ _)
   | (with_reducible exact ih1 _ _ _ _ _ _ _ _)
   | (with_reducible exact ih2 _ _ _ _ _ _ _ _ _ _ _)
   | (with_reducible exact impl_SplitMember.mono _ _ _ _ _)
   | (with_reducible exact impl_bySwings.mono _ _ _)
   | (with_reducible exact impl_isMember.mono _ _ _ _)
   | (with_reducible exact impl_powers_of.mono _ _ _ _)
   | (with_reducible exact impl_shareOf.mono _ _ _)
   | (with_reducible exact LeO.refl _)
   | (with_reducible exact LeO.none _)
   | (with_reducible refine LeO.ite ?_ ?_)
   | (with_reducible refine LeO.bind ?_ (fun _=>?_))
   | exact ih0 _ _ _ _
   | exact ih1 _ _ _ _ _ _ _ _
   | exact ih2 _ _ _ _ _ _ _ _ _ _ _
   | exact impl_SplitMember.mono _ _ _ _ _
   | exact impl_bySwings.mono _ _ _
   | exact impl_isMember.mono _ _ _ _
   | exact impl_powers_of.mono _ _ _ _
   | exact impl_shareOf.mono _ _ _
   | exact LeO.none _
   | refine LeO.ite ?_ ?_
   | refine LeO.bind ?_ (fun _=>?_)
  ·intro y0 y1 y2 y3 y4 y5 y6 y7 y8 y9 y10
   unfold impl_BestSplits.j2
   repeat' first
   | (with_reducible exact ih0 _ _ _ _)
   | (with_reducible exact ih1 _ _ _ _ _ _ _ _)
   | (with_reducible exact ih2 _ _ _ _ _ _ _ _ _ _ _)
   | (with_reducible exact impl_SplitMember.mono _ _ _ _ _)
   | (with_reducible exact impl_bySwings.mono _ _ _)
   | (with_reducible exact impl_isMember.mono _ _ _ _)
   | (with_reducible exact impl_powers_of.mono _ _ _ _)
   | (with_reducible exact impl_shareOf.mono _ _ _)
   | (with_reducible exact LeO.refl _)
   | (with_reducible exact LeO.none _)
   | (with_reducible refine LeO.ite ?_ ?_)
   | (with_reducible refine LeO.bind ?_ (fun _=>?_))
   | exact ih0 _ _ _ _
   | exact ih1 _ _ _ _ _ _ _ _
   | exact ih2 _ _ _ _ _ _ _ _ _ _ _
   | exact impl_SplitMember.mono _ _ _ _ _
   | exact impl_bySwings.mono _ _ _
   | exact impl_isMember.mono _ _ _ _
   | exact impl_powers_of.mono _ _ _ _
   | exact impl_shareOf.mono _ _ _
   | exact LeO.none _
   | refine LeO.ite ?_ ?_
   | refine LeO.bind ?_ (fun _=>?_)
theorem impl_BestSplits.mono:∀ a0 a1 a2 k,LeO (impl_BestSplits.f k a0 a1 a2) (impl_BestSplits.f (k + 1) a0 a1 a2):=by
 intro a0 a1 a2 k
 obtain ⟨ih0,ih1,ih2⟩:=impl_BestSplits.mono_l k
 unfold impl_BestSplits.f
 repeat' first
   | (with_reducible exact ih0 _ _ _ _)
   | (with_reducible exact ih1 _ _ _ _ _ _ _ _)
   | (with_reducible exact ih2 _ _ _ _ _ _ _ _ _ _ _)
   | (with_reducible exact impl_SplitMember.mono _ _ _ _ _)
   | (with_reducible exact impl_bySwings.mono _ _ _)
   | (with_reducible exact impl_isMember.mono _ _ _ _)
   | (with_reducible exact impl_powers_of.mono _ _ _ _)
   | (with_reducible exact impl_shareOf.mono _ _ _)
   | (with_reducible exact LeO.refl _)
   | (with_reducible exact LeO.none _)
   | (with_reducible refine LeO.ite ?_ ?_)
   | (with_reducible refine LeO.bind ?_ (fun _=>?_))
   | exact ih0 _ _ _ _
   | exact ih1 _ _ _ _ _ _ _ _
   | exact ih2 _ _ _ _ _ _ _ _ _ _ _
   | exact impl_SplitMember.mono _ _ _ _ _
   | exact impl_bySwings.mono _ _ _
   | exact impl_isMember.mono _ _ _ _
   | exact impl_powers_of.mono _ _ _ _
   | exact impl_shareOf.mono _ _ _
   | exact LeO.none _
   | refine LeO.ite ?_ ?_
   | refine LeO.bind ?_ (fun _=>?_)
def impl_BestSplits.T12:Bool × List (List Nat × List Nat):=(true,[([],[]),([],[]),([],[]),([2],[2]),([1,3],[1,3]),([0,4],[0,4]),([],[]),([6],[6]),([5,7,5],[5,7]),([],[]),([9,8,8,0,1,2,3,4,5,6,7,8,9],[8,9])])
def impl_BestSplits.B12:List Nat:=[0,0,0,4,14,31,0,64,255,0,1023]
theorem impl_BestSplits.tab12:rtab .any (opsOf Try.f60 12) = impl_BestSplits.T12:=by kernel_rfl
theorem impl_BestSplits.bits12:waitsOk impl_BestSplits.T12.2 impl_BestSplits.B12 = true:=by kernel_rfl
set_option maxHeartbeats 8000000 in
set_option maxRecDepth 100000 in
theorem impl_BestSplits.calls (k:Nat) (a0_0:Int) (A0_1:Option Addr) (c0_1:Nat) (l0_1:List Int) (a1:Int) (r1:List Int) (r2:Bool) (w:World) (hr0_1:Kd.C (Kd.int .i64) w A0_1 l0_1.length l0_1) (hc0_1:l0_1.length ≤ c0_1) (h:impl_BestSplits.f k a0_0 l0_1 a1 = some (r1,r2)) :
  Calls Try.prog 60 #[.agg #[.int .i64 a0_0,.slice A0_1 l0_1.length c0_1],.int .i64 a1] w fun e w'=>∃ v0_:Value,e = .returned (.tuple #[v0_,.bool r2]) ∧ Kd.R (Kd.int .i64) 3 w' w.heap.size (fun _=>True) v0_ r1 ∧ Below w.heap.size w w':=by
 have hu26:=Try.underlying26
 have hu91:=Try.underlying91
 have hu130:=Try.underlying130
 have HR0_1:=Aside0.mk hr0_1
 have HC0_1:=Aside0.mk hc0_1
 clear hr0_1 hc0_1
 have HB:=Aside0.mk (Below.refl w.heap.size w)
 have H:((impl_isMember.f k a0_0 l0_1 a1).bind fun t1354=>(if t1354 = true then (if 0 ≤ a1 then (if a1 < (l0_1.length:Int) then (impl_BestSplits.j0 k a1 (decide ((rd l0_1 a1) > 20)) a0_0 l0_1) else (none)) else (none)) else (impl_BestSplits.j0 k a1 true a0_0 l0_1))) = some (r1,r2):=h
 clear h
 have HC3:=Aside0.mk H
 clear H
 go_enter Try.func60,Try.ntmps60
 go_upto_region 1 with (first|((with_reducible refine gate_dst (N:=2) rfl ?_);refine box_event ?hg (N:=2) ?hd (cs:=#[.int .i64 a0_0,.slice A0_1 l0_1.length c0_1]) (t:=26) ?hr ?_;(case hd=>rfl);(case hg=>rfl);(case hr=>first|(go_simp;done)|(go_simp;rfl));intro gb1353 hg w4 hbox hb;have n0_:=Aside0.mk (below_step (by repeat (first|(with_reducible first|exact HB.out|apply below_alloc|apply pw_below_drewN|apply below_drew1)|exact HB.out)) hb);have n1_:=Aside0.mk (hbox);have n2_:=Aside0.mk ((by rw [hg];exact (below_size (by repeat (first|(with_reducible first|exact HB.out|apply below_alloc|apply pw_below_drewN|apply below_drew1)|exact HB.out))):w.heap.size ≤ gb1353));have n3_:=Aside0.mk ((by rw [hg];exact (below_size (by repeat (first|(with_reducible first|exact HB.out|apply below_alloc|apply pw_below_drewN|apply below_drew1)|exact HB.out))):w.heap.size ≤ gb1353));clear HB;have HB:=n0_;have BK1353:=n1_;have GW1353:=n2_;have GE1353:=n3_;clear n0_ n1_ n2_ n3_;clear hb hbox hg))
 (try simp only [Act.put,List.setIfInBounds_toArray,List.set_cons_zero,List.set_cons_succ])
 go_cut [24] (fun v24 wc=>∃ (kq:Nat) (x24_2:Bool),v24 = .bool x24_2 ∧ Aside0 (impl_BestSplits.j0 kq a1 x24_2 a0_0 l0_1 = some (r1,r2)) ∧ Aside0 (kq ≤ k) ∧ Aside0 (wc.heap[gb1353]? = some (.cells #[.int .i64 a0_0,(.slice A0_1 l0_1.length c0_1)] 26 (0,0))) ∧ Aside0 (Below w.heap.size w wc))
 case first =>
  have H:=HC3.out
  clear HC3
  replace H:=Option.bind_eq_some_iff.mp H
  obtain ⟨t1354,A50,H⟩:=H
  replace H:(if t1354 = true then (if 0 ≤ a1 then (if a1 < (l0_1.length:Int) then (impl_BestSplits.j0 k a1 (decide ((rd l0_1 a1) > 20)) a0_0 l0_1) else (none)) else (none)) else (impl_BestSplits.j0 k a1 true a0_0 l0_1)) = some (r1,r2):=H
  have A5:=Aside0.mk A50
  clear A50
  by_cases c6:t1354 = true
  ·subst c6
   have H1:(if 0 ≤ a1 then (if a1 < (l0_1.length:Int) then (impl_BestSplits.j0 k a1 (decide ((rd l0_1 a1) > 20)) a0_0 l0_1) else (none)) else (none)) = some (r1,r2):=by rw [if_pos rfl] at H;exact H
   clear H
   have H:=H1
   clear H1
   by_cases c7:0 ≤ a1
   ·rw [if_pos c7] at H
    have c7b0:decide (0 ≤ a1) = true:=decide_eq_true c7
    clear c7
    (first|rw [c7b0]|(simp only [i64_w,i32_w];rw [c7b0])|skip)
    by_cases c8:a1 < (l0_1.length:Int)
    ·rw [if_pos c8] at H
     have c8b0:decide (a1 < (l0_1.length:Int)) = true:=decide_eq_true c8
     clear c8
     have H':=Aside0.mk H
     clear H
     have hcz9_0:w4.cell? ⟨gb1353,0,none⟩ = some (.int .i64 a0_0):=(blk_cell BK1353.out 0).trans rfl
     have hcz9_1:w4.cell? ⟨gb1353,1,none⟩ = some (.slice A0_1 l0_1.length c0_1):=(blk_cell BK1353.out 1).trans rfl
     have hfz9_0:=blk_frozen BK1353.out 0
     have hfz9_1:=blk_frozen BK1353.out 1
     go_wp2_with (first|((with_reducible refine gate_callee (f:=68) rfl ?_);refine goesL_ (some 15) rfl rfl Try.func68 (by kernel_rfl) rfl #[.agg #[.int .i64 a0_0,.slice A0_1 l0_1.length c0_1],.int .i64 a1] rfl (by (try simp only [List.map_toArray,List.map_cons,List.map_nil]);first|done|rfl|(simp only [List.length_drop,List.length_take];rfl)) ?_;(with_reducible refine (impl_isMember.calls k a0_0 _ _ l0_1 a1 true _ ?side1 ?side2 A5.out).mono ?_);(case side1=>repeat (first|exact (Kd.C_below HR0_1.out HB.out)|(with_reducible refine Kd.C_alloc ?_ _)|(with_reducible refine Kd.C_drewN ?_ _)|(with_reducible refine Kd.C_drew ?_)));(case side2=>exact HC0_1.out);rintro e w10 ⟨rfl,hb⟩;refine ⟨_,rfl,?_⟩;have n0_:=Aside0.mk (blk_below (g:=gb1353) (o:=.cells #[.int .i64 a0_0,.slice A0_1 l0_1.length c0_1] 26 (0,0)) (by (with_reducible repeat (first|refine blk_drewN ?_ _|refine blk_drew ?_|refine blk_alloc ?_ _));exact BK1353.out) hb);have n1_:=Aside0.mk (below_step (by repeat (first|(with_reducible first|exact HB.out|apply below_alloc|apply pw_below_drewN|apply below_drew1|refine below_set ?_ GE1353.out)|exact HB.out)) hb);clear BK1353;clear HB;have BK1353:=n0_;have HB:=n1_;clear n0_ n1_;(try clear hb);(try clear hb2);(try clear hk);(try clear hi);have hcz11_0:w10.cell? ⟨gb1353,0,none⟩ = some (.int .i64 a0_0):=(blk_cell BK1353.out 0).trans rfl;have hcz11_1:w10.cell? ⟨gb1353,1,none⟩ = some (.slice A0_1 l0_1.length c0_1):=(blk_cell BK1353.out 1).trans rfl;have hfz11_0:=blk_frozen BK1353.out 0;have hfz11_1:=blk_frozen BK1353.out 1;have p1355:0 ≤ (a1:Int):=of_decide_eq_true (by first|(with_reducible assumption)|assumption);have q1355:a1 < (l0_1.length:Int):=of_decide_eq_true (by first|(with_reducible assumption)|assumption);obtain ⟨ad1355,e1355,hx1355_0⟩:=Kd.at_int HR0_1.out a1 p1355 q1355;cases e1355;replace hx1355_0:=(HB.out.cell (World.block_lt_of_cell? w _ hx1355_0)).trans hx1355_0;replace p1355:=eq_true p1355;replace q1355:=eq_true q1355))
     go_meet
     case rel=>exact ⟨_,(decide ((rd l0_1 a1) > 20)),(by first|rfl|(simp;done)|(simp [*];done)),H',⟨by first|omega|exact Nat.le_refl _⟩,⟨by (with_reducible repeat (first|refine blk_drewN ?_ _|refine blk_drew ?_|refine blk_alloc ?_ _));exact BK1353.out⟩,⟨by repeat (first|(with_reducible first|exact HB.out|apply below_alloc|apply pw_below_drewN|apply below_drew1|refine below_set ?_ GE1353.out)|exact HB.out)⟩⟩
    ·rw [if_neg c8] at H
     exact absurd H (by simp)
   ·rw [if_neg c7] at H
    exact absurd H (by simp)
  ·replace c6:=Bool.eq_false_iff.mpr c6
   subst c6
   have H1:(impl_BestSplits.j0 k a1 true a0_0 l0_1) = some (r1,r2):=by rw [if_neg (show ¬ (false = true) by decide)] at H;exact H
   clear H
   have H:=H1
   clear H1
   have H':=Aside0.mk H
   clear H
   have hcz12_0:w4.cell? ⟨gb1353,0,none⟩ = some (.int .i64 a0_0):=(blk_cell BK1353.out 0).trans rfl
   have hcz12_1:w4.cell? ⟨gb1353,1,none⟩ = some (.slice A0_1 l0_1.length c0_1):=(blk_cell BK1353.out 1).trans rfl
   have hfz12_0:=blk_frozen BK1353.out 0
   have hfz12_1:=blk_frozen BK1353.out 1
   go_wp2_with (first|((with_reducible refine gate_callee (f:=68) rfl ?_);refine goesL_ (some 15) rfl rfl Try.func68 (by kernel_rfl) rfl #[.agg #[.int .i64 a0_0,.slice A0_1 l0_1.length c0_1],.int .i64 a1] rfl (by (try simp only [List.map_toArray,List.map_cons,List.map_nil]);first|done|rfl|(simp only [List.length_drop,List.length_take];rfl)) ?_;(with_reducible refine (impl_isMember.calls k a0_0 _ _ l0_1 a1 false _ ?side1 ?side2 A5.out).mono ?_);(case side1=>repeat (first|exact (Kd.C_below HR0_1.out HB.out)|(with_reducible refine Kd.C_alloc ?_ _)|(with_reducible refine Kd.C_drewN ?_ _)|(with_reducible refine Kd.C_drew ?_)));(case side2=>exact HC0_1.out);rintro e w13 ⟨rfl,hb⟩;refine ⟨_,rfl,?_⟩;have n0_:=Aside0.mk (blk_below (g:=gb1353) (o:=.cells #[.int .i64 a0_0,.slice A0_1 l0_1.length c0_1] 26 (0,0)) (by (with_reducible repeat (first|refine blk_drewN ?_ _|refine blk_drew ?_|refine blk_alloc ?_ _));exact BK1353.out) hb);have n1_:=Aside0.mk (below_step (by repeat (first|(with_reducible first|exact HB.out|apply below_alloc|apply pw_below_drewN|apply below_drew1|refine below_set ?_ GE1353.out)|exact HB.out)) hb);clear BK1353;clear HB;have BK1353:=n0_;have HB:=n1_;clear n0_ n1_;(try clear hb);(try clear hb2);(try clear hk);(try clear hi)))
   go_meet
   case rel=>exact ⟨_,(true),(by first|rfl|(simp;done)|(simp [*];done)),H',⟨by first|omega|exact Nat.le_refl _⟩,⟨by (with_reducible repeat (first|refine blk_drewN ?_ _|refine blk_drew ?_|refine blk_alloc ?_ _));exact BK1353.out⟩,⟨by repeat (first|(with_reducible first|exact HB.out|apply below_alloc|apply pw_below_drewN|apply below_drew1|refine below_set ?_ GE1353.out)|exact HB.out)⟩⟩
 case rest =>
  clear HC3
  try clear p1
  try clear q1
  try clear hx1
  try clear p2
  try clear c6
  try clear c7
  try clear c7b0
  try clear c8
  try clear c8b0
  try clear p13
  try clear q13
  try clear hx13
  try clear hcz11_0
  try clear hcz11_1
  try clear hcz12_0
  try clear hcz12_1
  try clear hcz9_0
  try clear hcz9_1
  try clear hfz11_0
  try clear hfz11_1
  try clear hfz12_0
  try clear hfz12_1
  try clear hfz9_0
  try clear hfz9_1
  try clear hx1355_0
  try clear p1355
  try clear q1355
  obtain ⟨kq,x24_2,rfl,HA,HJ2,BK1353,HB⟩:=hcut
  cases kq with
  | zero=>exact absurd HA.out (by simp [impl_BestSplits.j0])
  | succ kj2 =>
   have H:=HA.out
   clear HA
   simp only [impl_BestSplits.j0] at H
   by_cases c14:x24_2 = true
   ·subst c14
    have H1:(some (([]:List Int),false)) = some (r1,r2):=by rw [if_pos rfl] at H;exact H
    clear H
    have H:=H1
    clear H1
    simp only [Option.some.injEq,Prod.mk.injEq] at H
    obtain ⟨rfl,rfl⟩:=H
    go_wp2
    go_ret2
    exact ⟨_,by first|rfl|(simp [errW_none,errW_some] <;> rfl)|(simp [*,errW_none,errW_some] <;> rfl),by first|exact Kd.R_nil _ _ _ _ _|exact Kd.N_nil _ _ _ _ _|exact Kd.V_nil _ _ _ _ _|exact Kd.Q_nil _ _ _ _ _|exact Kd.S_nil _ _ _ _ _,by repeat (first|(with_reducible first|exact HB.out|apply below_alloc|apply pw_below_drewN|apply below_drew1|refine below_set ?_ GE1353.out)|exact HB.out)⟩
   ·replace c14:=Bool.eq_false_iff.mpr c14
    subst c14
    have H1:(if 0 ≤ a1 then (if a1 < (l0_1.length:Int) then (impl_BestSplits.l0 kj2 a1 (([]:List Int)) (wrap64 ((rd l0_1 a1) + 1)) 0 a0_0 l0_1 (-1) 1) else (none)) else (none)) = some (r1,r2):=by rw [if_neg (show ¬ (false = true) by decide)] at H;exact H
    clear H
    have H:=H1
    clear H1
    obtain ⟨y1356,hy1356⟩:∃ y_:List Int,y_ = (([]:List Int)):=⟨_,rfl⟩
    replace H:(if 0 ≤ a1 then (if a1 < (l0_1.length:Int) then (impl_BestSplits.l0 kj2 a1 y1356 (wrap64 ((rd l0_1 a1) + 1)) 0 a0_0 l0_1 (-1) 1) else (none)) else (none)) = some (r1,r2):=by first|(rw [hy1356];with_reducible exact H)|(have H2_:=(Option.bind_some _ _).symm.trans H;rw [hy1356];with_reducible exact H2_)|(have H2_:=(Option.bind_some _ _).symm.trans H;with_reducible exact H2_)|with_reducible exact H|(rw [hy1356];exact H)|exact H
    have Ny1356:=Aside0.mk hy1356
    clear hy1356
    by_cases c15:0 ≤ a1
    ·rw [if_pos c15] at H
     have c15b0:decide (0 ≤ a1) = true:=decide_eq_true c15
     clear c15
     by_cases c16:a1 < (l0_1.length:Int)
     ·rw [if_pos c16] at H
      have c16b0:decide (a1 < (l0_1.length:Int)) = true:=decide_eq_true c16
      clear c16
      have H':=Aside0.mk H
      clear H
      go_wp2_with (first|((with_reducible refine gate_dst (N:=25) rfl ?_);refine Kd.R_lit (Kd.int .i64) _ 3 ?hg (N:=25) ?hd (xs:=([]:List Int)) (inner:=[]) (ok:=fun _=>True) (okp:=fun _=>True) ?hr ?hp (fun _ hk=>hk) trivial (Below.refl _ _) (Nat.le_refl _) (by simp) ?_;(case hd=>rfl);(case hg=>rfl);(case hr=>first|(go_simp;done)|(go_simp;rfl));(case hp=>exact (Reps.none _ _));intro v1357 w17 ho18 hb hg_ hnew_;clear hg_ hnew_;(first|rw [← Ny1356.out] at ho18|(simp only [Int.reduceToNat] at ho18;rw [← Ny1356.out] at ho18));have n0_:=Aside0.mk (Kd.R_lower ho18 (below_size (by repeat (first|(with_reducible first|exact HB.out|apply below_alloc|apply pw_below_drewN|apply below_drew1|refine below_set ?_ GE1353.out)|exact HB.out))));have n1_:=Aside0.mk (blk_below (g:=gb1353) (o:=.cells #[.int .i64 a0_0,.slice A0_1 l0_1.length c0_1] 26 (0,0)) (by (with_reducible repeat (first|refine blk_drewN ?_ _|refine blk_drew ?_|refine blk_alloc ?_ _));exact BK1353.out) hb);have n2_:=Aside0.mk (below_step (by repeat (first|(with_reducible first|exact HB.out|apply below_alloc|apply pw_below_drewN|apply below_drew1|refine below_set ?_ GE1353.out)|exact HB.out)) hb);clear BK1353;clear HB;have HO1358:=n0_;have BK1353:=n1_;have HB:=n2_;clear n0_ n1_ n2_;clear hb ho18)|((with_reducible refine gate_dst (N:=7) rfl ?_);refine box_event ?hg (N:=7) ?hd (cs:=#[.int .i64 0,.int .i64 0]) (t:=91) ?hr ?_;(case hd=>rfl);(case hg=>rfl);(case hr=>first|(go_simp;done)|(go_simp;rfl));intro gb1359 hg w19 hbox hb;have n0_:=Aside0.mk (Kd.R_below (by (with_reducible repeat (first|apply Kd.R_alloc|apply Kd.R_drewN|apply Kd.R_drew));exact HO1358.out) hb);have n1_:=Aside0.mk (blk_below (g:=gb1353) (o:=.cells #[.int .i64 a0_0,.slice A0_1 l0_1.length c0_1] 26 (0,0)) (by (with_reducible repeat (first|refine blk_drewN ?_ _|refine blk_drew ?_|refine blk_alloc ?_ _));exact BK1353.out) hb);have n2_:=Aside0.mk (below_step (by repeat (first|(with_reducible first|exact HB.out|apply below_alloc|apply pw_below_drewN|apply below_drew1|refine below_set ?_ GE1353.out)|exact HB.out)) hb);have n3_:=Aside0.mk (hbox);have n4_:=Aside0.mk ((by rw [hg];exact (below_size (by repeat (first|(with_reducible first|exact HB.out|apply below_alloc|apply pw_below_drewN|apply below_drew1|refine below_set ?_ GE1353.out)|exact HB.out))):w.heap.size ≤ gb1359));have n5_:=Aside0.mk ((by rw [hg];exact (below_size (by repeat (first|(with_reducible first|exact HB.out|apply below_alloc|apply pw_below_drewN|apply below_drew1|refine below_set ?_ GE1353.out)|exact HB.out))):w.heap.size ≤ gb1359));have n6_:=Aside0.mk ((by rw [hg];exact Nat.ne_of_lt (blk_lt (g:=gb1353) (o:=.cells #[.int .i64 a0_0,.slice A0_1 l0_1.length c0_1] 26 (0,0)) (by (with_reducible repeat (first|refine blk_drewN ?_ _|refine blk_drew ?_|refine blk_alloc ?_ _));exact BK1353.out)):gb1353 ≠ gb1359));have n7_:=Aside0.mk ((by rw [hg];exact Nat.ne_of_gt (blk_lt (g:=gb1353) (o:=.cells #[.int .i64 a0_0,.slice A0_1 l0_1.length c0_1] 26 (0,0)) (by (with_reducible repeat (first|refine blk_drewN ?_ _|refine blk_drew ?_|refine blk_alloc ?_ _));exact BK1353.out)):gb1359 ≠ gb1353));clear HO1358;clear BK1353;clear HB;have HO1358:=n0_;have BK1353:=n1_;have HB:=n2_;have BK1359:=n3_;have GW1359:=n4_;have GE1359:=n5_;have NB1353_1359:=n6_;have NB1359_1353:=n7_;clear n0_ n1_ n2_ n3_ n4_ n5_ n6_ n7_;clear hb hbox hg;have hnb20:=NB1359_1353.out;have hnc20:=NB1353_1359.out;have hcz21_0:w19.cell? ⟨gb1359,0,none⟩ = some (.int .i64 0):=(blk_cell BK1359.out 0).trans rfl;have hcz21_1:w19.cell? ⟨gb1359,1,none⟩ = some (.int .i64 0):=(blk_cell BK1359.out 1).trans rfl;have hfz21_0:=blk_frozen BK1359.out 0;have hfz21_1:=blk_frozen BK1359.out 1;have hcz22_0:w19.cell? ⟨gb1353,0,none⟩ = some (.int .i64 a0_0):=(blk_cell BK1353.out 0).trans rfl;have hcz22_1:w19.cell? ⟨gb1353,1,none⟩ = some (.slice A0_1 l0_1.length c0_1):=(blk_cell BK1353.out 1).trans rfl;have hfz22_0:=blk_frozen BK1353.out 0;have hfz22_1:=blk_frozen BK1353.out 1;have p1360:0 ≤ (a1:Int):=of_decide_eq_true (by first|(with_reducible assumption)|assumption);have q1360:a1 < (l0_1.length:Int):=of_decide_eq_true (by first|(with_reducible assumption)|assumption);obtain ⟨ad1360,e1360,hx1360_0⟩:=Kd.at_int HR0_1.out a1 p1360 q1360;cases e1360;have hn1360_0:ad1360.block ≠ gb1359:=Nat.ne_of_lt (Nat.lt_of_lt_of_le (by have:=World.block_lt_of_cell? _ _ hx1360_0;first|rwa [add_block] at this|exact this) GW1359.out);have hn1360_1:ad1360.block ≠ gb1359:=Nat.ne_of_lt (Nat.lt_of_lt_of_le (by have:=World.block_lt_of_cell? _ _ hx1360_0;first|rwa [add_block] at this|exact this) GW1359.out);replace hx1360_0:=(HB.out.cell (World.block_lt_of_cell? w _ hx1360_0)).trans hx1360_0;replace hx1360_0:=(cell_far (p:=⟨gb1359,0,none⟩) (by first|(rw [add_block];exact hn1360_0)|(show (Addr.add _ _).block ≠ _;rw [add_block];exact hn1360_0)|exact hn1360_0) (.int .i64 (-1))).trans hx1360_0;replace hx1360_0:=(cell_far (p:=⟨gb1359,1,none⟩) (by first|(rw [add_block];exact hn1360_1)|(show (Addr.add _ _).block ≠ _;rw [add_block];exact hn1360_1)|exact hn1360_1) (.int .i64 1)).trans hx1360_0;clear hn1360_0;clear hn1360_1;replace p1360:=eq_true p1360;replace q1360:=eq_true q1360))
      go_loopg [6,33] kj2 (fun kq v6 v33 w'=>∃ (x6_2:List Int) (x33_2:Int) (x1360000_2:Int) (x1360001_2:Int),v33 = .int .i64 x33_2 ∧ Aside0 (impl_BestSplits.l0 kq a1 x6_2 (wrap64 ((rd l0_1 a1) + 1)) x33_2 a0_0 l0_1 x1360000_2 x1360001_2 = some (r1,r2)) ∧ Aside0 (kq ≤ kj2) ∧ Aside0 (Kd.R (Kd.int .i64) 3 w' w.heap.size (fun _=>True) v6 x6_2) ∧ Aside0 (w'.heap[gb1353]? = some (.cells #[.int .i64 a0_0,(.slice (some ad1360) l0_1.length c0_1)] 26 (0,0))) ∧ Aside0 (w'.heap[gb1359]? = some (.cells #[.int .i64 x1360000_2,.int .i64 x1360001_2] 91 (0,0))) ∧ Aside0 (Below w.heap.size w w'))
      case atStart=>exact ⟨(y1356),(0),((-1)),(1),(by first|rfl|(simp;done)|(simp [*];done)),H',⟨Nat.le_refl _⟩,⟨by (with_reducible repeat (first|apply Kd.R_alloc|apply Kd.R_drewN|apply Kd.R_drew));exact Kd.R_mono (Kd.R_far (p:=⟨gb1359,1,none⟩) (Kd.R_far (p:=⟨gb1359,0,none⟩) (Kd.R_types HO1358.out BK1359.out (by decide)) (fun _ hk=>hk.2) (.int .i64 (-1))) (fun _ hk=>hk.2) (.int .i64 1)) (fun _ hk=>trivial)⟩,⟨by (with_reducible repeat (first|refine blk_drewN ?_ _|refine blk_drew ?_|refine blk_alloc ?_ _));refine blk_far ?_ NB1353_1359.out _;(with_reducible repeat (first|refine blk_drewN ?_ _|refine blk_drew ?_|refine blk_alloc ?_ _));refine blk_far ?_ NB1353_1359.out _;(with_reducible repeat (first|refine blk_drewN ?_ _|refine blk_drew ?_|refine blk_alloc ?_ _));exact BK1353.out⟩,⟨by (with_reducible repeat (first|refine blk_drewN ?_ _|refine blk_drew ?_|refine blk_alloc ?_ _));refine blk_put (cs:=#[.int .i64 (-1),.int .i64 0]) ?_ 1 _ rfl;(with_reducible repeat (first|refine blk_drewN ?_ _|refine blk_drew ?_|refine blk_alloc ?_ _));refine blk_put (cs:=#[.int .i64 0,.int .i64 0]) ?_ 0 _ rfl;(with_reducible repeat (first|refine blk_drewN ?_ _|refine blk_drew ?_|refine blk_alloc ?_ _));exact BK1359.out⟩,⟨by repeat (first|(with_reducible first|exact HB.out|apply below_alloc|apply pw_below_drewN|apply below_drew1|refine below_set ?_ GE1353.out|refine below_set ?_ GE1359.out)|exact HB.out)⟩⟩
      case round =>
       clear H'
       try clear c1
       try clear p1
       try clear q1
       try clear hx1
       try clear c2
       try clear p2
       try clear c6
       try clear p6
       try clear c7
       try clear c7b0
       try clear c8
       try clear c8b0
       try clear p13
       try clear q13
       try clear hx13
       try clear c14
       try clear c15
       try clear c15b0
       try clear c16
       try clear c16b0
       try clear c20
       try clear hcz11_0
       try clear hcz11_1
       try clear hcz12_0
       try clear hcz12_1
       try clear hcz21_0
       try clear hcz21_1
       try clear hcz22_0
       try clear hcz22_1
       try clear hcz9_0
       try clear hcz9_1
       try clear hfz11_0
       try clear hfz11_1
       try clear hfz12_0
       try clear hfz12_1
       try clear hfz21_0
       try clear hfz21_1
       try clear hfz22_0
       try clear hfz22_1
       try clear hfz9_0
       try clear hfz9_1
       try clear hx1355_0
       try clear hx1360_0
       try clear p1
       try clear p13
       try clear p1355
       try clear p1360
       try clear p2
       try clear q1
       try clear q13
       try clear q1355
       try clear q1360
       obtain ⟨x6_2,x33_2,x1360000_2,x1360001_2,rfl,HA,HK2,HO_6,BK1353,BK1359,HB⟩:=hrel
       cases gk with
       | zero=>exact absurd HA.out (by simp [impl_BestSplits.l0])
       | succ k2 =>
        have H:=HA.out
        clear HA
        simp only [impl_BestSplits.l0] at H
        by_cases c23:x33_2 < (wrap64 ((rd l0_1 a1) + 1))
        ·rw [if_pos c23] at H
         have c23b0:decide (x33_2 < (wrap64 ((rd l0_1 a1) + 1))) = true:=decide_eq_true c23
         clear c23
         replace H:=Option.bind_eq_some_iff.mp H
         obtain ⟨⟨t1361,t1362,t1365⟩,A240,H⟩:=H
         replace H:(if t1365 = true then ((impl_bySwings.f k2 t1361 t1362).bind fun bt1367=>((impl_powers_of.f k2 bt1367.1 bt1367.2 (([a1,wrap64 (a1 + 1)]:List Int))).bind fun t1375=>((impl_shareOf.f k2 t1375 bt1367.2).bind fun bt1376=>((impl_compare.f bt1376.1 bt1376.2 x1360000_2 x1360001_2).bind fun t1379=>(if t1379 > 0 then (impl_BestSplits.j2 k2 a1 (([]:List Int)) x33_2 (wrap64 ((rd l0_1 a1) + 1)) x33_2 a0_0 l0_1 bt1376.1 bt1376.2 bt1376.1 bt1376.2) else (impl_BestSplits.j2 k2 a1 x6_2 x33_2 (wrap64 ((rd l0_1 a1) + 1)) x33_2 a0_0 l0_1 x1360000_2 x1360001_2 bt1376.1 bt1376.2)))))) else (some (([]:List Int),false))) = some (r1,r2):=H
         have A24:=Aside0.mk A240
         clear A240
         by_cases c25:t1365 = true
         ·subst c25
          have H1:((impl_bySwings.f k2 t1361 t1362).bind fun bt1367=>((impl_powers_of.f k2 bt1367.1 bt1367.2 (([a1,wrap64 (a1 + 1)]:List Int))).bind fun t1375=>((impl_shareOf.f k2 t1375 bt1367.2).bind fun bt1376=>((impl_compare.f bt1376.1 bt1376.2 x1360000_2 x1360001_2).bind fun t1379=>(if t1379 > 0 then (impl_BestSplits.j2 k2 a1 (([]:List Int)) x33_2 (wrap64 ((rd l0_1 a1) + 1)) x33_2 a0_0 l0_1 bt1376.1 bt1376.2 bt1376.1 bt1376.2) else (impl_BestSplits.j2 k2 a1 x6_2 x33_2 (wrap64 ((rd l0_1 a1) + 1)) x33_2 a0_0 l0_1 x1360000_2 x1360001_2 bt1376.1 bt1376.2)))))) = some (r1,r2):=by rw [if_pos rfl] at H;exact H
          clear H
          have H:=H1
          clear H1
          replace H:=Option.bind_eq_some_iff.mp H
          obtain ⟨⟨t1367,t1370⟩,A260,H⟩:=H
          replace H:((impl_powers_of.f k2 t1367 t1370 (([a1,wrap64 (a1 + 1)]:List Int))).bind fun t1375=>((impl_shareOf.f k2 t1375 t1370).bind fun bt1376=>((impl_compare.f bt1376.1 bt1376.2 x1360000_2 x1360001_2).bind fun t1379=>(if t1379 > 0 then (impl_BestSplits.j2 k2 a1 (([]:List Int)) x33_2 (wrap64 ((rd l0_1 a1) + 1)) x33_2 a0_0 l0_1 bt1376.1 bt1376.2 bt1376.1 bt1376.2) else (impl_BestSplits.j2 k2 a1 x6_2 x33_2 (wrap64 ((rd l0_1 a1) + 1)) x33_2 a0_0 l0_1 x1360000_2 x1360001_2 bt1376.1 bt1376.2))))) = some (r1,r2):=H
          have A26:=Aside0.mk A260
          clear A260
          obtain ⟨y1372,hy1372⟩:∃ y_:List Int,y_ = (([a1,wrap64 (a1 + 1)]:List Int)):=⟨_,rfl⟩
          replace H:((impl_powers_of.f k2 t1367 t1370 y1372).bind fun t1375=>((impl_shareOf.f k2 t1375 t1370).bind fun bt1376=>((impl_compare.f bt1376.1 bt1376.2 x1360000_2 x1360001_2).bind fun t1379=>(if t1379 > 0 then (impl_BestSplits.j2 k2 a1 (([]:List Int)) x33_2 (wrap64 ((rd l0_1 a1) + 1)) x33_2 a0_0 l0_1 bt1376.1 bt1376.2 bt1376.1 bt1376.2) else (impl_BestSplits.j2 k2 a1 x6_2 x33_2 (wrap64 ((rd l0_1 a1) + 1)) x33_2 a0_0 l0_1 x1360000_2 x1360001_2 bt1376.1 bt1376.2))))) = some (r1,r2):=by first|(rw [hy1372];with_reducible exact H)|(have H2_:=(Option.bind_some _ _).symm.trans H;rw [hy1372];with_reducible exact H2_)|(have H2_:=(Option.bind_some _ _).symm.trans H;with_reducible exact H2_)|with_reducible exact H|(rw [hy1372];exact H)|exact H
          have Ny1372:=Aside0.mk hy1372
          clear hy1372
          replace H:=Option.bind_eq_some_iff.mp H
          obtain ⟨t1375,A270,H⟩:=H
          replace H:((impl_shareOf.f k2 t1375 t1370).bind fun bt1376=>((impl_compare.f bt1376.1 bt1376.2 x1360000_2 x1360001_2).bind fun t1379=>(if t1379 > 0 then (impl_BestSplits.j2 k2 a1 (([]:List Int)) x33_2 (wrap64 ((rd l0_1 a1) + 1)) x33_2 a0_0 l0_1 bt1376.1 bt1376.2 bt1376.1 bt1376.2) else (impl_BestSplits.j2 k2 a1 x6_2 x33_2 (wrap64 ((rd l0_1 a1) + 1)) x33_2 a0_0 l0_1 x1360000_2 x1360001_2 bt1376.1 bt1376.2)))) = some (r1,r2):=H
          have A27:=Aside0.mk A270
          clear A270
          replace H:=Option.bind_eq_some_iff.mp H
          obtain ⟨⟨t1376,t1377⟩,A280,H⟩:=H
          replace H:((impl_compare.f t1376 t1377 x1360000_2 x1360001_2).bind fun t1379=>(if t1379 > 0 then (impl_BestSplits.j2 k2 a1 (([]:List Int)) x33_2 (wrap64 ((rd l0_1 a1) + 1)) x33_2 a0_0 l0_1 t1376 t1377 t1376 t1377) else (impl_BestSplits.j2 k2 a1 x6_2 x33_2 (wrap64 ((rd l0_1 a1) + 1)) x33_2 a0_0 l0_1 x1360000_2 x1360001_2 t1376 t1377))) = some (r1,r2):=H
          have A28:=Aside0.mk A280
          clear A280
          replace H:=Option.bind_eq_some_iff.mp H
          obtain ⟨t1379,A290,H⟩:=H
          replace H:(if t1379 > 0 then (impl_BestSplits.j2 k2 a1 (([]:List Int)) x33_2 (wrap64 ((rd l0_1 a1) + 1)) x33_2 a0_0 l0_1 t1376 t1377 t1376 t1377) else (impl_BestSplits.j2 k2 a1 x6_2 x33_2 (wrap64 ((rd l0_1 a1) + 1)) x33_2 a0_0 l0_1 x1360000_2 x1360001_2 t1376 t1377)) = some (r1,r2):=H
          have A29:=Aside0.mk A290
          clear A290
          have HC30:=Aside0.mk H
          clear H
          have hnb31:=NB1353_1359.out
          have hnc31:=NB1359_1353.out
          have hcz32_0:wr.cell? ⟨gb1353,0,none⟩ = some (.int .i64 a0_0):=(blk_cell BK1353.out 0).trans rfl
          have hcz32_1:wr.cell? ⟨gb1353,1,none⟩ = some (.slice (some ad1360) l0_1.length c0_1):=(blk_cell BK1353.out 1).trans rfl
          have hfz32_0:=blk_frozen BK1353.out 0
          have hfz32_1:=blk_frozen BK1353.out 1
          try go_wp2_with (first|((with_reducible refine gate_callee (f:=18) rfl ?_);refine goesL_ (some 40) rfl rfl Try.func18 (by kernel_rfl) rfl #[.agg #[.int .i64 a0_0,.slice (some ad1360) l0_1.length c0_1],.int .i64 a1,.int .i64 x33_2] rfl (by (try simp only [List.map_toArray,List.map_cons,List.map_nil]);first|done|rfl|(simp only [List.length_drop,List.length_take];rfl)) ?_;(with_reducible refine (impl_SplitMember.calls k2 a0_0 _ _ l0_1 a1 x33_2 t1361 t1362 true _ ?side1 ?side2 A24.out).mono ?_);(case side1=>repeat (first|exact (Kd.C_below HR0_1.out HB.out)|(with_reducible refine Kd.C_alloc ?_ _)|(with_reducible refine Kd.C_drewN ?_ _)|(with_reducible refine Kd.C_drew ?_)));(case side2=>exact HC0_1.out);rintro e w33 ⟨v1363,rfl,ho0,hb⟩;refine ⟨_,rfl,?_⟩;have n0_:=Aside0.mk (Kd.R_elder' (by (with_reducible repeat (first|apply Kd.R_alloc|apply Kd.R_drewN|apply Kd.R_drew));exact HO_6.out) (Kd.R_base ho0) hb);have n1_:=Aside0.mk (Kd.R_lower (Kd.R_new' ho0 (Kd.R_lt (by (with_reducible repeat (first|apply Kd.R_alloc|apply Kd.R_drewN|apply Kd.R_drew));exact HO_6.out))) (below_size (by repeat (first|(with_reducible first|exact HB.out|apply below_alloc|apply pw_below_drewN|apply below_drew1|refine below_set ?_ GE1353.out|refine below_set ?_ GE1359.out)|exact HB.out))));have n2_:=Aside0.mk (blk_below (g:=gb1353) (o:=.cells #[.int .i64 a0_0,.slice (some ad1360) l0_1.length c0_1] 26 (0,0)) (by (with_reducible repeat (first|refine blk_drewN ?_ _|refine blk_drew ?_|refine blk_alloc ?_ _));exact BK1353.out) hb);have n3_:=Aside0.mk (blk_below (g:=gb1359) (o:=.cells #[.int .i64 x1360000_2,.int .i64 x1360001_2] 91 (0,0)) (by (with_reducible repeat (first|refine blk_drewN ?_ _|refine blk_drew ?_|refine blk_alloc ?_ _));exact BK1359.out) hb);have n4_:=Aside0.mk (below_step (by repeat (first|(with_reducible first|exact HB.out|apply below_alloc|apply pw_below_drewN|apply below_drew1|refine below_set ?_ GE1353.out|refine below_set ?_ GE1359.out)|exact HB.out)) hb);clear HO_6;clear BK1353;clear BK1359;clear HB;have HO_6:=n0_;have HO1364:=n1_;have BK1353:=n2_;have BK1359:=n3_;have HB:=n4_;clear n0_ n1_ n2_ n3_ n4_;(try clear hb);(try clear hb2);(try clear hk);(try clear hi);(try clear ho0))|((with_reducible refine gate_dst (N:=9) rfl ?_);refine box_event ?hg (N:=9) ?hd (cs:=#[.int .i64 0,.slice none 0 0]) (t:=26) ?hr ?_;(case hd=>rfl);(case hg=>rfl);(case hr=>first|(go_simp;done)|(go_simp;rfl));intro gb1366 hg w34 hbox hb;have n0_:=Aside0.mk (Kd.R_below (by (with_reducible repeat (first|apply Kd.R_alloc|apply Kd.R_drewN|apply Kd.R_drew));exact HO_6.out) hb);have n1_:=Aside0.mk (Kd.R_below (by (with_reducible repeat (first|apply Kd.R_alloc|apply Kd.R_drewN|apply Kd.R_drew));exact HO1364.out) hb);have n2_:=Aside0.mk (blk_below (g:=gb1353) (o:=.cells #[.int .i64 a0_0,.slice (some ad1360) l0_1.length c0_1] 26 (0,0)) (by (with_reducible repeat (first|refine blk_drewN ?_ _|refine blk_drew ?_|refine blk_alloc ?_ _));exact BK1353.out) hb);have n3_:=Aside0.mk (blk_below (g:=gb1359) (o:=.cells #[.int .i64 x1360000_2,.int .i64 x1360001_2] 91 (0,0)) (by (with_reducible repeat (first|refine blk_drewN ?_ _|refine blk_drew ?_|refine blk_alloc ?_ _));exact BK1359.out) hb);have n4_:=Aside0.mk (below_step (by repeat (first|(with_reducible first|exact HB.out|apply below_alloc|apply pw_below_drewN|apply below_drew1|refine below_set ?_ GE1353.out|refine below_set ?_ GE1359.out)|exact HB.out)) hb);have n5_:=Aside0.mk (hbox);have n6_:=Aside0.mk ((by rw [hg];exact (below_size (by repeat (first|(with_reducible first|exact HB.out|apply below_alloc|apply pw_below_drewN|apply below_drew1|refine below_set ?_ GE1353.out|refine below_set ?_ GE1359.out)|exact HB.out))):w.heap.size ≤ gb1366));have n7_:=Aside0.mk ((by rw [hg];exact (below_size (by repeat (first|(with_reducible first|exact HB.out|apply below_alloc|apply pw_below_drewN|apply below_drew1|refine below_set ?_ GE1353.out|refine below_set ?_ GE1359.out)|exact HB.out))):w.heap.size ≤ gb1366));have n8_:=Aside0.mk ((by rw [hg];exact Nat.ne_of_lt (blk_lt (g:=gb1353) (o:=.cells #[.int .i64 a0_0,.slice (some ad1360) l0_1.length c0_1] 26 (0,0)) (by (with_reducible repeat (first|refine blk_drewN ?_ _|refine blk_drew ?_|refine blk_alloc ?_ _));exact BK1353.out)):gb1353 ≠ gb1366));have n9_:=Aside0.mk ((by rw [hg];exact Nat.ne_of_gt (blk_lt (g:=gb1353) (o:=.cells #[.int .i64 a0_0,.slice (some ad1360) l0_1.length c0_1] 26 (0,0)) (by (with_reducible repeat (first|refine blk_drewN ?_ _|refine blk_drew ?_|refine blk_alloc ?_ _));exact BK1353.out)):gb1366 ≠ gb1353));have n10_:=Aside0.mk ((by rw [hg];exact Nat.ne_of_lt (blk_lt (g:=gb1359) (o:=.cells #[.int .i64 x1360000_2,.int .i64 x1360001_2] 91 (0,0)) (by (with_reducible repeat (first|refine blk_drewN ?_ _|refine blk_drew ?_|refine blk_alloc ?_ _));exact BK1359.out)):gb1359 ≠ gb1366));have n11_:=Aside0.mk ((by rw [hg];exact Nat.ne_of_gt (blk_lt (g:=gb1359) (o:=.cells #[.int .i64 x1360000_2,.int .i64 x1360001_2] 91 (0,0)) (by (with_reducible repeat (first|refine blk_drewN ?_ _|refine blk_drew ?_|refine blk_alloc ?_ _));exact BK1359.out)):gb1366 ≠ gb1359));clear HO_6;clear HO1364;clear BK1353;clear BK1359;clear HB;have HO_6:=n0_;have HO1364:=n1_;have BK1353:=n2_;have BK1359:=n3_;have HB:=n4_;have BK1366:=n5_;have GW1366:=n6_;have GE1366:=n7_;have NB1353_1366:=n8_;have NB1366_1353:=n9_;have NB1359_1366:=n10_;have NB1366_1359:=n11_;clear n0_ n1_ n2_ n3_ n4_ n5_ n6_ n7_ n8_ n9_ n10_ n11_;clear hb hbox hg;have hnb35:=NB1366_1353.out;have hnc35:=NB1353_1366.out;have hnb36:=NB1366_1359.out;have hnc36:=NB1359_1366.out;have hcz37_0:w34.cell? ⟨gb1366,0,none⟩ = some (.int .i64 0):=(blk_cell BK1366.out 0).trans rfl;have hcz37_1:w34.cell? ⟨gb1366,1,none⟩ = some (.slice none 0 0):=(blk_cell BK1366.out 1).trans rfl;have hfz37_0:=blk_frozen BK1366.out 0;have hfz37_1:=blk_frozen BK1366.out 1;obtain ⟨Ao38,co38,eo38⟩:=Kd.R_slice HO1364.out;subst eo38)|((with_reducible refine gate_callee (f:=123) rfl ?_);refine goesL_ (some 46) rfl rfl Try.func123 (by kernel_rfl) rfl #[.agg #[.int .i64 t1361,.slice Ao38 t1362.length co38]] rfl (by (try simp only [List.map_toArray,List.map_cons,List.map_nil]);first|done|rfl|(simp only [List.length_drop,List.length_take];rfl)) ?_;(with_reducible refine (impl_bySwings.calls k2 t1361 _ _ t1362 t1367 t1370 _ ?side1 ?side2 A26.out).mono ?_);(case side1=>refine (Kd.R_reads' (e:=3) (base:=w.heap.size) (ok:=fun k_=>(True ∧ some k_ ≠ (u6:Value).ownBlock)) (n:=t1362.length) (c:=co38) ?_).2.2;exact (by (with_reducible repeat (first|apply Kd.R_alloc|apply Kd.R_drewN|apply Kd.R_drew));exact (Kd.R_mono (Kd.R_far (p:=⟨gb1366,1,none⟩) (Kd.R_far (p:=⟨gb1366,0,none⟩) (Kd.R_types HO1364.out BK1366.out (by decide)) (fun _ hk=>hk.2) (.int .i64 t1361)) (fun _ hk=>hk.2) (.slice Ao38 t1362.length co38)) (fun _ h_=>h_.1))));(case side2=>exact (Kd.R_reads' HO1364.out).2.1);rintro e w39 ⟨v1368,rfl,ho0,hb⟩;refine ⟨_,rfl,?_⟩;have n0_:=Aside0.mk (Kd.R_elder' (by (with_reducible repeat (first|apply Kd.R_alloc|apply Kd.R_drewN|apply Kd.R_drew));exact (Kd.R_mono (Kd.R_far (p:=⟨gb1366,1,none⟩) (Kd.R_far (p:=⟨gb1366,0,none⟩) (Kd.R_types HO_6.out BK1366.out (by decide)) (fun _ hk=>hk.2) (.int .i64 t1361)) (fun _ hk=>hk.2) (.slice Ao38 t1362.length co38)) (fun _ h_=>h_.1))) (Kd.R_base ho0) hb);have n1_:=Aside0.mk (Kd.R_elder' (by (with_reducible repeat (first|apply Kd.R_alloc|apply Kd.R_drewN|apply Kd.R_drew));exact (Kd.R_mono (Kd.R_far (p:=⟨gb1366,1,none⟩) (Kd.R_far (p:=⟨gb1366,0,none⟩) (Kd.R_types HO1364.out BK1366.out (by decide)) (fun _ hk=>hk.2) (.int .i64 t1361)) (fun _ hk=>hk.2) (.slice Ao38 t1362.length co38)) (fun _ h_=>h_.1))) (Kd.R_base ho0) hb);have n2_:=Aside0.mk (Kd.R_lower (Kd.R_new' (Kd.R_new' ho0 (Kd.R_lt (by (with_reducible repeat (first|apply Kd.R_alloc|apply Kd.R_drewN|apply Kd.R_drew));exact (Kd.R_mono (Kd.R_far (p:=⟨gb1366,1,none⟩) (Kd.R_far (p:=⟨gb1366,0,none⟩) (Kd.R_types HO_6.out BK1366.out (by decide)) (fun _ hk=>hk.2) (.int .i64 t1361)) (fun _ hk=>hk.2) (.slice Ao38 t1362.length co38)) (fun _ h_=>h_.1))))) (Kd.R_lt (by (with_reducible repeat (first|apply Kd.R_alloc|apply Kd.R_drewN|apply Kd.R_drew));exact (Kd.R_mono (Kd.R_far (p:=⟨gb1366,1,none⟩) (Kd.R_far (p:=⟨gb1366,0,none⟩) (Kd.R_types HO1364.out BK1366.out (by decide)) (fun _ hk=>hk.2) (.int .i64 t1361)) (fun _ hk=>hk.2) (.slice Ao38 t1362.length co38)) (fun _ h_=>h_.1))))) (below_size (by repeat (first|(with_reducible first|exact HB.out|apply below_alloc|apply pw_below_drewN|apply below_drew1|refine below_set ?_ GE1353.out|refine below_set ?_ GE1359.out|refine below_set ?_ GE1366.out)|exact HB.out))));have n3_:=Aside0.mk (blk_below (g:=gb1353) (o:=.cells #[.int .i64 a0_0,.slice (some ad1360) l0_1.length c0_1] 26 (0,0)) (by (with_reducible repeat (first|refine blk_drewN ?_ _|refine blk_drew ?_|refine blk_alloc ?_ _));refine blk_far ?_ NB1353_1366.out _;(with_reducible repeat (first|refine blk_drewN ?_ _|refine blk_drew ?_|refine blk_alloc ?_ _));refine blk_far ?_ NB1353_1366.out _;(with_reducible repeat (first|refine blk_drewN ?_ _|refine blk_drew ?_|refine blk_alloc ?_ _));exact BK1353.out) hb);have n4_:=Aside0.mk (blk_below (g:=gb1359) (o:=.cells #[.int .i64 x1360000_2,.int .i64 x1360001_2] 91 (0,0)) (by (with_reducible repeat (first|refine blk_drewN ?_ _|refine blk_drew ?_|refine blk_alloc ?_ _));refine blk_far ?_ NB1359_1366.out _;(with_reducible repeat (first|refine blk_drewN ?_ _|refine blk_drew ?_|refine blk_alloc ?_ _));refine blk_far ?_ NB1359_1366.out _;(with_reducible repeat (first|refine blk_drewN ?_ _|refine blk_drew ?_|refine blk_alloc ?_ _));exact BK1359.out) hb);have n5_:=Aside0.mk (blk_below (g:=gb1366) (o:=.cells #[.int .i64 t1361,.slice Ao38 t1362.length co38] 26 (0,0)) (by (with_reducible repeat (first|refine blk_drewN ?_ _|refine blk_drew ?_|refine blk_alloc ?_ _));refine blk_put (cs:=#[.int .i64 t1361,.slice none 0 0]) ?_ 1 _ rfl;(with_reducible repeat (first|refine blk_drewN ?_ _|refine blk_drew ?_|refine blk_alloc ?_ _));refine blk_put (cs:=#[.int .i64 0,.slice none 0 0]) ?_ 0 _ rfl;(with_reducible repeat (first|refine blk_drewN ?_ _|refine blk_drew ?_|refine blk_alloc ?_ _));exact BK1366.out) hb);have n6_:=Aside0.mk (below_step (by repeat (first|(with_reducible first|exact HB.out|apply below_alloc|apply pw_below_drewN|apply below_drew1|refine below_set ?_ GE1353.out|refine below_set ?_ GE1359.out|refine below_set ?_ GE1366.out)|exact HB.out)) hb);clear HO_6;clear HO1364;clear BK1353;clear BK1359;clear BK1366;clear HB;have HO_6:=n0_;have HO1364:=n1_;have HO1369:=n2_;have BK1353:=n3_;have BK1359:=n4_;have BK1366:=n5_;have HB:=n6_;clear n0_ n1_ n2_ n3_ n4_ n5_ n6_;(try clear hb);(try clear hb2);(try clear hk);(try clear hi);(try clear ho0))|((with_reducible refine gate_dst (N:=11) rfl ?_);refine box_event ?hg (N:=11) ?hd (cs:=#[.slice none 0 0,.int .i64 0]) (t:=130) ?hr ?_;(case hd=>rfl);(case hg=>rfl);(case hr=>first|(go_simp;done)|(go_simp;rfl));intro gb1371 hg w40 hbox hb;have n0_:=Aside0.mk (Kd.R_below (by (with_reducible repeat (first|apply Kd.R_alloc|apply Kd.R_drewN|apply Kd.R_drew));exact HO_6.out) hb);have n1_:=Aside0.mk (Kd.R_below (by (with_reducible repeat (first|apply Kd.R_alloc|apply Kd.R_drewN|apply Kd.R_drew));exact HO1364.out) hb);have n2_:=Aside0.mk (Kd.R_below (by (with_reducible repeat (first|apply Kd.R_alloc|apply Kd.R_drewN|apply Kd.R_drew));exact HO1369.out) hb);have n3_:=Aside0.mk (blk_below (g:=gb1353) (o:=.cells #[.int .i64 a0_0,.slice (some ad1360) l0_1.length c0_1] 26 (0,0)) (by (with_reducible repeat (first|refine blk_drewN ?_ _|refine blk_drew ?_|refine blk_alloc ?_ _));exact BK1353.out) hb);have n4_:=Aside0.mk (blk_below (g:=gb1359) (o:=.cells #[.int .i64 x1360000_2,.int .i64 x1360001_2] 91 (0,0)) (by (with_reducible repeat (first|refine blk_drewN ?_ _|refine blk_drew ?_|refine blk_alloc ?_ _));exact BK1359.out) hb);have n5_:=Aside0.mk (blk_below (g:=gb1366) (o:=.cells #[.int .i64 t1361,.slice Ao38 t1362.length co38] 26 (0,0)) (by (with_reducible repeat (first|refine blk_drewN ?_ _|refine blk_drew ?_|refine blk_alloc ?_ _));exact BK1366.out) hb);have n6_:=Aside0.mk (below_step (by repeat (first|(with_reducible first|exact HB.out|apply below_alloc|apply pw_below_drewN|apply below_drew1|refine below_set ?_ GE1353.out|refine below_set ?_ GE1359.out|refine below_set ?_ GE1366.out)|exact HB.out)) hb);have n7_:=Aside0.mk (hbox);have n8_:=Aside0.mk ((by rw [hg];exact (below_size (by repeat (first|(with_reducible first|exact HB.out|apply below_alloc|apply pw_below_drewN|apply below_drew1|refine below_set ?_ GE1353.out|refine below_set ?_ GE1359.out|refine below_set ?_ GE1366.out)|exact HB.out))):w.heap.size ≤ gb1371));have n9_:=Aside0.mk ((by rw [hg];exact (below_size (by repeat (first|(with_reducible first|exact HB.out|apply below_alloc|apply pw_below_drewN|apply below_drew1|refine below_set ?_ GE1353.out|refine below_set ?_ GE1359.out|refine below_set ?_ GE1366.out)|exact HB.out))):w.heap.size ≤ gb1371));have n10_:=Aside0.mk ((by rw [hg];exact Nat.ne_of_lt (blk_lt (g:=gb1353) (o:=.cells #[.int .i64 a0_0,.slice (some ad1360) l0_1.length c0_1] 26 (0,0)) (by (with_reducible repeat (first|refine blk_drewN ?_ _|refine blk_drew ?_|refine blk_alloc ?_ _));exact BK1353.out)):gb1353 ≠ gb1371));have n11_:=Aside0.mk ((by rw [hg];exact Nat.ne_of_gt (blk_lt (g:=gb1353) (o:=.cells #[.int .i64 a0_0,.slice (some ad1360) l0_1.length c0_1] 26 (0,0)) (by (with_reducible repeat (first|refine blk_drewN ?_ _|refine blk_drew ?_|refine blk_alloc ?_ _));exact BK1353.out)):gb1371 ≠ gb1353));have n12_:=Aside0.mk ((by rw [hg];exact Nat.ne_of_lt (blk_lt (g:=gb1359) (o:=.cells #[.int .i64 x1360000_2,.int .i64 x1360001_2] 91 (0,0)) (by (with_reducible repeat (first|refine blk_drewN ?_ _|refine blk_drew ?_|refine blk_alloc ?_ _));exact BK1359.out)):gb1359 ≠ gb1371));have n13_:=Aside0.mk ((by rw [hg];exact Nat.ne_of_gt (blk_lt (g:=gb1359) (o:=.cells #[.int .i64 x1360000_2,.int .i64 x1360001_2] 91 (0,0)) (by (with_reducible repeat (first|refine blk_drewN ?_ _|refine blk_drew ?_|refine blk_alloc ?_ _));exact BK1359.out)):gb1371 ≠ gb1359));have n14_:=Aside0.mk ((by rw [hg];exact Nat.ne_of_lt (blk_lt (g:=gb1366) (o:=.cells #[.int .i64 t1361,.slice Ao38 t1362.length co38] 26 (0,0)) (by (with_reducible repeat (first|refine blk_drewN ?_ _|refine blk_drew ?_|refine blk_alloc ?_ _));exact BK1366.out)):gb1366 ≠ gb1371));have n15_:=Aside0.mk ((by rw [hg];exact Nat.ne_of_gt (blk_lt (g:=gb1366) (o:=.cells #[.int .i64 t1361,.slice Ao38 t1362.length co38] 26 (0,0)) (by (with_reducible repeat (first|refine blk_drewN ?_ _|refine blk_drew ?_|refine blk_alloc ?_ _));exact BK1366.out)):gb1371 ≠ gb1366));clear HO_6;clear HO1364;clear HO1369;clear BK1353;clear BK1359;clear BK1366;clear HB;have HO_6:=n0_;have HO1364:=n1_;have HO1369:=n2_;have BK1353:=n3_;have BK1359:=n4_;have BK1366:=n5_;have HB:=n6_;have BK1371:=n7_;have GW1371:=n8_;have GE1371:=n9_;have NB1353_1371:=n10_;have NB1371_1353:=n11_;have NB1359_1371:=n12_;have NB1371_1359:=n13_;have NB1366_1371:=n14_;have NB1371_1366:=n15_;clear n0_ n1_ n2_ n3_ n4_ n5_ n6_ n7_ n8_ n9_ n10_ n11_ n12_ n13_ n14_ n15_;clear hb hbox hg;obtain ⟨Ao41,co41,eo41⟩:=Kd.R_slice HO1369.out;subst eo41;have hnb42:=NB1371_1353.out;have hnc42:=NB1353_1371.out;have hnb43:=NB1371_1359.out;have hnc43:=NB1359_1371.out;have hnb44:=NB1371_1366.out;have hnc44:=NB1366_1371.out;have hcz45_0:w40.cell? ⟨gb1371,0,none⟩ = some (.slice none 0 0):=(blk_cell BK1371.out 0).trans rfl;have hcz45_1:w40.cell? ⟨gb1371,1,none⟩ = some (.int .i64 0):=(blk_cell BK1371.out 1).trans rfl;have hfz45_0:=blk_frozen BK1371.out 0;have hfz45_1:=blk_frozen BK1371.out 1))
          have n0_:Aside0 (Kd.R (Kd.int .i64) 3 ((w40.setCell ⟨gb1371,0,none⟩ (.slice Ao41 t1367.length co41)).setCell ⟨gb1371,1,none⟩ (.int .i64 t1370)) w.heap.size (fun k_=>some k_ ≠ (.slice Ao38 t1362.length co38:Value).ownBlock ∧ some k_ ≠ (.slice Ao41 t1367.length co41:Value).ownBlock) u6 x6_2):=⟨by (with_reducible repeat (first|apply Kd.R_alloc|apply Kd.R_drewN|apply Kd.R_drew));exact Kd.R_mono (Kd.R_far (p:=⟨gb1371,1,none⟩) (Kd.R_far (p:=⟨gb1371,0,none⟩) (Kd.R_types HO_6.out BK1371.out (by decide)) (fun _ hk=>hk.2) (.slice Ao41 t1367.length co41)) (fun _ hk=>hk.2) (.int .i64 t1370)) (fun _ hk=>⟨hk.1.1.2,hk.1.2⟩)⟩
          have n1_:Aside0 (Kd.R (Kd.int .i64) 3 ((w40.setCell ⟨gb1371,0,none⟩ (.slice Ao41 t1367.length co41)).setCell ⟨gb1371,1,none⟩ (.int .i64 t1370)) w.heap.size (fun k_=>some k_ ≠ (u6:Value).ownBlock ∧ some k_ ≠ (.slice Ao41 t1367.length co41:Value).ownBlock) (.slice Ao38 t1362.length co38) t1362):=⟨by (with_reducible repeat (first|apply Kd.R_alloc|apply Kd.R_drewN|apply Kd.R_drew));exact Kd.R_mono (Kd.R_far (p:=⟨gb1371,1,none⟩) (Kd.R_far (p:=⟨gb1371,0,none⟩) (Kd.R_types HO1364.out BK1371.out (by decide)) (fun _ hk=>hk.2) (.slice Ao41 t1367.length co41)) (fun _ hk=>hk.2) (.int .i64 t1370)) (fun _ hk=>⟨hk.1.1.2,hk.1.2⟩)⟩
          have n2_:Aside0 (Kd.R (Kd.int .i64) 3 ((w40.setCell ⟨gb1371,0,none⟩ (.slice Ao41 t1367.length co41)).setCell ⟨gb1371,1,none⟩ (.int .i64 t1370)) w.heap.size (fun k_=>some k_ ≠ (u6:Value).ownBlock ∧ some k_ ≠ (.slice Ao38 t1362.length co38:Value).ownBlock) (.slice Ao41 t1367.length co41) t1367):=⟨by (with_reducible repeat (first|apply Kd.R_alloc|apply Kd.R_drewN|apply Kd.R_drew));exact Kd.R_mono (Kd.R_far (p:=⟨gb1371,1,none⟩) (Kd.R_far (p:=⟨gb1371,0,none⟩) (Kd.R_types HO1369.out BK1371.out (by decide)) (fun _ hk=>hk.2) (.slice Ao41 t1367.length co41)) (fun _ hk=>hk.2) (.int .i64 t1370)) (fun _ hk=>⟨hk.1.1.2,hk.1.2⟩)⟩
          have n3_:Aside0 (((w40.setCell ⟨gb1371,0,none⟩ (.slice Ao41 t1367.length co41)).setCell ⟨gb1371,1,none⟩ (.int .i64 t1370)).heap[gb1353]? = some (.cells #[.int .i64 a0_0,.slice (some ad1360) l0_1.length c0_1] 26 (0,0))):=⟨by (with_reducible repeat (first|refine blk_drewN ?_ _|refine blk_drew ?_|refine blk_alloc ?_ _));refine blk_far ?_ NB1353_1371.out _;(with_reducible repeat (first|refine blk_drewN ?_ _|refine blk_drew ?_|refine blk_alloc ?_ _));refine blk_far ?_ NB1353_1371.out _;(with_reducible repeat (first|refine blk_drewN ?_ _|refine blk_drew ?_|refine blk_alloc ?_ _));exact BK1353.out⟩
          have n4_:Aside0 (((w40.setCell ⟨gb1371,0,none⟩ (.slice Ao41 t1367.length co41)).setCell ⟨gb1371,1,none⟩ (.int .i64 t1370)).heap[gb1359]? = some (.cells #[.int .i64 x1360000_2,.int .i64 x1360001_2] 91 (0,0))):=⟨by (with_reducible repeat (first|refine blk_drewN ?_ _|refine blk_drew ?_|refine blk_alloc ?_ _));refine blk_far ?_ NB1359_1371.out _;(with_reducible repeat (first|refine blk_drewN ?_ _|refine blk_drew ?_|refine blk_alloc ?_ _));refine blk_far ?_ NB1359_1371.out _;(with_reducible repeat (first|refine blk_drewN ?_ _|refine blk_drew ?_|refine blk_alloc ?_ _));exact BK1359.out⟩
          have n5_:Aside0 (((w40.setCell ⟨gb1371,0,none⟩ (.slice Ao41 t1367.length co41)).setCell ⟨gb1371,1,none⟩ (.int .i64 t1370)).heap[gb1366]? = some (.cells #[.int .i64 t1361,.slice Ao38 t1362.length co38] 26 (0,0))):=⟨by (with_reducible repeat (first|refine blk_drewN ?_ _|refine blk_drew ?_|refine blk_alloc ?_ _));refine blk_far ?_ NB1366_1371.out _;(with_reducible repeat (first|refine blk_drewN ?_ _|refine blk_drew ?_|refine blk_alloc ?_ _));refine blk_far ?_ NB1366_1371.out _;(with_reducible repeat (first|refine blk_drewN ?_ _|refine blk_drew ?_|refine blk_alloc ?_ _));exact BK1366.out⟩
          have n6_:Aside0 (((w40.setCell ⟨gb1371,0,none⟩ (.slice Ao41 t1367.length co41)).setCell ⟨gb1371,1,none⟩ (.int .i64 t1370)).heap[gb1371]? = some (.cells #[.slice Ao41 t1367.length co41,.int .i64 t1370] 130 (0,0))):=⟨by (with_reducible repeat (first|refine blk_drewN ?_ _|refine blk_drew ?_|refine blk_alloc ?_ _));refine blk_put (cs:=#[.slice Ao41 t1367.length co41,.int .i64 0]) ?_ 1 _ rfl;(with_reducible repeat (first|refine blk_drewN ?_ _|refine blk_drew ?_|refine blk_alloc ?_ _));refine blk_put (cs:=#[.slice none 0 0,.int .i64 0]) ?_ 0 _ rfl;(with_reducible repeat (first|refine blk_drewN ?_ _|refine blk_drew ?_|refine blk_alloc ?_ _));exact BK1371.out⟩
          have n7_:Aside0 (Below w.heap.size w ((w40.setCell ⟨gb1371,0,none⟩ (.slice Ao41 t1367.length co41)).setCell ⟨gb1371,1,none⟩ (.int .i64 t1370))):=⟨by repeat (first|(with_reducible first|exact HB.out|apply below_alloc|apply pw_below_drewN|apply below_drew1|refine below_set ?_ GE1353.out|refine below_set ?_ GE1359.out|refine below_set ?_ GE1366.out|refine below_set ?_ GE1371.out)|exact HB.out)⟩
          (try clear HO_6)
          (try clear HO1364)
          (try clear HO1369)
          (try clear BK1353)
          (try clear BK1359)
          (try clear BK1366)
          (try clear BK1371)
          (try clear HB)
          generalize ((w40.setCell ⟨gb1371,0,none⟩ (.slice Ao41 t1367.length co41)).setCell ⟨gb1371,1,none⟩ (.int .i64 t1370)) = w46 at n0_ n1_ n2_ n3_ n4_ n5_ n6_ n7_ ⊢
          have HO_6:=n0_
          have HO1364:=n1_
          have HO1369:=n2_
          have BK1353:=n3_
          have BK1359:=n4_
          have BK1366:=n5_
          have BK1371:=n6_
          have HB:=n7_
          clear n0_ n1_ n2_ n3_ n4_ n5_ n6_ n7_
          have n0_:=Aside0.mk (Kd.R_drew HO_6.out)
          have n1_:=Aside0.mk (Kd.R_drew HO1364.out)
          have n2_:=Aside0.mk (Kd.R_drew HO1369.out)
          have n3_:=Aside0.mk (blk_drew BK1353.out)
          have n4_:=Aside0.mk (blk_drew BK1359.out)
          have n5_:=Aside0.mk (blk_drew BK1366.out)
          have n6_:=Aside0.mk (blk_drew BK1371.out)
          have n7_:=Aside0.mk (below_drew1 HB.out)
          clear HO_6
          clear HO1364
          clear HO1369
          clear BK1353
          clear BK1359
          clear BK1366
          clear BK1371
          clear HB
          have HO_6:=n0_
          have HO1364:=n1_
          have HO1369:=n2_
          have BK1353:=n3_
          have BK1359:=n4_
          have BK1366:=n5_
          have BK1371:=n6_
          have HB:=n7_
          clear n0_ n1_ n2_ n3_ n4_ n5_ n6_ n7_
          refine start_ (n:=11) (S:=fun w'=>w'.cell? ⟨gb1371,0,none⟩ = some (.slice Ao41 t1367.length co41) ∧ w'.cell? ⟨gb1371,1,none⟩ = some (.int .i64 t1370)) (ds:=[]) #[false,false,false,false,false,false,false,false,false,false,false] (by kernel_rfl) rfl rfl ⟨(blk_cell BK1371.out 0).trans rfl,(blk_cell BK1371.out 1).trans rfl⟩ (fun hHeld=>?_);refine with_tabW impl_BestSplits.tab12 impl_BestSplits.bits12 (fun HT_ HW_=>?_)
          generalize w46.drew = w47 at HO_6 HO1364 HO1369 BK1353 BK1359 BK1366 BK1371 HB hHeld ⊢
          refine pure_ (i:=1) (N:=some 48) (v:=?_) (a':=?_) #[false,true,false,false,false,false,false,false,false,false,false] rfl rfl (any_of HT_.out (by kernel_rfl)) (fun _ _ _ h=>h) (Or.inl ⟨by rfl,?_⟩) ?_ ?_
          rotate_left
          ·intro w'
           go_simp
           with_reducible rfl
          rotate_left
          ·simp only [Act.put,List.setIfInBounds_toArray,List.set_cons_zero,List.set_cons_succ,i64_w,i32_w]
           rfl
          refine pure_ (i:=2) (N:=some 49) (v:=?_) (a':=?_) #[false,true,true,false,false,false,false,false,false,false,false] rfl rfl (any_of HT_.out (by kernel_rfl)) (fun _ _ _ h=>h) (Or.inl ⟨by rfl,?_⟩) ?_ ?_
          rotate_left
          ·intro w'
           go_simp
           with_reducible rfl
          rotate_left
          ·simp only [Act.put,List.setIfInBounds_toArray,List.set_cons_zero,List.set_cons_succ,i64_w,i32_w]
           rfl
          refine pure_ (i:=3) (N:=some 50) (v:=?_) (a':=?_) #[false,true,true,true,false,false,false,false,false,false,false] rfl rfl (any_of HT_.out (by kernel_rfl)) (fun _ _ _ h=>h) (Or.inl ⟨by rfl,?_⟩) ?_ ?_
          rotate_left
          ·intro w'
           go_simp
           with_reducible rfl
          rotate_left
          ·simp only [Act.put,List.setIfInBounds_toArray,List.set_cons_zero,List.set_cons_succ,i64_w,i32_w]
           rfl
          refine pure_ (i:=6) (N:=some 53) (v:=?_) (a':=?_) #[false,true,true,true,false,false,true,false,false,false,false] rfl rfl (any_of HT_.out (by kernel_rfl)) (fun _ _ _ h=>h) (Or.inl ⟨by rfl,?_⟩) ?_ ?_
          rotate_left
          ·intro w'
           go_simp
           with_reducible rfl
          rotate_left
          ·simp only [Act.put,List.setIfInBounds_toArray,List.set_cons_zero,List.set_cons_succ,i64_w,i32_w]
           rfl
          refine take_ (i:=0) (N:=some 47) (v:=?_) (a':=?_) #[true,true,true,true,false,false,true,false,false,false,false] rfl rfl (take_ofW HT_.out HW_.out (by kernel_rfl)) (fun _ _ _ h=>h) (Or.inl ⟨by rfl,?_⟩) hHeld ?_ ?_
          rotate_left
          ·rintro w' ⟨s0,s1⟩
           go_simp
           with_reducible rfl
          rotate_left
          ·simp only [Act.put,List.setIfInBounds_toArray,List.set_cons_zero,List.set_cons_succ,i64_w,i32_w]
           rfl
          refine take_ (i:=7) (N:=some 54) (v:=?_) (a':=?_) #[true,true,true,true,false,false,true,true,false,false,false] rfl rfl (take_ofW HT_.out HW_.out (by kernel_rfl)) (fun _ _ _ h=>h) (Or.inl ⟨by rfl,?_⟩) hHeld ?_ ?_
          rotate_left
          ·rintro w' ⟨s0,s1⟩
           go_simp
           with_reducible rfl
          rotate_left
          ·simp only [Act.put,List.setIfInBounds_toArray,List.set_cons_zero,List.set_cons_succ,i64_w,i32_w]
           rfl
          refine join_ (σ:=Value × Nat) 1 #[true,true,true,true,true,true,true,true,true,true,false] (fun s_=>[(51,s_.1),(52,.int .i64 t1375),(55,.agg #[.int .i64 t1376,.int .i64 t1377]),(12,.pointer (some ⟨s_.2,0,none⟩))]) (fun s_ w'=>(w'.cell? ⟨gb1371,0,none⟩ = some (.slice Ao41 t1367.length co41) ∧ w'.cell? ⟨gb1371,1,none⟩ = some (.int .i64 t1370)) ∧ (Kd.R (Kd.int .i64) 3 w' w.heap.size (fun k_=>some k_ ≠ (.slice Ao41 t1367.length co41:Value).ownBlock ∧ some k_ ≠ (s_.1:Value).ownBlock ∧ some k_ ≠ (u6:Value).ownBlock) (.slice Ao38 t1362.length co38) t1362) ∧ (Kd.R (Kd.int .i64) 3 w' w.heap.size (fun k_=>some k_ ≠ (.slice Ao38 t1362.length co38:Value).ownBlock ∧ some k_ ≠ (s_.1:Value).ownBlock ∧ some k_ ≠ (u6:Value).ownBlock) (.slice Ao41 t1367.length co41) t1367) ∧ (Kd.R (Kd.int .i64) 3 w' w.heap.size (fun k_=>some k_ ≠ (.slice Ao38 t1362.length co38:Value).ownBlock ∧ some k_ ≠ (.slice Ao41 t1367.length co41:Value).ownBlock ∧ some k_ ≠ (u6:Value).ownBlock) s_.1 y1372) ∧ (Kd.R (Kd.int .i64) 3 w' w.heap.size (fun k_=>some k_ ≠ (.slice Ao38 t1362.length co38:Value).ownBlock ∧ some k_ ≠ (.slice Ao41 t1367.length co41:Value).ownBlock ∧ some k_ ≠ (s_.1:Value).ownBlock) u6 x6_2) ∧ (w'.heap[gb1353]? = some (.cells #[.int .i64 a0_0,.slice (some ad1360) l0_1.length c0_1] 26 (0,0))) ∧ (w'.heap[gb1359]? = some (.cells #[.int .i64 x1360000_2,.int .i64 x1360001_2] 91 (0,0))) ∧ (w'.heap[gb1366]? = some (.cells #[.int .i64 t1361,.slice Ao38 t1362.length co38] 26 (0,0))) ∧ (w'.heap[gb1371]? = some (.cells #[.slice Ao41 t1367.length co41,.int .i64 t1370] 130 (0,0))) ∧ (w'.heap[s_.2]? = some (.cells #[.int .i64 0,.int .i64 0] 91 (0,0))) ∧ (w.heap.size ≤ s_.2) ∧ (w.heap.size ≤ s_.2) ∧ (gb1353 ≠ s_.2) ∧ (s_.2 ≠ gb1353) ∧ (gb1359 ≠ s_.2) ∧ (s_.2 ≠ gb1359) ∧ (gb1366 ≠ s_.2) ∧ (s_.2 ≠ gb1366) ∧ (gb1371 ≠ s_.2) ∧ (s_.2 ≠ gb1371) ∧ (Below w.heap.size w w')) ?_ ?_
          rotate_left
          ·intro hCont
           refine two_ (i:=4) (j:=9) (Ni:=some 51) (Nj:=some 12) #[true,true,true,true,true,false,true,true,false,false,false] #[true,true,true,true,false,false,true,true,false,true,false] rfl rfl rfl rfl (two_of HT_.out (by kernel_rfl)) (by decide) (by decide) (fun K hK=>?_) (fun K hK=>?_)
           ·skip
            refine Kd.R_lit_step (Kd.int .i64) _ 3 ?hg (N:=51) ?hd (xs:=([a1,wrap64 (a1 + 1)]:List Int)) (inner:=[.int .i64 a1,.int .i64 (wrap64 (a1 + 1))]) (ok:=fun _=>True) (okp:=fun _=>True) ?hr ?hp (fun _ hk=>hk) trivial (Below.refl _ _) (Nat.le_refl _) (by simp) ?_;(case hd=>rfl);(case hg=>rfl);(case hr=>first|(go_simp;done)|(go_simp;rfl));(case hp=>exact (Reps.one (show Kd.M (Kd.int .i64) _ _ _ a1 [.int .i64 a1] from rfl) (Reps.one (show Kd.M (Kd.int .i64) _ _ _ (wrap64 (a1 + 1)) [.int .i64 (wrap64 (a1 + 1))] from rfl) (Reps.none _ _))))
            intro v1373 w48 ho49 hb hg_ hnew_
            clear hg_ hnew_
            (first|rw [← Ny1372.out] at ho49|(simp only [Int.reduceToNat] at ho49;rw [← Ny1372.out] at ho49))
            have n0_:=Aside0.mk (Kd.R_elder' (by (with_reducible repeat (first|apply Kd.R_alloc|apply Kd.R_drewN|apply Kd.R_drew));exact HO_6.out) (Kd.R_base ho49) hb)
            have n1_:=Aside0.mk (Kd.R_elder' (by (with_reducible repeat (first|apply Kd.R_alloc|apply Kd.R_drewN|apply Kd.R_drew));exact HO1364.out) (Kd.R_base ho49) hb)
            have n2_:=Aside0.mk (Kd.R_elder' (by (with_reducible repeat (first|apply Kd.R_alloc|apply Kd.R_drewN|apply Kd.R_drew));exact HO1369.out) (Kd.R_base ho49) hb)
            have n3_:=Aside0.mk (Kd.R_lower (Kd.R_new' (Kd.R_new' (Kd.R_new' ho49 (Kd.R_lt (by (with_reducible repeat (first|apply Kd.R_alloc|apply Kd.R_drewN|apply Kd.R_drew));exact HO_6.out))) (Kd.R_lt (by (with_reducible repeat (first|apply Kd.R_alloc|apply Kd.R_drewN|apply Kd.R_drew));exact HO1364.out))) (Kd.R_lt (by (with_reducible repeat (first|apply Kd.R_alloc|apply Kd.R_drewN|apply Kd.R_drew));exact HO1369.out))) (below_size (by repeat (first|(with_reducible first|exact HB.out|apply below_alloc|apply pw_below_drewN|apply below_drew1|refine below_set ?_ GE1353.out|refine below_set ?_ GE1359.out|refine below_set ?_ GE1366.out|refine below_set ?_ GE1371.out)|exact HB.out))))
            have n4_:=Aside0.mk (blk_below (g:=gb1353) (o:=.cells #[.int .i64 a0_0,.slice (some ad1360) l0_1.length c0_1] 26 (0,0)) (by (with_reducible repeat (first|refine blk_drewN ?_ _|refine blk_drew ?_|refine blk_alloc ?_ _));exact BK1353.out) hb)
            have n5_:=Aside0.mk (blk_below (g:=gb1359) (o:=.cells #[.int .i64 x1360000_2,.int .i64 x1360001_2] 91 (0,0)) (by (with_reducible repeat (first|refine blk_drewN ?_ _|refine blk_drew ?_|refine blk_alloc ?_ _));exact BK1359.out) hb)
            have n6_:=Aside0.mk (blk_below (g:=gb1366) (o:=.cells #[.int .i64 t1361,.slice Ao38 t1362.length co38] 26 (0,0)) (by (with_reducible repeat (first|refine blk_drewN ?_ _|refine blk_drew ?_|refine blk_alloc ?_ _));exact BK1366.out) hb)
            have n7_:=Aside0.mk (blk_below (g:=gb1371) (o:=.cells #[.slice Ao41 t1367.length co41,.int .i64 t1370] 130 (0,0)) (by (with_reducible repeat (first|refine blk_drewN ?_ _|refine blk_drew ?_|refine blk_alloc ?_ _));exact BK1371.out) hb)
            have n8_:=Aside0.mk (below_step (by repeat (first|(with_reducible first|exact HB.out|apply below_alloc|apply pw_below_drewN|apply below_drew1|refine below_set ?_ GE1353.out|refine below_set ?_ GE1359.out|refine below_set ?_ GE1366.out|refine below_set ?_ GE1371.out)|exact HB.out)) hb)
            clear HO_6
            clear HO1364
            clear HO1369
            clear BK1353
            clear BK1359
            clear BK1366
            clear BK1371
            clear HB
            have HO_6:=n0_
            have HO1364:=n1_
            have HO1369:=n2_
            have HO1374:=n3_
            have BK1353:=n4_
            have BK1359:=n5_
            have BK1366:=n6_
            have BK1371:=n7_
            have HB:=n8_
            clear n0_ n1_ n2_ n3_ n4_ n5_ n6_ n7_ n8_
            clear hb ho49
            obtain ⟨Ao50,co50,eo50⟩:=Kd.R_slice HO1374.out
            (first|subst eo50|(injection eo50 with f1_ f2_ f3_;have f4_:=f1_.symm;have f5_:=f3_.symm;clear f1_ f2_ f3_;subst f4_;subst f5_))
            refine hK.out _ _ ⟨(blk_cell BK1371.out 0).trans rfl,(blk_cell BK1371.out 1).trans rfl⟩ (fun hHeld=>?_)
            clear hK K
            refine norm_ (a':=?_) ?_ ?_
            rotate_left
            ·show Act.put _ (some 51) _ = _
             simp only [Act.put,List.setIfInBounds_toArray,List.set_cons_zero,List.set_cons_succ,i64_w,i32_w]
             rfl
            refine two_ (i:=5) (j:=9) (Ni:=some 52) (Nj:=some 12) #[true,true,true,true,true,true,true,true,false,false,false] #[true,true,true,true,true,false,true,true,false,true,false] rfl rfl rfl rfl (two_of HT_.out (by kernel_rfl)) (by decide) (by decide) (fun K hK=>?_) (fun K hK=>?_)
            ·skip
             refine goes_ Try.func128 (by kernel_rfl) rfl #[.agg #[.slice Ao41 t1367.length co41,.int .i64 t1370],.slice Ao50 y1372.length co50] (by rfl) rfl rfl (by (try simp only [List.map_toArray,List.map_cons,List.map_nil]);first|done|rfl|(simp only [List.length_drop,List.length_take];rfl)) ?_
             with_reducible refine (impl_powers_of.calls k2 _ _ t1367 t1370 _ _ y1372 t1375 _ ?side1 ?side2 ?side3 ?side4 A27.out).mono ?_
             (case side1=>repeat (first|exact (Kd.R_reads' HO1369.out).2.2|(with_reducible refine Kd.C_alloc ?_ _)|(with_reducible refine Kd.C_drewN ?_ _)|(with_reducible refine Kd.C_drew ?_)))
             (case side2=>exact (Kd.R_reads' HO1369.out).2.1)
             (case side3=>repeat (first|exact (Kd.R_reads' HO1374.out).2.2|(with_reducible refine Kd.C_alloc ?_ _)|(with_reducible refine Kd.C_drewN ?_ _)|(with_reducible refine Kd.C_drew ?_)))
             (case side4=>exact (Kd.R_reads' HO1374.out).2.1)
             rintro e w51 ⟨rfl,hb⟩
             refine ⟨_,rfl,?_⟩
             have n0_:=Aside0.mk (Kd.R_below (by (with_reducible repeat (first|apply Kd.R_alloc|apply Kd.R_drewN|apply Kd.R_drew));exact HO_6.out) hb)
             have n1_:=Aside0.mk (Kd.R_below (by (with_reducible repeat (first|apply Kd.R_alloc|apply Kd.R_drewN|apply Kd.R_drew));exact HO1364.out) hb)
             have n2_:=Aside0.mk (Kd.R_below (by (with_reducible repeat (first|apply Kd.R_alloc|apply Kd.R_drewN|apply Kd.R_drew));exact HO1369.out) hb)
             have n3_:=Aside0.mk (Kd.R_below (by (with_reducible repeat (first|apply Kd.R_alloc|apply Kd.R_drewN|apply Kd.R_drew));exact HO1374.out) hb)
             have n4_:=Aside0.mk (blk_below (g:=gb1353) (o:=.cells #[.int .i64 a0_0,.slice (some ad1360) l0_1.length c0_1] 26 (0,0)) (by (with_reducible repeat (first|refine blk_drewN ?_ _|refine blk_drew ?_|refine blk_alloc ?_ _));exact BK1353.out) hb)
             have n5_:=Aside0.mk (blk_below (g:=gb1359) (o:=.cells #[.int .i64 x1360000_2,.int .i64 x1360001_2] 91 (0,0)) (by (with_reducible repeat (first|refine blk_drewN ?_ _|refine blk_drew ?_|refine blk_alloc ?_ _));exact BK1359.out) hb)
             have n6_:=Aside0.mk (blk_below (g:=gb1366) (o:=.cells #[.int .i64 t1361,.slice Ao38 t1362.length co38] 26 (0,0)) (by (with_reducible repeat (first|refine blk_drewN ?_ _|refine blk_drew ?_|refine blk_alloc ?_ _));exact BK1366.out) hb)
             have n7_:=Aside0.mk (blk_below (g:=gb1371) (o:=.cells #[.slice Ao41 t1367.length co41,.int .i64 t1370] 130 (0,0)) (by (with_reducible repeat (first|refine blk_drewN ?_ _|refine blk_drew ?_|refine blk_alloc ?_ _));exact BK1371.out) hb)
             have n8_:=Aside0.mk (below_step (by repeat (first|(with_reducible first|exact HB.out|apply below_alloc|apply pw_below_drewN|apply below_drew1|refine below_set ?_ GE1353.out|refine below_set ?_ GE1359.out|refine below_set ?_ GE1366.out|refine below_set ?_ GE1371.out)|exact HB.out)) hb)
             clear HO_6
             clear HO1364
             clear HO1369
             clear HO1374
             clear BK1353
             clear BK1359
             clear BK1366
             clear BK1371
             clear HB
             have HO_6:=n0_
             have HO1364:=n1_
             have HO1369:=n2_
             have HO1374:=n3_
             have BK1353:=n4_
             have BK1359:=n5_
             have BK1366:=n6_
             have BK1371:=n7_
             have HB:=n8_
             clear n0_ n1_ n2_ n3_ n4_ n5_ n6_ n7_ n8_
             (try clear hb)
             (try clear hb2)
             (try clear hk)
             (try clear hi)
             refine hK.out _ _ ⟨(blk_cell BK1371.out 0).trans rfl,(blk_cell BK1371.out 1).trans rfl⟩ (fun hHeld=>?_)
             clear hK K
             refine norm_ (a':=?_) ?_ ?_
             rotate_left
             ·show Act.put _ (some 52) _ = _
              simp only [Act.put,List.setIfInBounds_toArray,List.set_cons_zero,List.set_cons_succ,i64_w,i32_w]
              rfl
             refine two_ (i:=8) (j:=9) (Ni:=some 55) (Nj:=some 12) #[true,true,true,true,true,true,true,true,true,false,false] #[true,true,true,true,true,true,true,true,false,true,false] rfl rfl rfl rfl (two_of HT_.out (by kernel_rfl)) (by decide) (by decide) (fun K hK=>?_) (fun K hK=>?_)
             ·skip
              refine goes_ Try.func78 (by kernel_rfl) rfl #[.int .i64 t1375,.int .i64 t1370] (by rfl) rfl rfl (by (try simp only [List.map_toArray,List.map_cons,List.map_nil]);first|done|rfl|(simp only [List.length_drop,List.length_take];rfl)) ?_
              with_reducible refine (impl_shareOf.calls k2 t1375 t1370 t1376 t1377 _ A28.out).mono ?_
              rintro e w52 ⟨rfl,hb⟩
              refine ⟨_,rfl,?_⟩
              have n0_:=Aside0.mk (Kd.R_below (by (with_reducible repeat (first|apply Kd.R_alloc|apply Kd.R_drewN|apply Kd.R_drew));exact HO_6.out) hb)
              have n1_:=Aside0.mk (Kd.R_below (by (with_reducible repeat (first|apply Kd.R_alloc|apply Kd.R_drewN|apply Kd.R_drew));exact HO1364.out) hb)
              have n2_:=Aside0.mk (Kd.R_below (by (with_reducible repeat (first|apply Kd.R_alloc|apply Kd.R_drewN|apply Kd.R_drew));exact HO1369.out) hb)
              have n3_:=Aside0.mk (Kd.R_below (by (with_reducible repeat (first|apply Kd.R_alloc|apply Kd.R_drewN|apply Kd.R_drew));exact HO1374.out) hb)
              have n4_:=Aside0.mk (blk_below (g:=gb1353) (o:=.cells #[.int .i64 a0_0,.slice (some ad1360) l0_1.length c0_1] 26 (0,0)) (by (with_reducible repeat (first|refine blk_drewN ?_ _|refine blk_drew ?_|refine blk_alloc ?_ _));exact BK1353.out) hb)
              have n5_:=Aside0.mk (blk_below (g:=gb1359) (o:=.cells #[.int .i64 x1360000_2,.int .i64 x1360001_2] 91 (0,0)) (by (with_reducible repeat (first|refine blk_drewN ?_ _|refine blk_drew ?_|refine blk_alloc ?_ _));exact BK1359.out) hb)
              have n6_:=Aside0.mk (blk_below (g:=gb1366) (o:=.cells #[.int .i64 t1361,.slice Ao38 t1362.length co38] 26 (0,0)) (by (with_reducible repeat (first|refine blk_drewN ?_ _|refine blk_drew ?_|refine blk_alloc ?_ _));exact BK1366.out) hb)
              have n7_:=Aside0.mk (blk_below (g:=gb1371) (o:=.cells #[.slice Ao41 t1367.length co41,.int .i64 t1370] 130 (0,0)) (by (with_reducible repeat (first|refine blk_drewN ?_ _|refine blk_drew ?_|refine blk_alloc ?_ _));exact BK1371.out) hb)
              have n8_:=Aside0.mk (below_step (by repeat (first|(with_reducible first|exact HB.out|apply below_alloc|apply pw_below_drewN|apply below_drew1|refine below_set ?_ GE1353.out|refine below_set ?_ GE1359.out|refine below_set ?_ GE1366.out|refine below_set ?_ GE1371.out)|exact HB.out)) hb)
              clear HO_6
              clear HO1364
              clear HO1369
              clear HO1374
              clear BK1353
              clear BK1359
              clear BK1366
              clear BK1371
              clear HB
              have HO_6:=n0_
              have HO1364:=n1_
              have HO1369:=n2_
              have HO1374:=n3_
              have BK1353:=n4_
              have BK1359:=n5_
              have BK1366:=n6_
              have BK1371:=n7_
              have HB:=n8_
              clear n0_ n1_ n2_ n3_ n4_ n5_ n6_ n7_ n8_
              (try clear hb)
              (try clear hb2)
              (try clear hk)
              (try clear hi)
              refine hK.out _ _ ⟨(blk_cell BK1371.out 0).trans rfl,(blk_cell BK1371.out 1).trans rfl⟩ (fun hHeld=>?_)
              clear hK K
              refine norm_ (a':=?_) ?_ ?_
              rotate_left
              ·show Act.put _ (some 55) _ = _
               simp only [Act.put,List.setIfInBounds_toArray,List.set_cons_zero,List.set_cons_succ,i64_w,i32_w]
               rfl
              refine one_ (i:=9) (N:=some 12) #[true,true,true,true,true,true,true,true,true,true,false] rfl rfl (one_of HT_.out (by kernel_rfl)) (by decide) (fun K hK=>?_)
              refine box_step ?hg (N:=12) ?hd (cs:=#[.int .i64 0,.int .i64 0]) (t:=91) ?hr ?_;(case hd=>rfl);(case hg=>rfl);(case hr=>first|(go_simp;done)|(go_simp;rfl))
              intro gb1378 hg w53 hbox hb
              have n0_:=Aside0.mk (Kd.R_below (by (with_reducible repeat (first|apply Kd.R_alloc|apply Kd.R_drewN|apply Kd.R_drew));exact HO_6.out) hb)
              have n1_:=Aside0.mk (Kd.R_below (by (with_reducible repeat (first|apply Kd.R_alloc|apply Kd.R_drewN|apply Kd.R_drew));exact HO1364.out) hb)
              have n2_:=Aside0.mk (Kd.R_below (by (with_reducible repeat (first|apply Kd.R_alloc|apply Kd.R_drewN|apply Kd.R_drew));exact HO1369.out) hb)
              have n3_:=Aside0.mk (Kd.R_below (by (with_reducible repeat (first|apply Kd.R_alloc|apply Kd.R_drewN|apply Kd.R_drew));exact HO1374.out) hb)
              have n4_:=Aside0.mk (blk_below (g:=gb1353) (o:=.cells #[.int .i64 a0_0,.slice (some ad1360) l0_1.length c0_1] 26 (0,0)) (by (with_reducible repeat (first|refine blk_drewN ?_ _|refine blk_drew ?_|refine blk_alloc ?_ _));exact BK1353.out) hb)
              have n5_:=Aside0.mk (blk_below (g:=gb1359) (o:=.cells #[.int .i64 x1360000_2,.int .i64 x1360001_2] 91 (0,0)) (by (with_reducible repeat (first|refine blk_drewN ?_ _|refine blk_drew ?_|refine blk_alloc ?_ _));exact BK1359.out) hb)
              have n6_:=Aside0.mk (blk_below (g:=gb1366) (o:=.cells #[.int .i64 t1361,.slice Ao38 t1362.length co38] 26 (0,0)) (by (with_reducible repeat (first|refine blk_drewN ?_ _|refine blk_drew ?_|refine blk_alloc ?_ _));exact BK1366.out) hb)
              have n7_:=Aside0.mk (blk_below (g:=gb1371) (o:=.cells #[.slice Ao41 t1367.length co41,.int .i64 t1370] 130 (0,0)) (by (with_reducible repeat (first|refine blk_drewN ?_ _|refine blk_drew ?_|refine blk_alloc ?_ _));exact BK1371.out) hb)
              have n8_:=Aside0.mk (below_step (by repeat (first|(with_reducible first|exact HB.out|apply below_alloc|apply pw_below_drewN|apply below_drew1|refine below_set ?_ GE1353.out|refine below_set ?_ GE1359.out|refine below_set ?_ GE1366.out|refine below_set ?_ GE1371.out)|exact HB.out)) hb)
              have n9_:=Aside0.mk (hbox)
              have n10_:=Aside0.mk ((by rw [hg];exact (below_size (by repeat (first|(with_reducible first|exact HB.out|apply below_alloc|apply pw_below_drewN|apply below_drew1|refine below_set ?_ GE1353.out|refine below_set ?_ GE1359.out|refine below_set ?_ GE1366.out|refine below_set ?_ GE1371.out)|exact HB.out))):w.heap.size ≤ gb1378))
              have n11_:=Aside0.mk ((by rw [hg];exact (below_size (by repeat (first|(with_reducible first|exact HB.out|apply below_alloc|apply pw_below_drewN|apply below_drew1|refine below_set ?_ GE1353.out|refine below_set ?_ GE1359.out|refine below_set ?_ GE1366.out|refine below_set ?_ GE1371.out)|exact HB.out))):w.heap.size ≤ gb1378))
              have n12_:=Aside0.mk ((by rw [hg];exact Nat.ne_of_lt (blk_lt (g:=gb1353) (o:=.cells #[.int .i64 a0_0,.slice (some ad1360) l0_1.length c0_1] 26 (0,0)) (by (with_reducible repeat (first|refine blk_drewN ?_ _|refine blk_drew ?_|refine blk_alloc ?_ _));exact BK1353.out)):gb1353 ≠ gb1378))
              have n13_:=Aside0.mk ((by rw [hg];exact Nat.ne_of_gt (blk_lt (g:=gb1353) (o:=.cells #[.int .i64 a0_0,.slice (some ad1360) l0_1.length c0_1] 26 (0,0)) (by (with_reducible repeat (first|refine blk_drewN ?_ _|refine blk_drew ?_|refine blk_alloc ?_ _));exact BK1353.out)):gb1378 ≠ gb1353))
              have n14_:=Aside0.mk ((by rw [hg];exact Nat.ne_of_lt (blk_lt (g:=gb1359) (o:=.cells #[.int .i64 x1360000_2,.int .i64 x1360001_2] 91 (0,0)) (by (with_reducible repeat (first|refine blk_drewN ?_ _|refine blk_drew ?_|refine blk_alloc ?_ _));exact BK1359.out)):gb1359 ≠ gb1378))
              have n15_:=Aside0.mk ((by rw [hg];exact Nat.ne_of_gt (blk_lt (g:=gb1359) (o:=.cells #[.int .i64 x1360000_2,.int .i64 x1360001_2] 91 (0,0)) (by (with_reducible repeat (first|refine blk_drewN ?_ _|refine blk_drew ?_|refine blk_alloc ?_ _));exact BK1359.out)):gb1378 ≠ gb1359))
              have n16_:=Aside0.mk ((by rw [hg];exact Nat.ne_of_lt (blk_lt (g:=gb1366) (o:=.cells #[.int .i64 t1361,.slice Ao38 t1362.length co38] 26 (0,0)) (by (with_reducible repeat (first|refine blk_drewN ?_ _|refine blk_drew ?_|refine blk_alloc ?_ _));exact BK1366.out)):gb1366 ≠ gb1378))
              have n17_:=Aside0.mk ((by rw [hg];exact Nat.ne_of_gt (blk_lt (g:=gb1366) (o:=.cells #[.int .i64 t1361,.slice Ao38 t1362.length co38] 26 (0,0)) (by (with_reducible repeat (first|refine blk_drewN ?_ _|refine blk_drew ?_|refine blk_alloc ?_ _));exact BK1366.out)):gb1378 ≠ gb1366))
              have n18_:=Aside0.mk ((by rw [hg];exact Nat.ne_of_lt (blk_lt (g:=gb1371) (o:=.cells #[.slice Ao41 t1367.length co41,.int .i64 t1370] 130 (0,0)) (by (with_reducible repeat (first|refine blk_drewN ?_ _|refine blk_drew ?_|refine blk_alloc ?_ _));exact BK1371.out)):gb1371 ≠ gb1378))
              have n19_:=Aside0.mk ((by rw [hg];exact Nat.ne_of_gt (blk_lt (g:=gb1371) (o:=.cells #[.slice Ao41 t1367.length co41,.int .i64 t1370] 130 (0,0)) (by (with_reducible repeat (first|refine blk_drewN ?_ _|refine blk_drew ?_|refine blk_alloc ?_ _));exact BK1371.out)):gb1378 ≠ gb1371))
              clear HO_6
              clear HO1364
              clear HO1369
              clear HO1374
              clear BK1353
              clear BK1359
              clear BK1366
              clear BK1371
              clear HB
              have HO_6:=n0_
              have HO1364:=n1_
              have HO1369:=n2_
              have HO1374:=n3_
              have BK1353:=n4_
              have BK1359:=n5_
              have BK1366:=n6_
              have BK1371:=n7_
              have HB:=n8_
              have BK1378:=n9_
              have GW1378:=n10_
              have GE1378:=n11_
              have NB1353_1378:=n12_
              have NB1378_1353:=n13_
              have NB1359_1378:=n14_
              have NB1378_1359:=n15_
              have NB1366_1378:=n16_
              have NB1378_1366:=n17_
              have NB1371_1378:=n18_
              have NB1378_1371:=n19_
              clear n0_ n1_ n2_ n3_ n4_ n5_ n6_ n7_ n8_ n9_ n10_ n11_ n12_ n13_ n14_ n15_ n16_ n17_ n18_ n19_
              clear hb hbox hg
              refine hK.out _ _ ⟨(blk_cell BK1371.out 0).trans rfl,(blk_cell BK1371.out 1).trans rfl⟩ (fun hHeld=>?_)
              clear hK K
              refine norm_ (a':=?_) ?_ ?_
              rotate_left
              ·show Act.put _ (some 12) _ = _
               simp only [Act.put,List.setIfInBounds_toArray,List.set_cons_zero,List.set_cons_succ,i64_w,i32_w]
               rfl
              exact norm_ (by simp only [putAll,Act.put,List.setIfInBounds_toArray,List.set_cons_zero,List.set_cons_succ]) (hCont (.slice Ao50 y1372.length co50,gb1378) _ ⟨hHeld,(by (with_reducible repeat (first|apply Kd.R_alloc|apply Kd.R_drewN|apply Kd.R_drew));exact Kd.R_mono HO1364.out (fun _ hk=>⟨hk.1.2,⟨hk.2,hk.1.1⟩⟩)),(by (with_reducible repeat (first|apply Kd.R_alloc|apply Kd.R_drewN|apply Kd.R_drew));exact Kd.R_mono HO1369.out (fun _ hk=>⟨hk.1.2,⟨hk.2,hk.1.1⟩⟩)),(by (with_reducible repeat (first|apply Kd.R_alloc|apply Kd.R_drewN|apply Kd.R_drew));exact Kd.R_mono HO1374.out (fun _ hk=>⟨hk.1.2,⟨hk.2,hk.1.1.2⟩⟩)),(by (with_reducible repeat (first|apply Kd.R_alloc|apply Kd.R_drewN|apply Kd.R_drew));exact Kd.R_mono HO_6.out (fun _ hk=>⟨hk.1.1,⟨hk.1.2,hk.2⟩⟩)),(by (with_reducible repeat (first|refine blk_drewN ?_ _|refine blk_drew ?_|refine blk_alloc ?_ _));exact BK1353.out),(by (with_reducible repeat (first|refine blk_drewN ?_ _|refine blk_drew ?_|refine blk_alloc ?_ _));exact BK1359.out),(by (with_reducible repeat (first|refine blk_drewN ?_ _|refine blk_drew ?_|refine blk_alloc ?_ _));exact BK1366.out),(by (with_reducible repeat (first|refine blk_drewN ?_ _|refine blk_drew ?_|refine blk_alloc ?_ _));exact BK1371.out),(by (with_reducible repeat (first|refine blk_drewN ?_ _|refine blk_drew ?_|refine blk_alloc ?_ _));exact BK1378.out),GW1378.out,GE1378.out,NB1353_1378.out,NB1378_1353.out,NB1359_1378.out,NB1378_1359.out,NB1366_1378.out,NB1378_1366.out,NB1371_1378.out,NB1378_1371.out,(by repeat (first|(with_reducible first|exact HB.out|apply below_alloc|apply pw_below_drewN|apply below_drew1|refine below_set ?_ GE1353.out|refine below_set ?_ GE1359.out|refine below_set ?_ GE1366.out|refine below_set ?_ GE1371.out|refine below_set ?_ GE1378.out)|exact HB.out))⟩)
             ·skip
              refine box_step ?hg (N:=12) ?hd (cs:=#[.int .i64 0,.int .i64 0]) (t:=91) ?hr ?_;(case hd=>rfl);(case hg=>rfl);(case hr=>first|(go_simp;done)|(go_simp;rfl))
              intro gb1378 hg w52 hbox hb
              have n0_:=Aside0.mk (Kd.R_below (by (with_reducible repeat (first|apply Kd.R_alloc|apply Kd.R_drewN|apply Kd.R_drew));exact HO_6.out) hb)
              have n1_:=Aside0.mk (Kd.R_below (by (with_reducible repeat (first|apply Kd.R_alloc|apply Kd.R_drewN|apply Kd.R_drew));exact HO1364.out) hb)
              have n2_:=Aside0.mk (Kd.R_below (by (with_reducible repeat (first|apply Kd.R_alloc|apply Kd.R_drewN|apply Kd.R_drew));exact HO1369.out) hb)
              have n3_:=Aside0.mk (Kd.R_below (by (with_reducible repeat (first|apply Kd.R_alloc|apply Kd.R_drewN|apply Kd.R_drew));exact HO1374.out) hb)
              have n4_:=Aside0.mk (blk_below (g:=gb1353) (o:=.cells #[.int .i64 a0_0,.slice (some ad1360) l0_1.length c0_1] 26 (0,0)) (by (with_reducible repeat (first|refine blk_drewN ?_ _|refine blk_drew ?_|refine blk_alloc ?_ _));exact BK1353.out) hb)
              have n5_:=Aside0.mk (blk_below (g:=gb1359) (o:=.cells #[.int .i64 x1360000_2,.int .i64 x1360001_2] 91 (0,0)) (by (with_reducible repeat (first|refine blk_drewN ?_ _|refine blk_drew ?_|refine blk_alloc ?_ _));exact BK1359.out) hb)
              have n6_:=Aside0.mk (blk_below (g:=gb1366) (o:=.cells #[.int .i64 t1361,.slice Ao38 t1362.length co38] 26 (0,0)) (by (with_reducible repeat (first|refine blk_drewN ?_ _|refine blk_drew ?_|refine blk_alloc ?_ _));exact BK1366.out) hb)
              have n7_:=Aside0.mk (blk_below (g:=gb1371) (o:=.cells #[.slice Ao41 t1367.length co41,.int .i64 t1370] 130 (0,0)) (by (with_reducible repeat (first|refine blk_drewN ?_ _|refine blk_drew ?_|refine blk_alloc ?_ _));exact BK1371.out) hb)
              have n8_:=Aside0.mk (below_step (by repeat (first|(with_reducible first|exact HB.out|apply below_alloc|apply pw_below_drewN|apply below_drew1|refine below_set ?_ GE1353.out|refine below_set ?_ GE1359.out|refine below_set ?_ GE1366.out|refine below_set ?_ GE1371.out)|exact HB.out)) hb)
              have n9_:=Aside0.mk (hbox)
              have n10_:=Aside0.mk ((by rw [hg];exact (below_size (by repeat (first|(with_reducible first|exact HB.out|apply below_alloc|apply pw_below_drewN|apply below_drew1|refine below_set ?_ GE1353.out|refine below_set ?_ GE1359.out|refine below_set ?_ GE1366.out|refine below_set ?_ GE1371.out)|exact HB.out))):w.heap.size ≤ gb1378))
              have n11_:=Aside0.mk ((by rw [hg];exact (below_size (by repeat (first|(with_reducible first|exact HB.out|apply below_alloc|apply pw_below_drewN|apply below_drew1|refine below_set ?_ GE1353.out|refine below_set ?_ GE1359.out|refine below_set ?_ GE1366.out|refine below_set ?_ GE1371.out)|exact HB.out))):w.heap.size ≤ gb1378))
              have n12_:=Aside0.mk ((by rw [hg];exact Nat.ne_of_lt (blk_lt (g:=gb1353) (o:=.cells #[.int .i64 a0_0,.slice (some ad1360) l0_1.length c0_1] 26 (0,0)) (by (with_reducible repeat (first|refine blk_drewN ?_ _|refine blk_drew ?_|refine blk_alloc ?_ _));exact BK1353.out)):gb1353 ≠ gb1378))
              have n13_:=Aside0.mk ((by rw [hg];exact Nat.ne_of_gt (blk_lt (g:=gb1353) (o:=.cells #[.int .i64 a0_0,.slice (some ad1360) l0_1.length c0_1] 26 (0,0)) (by (with_reducible repeat (first|refine blk_drewN ?_ _|refine blk_drew ?_|refine blk_alloc ?_ _));exact BK1353.out)):gb1378 ≠ gb1353))
              have n14_:=Aside0.mk ((by rw [hg];exact Nat.ne_of_lt (blk_lt (g:=gb1359) (o:=.cells #[.int .i64 x1360000_2,.int .i64 x1360001_2] 91 (0,0)) (by (with_reducible repeat (first|refine blk_drewN ?_ _|refine blk_drew ?_|refine blk_alloc ?_ _));exact BK1359.out)):gb1359 ≠ gb1378))
              have n15_:=Aside0.mk ((by rw [hg];exact Nat.ne_of_gt (blk_lt (g:=gb1359) (o:=.cells #[.int .i64 x1360000_2,.int .i64 x1360001_2] 91 (0,0)) (by (with_reducible repeat (first|refine blk_drewN ?_ _|refine blk_drew ?_|refine blk_alloc ?_ _));exact BK1359.out)):gb1378 ≠ gb1359))
              have n16_:=Aside0.mk ((by rw [hg];exact Nat.ne_of_lt (blk_lt (g:=gb1366) (o:=.cells #[.int .i64 t1361,.slice Ao38 t1362.length co38] 26 (0,0)) (by (with_reducible repeat (first|refine blk_drewN ?_ _|refine blk_drew ?_|refine blk_alloc ?_ _));exact BK1366.out)):gb1366 ≠ gb1378))
              have n17_:=Aside0.mk ((by rw [hg];exact Nat.ne_of_gt (blk_lt (g:=gb1366) (o:=.cells #[.int .i64 t1361,.slice Ao38 t1362.length co38] 26 (0,0)) (by (with_reducible repeat (first|refine blk_drewN ?_ _|refine blk_drew ?_|refine blk_alloc ?_ _));exact BK1366.out)):gb1378 ≠ gb1366))
              have n18_:=Aside0.mk ((by rw [hg];exact Nat.ne_of_lt (blk_lt (g:=gb1371) (o:=.cells #[.slice Ao41 t1367.length co41,.int .i64 t1370] 130 (0,0)) (by (with_reducible repeat (first|refine blk_drewN ?_ _|refine blk_drew ?_|refine blk_alloc ?_ _));exact BK1371.out)):gb1371 ≠ gb1378))
              have n19_:=Aside0.mk ((by rw [hg];exact Nat.ne_of_gt (blk_lt (g:=gb1371) (o:=.cells #[.slice Ao41 t1367.length co41,.int .i64 t1370] 130 (0,0)) (by (with_reducible repeat (first|refine blk_drewN ?_ _|refine blk_drew ?_|refine blk_alloc ?_ _));exact BK1371.out)):gb1378 ≠ gb1371))
              clear HO_6
              clear HO1364
              clear HO1369
              clear HO1374
              clear BK1353
              clear BK1359
              clear BK1366
              clear BK1371
              clear HB
              have HO_6:=n0_
              have HO1364:=n1_
              have HO1369:=n2_
              have HO1374:=n3_
              have BK1353:=n4_
              have BK1359:=n5_
              have BK1366:=n6_
              have BK1371:=n7_
              have HB:=n8_
              have BK1378:=n9_
              have GW1378:=n10_
              have GE1378:=n11_
              have NB1353_1378:=n12_
              have NB1378_1353:=n13_
              have NB1359_1378:=n14_
              have NB1378_1359:=n15_
              have NB1366_1378:=n16_
              have NB1378_1366:=n17_
              have NB1371_1378:=n18_
              have NB1378_1371:=n19_
              clear n0_ n1_ n2_ n3_ n4_ n5_ n6_ n7_ n8_ n9_ n10_ n11_ n12_ n13_ n14_ n15_ n16_ n17_ n18_ n19_
              clear hb hbox hg
              refine hK.out _ _ ⟨(blk_cell BK1371.out 0).trans rfl,(blk_cell BK1371.out 1).trans rfl⟩ (fun hHeld=>?_)
              clear hK K
              refine norm_ (a':=?_) ?_ ?_
              rotate_left
              ·show Act.put _ (some 12) _ = _
               simp only [Act.put,List.setIfInBounds_toArray,List.set_cons_zero,List.set_cons_succ,i64_w,i32_w]
               rfl
              refine one_ (i:=8) (N:=some 55) #[true,true,true,true,true,true,true,true,true,true,false] rfl rfl (one_of HT_.out (by kernel_rfl)) (by decide) (fun K hK=>?_)
              refine goes_ Try.func78 (by kernel_rfl) rfl #[.int .i64 t1375,.int .i64 t1370] (by rfl) rfl rfl (by (try simp only [List.map_toArray,List.map_cons,List.map_nil]);first|done|rfl|(simp only [List.length_drop,List.length_take];rfl)) ?_
              with_reducible refine (impl_shareOf.calls k2 t1375 t1370 t1376 t1377 _ A28.out).mono ?_
              rintro e w53 ⟨rfl,hb⟩
              refine ⟨_,rfl,?_⟩
              have n0_:=Aside0.mk (Kd.R_below (by (with_reducible repeat (first|apply Kd.R_alloc|apply Kd.R_drewN|apply Kd.R_drew));exact HO_6.out) hb)
              have n1_:=Aside0.mk (Kd.R_below (by (with_reducible repeat (first|apply Kd.R_alloc|apply Kd.R_drewN|apply Kd.R_drew));exact HO1364.out) hb)
              have n2_:=Aside0.mk (Kd.R_below (by (with_reducible repeat (first|apply Kd.R_alloc|apply Kd.R_drewN|apply Kd.R_drew));exact HO1369.out) hb)
              have n3_:=Aside0.mk (Kd.R_below (by (with_reducible repeat (first|apply Kd.R_alloc|apply Kd.R_drewN|apply Kd.R_drew));exact HO1374.out) hb)
              have n4_:=Aside0.mk (blk_below (g:=gb1353) (o:=.cells #[.int .i64 a0_0,.slice (some ad1360) l0_1.length c0_1] 26 (0,0)) (by (with_reducible repeat (first|refine blk_drewN ?_ _|refine blk_drew ?_|refine blk_alloc ?_ _));exact BK1353.out) hb)
              have n5_:=Aside0.mk (blk_below (g:=gb1359) (o:=.cells #[.int .i64 x1360000_2,.int .i64 x1360001_2] 91 (0,0)) (by (with_reducible repeat (first|refine blk_drewN ?_ _|refine blk_drew ?_|refine blk_alloc ?_ _));exact BK1359.out) hb)
              have n6_:=Aside0.mk (blk_below (g:=gb1366) (o:=.cells #[.int .i64 t1361,.slice Ao38 t1362.length co38] 26 (0,0)) (by (with_reducible repeat (first|refine blk_drewN ?_ _|refine blk_drew ?_|refine blk_alloc ?_ _));exact BK1366.out) hb)
              have n7_:=Aside0.mk (blk_below (g:=gb1371) (o:=.cells #[.slice Ao41 t1367.length co41,.int .i64 t1370] 130 (0,0)) (by (with_reducible repeat (first|refine blk_drewN ?_ _|refine blk_drew ?_|refine blk_alloc ?_ _));exact BK1371.out) hb)
              have n8_:=Aside0.mk (blk_below (g:=gb1378) (o:=.cells #[.int .i64 0,.int .i64 0] 91 (0,0)) (by (with_reducible repeat (first|refine blk_drewN ?_ _|refine blk_drew ?_|refine blk_alloc ?_ _));exact BK1378.out) hb)
              have n9_:=Aside0.mk (below_step (by repeat (first|(with_reducible first|exact HB.out|apply below_alloc|apply pw_below_drewN|apply below_drew1|refine below_set ?_ GE1353.out|refine below_set ?_ GE1359.out|refine below_set ?_ GE1366.out|refine below_set ?_ GE1371.out|refine below_set ?_ GE1378.out)|exact HB.out)) hb)
              clear HO_6
              clear HO1364
              clear HO1369
              clear HO1374
              clear BK1353
              clear BK1359
              clear BK1366
              clear BK1371
              clear BK1378
              clear HB
              have HO_6:=n0_
              have HO1364:=n1_
              have HO1369:=n2_
              have HO1374:=n3_
              have BK1353:=n4_
              have BK1359:=n5_
              have BK1366:=n6_
              have BK1371:=n7_
              have BK1378:=n8_
              have HB:=n9_
              clear n0_ n1_ n2_ n3_ n4_ n5_ n6_ n7_ n8_ n9_
              (try clear hb)
              (try clear hb2)
              (try clear hk)
              (try clear hi)
              refine hK.out _ _ ⟨(blk_cell BK1371.out 0).trans rfl,(blk_cell BK1371.out 1).trans rfl⟩ (fun hHeld=>?_)
              clear hK K
              refine norm_ (a':=?_) ?_ ?_
              rotate_left
              ·show Act.put _ (some 55) _ = _
               simp only [Act.put,List.setIfInBounds_toArray,List.set_cons_zero,List.set_cons_succ,i64_w,i32_w]
               rfl
              exact norm_ (by simp only [putAll,Act.put,List.setIfInBounds_toArray,List.set_cons_zero,List.set_cons_succ]) (hCont (.slice Ao50 y1372.length co50,gb1378) _ ⟨hHeld,(by (with_reducible repeat (first|apply Kd.R_alloc|apply Kd.R_drewN|apply Kd.R_drew));exact Kd.R_mono HO1364.out (fun _ hk=>⟨hk.1.2,⟨hk.2,hk.1.1⟩⟩)),(by (with_reducible repeat (first|apply Kd.R_alloc|apply Kd.R_drewN|apply Kd.R_drew));exact Kd.R_mono HO1369.out (fun _ hk=>⟨hk.1.2,⟨hk.2,hk.1.1⟩⟩)),(by (with_reducible repeat (first|apply Kd.R_alloc|apply Kd.R_drewN|apply Kd.R_drew));exact Kd.R_mono HO1374.out (fun _ hk=>⟨hk.1.2,⟨hk.2,hk.1.1.2⟩⟩)),(by (with_reducible repeat (first|apply Kd.R_alloc|apply Kd.R_drewN|apply Kd.R_drew));exact Kd.R_mono HO_6.out (fun _ hk=>⟨hk.1.1,⟨hk.1.2,hk.2⟩⟩)),(by (with_reducible repeat (first|refine blk_drewN ?_ _|refine blk_drew ?_|refine blk_alloc ?_ _));exact BK1353.out),(by (with_reducible repeat (first|refine blk_drewN ?_ _|refine blk_drew ?_|refine blk_alloc ?_ _));exact BK1359.out),(by (with_reducible repeat (first|refine blk_drewN ?_ _|refine blk_drew ?_|refine blk_alloc ?_ _));exact BK1366.out),(by (with_reducible repeat (first|refine blk_drewN ?_ _|refine blk_drew ?_|refine blk_alloc ?_ _));exact BK1371.out),(by (with_reducible repeat (first|refine blk_drewN ?_ _|refine blk_drew ?_|refine blk_alloc ?_ _));exact BK1378.out),GW1378.out,GE1378.out,NB1353_1378.out,NB1378_1353.out,NB1359_1378.out,NB1378_1359.out,NB1366_1378.out,NB1378_1366.out,NB1371_1378.out,NB1378_1371.out,(by repeat (first|(with_reducible first|exact HB.out|apply below_alloc|apply pw_below_drewN|apply below_drew1|refine below_set ?_ GE1353.out|refine below_set ?_ GE1359.out|refine below_set ?_ GE1366.out|refine below_set ?_ GE1371.out|refine below_set ?_ GE1378.out)|exact HB.out))⟩)
            ·skip
             refine box_step ?hg (N:=12) ?hd (cs:=#[.int .i64 0,.int .i64 0]) (t:=91) ?hr ?_;(case hd=>rfl);(case hg=>rfl);(case hr=>first|(go_simp;done)|(go_simp;rfl))
             intro gb1378 hg w50 hbox hb
             have n0_:=Aside0.mk (Kd.R_below (by (with_reducible repeat (first|apply Kd.R_alloc|apply Kd.R_drewN|apply Kd.R_drew));exact HO_6.out) hb)
             have n1_:=Aside0.mk (Kd.R_below (by (with_reducible repeat (first|apply Kd.R_alloc|apply Kd.R_drewN|apply Kd.R_drew));exact HO1364.out) hb)
             have n2_:=Aside0.mk (Kd.R_below (by (with_reducible repeat (first|apply Kd.R_alloc|apply Kd.R_drewN|apply Kd.R_drew));exact HO1369.out) hb)
             have n3_:=Aside0.mk (Kd.R_below (by (with_reducible repeat (first|apply Kd.R_alloc|apply Kd.R_drewN|apply Kd.R_drew));exact HO1374.out) hb)
             have n4_:=Aside0.mk (blk_below (g:=gb1353) (o:=.cells #[.int .i64 a0_0,.slice (some ad1360) l0_1.length c0_1] 26 (0,0)) (by (with_reducible repeat (first|refine blk_drewN ?_ _|refine blk_drew ?_|refine blk_alloc ?_ _));exact BK1353.out) hb)
             have n5_:=Aside0.mk (blk_below (g:=gb1359) (o:=.cells #[.int .i64 x1360000_2,.int .i64 x1360001_2] 91 (0,0)) (by (with_reducible repeat (first|refine blk_drewN ?_ _|refine blk_drew ?_|refine blk_alloc ?_ _));exact BK1359.out) hb)
             have n6_:=Aside0.mk (blk_below (g:=gb1366) (o:=.cells #[.int .i64 t1361,.slice Ao38 t1362.length co38] 26 (0,0)) (by (with_reducible repeat (first|refine blk_drewN ?_ _|refine blk_drew ?_|refine blk_alloc ?_ _));exact BK1366.out) hb)
             have n7_:=Aside0.mk (blk_below (g:=gb1371) (o:=.cells #[.slice Ao41 t1367.length co41,.int .i64 t1370] 130 (0,0)) (by (with_reducible repeat (first|refine blk_drewN ?_ _|refine blk_drew ?_|refine blk_alloc ?_ _));exact BK1371.out) hb)
             have n8_:=Aside0.mk (below_step (by repeat (first|(with_reducible first|exact HB.out|apply below_alloc|apply pw_below_drewN|apply below_drew1|refine below_set ?_ GE1353.out|refine below_set ?_ GE1359.out|refine below_set ?_ GE1366.out|refine below_set ?_ GE1371.out)|exact HB.out)) hb)
             have n9_:=Aside0.mk (hbox)
             have n10_:=Aside0.mk ((by rw [hg];exact (below_size (by repeat (first|(with_reducible first|exact HB.out|apply below_alloc|apply pw_below_drewN|apply below_drew1|refine below_set ?_ GE1353.out|refine below_set ?_ GE1359.out|refine below_set ?_ GE1366.out|refine below_set ?_ GE1371.out)|exact HB.out))):w.heap.size ≤ gb1378))
             have n11_:=Aside0.mk ((by rw [hg];exact (below_size (by repeat (first|(with_reducible first|exact HB.out|apply below_alloc|apply pw_below_drewN|apply below_drew1|refine below_set ?_ GE1353.out|refine below_set ?_ GE1359.out|refine below_set ?_ GE1366.out|refine below_set ?_ GE1371.out)|exact HB.out))):w.heap.size ≤ gb1378))
             have n12_:=Aside0.mk ((by rw [hg];exact Nat.ne_of_lt (blk_lt (g:=gb1353) (o:=.cells #[.int .i64 a0_0,.slice (some ad1360) l0_1.length c0_1] 26 (0,0)) (by (with_reducible repeat (first|refine blk_drewN ?_ _|refine blk_drew ?_|refine blk_alloc ?_ _));exact BK1353.out)):gb1353 ≠ gb1378))
             have n13_:=Aside0.mk ((by rw [hg];exact Nat.ne_of_gt (blk_lt (g:=gb1353) (o:=.cells #[.int .i64 a0_0,.slice (some ad1360) l0_1.length c0_1] 26 (0,0)) (by (with_reducible repeat (first|refine blk_drewN ?_ _|refine blk_drew ?_|refine blk_alloc ?_ _));exact BK1353.out)):gb1378 ≠ gb1353))
             have n14_:=Aside0.mk ((by rw [hg];exact Nat.ne_of_lt (blk_lt (g:=gb1359) (o:=.cells #[.int .i64 x1360000_2,.int .i64 x1360001_2] 91 (0,0)) (by (with_reducible repeat (first|refine blk_drewN ?_ _|refine blk_drew ?_|refine blk_alloc ?_ _));exact BK1359.out)):gb1359 ≠ gb1378))
             have n15_:=Aside0.mk ((by rw [hg];exact Nat.ne_of_gt (blk_lt (g:=gb1359) (o:=.cells #[.int .i64 x1360000_2,.int .i64 x1360001_2] 91 (0,0)) (by (with_reducible repeat (first|refine blk_drewN ?_ _|refine blk_drew ?_|refine blk_alloc ?_ _));exact BK1359.out)):gb1378 ≠ gb1359))
             have n16_:=Aside0.mk ((by rw [hg];exact Nat.ne_of_lt (blk_lt (g:=gb1366) (o:=.cells #[.int .i64 t1361,.slice Ao38 t1362.length co38] 26 (0,0)) (by (with_reducible repeat (first|refine blk_drewN ?_ _|refine blk_drew ?_|refine blk_alloc ?_ _));exact BK1366.out)):gb1366 ≠ gb1378))
             have n17_:=Aside0.mk ((by rw [hg];exact Nat.ne_of_gt (blk_lt (g:=gb1366) (o:=.cells #[.int .i64 t1361,.slice Ao38 t1362.length co38] 26 (0,0)) (by (with_reducible repeat (first|refine blk_drewN ?_ _|refine blk_drew ?_|refine blk_alloc ?_ _));exact BK1366.out)):gb1378 ≠ gb1366))
             have n18_:=Aside0.mk ((by rw [hg];exact Nat.ne_of_lt (blk_lt (g:=gb1371) (o:=.cells #[.slice Ao41 t1367.length co41,.int .i64 t1370] 130 (0,0)) (by (with_reducible repeat (first|refine blk_drewN ?_ _|refine blk_drew ?_|refine blk_alloc ?_ _));exact BK1371.out)):gb1371 ≠ gb1378))
             have n19_:=Aside0.mk ((by rw [hg];exact Nat.ne_of_gt (blk_lt (g:=gb1371) (o:=.cells #[.slice Ao41 t1367.length co41,.int .i64 t1370] 130 (0,0)) (by (with_reducible repeat (first|refine blk_drewN ?_ _|refine blk_drew ?_|refine blk_alloc ?_ _));exact BK1371.out)):gb1378 ≠ gb1371))
             clear HO_6
             clear HO1364
             clear HO1369
             clear HO1374
             clear BK1353
             clear BK1359
             clear BK1366
             clear BK1371
             clear HB
             have HO_6:=n0_
             have HO1364:=n1_
             have HO1369:=n2_
             have HO1374:=n3_
             have BK1353:=n4_
             have BK1359:=n5_
             have BK1366:=n6_
             have BK1371:=n7_
             have HB:=n8_
             have BK1378:=n9_
             have GW1378:=n10_
             have GE1378:=n11_
             have NB1353_1378:=n12_
             have NB1378_1353:=n13_
             have NB1359_1378:=n14_
             have NB1378_1359:=n15_
             have NB1366_1378:=n16_
             have NB1378_1366:=n17_
             have NB1371_1378:=n18_
             have NB1378_1371:=n19_
             clear n0_ n1_ n2_ n3_ n4_ n5_ n6_ n7_ n8_ n9_ n10_ n11_ n12_ n13_ n14_ n15_ n16_ n17_ n18_ n19_
             clear hb hbox hg
             obtain ⟨Ao51,co51,eo51⟩:=Kd.R_slice HO1374.out
             (first|subst eo51|(injection eo51 with f1_ f2_ f3_;have f4_:=f1_.symm;have f5_:=f3_.symm;clear f1_ f2_ f3_;subst f4_;subst f5_))
             refine hK.out _ _ ⟨(blk_cell BK1371.out 0).trans rfl,(blk_cell BK1371.out 1).trans rfl⟩ (fun hHeld=>?_)
             clear hK K
             refine norm_ (a':=?_) ?_ ?_
             rotate_left
             ·show Act.put _ (some 12) _ = _
              simp only [Act.put,List.setIfInBounds_toArray,List.set_cons_zero,List.set_cons_succ,i64_w,i32_w]
              rfl
             refine one_ (i:=5) (N:=some 52) #[true,true,true,true,true,true,true,true,false,true,false] rfl rfl (one_of HT_.out (by kernel_rfl)) (by decide) (fun K hK=>?_)
             refine goes_ Try.func128 (by kernel_rfl) rfl #[.agg #[.slice Ao41 t1367.length co41,.int .i64 t1370],.slice Ao51 y1372.length co51] (by rfl) rfl rfl (by (try simp only [List.map_toArray,List.map_cons,List.map_nil]);first|done|rfl|(simp only [List.length_drop,List.length_take];rfl)) ?_
             with_reducible refine (impl_powers_of.calls k2 _ _ t1367 t1370 _ _ y1372 t1375 _ ?side1 ?side2 ?side3 ?side4 A27.out).mono ?_
             (case side1=>repeat (first|exact (Kd.R_reads' HO1369.out).2.2|(with_reducible refine Kd.C_alloc ?_ _)|(with_reducible refine Kd.C_drewN ?_ _)|(with_reducible refine Kd.C_drew ?_)))
             (case side2=>exact (Kd.R_reads' HO1369.out).2.1)
             (case side3=>repeat (first|exact (Kd.R_reads' HO1374.out).2.2|(with_reducible refine Kd.C_alloc ?_ _)|(with_reducible refine Kd.C_drewN ?_ _)|(with_reducible refine Kd.C_drew ?_)))
             (case side4=>exact (Kd.R_reads' HO1374.out).2.1)
             rintro e w52 ⟨rfl,hb⟩
             refine ⟨_,rfl,?_⟩
             have n0_:=Aside0.mk (Kd.R_below (by (with_reducible repeat (first|apply Kd.R_alloc|apply Kd.R_drewN|apply Kd.R_drew));exact HO_6.out) hb)
             have n1_:=Aside0.mk (Kd.R_below (by (with_reducible repeat (first|apply Kd.R_alloc|apply Kd.R_drewN|apply Kd.R_drew));exact HO1364.out) hb)
             have n2_:=Aside0.mk (Kd.R_below (by (with_reducible repeat (first|apply Kd.R_alloc|apply Kd.R_drewN|apply Kd.R_drew));exact HO1369.out) hb)
             have n3_:=Aside0.mk (Kd.R_below (by (with_reducible repeat (first|apply Kd.R_alloc|apply Kd.R_drewN|apply Kd.R_drew));exact HO1374.out) hb)
             have n4_:=Aside0.mk (blk_below (g:=gb1353) (o:=.cells #[.int .i64 a0_0,.slice (some ad1360) l0_1.length c0_1] 26 (0,0)) (by (with_reducible repeat (first|refine blk_drewN ?_ _|refine blk_drew ?_|refine blk_alloc ?_ _));exact BK1353.out) hb)
             have n5_:=Aside0.mk (blk_below (g:=gb1359) (o:=.cells #[.int .i64 x1360000_2,.int .i64 x1360001_2] 91 (0,0)) (by (with_reducible repeat (first|refine blk_drewN ?_ _|refine blk_drew ?_|refine blk_alloc ?_ _));exact BK1359.out) hb)
             have n6_:=Aside0.mk (blk_below (g:=gb1366) (o:=.cells #[.int .i64 t1361,.slice Ao38 t1362.length co38] 26 (0,0)) (by (with_reducible repeat (first|refine blk_drewN ?_ _|refine blk_drew ?_|refine blk_alloc ?_ _));exact BK1366.out) hb)
             have n7_:=Aside0.mk (blk_below (g:=gb1371) (o:=.cells #[.slice Ao41 t1367.length co41,.int .i64 t1370] 130 (0,0)) (by (with_reducible repeat (first|refine blk_drewN ?_ _|refine blk_drew ?_|refine blk_alloc ?_ _));exact BK1371.out) hb)
             have n8_:=Aside0.mk (blk_below (g:=gb1378) (o:=.cells #[.int .i64 0,.int .i64 0] 91 (0,0)) (by (with_reducible repeat (first|refine blk_drewN ?_ _|refine blk_drew ?_|refine blk_alloc ?_ _));exact BK1378.out) hb)
             have n9_:=Aside0.mk (below_step (by repeat (first|(with_reducible first|exact HB.out|apply below_alloc|apply pw_below_drewN|apply below_drew1|refine below_set ?_ GE1353.out|refine below_set ?_ GE1359.out|refine below_set ?_ GE1366.out|refine below_set ?_ GE1371.out|refine below_set ?_ GE1378.out)|exact HB.out)) hb)
             clear HO_6
             clear HO1364
             clear HO1369
             clear HO1374
             clear BK1353
             clear BK1359
             clear BK1366
             clear BK1371
             clear BK1378
             clear HB
             have HO_6:=n0_
             have HO1364:=n1_
             have HO1369:=n2_
             have HO1374:=n3_
             have BK1353:=n4_
             have BK1359:=n5_
             have BK1366:=n6_
             have BK1371:=n7_
             have BK1378:=n8_
             have HB:=n9_
             clear n0_ n1_ n2_ n3_ n4_ n5_ n6_ n7_ n8_ n9_
             (try clear hb)
             (try clear hb2)
             (try clear hk)
             (try clear hi)
             refine hK.out _ _ ⟨(blk_cell BK1371.out 0).trans rfl,(blk_cell BK1371.out 1).trans rfl⟩ (fun hHeld=>?_)
             clear hK K
             refine norm_ (a':=?_) ?_ ?_
             rotate_left
             ·show Act.put _ (some 52) _ = _
              simp only [Act.put,List.setIfInBounds_toArray,List.set_cons_zero,List.set_cons_succ,i64_w,i32_w]
              rfl
             refine one_ (i:=8) (N:=some 55) #[true,true,true,true,true,true,true,true,true,true,false] rfl rfl (one_of HT_.out (by kernel_rfl)) (by decide) (fun K hK=>?_)
             refine goes_ Try.func78 (by kernel_rfl) rfl #[.int .i64 t1375,.int .i64 t1370] (by rfl) rfl rfl (by (try simp only [List.map_toArray,List.map_cons,List.map_nil]);first|done|rfl|(simp only [List.length_drop,List.length_take];rfl)) ?_
             with_reducible refine (impl_shareOf.calls k2 t1375 t1370 t1376 t1377 _ A28.out).mono ?_
             rintro e w53 ⟨rfl,hb⟩
             refine ⟨_,rfl,?_⟩
             have n0_:=Aside0.mk (Kd.R_below (by (with_reducible repeat (first|apply Kd.R_alloc|apply Kd.R_drewN|apply Kd.R_drew));exact HO_6.out) hb)
             have n1_:=Aside0.mk (Kd.R_below (by (with_reducible repeat (first|apply Kd.R_alloc|apply Kd.R_drewN|apply Kd.R_drew));exact HO1364.out) hb)
             have n2_:=Aside0.mk (Kd.R_below (by (with_reducible repeat (first|apply Kd.R_alloc|apply Kd.R_drewN|apply Kd.R_drew));exact HO1369.out) hb)
             have n3_:=Aside0.mk (Kd.R_below (by (with_reducible repeat (first|apply Kd.R_alloc|apply Kd.R_drewN|apply Kd.R_drew));exact HO1374.out) hb)
             have n4_:=Aside0.mk (blk_below (g:=gb1353) (o:=.cells #[.int .i64 a0_0,.slice (some ad1360) l0_1.length c0_1] 26 (0,0)) (by (with_reducible repeat (first|refine blk_drewN ?_ _|refine blk_drew ?_|refine blk_alloc ?_ _));exact BK1353.out) hb)
             have n5_:=Aside0.mk (blk_below (g:=gb1359) (o:=.cells #[.int .i64 x1360000_2,.int .i64 x1360001_2] 91 (0,0)) (by (with_reducible repeat (first|refine blk_drewN ?_ _|refine blk_drew ?_|refine blk_alloc ?_ _));exact BK1359.out) hb)
             have n6_:=Aside0.mk (blk_below (g:=gb1366) (o:=.cells #[.int .i64 t1361,.slice Ao38 t1362.length co38] 26 (0,0)) (by (with_reducible repeat (first|refine blk_drewN ?_ _|refine blk_drew ?_|refine blk_alloc ?_ _));exact BK1366.out) hb)
             have n7_:=Aside0.mk (blk_below (g:=gb1371) (o:=.cells #[.slice Ao41 t1367.length co41,.int .i64 t1370] 130 (0,0)) (by (with_reducible repeat (first|refine blk_drewN ?_ _|refine blk_drew ?_|refine blk_alloc ?_ _));exact BK1371.out) hb)
             have n8_:=Aside0.mk (blk_below (g:=gb1378) (o:=.cells #[.int .i64 0,.int .i64 0] 91 (0,0)) (by (with_reducible repeat (first|refine blk_drewN ?_ _|refine blk_drew ?_|refine blk_alloc ?_ _));exact BK1378.out) hb)
             have n9_:=Aside0.mk (below_step (by repeat (first|(with_reducible first|exact HB.out|apply below_alloc|apply pw_below_drewN|apply below_drew1|refine below_set ?_ GE1353.out|refine below_set ?_ GE1359.out|refine below_set ?_ GE1366.out|refine below_set ?_ GE1371.out|refine below_set ?_ GE1378.out)|exact HB.out)) hb)
             clear HO_6
             clear HO1364
             clear HO1369
             clear HO1374
             clear BK1353
             clear BK1359
             clear BK1366
             clear BK1371
             clear BK1378
             clear HB
             have HO_6:=n0_
             have HO1364:=n1_
             have HO1369:=n2_
             have HO1374:=n3_
             have BK1353:=n4_
             have BK1359:=n5_
             have BK1366:=n6_
             have BK1371:=n7_
             have BK1378:=n8_
             have HB:=n9_
             clear n0_ n1_ n2_ n3_ n4_ n5_ n6_ n7_ n8_ n9_
             (try clear hb)
             (try clear hb2)
             (try clear hk)
             (try clear hi)
             refine hK.out _ _ ⟨(blk_cell BK1371.out 0).trans rfl,(blk_cell BK1371.out 1).trans rfl⟩ (fun hHeld=>?_)
             clear hK K
             refine norm_ (a':=?_) ?_ ?_
             rotate_left
             ·show Act.put _ (some 55) _ = _
              simp only [Act.put,List.setIfInBounds_toArray,List.set_cons_zero,List.set_cons_succ,i64_w,i32_w]
              rfl
             exact norm_ (by simp only [putAll,Act.put,List.setIfInBounds_toArray,List.set_cons_zero,List.set_cons_succ]) (hCont (.slice Ao51 y1372.length co51,gb1378) _ ⟨hHeld,(by (with_reducible repeat (first|apply Kd.R_alloc|apply Kd.R_drewN|apply Kd.R_drew));exact Kd.R_mono HO1364.out (fun _ hk=>⟨hk.1.2,⟨hk.2,hk.1.1⟩⟩)),(by (with_reducible repeat (first|apply Kd.R_alloc|apply Kd.R_drewN|apply Kd.R_drew));exact Kd.R_mono HO1369.out (fun _ hk=>⟨hk.1.2,⟨hk.2,hk.1.1⟩⟩)),(by (with_reducible repeat (first|apply Kd.R_alloc|apply Kd.R_drewN|apply Kd.R_drew));exact Kd.R_mono HO1374.out (fun _ hk=>⟨hk.1.2,⟨hk.2,hk.1.1.2⟩⟩)),(by (with_reducible repeat (first|apply Kd.R_alloc|apply Kd.R_drewN|apply Kd.R_drew));exact Kd.R_mono HO_6.out (fun _ hk=>⟨hk.1.1,⟨hk.1.2,hk.2⟩⟩)),(by (with_reducible repeat (first|refine blk_drewN ?_ _|refine blk_drew ?_|refine blk_alloc ?_ _));exact BK1353.out),(by (with_reducible repeat (first|refine blk_drewN ?_ _|refine blk_drew ?_|refine blk_alloc ?_ _));exact BK1359.out),(by (with_reducible repeat (first|refine blk_drewN ?_ _|refine blk_drew ?_|refine blk_alloc ?_ _));exact BK1366.out),(by (with_reducible repeat (first|refine blk_drewN ?_ _|refine blk_drew ?_|refine blk_alloc ?_ _));exact BK1371.out),(by (with_reducible repeat (first|refine blk_drewN ?_ _|refine blk_drew ?_|refine blk_alloc ?_ _));exact BK1378.out),GW1378.out,GE1378.out,NB1353_1378.out,NB1378_1353.out,NB1359_1378.out,NB1378_1359.out,NB1366_1378.out,NB1378_1366.out,NB1371_1378.out,NB1378_1371.out,(by repeat (first|(with_reducible first|exact HB.out|apply below_alloc|apply pw_below_drewN|apply below_drew1|refine below_set ?_ GE1353.out|refine below_set ?_ GE1359.out|refine below_set ?_ GE1366.out|refine below_set ?_ GE1371.out|refine below_set ?_ GE1378.out)|exact HB.out))⟩)
           ·skip
            refine box_step ?hg (N:=12) ?hd (cs:=#[.int .i64 0,.int .i64 0]) (t:=91) ?hr ?_;(case hd=>rfl);(case hg=>rfl);(case hr=>first|(go_simp;done)|(go_simp;rfl))
            intro gb1378 hg w48 hbox hb
            have n0_:=Aside0.mk (Kd.R_below (by (with_reducible repeat (first|apply Kd.R_alloc|apply Kd.R_drewN|apply Kd.R_drew));exact HO_6.out) hb)
            have n1_:=Aside0.mk (Kd.R_below (by (with_reducible repeat (first|apply Kd.R_alloc|apply Kd.R_drewN|apply Kd.R_drew));exact HO1364.out) hb)
            have n2_:=Aside0.mk (Kd.R_below (by (with_reducible repeat (first|apply Kd.R_alloc|apply Kd.R_drewN|apply Kd.R_drew));exact HO1369.out) hb)
            have n3_:=Aside0.mk (blk_below (g:=gb1353) (o:=.cells #[.int .i64 a0_0,.slice (some ad1360) l0_1.length c0_1] 26 (0,0)) (by (with_reducible repeat (first|refine blk_drewN ?_ _|refine blk_drew ?_|refine blk_alloc ?_ _));exact BK1353.out) hb)
            have n4_:=Aside0.mk (blk_below (g:=gb1359) (o:=.cells #[.int .i64 x1360000_2,.int .i64 x1360001_2] 91 (0,0)) (by (with_reducible repeat (first|refine blk_drewN ?_ _|refine blk_drew ?_|refine blk_alloc ?_ _));exact BK1359.out) hb)
            have n5_:=Aside0.mk (blk_below (g:=gb1366) (o:=.cells #[.int .i64 t1361,.slice Ao38 t1362.length co38] 26 (0,0)) (by (with_reducible repeat (first|refine blk_drewN ?_ _|refine blk_drew ?_|refine blk_alloc ?_ _));exact BK1366.out) hb)
            have n6_:=Aside0.mk (blk_below (g:=gb1371) (o:=.cells #[.slice Ao41 t1367.length co41,.int .i64 t1370] 130 (0,0)) (by (with_reducible repeat (first|refine blk_drewN ?_ _|refine blk_drew ?_|refine blk_alloc ?_ _));exact BK1371.out) hb)
            have n7_:=Aside0.mk (below_step (by repeat (first|(with_reducible first|exact HB.out|apply below_alloc|apply pw_below_drewN|apply below_drew1|refine below_set ?_ GE1353.out|refine below_set ?_ GE1359.out|refine below_set ?_ GE1366.out|refine below_set ?_ GE1371.out)|exact HB.out)) hb)
            have n8_:=Aside0.mk (hbox)
            have n9_:=Aside0.mk ((by rw [hg];exact (below_size (by repeat (first|(with_reducible first|exact HB.out|apply below_alloc|apply pw_below_drewN|apply below_drew1|refine below_set ?_ GE1353.out|refine below_set ?_ GE1359.out|refine below_set ?_ GE1366.out|refine below_set ?_ GE1371.out)|exact HB.out))):w.heap.size ≤ gb1378))
            have n10_:=Aside0.mk ((by rw [hg];exact (below_size (by repeat (first|(with_reducible first|exact HB.out|apply below_alloc|apply pw_below_drewN|apply below_drew1|refine below_set ?_ GE1353.out|refine below_set ?_ GE1359.out|refine below_set ?_ GE1366.out|refine below_set ?_ GE1371.out)|exact HB.out))):w.heap.size ≤ gb1378))
            have n11_:=Aside0.mk ((by rw [hg];exact Nat.ne_of_lt (blk_lt (g:=gb1353) (o:=.cells #[.int .i64 a0_0,.slice (some ad1360) l0_1.length c0_1] 26 (0,0)) (by (with_reducible repeat (first|refine blk_drewN ?_ _|refine blk_drew ?_|refine blk_alloc ?_ _));exact BK1353.out)):gb1353 ≠ gb1378))
            have n12_:=Aside0.mk ((by rw [hg];exact Nat.ne_of_gt (blk_lt (g:=gb1353) (o:=.cells #[.int .i64 a0_0,.slice (some ad1360) l0_1.length c0_1] 26 (0,0)) (by (with_reducible repeat (first|refine blk_drewN ?_ _|refine blk_drew ?_|refine blk_alloc ?_ _));exact BK1353.out)):gb1378 ≠ gb1353))
            have n13_:=Aside0.mk ((by rw [hg];exact Nat.ne_of_lt (blk_lt (g:=gb1359) (o:=.cells #[.int .i64 x1360000_2,.int .i64 x1360001_2] 91 (0,0)) (by (with_reducible repeat (first|refine blk_drewN ?_ _|refine blk_drew ?_|refine blk_alloc ?_ _));exact BK1359.out)):gb1359 ≠ gb1378))
            have n14_:=Aside0.mk ((by rw [hg];exact Nat.ne_of_gt (blk_lt (g:=gb1359) (o:=.cells #[.int .i64 x1360000_2,.int .i64 x1360001_2] 91 (0,0)) (by (with_reducible repeat (first|refine blk_drewN ?_ _|refine blk_drew ?_|refine blk_alloc ?_ _));exact BK1359.out)):gb1378 ≠ gb1359))
            have n15_:=Aside0.mk ((by rw [hg];exact Nat.ne_of_lt (blk_lt (g:=gb1366) (o:=.cells #[.int .i64 t1361,.slice Ao38 t1362.length co38] 26 (0,0)) (by (with_reducible repeat (first|refine blk_drewN ?_ _|refine blk_drew ?_|refine blk_alloc ?_ _));exact BK1366.out)):gb1366 ≠ gb1378))
            have n16_:=Aside0.mk ((by rw [hg];exact Nat.ne_of_gt (blk_lt (g:=gb1366) (o:=.cells #[.int .i64 t1361,.slice Ao38 t1362.length co38] 26 (0,0)) (by (with_reducible repeat (first|refine blk_drewN ?_ _|refine blk_drew ?_|refine blk_alloc ?_ _));exact BK1366.out)):gb1378 ≠ gb1366))
            have n17_:=Aside0.mk ((by rw [hg];exact Nat.ne_of_lt (blk_lt (g:=gb1371) (o:=.cells #[.slice Ao41 t1367.length co41,.int .i64 t1370] 130 (0,0)) (by (with_reducible repeat (first|refine blk_drewN ?_ _|refine blk_drew ?_|refine blk_alloc ?_ _));exact BK1371.out)):gb1371 ≠ gb1378))
            have n18_:=Aside0.mk ((by rw [hg];exact Nat.ne_of_gt (blk_lt (g:=gb1371) (o:=.cells #[.slice Ao41 t1367.length co41,.int .i64 t1370] 130 (0,0)) (by (with_reducible repeat (first|refine blk_drewN ?_ _|refine blk_drew ?_|refine blk_alloc ?_ _));exact BK1371.out)):gb1378 ≠ gb1371))
            clear HO_6
            clear HO1364
            clear HO1369
            clear BK1353
            clear BK1359
            clear BK1366
            clear BK1371
            clear HB
            have HO_6:=n0_
            have HO1364:=n1_
            have HO1369:=n2_
            have BK1353:=n3_
            have BK1359:=n4_
            have BK1366:=n5_
            have BK1371:=n6_
            have HB:=n7_
            have BK1378:=n8_
            have GW1378:=n9_
            have GE1378:=n10_
            have NB1353_1378:=n11_
            have NB1378_1353:=n12_
            have NB1359_1378:=n13_
            have NB1378_1359:=n14_
            have NB1366_1378:=n15_
            have NB1378_1366:=n16_
            have NB1371_1378:=n17_
            have NB1378_1371:=n18_
            clear n0_ n1_ n2_ n3_ n4_ n5_ n6_ n7_ n8_ n9_ n10_ n11_ n12_ n13_ n14_ n15_ n16_ n17_ n18_
            clear hb hbox hg
            refine hK.out _ _ ⟨(blk_cell BK1371.out 0).trans rfl,(blk_cell BK1371.out 1).trans rfl⟩ (fun hHeld=>?_)
            clear hK K
            refine norm_ (a':=?_) ?_ ?_
            rotate_left
            ·show Act.put _ (some 12) _ = _
             simp only [Act.put,List.setIfInBounds_toArray,List.set_cons_zero,List.set_cons_succ,i64_w,i32_w]
             rfl
            refine one_ (i:=4) (N:=some 51) #[true,true,true,true,true,false,true,true,false,true,false] rfl rfl (one_of HT_.out (by kernel_rfl)) (by decide) (fun K hK=>?_)
            refine Kd.R_lit_step (Kd.int .i64) _ 3 ?hg (N:=51) ?hd (xs:=([a1,wrap64 (a1 + 1)]:List Int)) (inner:=[.int .i64 a1,.int .i64 (wrap64 (a1 + 1))]) (ok:=fun _=>True) (okp:=fun _=>True) ?hr ?hp (fun _ hk=>hk) trivial (Below.refl _ _) (Nat.le_refl _) (by simp) ?_;(case hd=>rfl);(case hg=>rfl);(case hr=>first|(go_simp;done)|(go_simp;rfl));(case hp=>exact (Reps.one (show Kd.M (Kd.int .i64) _ _ _ a1 [.int .i64 a1] from rfl) (Reps.one (show Kd.M (Kd.int .i64) _ _ _ (wrap64 (a1 + 1)) [.int .i64 (wrap64 (a1 + 1))] from rfl) (Reps.none _ _))))
            intro v1373 w49 ho50 hb hg_ hnew_
            clear hg_ hnew_
            (first|rw [← Ny1372.out] at ho50|(simp only [Int.reduceToNat] at ho50;rw [← Ny1372.out] at ho50))
            have n0_:=Aside0.mk (Kd.R_elder' (by (with_reducible repeat (first|apply Kd.R_alloc|apply Kd.R_drewN|apply Kd.R_drew));exact HO_6.out) (Kd.R_base ho50) hb)
            have n1_:=Aside0.mk (Kd.R_elder' (by (with_reducible repeat (first|apply Kd.R_alloc|apply Kd.R_drewN|apply Kd.R_drew));exact HO1364.out) (Kd.R_base ho50) hb)
            have n2_:=Aside0.mk (Kd.R_elder' (by (with_reducible repeat (first|apply Kd.R_alloc|apply Kd.R_drewN|apply Kd.R_drew));exact HO1369.out) (Kd.R_base ho50) hb)
            have n3_:=Aside0.mk (Kd.R_lower (Kd.R_new' (Kd.R_new' (Kd.R_new' ho50 (Kd.R_lt (by (with_reducible repeat (first|apply Kd.R_alloc|apply Kd.R_drewN|apply Kd.R_drew));exact HO_6.out))) (Kd.R_lt (by (with_reducible repeat (first|apply Kd.R_alloc|apply Kd.R_drewN|apply Kd.R_drew));exact HO1364.out))) (Kd.R_lt (by (with_reducible repeat (first|apply Kd.R_alloc|apply Kd.R_drewN|apply Kd.R_drew));exact HO1369.out))) (below_size (by repeat (first|(with_reducible first|exact HB.out|apply below_alloc|apply pw_below_drewN|apply below_drew1|refine below_set ?_ GE1353.out|refine below_set ?_ GE1359.out|refine below_set ?_ GE1366.out|refine below_set ?_ GE1371.out|refine below_set ?_ GE1378.out)|exact HB.out))))
            have n4_:=Aside0.mk (blk_below (g:=gb1353) (o:=.cells #[.int .i64 a0_0,.slice (some ad1360) l0_1.length c0_1] 26 (0,0)) (by (with_reducible repeat (first|refine blk_drewN ?_ _|refine blk_drew ?_|refine blk_alloc ?_ _));exact BK1353.out) hb)
            have n5_:=Aside0.mk (blk_below (g:=gb1359) (o:=.cells #[.int .i64 x1360000_2,.int .i64 x1360001_2] 91 (0,0)) (by (with_reducible repeat (first|refine blk_drewN ?_ _|refine blk_drew ?_|refine blk_alloc ?_ _));exact BK1359.out) hb)
            have n6_:=Aside0.mk (blk_below (g:=gb1366) (o:=.cells #[.int .i64 t1361,.slice Ao38 t1362.length co38] 26 (0,0)) (by (with_reducible repeat (first|refine blk_drewN ?_ _|refine blk_drew ?_|refine blk_alloc ?_ _));exact BK1366.out) hb)
            have n7_:=Aside0.mk (blk_below (g:=gb1371) (o:=.cells #[.slice Ao41 t1367.length co41,.int .i64 t1370] 130 (0,0)) (by (with_reducible repeat (first|refine blk_drewN ?_ _|refine blk_drew ?_|refine blk_alloc ?_ _));exact BK1371.out) hb)
            have n8_:=Aside0.mk (blk_below (g:=gb1378) (o:=.cells #[.int .i64 0,.int .i64 0] 91 (0,0)) (by (with_reducible repeat (first|refine blk_drewN ?_ _|refine blk_drew ?_|refine blk_alloc ?_ _));exact BK1378.out) hb)
            have n9_:=Aside0.mk (below_step (by repeat (first|(with_reducible first|exact HB.out|apply below_alloc|apply pw_below_drewN|apply below_drew1|refine below_set ?_ GE1353.out|refine below_set ?_ GE1359.out|refine below_set ?_ GE1366.out|refine below_set ?_ GE1371.out|refine below_set ?_ GE1378.out)|exact HB.out)) hb)
            clear HO_6
            clear HO1364
            clear HO1369
            clear BK1353
            clear BK1359
            clear BK1366
            clear BK1371
            clear BK1378
            clear HB
            have HO_6:=n0_
            have HO1364:=n1_
            have HO1369:=n2_
            have HO1374:=n3_
            have BK1353:=n4_
            have BK1359:=n5_
            have BK1366:=n6_
            have BK1371:=n7_
            have BK1378:=n8_
            have HB:=n9_
            clear n0_ n1_ n2_ n3_ n4_ n5_ n6_ n7_ n8_ n9_
            clear hb ho50
            obtain ⟨Ao51,co51,eo51⟩:=Kd.R_slice HO1374.out
            (first|subst eo51|(injection eo51 with f1_ f2_ f3_;have f4_:=f1_.symm;have f5_:=f3_.symm;clear f1_ f2_ f3_;subst f4_;subst f5_))
            refine hK.out _ _ ⟨(blk_cell BK1371.out 0).trans rfl,(blk_cell BK1371.out 1).trans rfl⟩ (fun hHeld=>?_)
            clear hK K
            refine norm_ (a':=?_) ?_ ?_
            rotate_left
            ·show Act.put _ (some 51) _ = _
             simp only [Act.put,List.setIfInBounds_toArray,List.set_cons_zero,List.set_cons_succ,i64_w,i32_w]
             rfl
            refine one_ (i:=5) (N:=some 52) #[true,true,true,true,true,true,true,true,false,true,false] rfl rfl (one_of HT_.out (by kernel_rfl)) (by decide) (fun K hK=>?_)
            refine goes_ Try.func128 (by kernel_rfl) rfl #[.agg #[.slice Ao41 t1367.length co41,.int .i64 t1370],.slice Ao51 y1372.length co51] (by rfl) rfl rfl (by (try simp only [List.map_toArray,List.map_cons,List.map_nil]);first|done|rfl|(simp only [List.length_drop,List.length_take];rfl)) ?_
            with_reducible refine (impl_powers_of.calls k2 _ _ t1367 t1370 _ _ y1372 t1375 _ ?side1 ?side2 ?side3 ?side4 A27.out).mono ?_
            (case side1=>repeat (first|exact (Kd.R_reads' HO1369.out).2.2|(with_reducible refine Kd.C_alloc ?_ _)|(with_reducible refine Kd.C_drewN ?_ _)|(with_reducible refine Kd.C_drew ?_)))
            (case side2=>exact (Kd.R_reads' HO1369.out).2.1)
            (case side3=>repeat (first|exact (Kd.R_reads' HO1374.out).2.2|(with_reducible refine Kd.C_alloc ?_ _)|(with_reducible refine Kd.C_drewN ?_ _)|(with_reducible refine Kd.C_drew ?_)))
            (case side4=>exact (Kd.R_reads' HO1374.out).2.1)
            rintro e w52 ⟨rfl,hb⟩
            refine ⟨_,rfl,?_⟩
            have n0_:=Aside0.mk (Kd.R_below (by (with_reducible repeat (first|apply Kd.R_alloc|apply Kd.R_drewN|apply Kd.R_drew));exact HO_6.out) hb)
            have n1_:=Aside0.mk (Kd.R_below (by (with_reducible repeat (first|apply Kd.R_alloc|apply Kd.R_drewN|apply Kd.R_drew));exact HO1364.out) hb)
            have n2_:=Aside0.mk (Kd.R_below (by (with_reducible repeat (first|apply Kd.R_alloc|apply Kd.R_drewN|apply Kd.R_drew));exact HO1369.out) hb)
            have n3_:=Aside0.mk (Kd.R_below (by (with_reducible repeat (first|apply Kd.R_alloc|apply Kd.R_drewN|apply Kd.R_drew));exact HO1374.out) hb)
            have n4_:=Aside0.mk (blk_below (g:=gb1353) (o:=.cells #[.int .i64 a0_0,.slice (some ad1360) l0_1.length c0_1] 26 (0,0)) (by (with_reducible repeat (first|refine blk_drewN ?_ _|refine blk_drew ?_|refine blk_alloc ?_ _));exact BK1353.out) hb)
            have n5_:=Aside0.mk (blk_below (g:=gb1359) (o:=.cells #[.int .i64 x1360000_2,.int .i64 x1360001_2] 91 (0,0)) (by (with_reducible repeat (first|refine blk_drewN ?_ _|refine blk_drew ?_|refine blk_alloc ?_ _));exact BK1359.out) hb)
            have n6_:=Aside0.mk (blk_below (g:=gb1366) (o:=.cells #[.int .i64 t1361,.slice Ao38 t1362.length co38] 26 (0,0)) (by (with_reducible repeat (first|refine blk_drewN ?_ _|refine blk_drew ?_|refine blk_alloc ?_ _));exact BK1366.out) hb)
            have n7_:=Aside0.mk (blk_below (g:=gb1371) (o:=.cells #[.slice Ao41 t1367.length co41,.int .i64 t1370] 130 (0,0)) (by (with_reducible repeat (first|refine blk_drewN ?_ _|refine blk_drew ?_|refine blk_alloc ?_ _));exact BK1371.out) hb)
            have n8_:=Aside0.mk (blk_below (g:=gb1378) (o:=.cells #[.int .i64 0,.int .i64 0] 91 (0,0)) (by (with_reducible repeat (first|refine blk_drewN ?_ _|refine blk_drew ?_|refine blk_alloc ?_ _));exact BK1378.out) hb)
            have n9_:=Aside0.mk (below_step (by repeat (first|(with_reducible first|exact HB.out|apply below_alloc|apply pw_below_drewN|apply below_drew1|refine below_set ?_ GE1353.out|refine below_set ?_ GE1359.out|refine below_set ?_ GE1366.out|refine below_set ?_ GE1371.out|refine below_set ?_ GE1378.out)|exact HB.out)) hb)
            clear HO_6
            clear HO1364
            clear HO1369
            clear HO1374
            clear BK1353
            clear BK1359
            clear BK1366
            clear BK1371
            clear BK1378
            clear HB
            have HO_6:=n0_
            have HO1364:=n1_
            have HO1369:=n2_
            have HO1374:=n3_
            have BK1353:=n4_
            have BK1359:=n5_
            have BK1366:=n6_
            have BK1371:=n7_
            have BK1378:=n8_
            have HB:=n9_
            clear n0_ n1_ n2_ n3_ n4_ n5_ n6_ n7_ n8_ n9_
            (try clear hb)
            (try clear hb2)
            (try clear hk)
            (try clear hi)
            refine hK.out _ _ ⟨(blk_cell BK1371.out 0).trans rfl,(blk_cell BK1371.out 1).trans rfl⟩ (fun hHeld=>?_)
            clear hK K
            refine norm_ (a':=?_) ?_ ?_
            rotate_left
            ·show Act.put _ (some 52) _ = _
             simp only [Act.put,List.setIfInBounds_toArray,List.set_cons_zero,List.set_cons_succ,i64_w,i32_w]
             rfl
            refine one_ (i:=8) (N:=some 55) #[true,true,true,true,true,true,true,true,true,true,false] rfl rfl (one_of HT_.out (by kernel_rfl)) (by decide) (fun K hK=>?_)
            refine goes_ Try.func78 (by kernel_rfl) rfl #[.int .i64 t1375,.int .i64 t1370] (by rfl) rfl rfl (by (try simp only [List.map_toArray,List.map_cons,List.map_nil]);first|done|rfl|(simp only [List.length_drop,List.length_take];rfl)) ?_
            with_reducible refine (impl_shareOf.calls k2 t1375 t1370 t1376 t1377 _ A28.out).mono ?_
            rintro e w53 ⟨rfl,hb⟩
            refine ⟨_,rfl,?_⟩
            have n0_:=Aside0.mk (Kd.R_below (by (with_reducible repeat (first|apply Kd.R_alloc|apply Kd.R_drewN|apply Kd.R_drew));exact HO_6.out) hb)
            have n1_:=Aside0.mk (Kd.R_below (by (with_reducible repeat (first|apply Kd.R_alloc|apply Kd.R_drewN|apply Kd.R_drew));exact HO1364.out) hb)
            have n2_:=Aside0.mk (Kd.R_below (by (with_reducible repeat (first|apply Kd.R_alloc|apply Kd.R_drewN|apply Kd.R_drew));exact HO1369.out) hb)
            have n3_:=Aside0.mk (Kd.R_below (by (with_reducible repeat (first|apply Kd.R_alloc|apply Kd.R_drewN|apply Kd.R_drew));exact HO1374.out) hb)
            have n4_:=Aside0.mk (blk_below (g:=gb1353) (o:=.cells #[.int .i64 a0_0,.slice (some ad1360) l0_1.length c0_1] 26 (0,0)) (by (with_reducible repeat (first|refine blk_drewN ?_ _|refine blk_drew ?_|refine blk_alloc ?_ _));exact BK1353.out) hb)
            have n5_:=Aside0.mk (blk_below (g:=gb1359) (o:=.cells #[.int .i64 x1360000_2,.int .i64 x1360001_2] 91 (0,0)) (by (with_reducible repeat (first|refine blk_drewN ?_ _|refine blk_drew ?_|refine blk_alloc ?_ _));exact BK1359.out) hb)
            have n6_:=Aside0.mk (blk_below (g:=gb1366) (o:=.cells #[.int .i64 t1361,.slice Ao38 t1362.length co38] 26 (0,0)) (by (with_reducible repeat (first|refine blk_drewN ?_ _|refine blk_drew ?_|refine blk_alloc ?_ _));exact BK1366.out) hb)
            have n7_:=Aside0.mk (blk_below (g:=gb1371) (o:=.cells #[.slice Ao41 t1367.length co41,.int .i64 t1370] 130 (0,0)) (by (with_reducible repeat (first|refine blk_drewN ?_ _|refine blk_drew ?_|refine blk_alloc ?_ _));exact BK1371.out) hb)
            have n8_:=Aside0.mk (blk_below (g:=gb1378) (o:=.cells #[.int .i64 0,.int .i64 0] 91 (0,0)) (by (with_reducible repeat (first|refine blk_drewN ?_ _|refine blk_drew ?_|refine blk_alloc ?_ _));exact BK1378.out) hb)
            have n9_:=Aside0.mk (below_step (by repeat (first|(with_reducible first|exact HB.out|apply below_alloc|apply pw_below_drewN|apply below_drew1|refine below_set ?_ GE1353.out|refine below_set ?_ GE1359.out|refine below_set ?_ GE1366.out|refine below_set ?_ GE1371.out|refine below_set ?_ GE1378.out)|exact HB.out)) hb)
            clear HO_6
            clear HO1364
            clear HO1369
            clear HO1374
            clear BK1353
            clear BK1359
            clear BK1366
            clear BK1371
            clear BK1378
            clear HB
            have HO_6:=n0_
            have HO1364:=n1_
            have HO1369:=n2_
            have HO1374:=n3_
            have BK1353:=n4_
            have BK1359:=n5_
            have BK1366:=n6_
            have BK1371:=n7_
            have BK1378:=n8_
            have HB:=n9_
            clear n0_ n1_ n2_ n3_ n4_ n5_ n6_ n7_ n8_ n9_
            (try clear hb)
            (try clear hb2)
            (try clear hk)
            (try clear hi)
            refine hK.out _ _ ⟨(blk_cell BK1371.out 0).trans rfl,(blk_cell BK1371.out 1).trans rfl⟩ (fun hHeld=>?_)
            clear hK K
            refine norm_ (a':=?_) ?_ ?_
            rotate_left
            ·show Act.put _ (some 55) _ = _
             simp only [Act.put,List.setIfInBounds_toArray,List.set_cons_zero,List.set_cons_succ,i64_w,i32_w]
             rfl
            exact norm_ (by simp only [putAll,Act.put,List.setIfInBounds_toArray,List.set_cons_zero,List.set_cons_succ]) (hCont (.slice Ao51 y1372.length co51,gb1378) _ ⟨hHeld,(by (with_reducible repeat (first|apply Kd.R_alloc|apply Kd.R_drewN|apply Kd.R_drew));exact Kd.R_mono HO1364.out (fun _ hk=>⟨hk.1.2,⟨hk.2,hk.1.1⟩⟩)),(by (with_reducible repeat (first|apply Kd.R_alloc|apply Kd.R_drewN|apply Kd.R_drew));exact Kd.R_mono HO1369.out (fun _ hk=>⟨hk.1.2,⟨hk.2,hk.1.1⟩⟩)),(by (with_reducible repeat (first|apply Kd.R_alloc|apply Kd.R_drewN|apply Kd.R_drew));exact Kd.R_mono HO1374.out (fun _ hk=>⟨hk.1.2,⟨hk.2,hk.1.1.2⟩⟩)),(by (with_reducible repeat (first|apply Kd.R_alloc|apply Kd.R_drewN|apply Kd.R_drew));exact Kd.R_mono HO_6.out (fun _ hk=>⟨hk.1.1,⟨hk.1.2,hk.2⟩⟩)),(by (with_reducible repeat (first|refine blk_drewN ?_ _|refine blk_drew ?_|refine blk_alloc ?_ _));exact BK1353.out),(by (with_reducible repeat (first|refine blk_drewN ?_ _|refine blk_drew ?_|refine blk_alloc ?_ _));exact BK1359.out),(by (with_reducible repeat (first|refine blk_drewN ?_ _|refine blk_drew ?_|refine blk_alloc ?_ _));exact BK1366.out),(by (with_reducible repeat (first|refine blk_drewN ?_ _|refine blk_drew ?_|refine blk_alloc ?_ _));exact BK1371.out),(by (with_reducible repeat (first|refine blk_drewN ?_ _|refine blk_drew ?_|refine blk_alloc ?_ _));exact BK1378.out),GW1378.out,GE1378.out,NB1353_1378.out,NB1378_1353.out,NB1359_1378.out,NB1378_1359.out,NB1366_1378.out,NB1378_1366.out,NB1371_1378.out,NB1378_1371.out,(by repeat (first|(with_reducible first|exact HB.out|apply below_alloc|apply pw_below_drewN|apply below_drew1|refine below_set ?_ GE1353.out|refine below_set ?_ GE1359.out|refine below_set ?_ GE1366.out|refine below_set ?_ GE1371.out|refine below_set ?_ GE1378.out)|exact HB.out))⟩)
          rintro ⟨v1373,gb1378⟩ w54 ⟨hS_,h0_,h1_,h2_,h3_,h4_,h5_,h6_,h7_,h8_,h9_,h10_,h11_,h12_,h13_,h14_,h15_,h16_,h17_,h18_,h19_⟩
          have n0_:Aside0 (Kd.R (Kd.int .i64) 3 w54 w.heap.size (fun k_=>some k_ ≠ (.slice Ao41 t1367.length co41:Value).ownBlock ∧ some k_ ≠ (v1373:Value).ownBlock ∧ some k_ ≠ (u6:Value).ownBlock) (.slice Ao38 t1362.length co38) t1362):=⟨h0_⟩
          have n1_:Aside0 (Kd.R (Kd.int .i64) 3 w54 w.heap.size (fun k_=>some k_ ≠ (.slice Ao38 t1362.length co38:Value).ownBlock ∧ some k_ ≠ (v1373:Value).ownBlock ∧ some k_ ≠ (u6:Value).ownBlock) (.slice Ao41 t1367.length co41) t1367):=⟨h1_⟩
          have n2_:Aside0 (Kd.R (Kd.int .i64) 3 w54 w.heap.size (fun k_=>some k_ ≠ (.slice Ao38 t1362.length co38:Value).ownBlock ∧ some k_ ≠ (.slice Ao41 t1367.length co41:Value).ownBlock ∧ some k_ ≠ (u6:Value).ownBlock) v1373 y1372):=⟨h2_⟩
          have n3_:Aside0 (Kd.R (Kd.int .i64) 3 w54 w.heap.size (fun k_=>some k_ ≠ (.slice Ao38 t1362.length co38:Value).ownBlock ∧ some k_ ≠ (.slice Ao41 t1367.length co41:Value).ownBlock ∧ some k_ ≠ (v1373:Value).ownBlock) u6 x6_2):=⟨h3_⟩
          have n4_:Aside0 (w54.heap[gb1353]? = some (.cells #[.int .i64 a0_0,.slice (some ad1360) l0_1.length c0_1] 26 (0,0))):=⟨h4_⟩
          have n5_:Aside0 (w54.heap[gb1359]? = some (.cells #[.int .i64 x1360000_2,.int .i64 x1360001_2] 91 (0,0))):=⟨h5_⟩
          have n6_:Aside0 (w54.heap[gb1366]? = some (.cells #[.int .i64 t1361,.slice Ao38 t1362.length co38] 26 (0,0))):=⟨h6_⟩
          have n7_:Aside0 (w54.heap[gb1371]? = some (.cells #[.slice Ao41 t1367.length co41,.int .i64 t1370] 130 (0,0))):=⟨h7_⟩
          have n8_:Aside0 (w54.heap[gb1378]? = some (.cells #[.int .i64 0,.int .i64 0] 91 (0,0))):=⟨h8_⟩
          have n9_:Aside0 (w.heap.size ≤ gb1378):=⟨h9_⟩
          have n10_:Aside0 (w.heap.size ≤ gb1378):=⟨h10_⟩
          have n11_:Aside0 (gb1353 ≠ gb1378):=⟨h11_⟩
          have n12_:Aside0 (gb1378 ≠ gb1353):=⟨h12_⟩
          have n13_:Aside0 (gb1359 ≠ gb1378):=⟨h13_⟩
          have n14_:Aside0 (gb1378 ≠ gb1359):=⟨h14_⟩
          have n15_:Aside0 (gb1366 ≠ gb1378):=⟨h15_⟩
          have n16_:Aside0 (gb1378 ≠ gb1366):=⟨h16_⟩
          have n17_:Aside0 (gb1371 ≠ gb1378):=⟨h17_⟩
          have n18_:Aside0 (gb1378 ≠ gb1371):=⟨h18_⟩
          have n19_:Aside0 (Below w.heap.size w w54):=⟨h19_⟩
          clear HO_6
          clear HO1364
          clear HO1369
          clear BK1353
          clear BK1359
          clear BK1366
          clear BK1371
          clear HB
          clear h0_ h1_ h2_ h3_ h4_ h5_ h6_ h7_ h8_ h9_ h10_ h11_ h12_ h13_ h14_ h15_ h16_ h17_ h18_ h19_
          have HO1364:=n0_
          have HO1369:=n1_
          have HO1374:=n2_
          have HO_6:=n3_
          have BK1353:=n4_
          have BK1359:=n5_
          have BK1366:=n6_
          have BK1371:=n7_
          have BK1378:=n8_
          have GW1378:=n9_
          have GE1378:=n10_
          have NB1353_1378:=n11_
          have NB1378_1353:=n12_
          have NB1359_1378:=n13_
          have NB1378_1359:=n14_
          have NB1366_1378:=n15_
          have NB1378_1366:=n16_
          have NB1371_1378:=n17_
          have NB1378_1371:=n18_
          have HB:=n19_
          clear n0_ n1_ n2_ n3_ n4_ n5_ n6_ n7_ n8_ n9_ n10_ n11_ n12_ n13_ n14_ n15_ n16_ n17_ n18_ n19_
          have hHeld:w54.cell? ⟨gb1371,0,none⟩ = some (.slice Ao41 t1367.length co41) ∧ w54.cell? ⟨gb1371,1,none⟩ = some (.int .i64 t1370):=hS_
          refine norm_ (a':=?_) ?_ ?_
          rotate_left
          ·simp only [putAll,Act.put,List.setIfInBounds_toArray,List.set_cons_zero,List.set_cons_succ]
           rfl
          refine one_ (i:=10) (N:=none) #[true,true,true,true,true,true,true,true,true,true,true] rfl rfl (one_of HT_.out (by kernel_rfl)) (by decide) (fun K hK=>?_)
          have hs55:w54.cell? ⟨gb1378,0,none⟩ = some (.int .i64 0):=(blk_cell BK1378.out 0).trans rfl
          have hfs55:=blk_frozen BK1378.out 0
          have hns55_0:=NB1353_1378.out
          have hns55_1:=NB1359_1378.out
          have hns55_2:=NB1366_1378.out
          have hns55_3:=NB1371_1378.out
          have hms55_0:=NB1378_1353.out
          have hms55_1:=NB1378_1359.out
          have hms55_2:=NB1378_1366.out
          have hms55_3:=NB1378_1371.out
          have hs56:w54.cell? ⟨gb1378,1,none⟩ = some (.int .i64 0):=(blk_cell BK1378.out 1).trans rfl
          have hfs56:=blk_frozen BK1378.out 1
          have hns56_0:=NB1353_1378.out
          have hns56_1:=NB1359_1378.out
          have hns56_2:=NB1366_1378.out
          have hns56_3:=NB1371_1378.out
          have hms56_0:=NB1378_1353.out
          have hms56_1:=NB1378_1359.out
          have hms56_2:=NB1378_1366.out
          have hms56_3:=NB1378_1371.out
          refine skip_ (w1:=?_) (by rfl) rfl ?_ ?_
          rotate_left
          ·go_simp
           rfl
          refine hK.out _ _ ⟨((cell_far (p:=⟨gb1378,_,none⟩) NB1371_1378.out _).trans (((cell_far (p:=⟨gb1378,_,none⟩) NB1371_1378.out _).trans (hHeld.1)))),((cell_far (p:=⟨gb1378,_,none⟩) NB1371_1378.out _).trans (((cell_far (p:=⟨gb1378,_,none⟩) NB1371_1378.out _).trans (hHeld.2))))⟩ (fun hHeld=>?_)
          clear hK K
          refine done_ (done_of HT_.out (by kernel_rfl)) ?_
          have hnb57:=NB1378_1353.out
          have hnc57:=NB1353_1378.out
          have hnb58:=NB1378_1359.out
          have hnc58:=NB1359_1378.out
          have hnb59:=NB1378_1366.out
          have hnc59:=NB1366_1378.out
          have hnb60:=NB1378_1371.out
          have hnc60:=NB1371_1378.out
          have hcz61_0:w54.cell? ⟨gb1378,0,none⟩ = some (.int .i64 0):=(blk_cell BK1378.out 0).trans rfl
          have hcz61_1:w54.cell? ⟨gb1378,1,none⟩ = some (.int .i64 0):=(blk_cell BK1378.out 1).trans rfl
          have hfz61_0:=blk_frozen BK1378.out 0
          have hfz61_1:=blk_frozen BK1378.out 1
          have hcz62_0:w54.cell? ⟨gb1359,0,none⟩ = some (.int .i64 x1360000_2):=(blk_cell BK1359.out 0).trans rfl
          have hcz62_1:w54.cell? ⟨gb1359,1,none⟩ = some (.int .i64 x1360001_2):=(blk_cell BK1359.out 1).trans rfl
          have hfz62_0:=blk_frozen BK1359.out 0
          have hfz62_1:=blk_frozen BK1359.out 1
          go_upto_if 59 with (first|((with_reducible refine gate_callee (f:=129) rfl ?_);refine goesL_ (some 58) rfl rfl Try.func129 (by kernel_rfl) rfl #[.agg #[.int .i64 t1376,.int .i64 t1377],.agg #[.int .i64 x1360000_2,.int .i64 x1360001_2]] rfl (by (try simp only [List.map_toArray,List.map_cons,List.map_nil]);first|done|rfl|(simp only [List.length_drop,List.length_take];rfl)) ?_;(with_reducible refine (impl_compare.calls t1376 t1377 x1360000_2 x1360001_2 t1379 _ A29.out).mono ?_);rintro e w63 ⟨rfl,hb⟩;refine ⟨_,rfl,?_⟩;have n0_:=Aside0.mk (Kd.R_below (by (with_reducible repeat (first|apply Kd.R_alloc|apply Kd.R_drewN|apply Kd.R_drew));exact (Kd.R_mono (Kd.R_far (p:=⟨gb1378,1,none⟩) (Kd.R_far (p:=⟨gb1378,0,none⟩) (Kd.R_types HO_6.out BK1378.out (by decide)) (fun _ hk=>hk.2) (.int .i64 t1376)) (fun _ hk=>hk.2) (.int .i64 t1377)) (fun _ h_=>h_.1))) hb);have n1_:=Aside0.mk (Kd.R_below (by (with_reducible repeat (first|apply Kd.R_alloc|apply Kd.R_drewN|apply Kd.R_drew));exact (Kd.R_mono (Kd.R_far (p:=⟨gb1378,1,none⟩) (Kd.R_far (p:=⟨gb1378,0,none⟩) (Kd.R_types HO1364.out BK1378.out (by decide)) (fun _ hk=>hk.2) (.int .i64 t1376)) (fun _ hk=>hk.2) (.int .i64 t1377)) (fun _ h_=>h_.1))) hb);have n2_:=Aside0.mk (Kd.R_below (by (with_reducible repeat (first|apply Kd.R_alloc|apply Kd.R_drewN|apply Kd.R_drew));exact (Kd.R_mono (Kd.R_far (p:=⟨gb1378,1,none⟩) (Kd.R_far (p:=⟨gb1378,0,none⟩) (Kd.R_types HO1369.out BK1378.out (by decide)) (fun _ hk=>hk.2) (.int .i64 t1376)) (fun _ hk=>hk.2) (.int .i64 t1377)) (fun _ h_=>h_.1))) hb);have n3_:=Aside0.mk (Kd.R_below (by (with_reducible repeat (first|apply Kd.R_alloc|apply Kd.R_drewN|apply Kd.R_drew));exact (Kd.R_mono (Kd.R_far (p:=⟨gb1378,1,none⟩) (Kd.R_far (p:=⟨gb1378,0,none⟩) (Kd.R_types HO1374.out BK1378.out (by decide)) (fun _ hk=>hk.2) (.int .i64 t1376)) (fun _ hk=>hk.2) (.int .i64 t1377)) (fun _ h_=>h_.1))) hb);have n4_:=Aside0.mk (blk_below (g:=gb1353) (o:=.cells #[.int .i64 a0_0,.slice (some ad1360) l0_1.length c0_1] 26 (0,0)) (by (with_reducible repeat (first|refine blk_drewN ?_ _|refine blk_drew ?_|refine blk_alloc ?_ _));refine blk_far ?_ NB1353_1378.out _;(with_reducible repeat (first|refine blk_drewN ?_ _|refine blk_drew ?_|refine blk_alloc ?_ _));refine blk_far ?_ NB1353_1378.out _;(with_reducible repeat (first|refine blk_drewN ?_ _|refine blk_drew ?_|refine blk_alloc ?_ _));exact BK1353.out) hb);have n5_:=Aside0.mk (blk_below (g:=gb1359) (o:=.cells #[.int .i64 x1360000_2,.int .i64 x1360001_2] 91 (0,0)) (by (with_reducible repeat (first|refine blk_drewN ?_ _|refine blk_drew ?_|refine blk_alloc ?_ _));refine blk_far ?_ NB1359_1378.out _;(with_reducible repeat (first|refine blk_drewN ?_ _|refine blk_drew ?_|refine blk_alloc ?_ _));refine blk_far ?_ NB1359_1378.out _;(with_reducible repeat (first|refine blk_drewN ?_ _|refine blk_drew ?_|refine blk_alloc ?_ _));exact BK1359.out) hb);have n6_:=Aside0.mk (blk_below (g:=gb1366) (o:=.cells #[.int .i64 t1361,.slice Ao38 t1362.length co38] 26 (0,0)) (by (with_reducible repeat (first|refine blk_drewN ?_ _|refine blk_drew ?_|refine blk_alloc ?_ _));refine blk_far ?_ NB1366_1378.out _;(with_reducible repeat (first|refine blk_drewN ?_ _|refine blk_drew ?_|refine blk_alloc ?_ _));refine blk_far ?_ NB1366_1378.out _;(with_reducible repeat (first|refine blk_drewN ?_ _|refine blk_drew ?_|refine blk_alloc ?_ _));exact BK1366.out) hb);have n7_:=Aside0.mk (blk_below (g:=gb1371) (o:=.cells #[.slice Ao41 t1367.length co41,.int .i64 t1370] 130 (0,0)) (by (with_reducible repeat (first|refine blk_drewN ?_ _|refine blk_drew ?_|refine blk_alloc ?_ _));refine blk_far ?_ NB1371_1378.out _;(with_reducible repeat (first|refine blk_drewN ?_ _|refine blk_drew ?_|refine blk_alloc ?_ _));refine blk_far ?_ NB1371_1378.out _;(with_reducible repeat (first|refine blk_drewN ?_ _|refine blk_drew ?_|refine blk_alloc ?_ _));exact BK1371.out) hb);have n8_:=Aside0.mk (blk_below (g:=gb1378) (o:=.cells #[.int .i64 t1376,.int .i64 t1377] 91 (0,0)) (by (with_reducible repeat (first|refine blk_drewN ?_ _|refine blk_drew ?_|refine blk_alloc ?_ _));refine blk_put (cs:=#[.int .i64 t1376,.int .i64 0]) ?_ 1 _ rfl;(with_reducible repeat (first|refine blk_drewN ?_ _|refine blk_drew ?_|refine blk_alloc ?_ _));refine blk_put (cs:=#[.int .i64 0,.int .i64 0]) ?_ 0 _ rfl;(with_reducible repeat (first|refine blk_drewN ?_ _|refine blk_drew ?_|refine blk_alloc ?_ _));exact BK1378.out) hb);have n9_:=Aside0.mk (below_step (by repeat (first|(with_reducible first|exact HB.out|apply below_alloc|apply pw_below_drewN|apply below_drew1|refine below_set ?_ GE1353.out|refine below_set ?_ GE1359.out|refine below_set ?_ GE1366.out|refine below_set ?_ GE1371.out|refine below_set ?_ GE1378.out)|exact HB.out)) hb);clear HO_6;clear HO1364;clear HO1369;clear HO1374;clear BK1353;clear BK1359;clear BK1366;clear BK1371;clear BK1378;clear HB;have HO_6:=n0_;have HO1364:=n1_;have HO1369:=n2_;have HO1374:=n3_;have BK1353:=n4_;have BK1359:=n5_;have BK1366:=n6_;have BK1371:=n7_;have BK1378:=n8_;have HB:=n9_;clear n0_ n1_ n2_ n3_ n4_ n5_ n6_ n7_ n8_ n9_;(try clear hb);(try clear hb2);(try clear hk);(try clear hi)))
          (try simp only [Act.put,List.setIfInBounds_toArray,List.set_cons_zero,List.set_cons_succ])
          go_cut [6] (fun v6 wc=>∃ (kq:Nat) (x6_29:List Int) (x1360000_29:Int) (x1360001_29:Int),Aside0 (impl_BestSplits.j2 kq a1 x6_29 x33_2 (wrap64 ((rd l0_1 a1) + 1)) x33_2 a0_0 l0_1 x1360000_29 x1360001_29 t1376 t1377 = some (r1,r2)) ∧ Aside0 (kq ≤ k2) ∧ Aside0 (Kd.R (Kd.int .i64) 3 wc w.heap.size (fun k_=>some k_ ≠ ((.slice Ao38 t1362.length co38):Value).ownBlock ∧ some k_ ≠ ((.slice Ao41 t1367.length co41):Value).ownBlock) v6 x6_29) ∧ Aside0 (Kd.R (Kd.int .i64) 3 wc w.heap.size (fun k_=>some k_ ≠ (v6:Value).ownBlock ∧ some k_ ≠ ((.slice Ao41 t1367.length co41):Value).ownBlock) (.slice Ao38 t1362.length co38) t1362) ∧ Aside0 (Kd.R (Kd.int .i64) 3 wc w.heap.size (fun k_=>some k_ ≠ (v6:Value).ownBlock ∧ some k_ ≠ ((.slice Ao38 t1362.length co38):Value).ownBlock) (.slice Ao41 t1367.length co41) t1367) ∧ Aside0 (wc.heap[gb1353]? = some (.cells #[.int .i64 a0_0,(.slice (some ad1360) l0_1.length c0_1)] 26 (0,0))) ∧ Aside0 (wc.heap[gb1359]? = some (.cells #[.int .i64 x1360000_29,.int .i64 x1360001_29] 91 (0,0))) ∧ Aside0 (wc.heap[gb1366]? = some (.cells #[.int .i64 t1361,(.slice Ao38 t1362.length co38)] 26 (0,0))) ∧ Aside0 (wc.heap[gb1371]? = some (.cells #[(.slice Ao41 t1367.length co41),.int .i64 t1370] 130 (0,0))) ∧ Aside0 (wc.heap[gb1378]? = some (.cells #[.int .i64 t1376,.int .i64 t1377] 91 (0,0))) ∧ Aside0 (Below w.heap.size w wc))
          case first =>
           have H:=HC30.out
           clear HC30
           by_cases c64:t1379 > 0
           ·rw [if_pos c64] at H
            have c64b0:decide (0 < t1379) = true:=decide_eq_true c64
            clear c64
            (first|rw [c64b0]|(simp only [i64_w,i32_w];rw [c64b0])|skip)
            obtain ⟨y1380,hy1380⟩:∃ y_:List Int,y_ = (([]:List Int)):=⟨_,rfl⟩
            replace H:(impl_BestSplits.j2 k2 a1 y1380 x33_2 (wrap64 ((rd l0_1 a1) + 1)) x33_2 a0_0 l0_1 t1376 t1377 t1376 t1377) = some (r1,r2):=by first|(rw [hy1380];with_reducible exact H)|(have H2_:=(Option.bind_some _ _).symm.trans H;rw [hy1380];with_reducible exact H2_)|(have H2_:=(Option.bind_some _ _).symm.trans H;with_reducible exact H2_)|with_reducible exact H|(rw [hy1380];exact H)|exact H
            have Ny1380:=Aside0.mk hy1380
            clear hy1380
            have H':=Aside0.mk H
            clear H
            try go_wp2
            have n0_:=Aside0.mk (Kd.R_drew HO_6.out)
            have n1_:=Aside0.mk (Kd.R_drew HO1364.out)
            have n2_:=Aside0.mk (Kd.R_drew HO1369.out)
            have n3_:=Aside0.mk (Kd.R_drew HO1374.out)
            have n4_:=Aside0.mk (blk_drew BK1353.out)
            have n5_:=Aside0.mk (blk_drew BK1359.out)
            have n6_:=Aside0.mk (blk_drew BK1366.out)
            have n7_:=Aside0.mk (blk_drew BK1371.out)
            have n8_:=Aside0.mk (blk_drew BK1378.out)
            have n9_:=Aside0.mk (below_drew1 HB.out)
            clear HO_6
            clear HO1364
            clear HO1369
            clear HO1374
            clear BK1353
            clear BK1359
            clear BK1366
            clear BK1371
            clear BK1378
            clear HB
            have HO_6:=n0_
            have HO1364:=n1_
            have HO1369:=n2_
            have HO1374:=n3_
            have BK1353:=n4_
            have BK1359:=n5_
            have BK1366:=n6_
            have BK1371:=n7_
            have BK1378:=n8_
            have HB:=n9_
            clear n0_ n1_ n2_ n3_ n4_ n5_ n6_ n7_ n8_ n9_
            refine start_ (n:=4) (S:=fun w'=>w'.cell? ⟨gb1378,0,none⟩ = some (.int .i64 t1376) ∧ w'.cell? ⟨gb1378,1,none⟩ = some (.int .i64 t1377)) (ds:=[]) #[false,false,false,false] (by kernel_rfl) rfl rfl ⟨(blk_cell BK1378.out 0).trans rfl,(blk_cell BK1378.out 1).trans rfl⟩ (fun hHeld=>?_)
            generalize w63.drew = w65 at HO_6 HO1364 HO1369 HO1374 BK1353 BK1359 BK1366 BK1371 BK1378 HB hHeld ⊢
            refine take_ (i:=1) (N:=some 61) (v:=?_) (a':=?_) #[false,true,false,false] rfl rfl (by kernel_rfl) (fun _ _ _ h=>h) (Or.inl ⟨by rfl,?_⟩) hHeld ?_ ?_
            rotate_left
            ·rintro w' ⟨s0,s1⟩
             go_simp
             with_reducible rfl
            rotate_left
            ·simp only [Act.put,List.setIfInBounds_toArray,List.set_cons_zero,List.set_cons_succ,i64_w,i32_w]
             rfl
            refine one_ (i:=0) (N:=some 60) #[true,true,false,false] rfl rfl (by kernel_rfl) (by decide) (fun K hK=>?_)
            refine Kd.R_lit_step (Kd.int .i64) _ 3 ?hg (N:=60) ?hd (xs:=([]:List Int)) (inner:=[]) (ok:=fun _=>True) (okp:=fun _=>True) ?hr ?hp (fun _ hk=>hk) trivial (Below.refl _ _) (Nat.le_refl _) (by simp) ?_;(case hd=>rfl);(case hg=>rfl);(case hr=>first|(go_simp;done)|(go_simp;rfl));(case hp=>exact (Reps.none _ _))
            intro v1381 w66 ho67 hb hg_ hnew_
            clear hg_ hnew_
            (first|rw [← Ny1380.out] at ho67|(simp only [Int.reduceToNat] at ho67;rw [← Ny1380.out] at ho67))
            have n0_:=Aside0.mk (Kd.R_elder' (by (with_reducible repeat (first|apply Kd.R_alloc|apply Kd.R_drewN|apply Kd.R_drew));exact HO_6.out) (Kd.R_base ho67) hb)
            have n1_:=Aside0.mk (Kd.R_elder' (by (with_reducible repeat (first|apply Kd.R_alloc|apply Kd.R_drewN|apply Kd.R_drew));exact HO1364.out) (Kd.R_base ho67) hb)
            have n2_:=Aside0.mk (Kd.R_elder' (by (with_reducible repeat (first|apply Kd.R_alloc|apply Kd.R_drewN|apply Kd.R_drew));exact HO1369.out) (Kd.R_base ho67) hb)
            have n3_:=Aside0.mk (Kd.R_elder' (by (with_reducible repeat (first|apply Kd.R_alloc|apply Kd.R_drewN|apply Kd.R_drew));exact HO1374.out) (Kd.R_base ho67) hb)
            have n4_:=Aside0.mk (Kd.R_lower (Kd.R_new' (Kd.R_new' (Kd.R_new' (Kd.R_new' ho67 (Kd.R_lt (by (with_reducible repeat (first|apply Kd.R_alloc|apply Kd.R_drewN|apply Kd.R_drew));exact HO_6.out))) (Kd.R_lt (by (with_reducible repeat (first|apply Kd.R_alloc|apply Kd.R_drewN|apply Kd.R_drew));exact HO1364.out))) (Kd.R_lt (by (with_reducible repeat (first|apply Kd.R_alloc|apply Kd.R_drewN|apply Kd.R_drew));exact HO1369.out))) (Kd.R_lt (by (with_reducible repeat (first|apply Kd.R_alloc|apply Kd.R_drewN|apply Kd.R_drew));exact HO1374.out))) (below_size (by repeat (first|(with_reducible first|exact HB.out|apply below_alloc|apply pw_below_drewN|apply below_drew1|refine below_set ?_ GE1353.out|refine below_set ?_ GE1359.out|refine below_set ?_ GE1366.out|refine below_set ?_ GE1371.out|refine below_set ?_ GE1378.out)|exact HB.out))))
            have n5_:=Aside0.mk (blk_below (g:=gb1353) (o:=.cells #[.int .i64 a0_0,.slice (some ad1360) l0_1.length c0_1] 26 (0,0)) (by (with_reducible repeat (first|refine blk_drewN ?_ _|refine blk_drew ?_|refine blk_alloc ?_ _));exact BK1353.out) hb)
            have n6_:=Aside0.mk (blk_below (g:=gb1359) (o:=.cells #[.int .i64 x1360000_2,.int .i64 x1360001_2] 91 (0,0)) (by (with_reducible repeat (first|refine blk_drewN ?_ _|refine blk_drew ?_|refine blk_alloc ?_ _));exact BK1359.out) hb)
            have n7_:=Aside0.mk (blk_below (g:=gb1366) (o:=.cells #[.int .i64 t1361,.slice Ao38 t1362.length co38] 26 (0,0)) (by (with_reducible repeat (first|refine blk_drewN ?_ _|refine blk_drew ?_|refine blk_alloc ?_ _));exact BK1366.out) hb)
            have n8_:=Aside0.mk (blk_below (g:=gb1371) (o:=.cells #[.slice Ao41 t1367.length co41,.int .i64 t1370] 130 (0,0)) (by (with_reducible repeat (first|refine blk_drewN ?_ _|refine blk_drew ?_|refine blk_alloc ?_ _));exact BK1371.out) hb)
            have n9_:=Aside0.mk (blk_below (g:=gb1378) (o:=.cells #[.int .i64 t1376,.int .i64 t1377] 91 (0,0)) (by (with_reducible repeat (first|refine blk_drewN ?_ _|refine blk_drew ?_|refine blk_alloc ?_ _));exact BK1378.out) hb)
            have n10_:=Aside0.mk (below_step (by repeat (first|(with_reducible first|exact HB.out|apply below_alloc|apply pw_below_drewN|apply below_drew1|refine below_set ?_ GE1353.out|refine below_set ?_ GE1359.out|refine below_set ?_ GE1366.out|refine below_set ?_ GE1371.out|refine below_set ?_ GE1378.out)|exact HB.out)) hb)
            clear HO_6
            clear HO1364
            clear HO1369
            clear HO1374
            clear BK1353
            clear BK1359
            clear BK1366
            clear BK1371
            clear BK1378
            clear HB
            have HO_6:=n0_
            have HO1364:=n1_
            have HO1369:=n2_
            have HO1374:=n3_
            have HO1382:=n4_
            have BK1353:=n5_
            have BK1359:=n6_
            have BK1366:=n7_
            have BK1371:=n8_
            have BK1378:=n9_
            have HB:=n10_
            clear n0_ n1_ n2_ n3_ n4_ n5_ n6_ n7_ n8_ n9_ n10_
            clear hb ho67
            refine hK.out _ _ ⟨(blk_cell BK1378.out 0).trans rfl,(blk_cell BK1378.out 1).trans rfl⟩ (fun hHeld=>?_)
            clear hK K
            refine norm_ (a':=?_) ?_ ?_
            rotate_left
            ·show Act.put _ (some 60) _ = _
             simp only [Act.put,List.setIfInBounds_toArray,List.set_cons_zero,List.set_cons_succ,i64_w,i32_w]
             rfl
            refine pure_ (i:=2) (N:=some 6) (v:=?_) (a':=?_) #[true,true,true,false] rfl rfl (by kernel_rfl) (fun _ _ _ h=>h) (Or.inl ⟨by rfl,?_⟩) ?_ ?_
            rotate_left
            ·intro w'
             go_simp
             with_reducible rfl
            rotate_left
            ·simp only [Act.put,List.setIfInBounds_toArray,List.set_cons_zero,List.set_cons_succ,i64_w,i32_w]
             rfl
            refine one_ (i:=3) (N:=none) #[true,true,true,true] rfl rfl (by kernel_rfl) (by decide) (fun K hK=>?_)
            have hs68:w66.cell? ⟨gb1359,0,none⟩ = some (.int .i64 x1360000_2):=(blk_cell BK1359.out 0).trans rfl
            have hfs68:=blk_frozen BK1359.out 0
            have hns68_0:=NB1353_1359.out
            have hns68_2:=NB1366_1359.out
            have hns68_3:=NB1371_1359.out
            have hns68_4:=NB1378_1359.out
            have hms68_0:=NB1359_1353.out
            have hms68_2:=NB1359_1366.out
            have hms68_3:=NB1359_1371.out
            have hms68_4:=NB1359_1378.out
            have hs69:w66.cell? ⟨gb1359,1,none⟩ = some (.int .i64 x1360001_2):=(blk_cell BK1359.out 1).trans rfl
            have hfs69:=blk_frozen BK1359.out 1
            have hns69_0:=NB1353_1359.out
            have hns69_2:=NB1366_1359.out
            have hns69_3:=NB1371_1359.out
            have hns69_4:=NB1378_1359.out
            have hms69_0:=NB1359_1353.out
            have hms69_2:=NB1359_1366.out
            have hms69_3:=NB1359_1371.out
            have hms69_4:=NB1359_1378.out
            refine skip_ (w1:=?_) (by rfl) rfl ?_ ?_
            rotate_left
            ·go_simp
             rfl
            refine hK.out _ _ ⟨((cell_far (p:=⟨gb1359,_,none⟩) NB1378_1359.out _).trans (((cell_far (p:=⟨gb1359,_,none⟩) NB1378_1359.out _).trans (hHeld.1)))),((cell_far (p:=⟨gb1359,_,none⟩) NB1378_1359.out _).trans (((cell_far (p:=⟨gb1359,_,none⟩) NB1378_1359.out _).trans (hHeld.2))))⟩ (fun hHeld=>?_)
            clear hK K
            refine done_ (by kernel_rfl) ?_
            try go_wp2
            go_meet
            case rel=>exact ⟨_,(y1380),(t1376),(t1377),H',⟨by have:=HJ2.out;have:=HK2.out;first|omega|exact Nat.le_refl _⟩,⟨by (with_reducible repeat (first|apply Kd.R_alloc|apply Kd.R_drewN|apply Kd.R_drew));exact Kd.R_mono (Kd.R_far (p:=⟨gb1359,1,none⟩) (Kd.R_far (p:=⟨gb1359,0,none⟩) (Kd.R_types HO1382.out BK1359.out (by decide)) (fun _ hk=>hk.2) (.int .i64 t1376)) (fun _ hk=>hk.2) (.int .i64 t1377)) (fun _ hk=>⟨hk.1.1.1.2,hk.1.1.2⟩)⟩,⟨by (with_reducible repeat (first|apply Kd.R_alloc|apply Kd.R_drewN|apply Kd.R_drew));exact Kd.R_mono (Kd.R_far (p:=⟨gb1359,1,none⟩) (Kd.R_far (p:=⟨gb1359,0,none⟩) (Kd.R_types HO1364.out BK1359.out (by decide)) (fun _ hk=>hk.2) (.int .i64 t1376)) (fun _ hk=>hk.2) (.int .i64 t1377)) (fun _ hk=>⟨hk.1.2,hk.1.1.1⟩)⟩,⟨by (with_reducible repeat (first|apply Kd.R_alloc|apply Kd.R_drewN|apply Kd.R_drew));exact Kd.R_mono (Kd.R_far (p:=⟨gb1359,1,none⟩) (Kd.R_far (p:=⟨gb1359,0,none⟩) (Kd.R_types HO1369.out BK1359.out (by decide)) (fun _ hk=>hk.2) (.int .i64 t1376)) (fun _ hk=>hk.2) (.int .i64 t1377)) (fun _ hk=>⟨hk.1.2,hk.1.1.1⟩)⟩,⟨by (with_reducible repeat (first|refine blk_drewN ?_ _|refine blk_drew ?_|refine blk_alloc ?_ _));refine blk_far ?_ NB1353_1359.out _;(with_reducible repeat (first|refine blk_drewN ?_ _|refine blk_drew ?_|refine blk_alloc ?_ _));refine blk_far ?_ NB1353_1359.out _;(with_reducible repeat (first|refine blk_drewN ?_ _|refine blk_drew ?_|refine blk_alloc ?_ _));exact BK1353.out⟩,⟨by (with_reducible repeat (first|refine blk_drewN ?_ _|refine blk_drew ?_|refine blk_alloc ?_ _));refine blk_put (cs:=#[.int .i64 t1376,.int .i64 x1360001_2]) ?_ 1 _ rfl;(with_reducible repeat (first|refine blk_drewN ?_ _|refine blk_drew ?_|refine blk_alloc ?_ _));refine blk_put (cs:=#[.int .i64 x1360000_2,.int .i64 x1360001_2]) ?_ 0 _ rfl;(with_reducible repeat (first|refine blk_drewN ?_ _|refine blk_drew ?_|refine blk_alloc ?_ _));exact BK1359.out⟩,⟨by (with_reducible repeat (first|refine blk_drewN ?_ _|refine blk_drew ?_|refine blk_alloc ?_ _));refine blk_far ?_ NB1366_1359.out _;(with_reducible repeat (first|refine blk_drewN ?_ _|refine blk_drew ?_|refine blk_alloc ?_ _));refine blk_far ?_ NB1366_1359.out _;(with_reducible repeat (first|refine blk_drewN ?_ _|refine blk_drew ?_|refine blk_alloc ?_ _));exact BK1366.out⟩,⟨by (with_reducible repeat (first|refine blk_drewN ?_ _|refine blk_drew ?_|refine blk_alloc ?_ _));refine blk_far ?_ NB1371_1359.out _;(with_reducible repeat (first|refine blk_drewN ?_ _|refine blk_drew ?_|refine blk_alloc ?_ _));refine blk_far ?_ NB1371_1359.out _;(with_reducible repeat (first|refine blk_drewN ?_ _|refine blk_drew ?_|refine blk_alloc ?_ _));exact BK1371.out⟩,⟨by (with_reducible repeat (first|refine blk_drewN ?_ _|refine blk_drew ?_|refine blk_alloc ?_ _));refine blk_far ?_ NB1378_1359.out _;(with_reducible repeat (first|refine blk_drewN ?_ _|refine blk_drew ?_|refine blk_alloc ?_ _));refine blk_far ?_ NB1378_1359.out _;(with_reducible repeat (first|refine blk_drewN ?_ _|refine blk_drew ?_|refine blk_alloc ?_ _));exact BK1378.out⟩,⟨by repeat (first|(with_reducible first|exact HB.out|apply below_alloc|apply pw_below_drewN|apply below_drew1|refine below_set ?_ GE1353.out|refine below_set ?_ GE1359.out|refine below_set ?_ GE1366.out|refine below_set ?_ GE1371.out|refine below_set ?_ GE1378.out)|exact HB.out)⟩⟩
           ·rw [if_neg c64] at H
            have c64b0:decide (0 < t1379) = false:=decide_eq_false c64
            clear c64
            (first|rw [c64b0]|(simp only [i64_w,i32_w];rw [c64b0])|skip)
            have H':=Aside0.mk H
            clear H
            go_wp2
            go_meet
            case rel=>exact ⟨_,(x6_2),(x1360000_2),(x1360001_2),H',⟨by have:=HJ2.out;have:=HK2.out;first|omega|exact Nat.le_refl _⟩,⟨by (with_reducible repeat (first|apply Kd.R_alloc|apply Kd.R_drewN|apply Kd.R_drew));exact Kd.R_mono HO_6.out (fun _ hk=>⟨hk.1,hk.2.1⟩)⟩,⟨by (with_reducible repeat (first|apply Kd.R_alloc|apply Kd.R_drewN|apply Kd.R_drew));exact Kd.R_mono HO1364.out (fun _ hk=>⟨hk.2.2,hk.1⟩)⟩,⟨by (with_reducible repeat (first|apply Kd.R_alloc|apply Kd.R_drewN|apply Kd.R_drew));exact Kd.R_mono HO1369.out (fun _ hk=>⟨hk.2.2,hk.1⟩)⟩,⟨by (with_reducible repeat (first|refine blk_drewN ?_ _|refine blk_drew ?_|refine blk_alloc ?_ _));exact BK1353.out⟩,⟨by (with_reducible repeat (first|refine blk_drewN ?_ _|refine blk_drew ?_|refine blk_alloc ?_ _));exact BK1359.out⟩,⟨by (with_reducible repeat (first|refine blk_drewN ?_ _|refine blk_drew ?_|refine blk_alloc ?_ _));exact BK1366.out⟩,⟨by (with_reducible repeat (first|refine blk_drewN ?_ _|refine blk_drew ?_|refine blk_alloc ?_ _));exact BK1371.out⟩,⟨by (with_reducible repeat (first|refine blk_drewN ?_ _|refine blk_drew ?_|refine blk_alloc ?_ _));exact BK1378.out⟩,⟨by repeat (first|(with_reducible first|exact HB.out|apply below_alloc|apply pw_below_drewN|apply below_drew1|refine below_set ?_ GE1353.out|refine below_set ?_ GE1359.out|refine below_set ?_ GE1366.out|refine below_set ?_ GE1371.out|refine below_set ?_ GE1378.out)|exact HB.out)⟩⟩
          case rest =>
           clear HC30
           try clear c1
           try clear p2
           try clear c5
           try clear c6
           try clear p6
           try clear c7
           try clear c12
           try clear c57
           try clear c58
           try clear c59
           try clear c60
           try clear c64
           try clear c64b0
           try clear p64
           try clear hcz61_0
           try clear hcz61_1
           try clear hcz62_0
           try clear hcz62_1
           try clear hfz61_0
           try clear hfz61_1
           try clear hfz62_0
           try clear hfz62_1
           obtain ⟨kq,x6_29,x1360000_29,x1360001_29,HA,HJ29,HO_6,HO_1367001,HO_1372000,BK1353,BK1359,BK1366,BK1371,BK1378,HB⟩:=hcut
           cases kq with
           | zero=>exact absurd HA.out (by simp [impl_BestSplits.j2])
           | succ kj29 =>
            have H:=HA.out
            clear HA
            simp only [impl_BestSplits.j2] at H
            replace H:=Option.bind_eq_some_iff.mp H
            obtain ⟨t1383,A700,H⟩:=H
            replace H:(if t1383 = 0 then (if x6_29.length < 17592186044416 then (impl_BestSplits.l0 kj29 a1 (x6_29 ++ [x33_2]) (wrap64 ((rd l0_1 a1) + 1)) (wrap64 (x33_2 + 1)) a0_0 l0_1 x1360000_29 x1360001_29) else (none)) else (impl_BestSplits.l0 kj29 a1 x6_29 (wrap64 ((rd l0_1 a1) + 1)) (wrap64 (x33_2 + 1)) a0_0 l0_1 x1360000_29 x1360001_29)) = some (r1,r2):=H
            have A70:=Aside0.mk A700
            clear A700
            by_cases c71:t1383 = 0
            ·rw [if_pos c71] at H
             have c71b0:(t1383 == 0) = true:=beq_iff_eq.mpr c71
             have c71b1:(t1383 != 0) = false:=bne_eq_false_iff_eq.mpr c71
             clear c71
             by_cases c72:x6_29.length < 17592186044416
             ·rw [if_pos c72] at H
              have LMc72:=Aside0.mk c72
              clear c72
              obtain ⟨y1384,hy1384⟩:∃ y_:List Int,y_ = (x6_29 ++ [x33_2]):=⟨_,rfl⟩
              replace H:(impl_BestSplits.l0 kj29 a1 y1384 (wrap64 ((rd l0_1 a1) + 1)) (wrap64 (x33_2 + 1)) a0_0 l0_1 x1360000_29 x1360001_29) = some (r1,r2):=by first|(rw [hy1384];with_reducible exact H)|(have H2_:=(Option.bind_some _ _).symm.trans H;rw [hy1384];with_reducible exact H2_)|(have H2_:=(Option.bind_some _ _).symm.trans H;with_reducible exact H2_)|with_reducible exact H|(rw [hy1384];exact H)|exact H
              have Ny1384:=Aside0.mk hy1384
              clear hy1384
              have H':=Aside0.mk H
              clear H
              have hnb73:=NB1378_1353.out
              have hnc73:=NB1353_1378.out
              have hnb74:=NB1378_1359.out
              have hnc74:=NB1359_1378.out
              have hnb75:=NB1378_1366.out
              have hnc75:=NB1366_1378.out
              have hnb76:=NB1378_1371.out
              have hnc76:=NB1371_1378.out
              have hcz77_0:wc.cell? ⟨gb1378,0,none⟩ = some (.int .i64 t1376):=(blk_cell BK1378.out 0).trans rfl
              have hcz77_1:wc.cell? ⟨gb1378,1,none⟩ = some (.int .i64 t1377):=(blk_cell BK1378.out 1).trans rfl
              have hfz77_0:=blk_frozen BK1378.out 0
              have hfz77_1:=blk_frozen BK1378.out 1
              have hnb78:=NB1359_1353.out
              have hnc78:=NB1353_1359.out
              have hnb79:=NB1359_1366.out
              have hnc79:=NB1366_1359.out
              have hnb80:=NB1359_1371.out
              have hnc80:=NB1371_1359.out
              have hcz81_0:wc.cell? ⟨gb1359,0,none⟩ = some (.int .i64 x1360000_29):=(blk_cell BK1359.out 0).trans rfl
              have hcz81_1:wc.cell? ⟨gb1359,1,none⟩ = some (.int .i64 x1360001_29):=(blk_cell BK1359.out 1).trans rfl
              have hfz81_0:=blk_frozen BK1359.out 0
              have hfz81_1:=blk_frozen BK1359.out 1
              go_wp2_with (first|((with_reducible refine gate_callee (f:=129) rfl ?_);refine goesL_ (some 64) rfl rfl Try.func129 (by kernel_rfl) rfl #[.agg #[.int .i64 t1376,.int .i64 t1377],.agg #[.int .i64 x1360000_29,.int .i64 x1360001_29]] rfl (by (try simp only [List.map_toArray,List.map_cons,List.map_nil]);first|done|rfl|(simp only [List.length_drop,List.length_take];rfl)) ?_;(with_reducible refine (impl_compare.calls t1376 t1377 x1360000_29 x1360001_29 t1383 _ A70.out).mono ?_);rintro e w82 ⟨rfl,hb⟩;refine ⟨_,rfl,?_⟩;have n0_:=Aside0.mk (Kd.R_below (by (with_reducible repeat (first|apply Kd.R_alloc|apply Kd.R_drewN|apply Kd.R_drew));exact HO_6.out) hb);have n1_:=Aside0.mk (Kd.R_below (by (with_reducible repeat (first|apply Kd.R_alloc|apply Kd.R_drewN|apply Kd.R_drew));exact HO_1367001.out) hb);have n2_:=Aside0.mk (Kd.R_below (by (with_reducible repeat (first|apply Kd.R_alloc|apply Kd.R_drewN|apply Kd.R_drew));exact HO_1372000.out) hb);have n3_:=Aside0.mk (blk_below (g:=gb1353) (o:=.cells #[.int .i64 a0_0,.slice (some ad1360) l0_1.length c0_1] 26 (0,0)) (by (with_reducible repeat (first|refine blk_drewN ?_ _|refine blk_drew ?_|refine blk_alloc ?_ _));exact BK1353.out) hb);have n4_:=Aside0.mk (blk_below (g:=gb1359) (o:=.cells #[.int .i64 x1360000_29,.int .i64 x1360001_29] 91 (0,0)) (by (with_reducible repeat (first|refine blk_drewN ?_ _|refine blk_drew ?_|refine blk_alloc ?_ _));exact BK1359.out) hb);have n5_:=Aside0.mk (blk_below (g:=gb1366) (o:=.cells #[.int .i64 t1361,.slice Ao38 t1362.length co38] 26 (0,0)) (by (with_reducible repeat (first|refine blk_drewN ?_ _|refine blk_drew ?_|refine blk_alloc ?_ _));exact BK1366.out) hb);have n6_:=Aside0.mk (blk_below (g:=gb1371) (o:=.cells #[.slice Ao41 t1367.length co41,.int .i64 t1370] 130 (0,0)) (by (with_reducible repeat (first|refine blk_drewN ?_ _|refine blk_drew ?_|refine blk_alloc ?_ _));exact BK1371.out) hb);have n7_:=Aside0.mk (blk_below (g:=gb1378) (o:=.cells #[.int .i64 t1376,.int .i64 t1377] 91 (0,0)) (by (with_reducible repeat (first|refine blk_drewN ?_ _|refine blk_drew ?_|refine blk_alloc ?_ _));exact BK1378.out) hb);have n8_:=Aside0.mk (below_step (by repeat (first|(with_reducible first|exact HB.out|apply below_alloc|apply pw_below_drewN|apply below_drew1|refine below_set ?_ GE1353.out|refine below_set ?_ GE1359.out|refine below_set ?_ GE1366.out|refine below_set ?_ GE1371.out|refine below_set ?_ GE1378.out)|exact HB.out)) hb);clear HO_6;clear HO_1367001;clear HO_1372000;clear BK1353;clear BK1359;clear BK1366;clear BK1371;clear BK1378;clear HB;have HO_6:=n0_;have HO_1367001:=n1_;have HO_1372000:=n2_;have BK1353:=n3_;have BK1359:=n4_;have BK1366:=n5_;have BK1371:=n6_;have BK1378:=n7_;have HB:=n8_;clear n0_ n1_ n2_ n3_ n4_ n5_ n6_ n7_ n8_;(try clear hb);(try clear hb2);(try clear hk);(try clear hi))|((with_reducible refine gate_builtin (b:=.append) (xs:=#[.tmp 66,.tmp 68]) rfl ?_);at_builtin;refine Kd.R_append (Kd.int .i64) (w0:=w) w.heap.size rfl (.tmp 66) (.tmp 68) 22 3 (.int .i64 0) 8 rfl Try.underlying22 info3 rfl (by decide) (by omega) u6 x6_29 x33_2 [.int .i64 x33_2] (fun k_=>some k_ ≠ (.slice Ao38 t1362.length co38:Value).ownBlock ∧ some k_ ≠ (.slice Ao41 t1367.length co41:Value).ownBlock) (fun _=>False) rfl rfl ?aP (fun _ hk=>hk.elim) ?aF ?aO ?aB ?aS ?aL ?_;(case aP=>exact rfl);(case aB=>exact (by repeat (first|(with_reducible first|exact HB.out|apply below_alloc|apply pw_below_drewN|apply below_drew1|refine below_set ?_ GE1353.out|refine below_set ?_ GE1359.out|refine below_set ?_ GE1366.out|refine below_set ?_ GE1371.out|refine below_set ?_ GE1378.out)|exact HB.out)));(case aF=>exact (fun k_ hk=>⟨Kd.fresh' (Kd.R_lt (by (with_reducible repeat (first|apply Kd.R_alloc|apply Kd.R_drewN|apply Kd.R_drew));exact HO_1367001.out)) k_ hk,Kd.fresh' (Kd.R_lt (by (with_reducible repeat (first|apply Kd.R_alloc|apply Kd.R_drewN|apply Kd.R_drew));exact HO_1372000.out)) k_ hk⟩));(case aO=>exact (by (with_reducible repeat (first|apply Kd.R_alloc|apply Kd.R_drewN|apply Kd.R_drew));exact HO_6.out));(case aS=>exact (below_size (by repeat (first|(with_reducible first|exact HB.out|apply below_alloc|apply pw_below_drewN|apply below_drew1|refine below_set ?_ GE1353.out|refine below_set ?_ GE1359.out|refine below_set ?_ GE1366.out|refine below_set ?_ GE1371.out|refine below_set ?_ GE1378.out)|exact HB.out))));(case aL=>have:=LMc72.out;omega);intro v1385 w83 ho hb hg hat;rw [← Ny1384.out] at ho;have n0_:=Aside0.mk (Kd.R_after (ok:=(fun k_=>some k_ ≠ (.slice Ao41 t1367.length co41:Value).ownBlock)) (by (with_reducible repeat (first|apply Kd.R_alloc|apply Kd.R_drewN|apply Kd.R_drew));exact Kd.R_mono HO_1367001.out (fun _ hk=>⟨hk.2,hk.1⟩)) hg hat);have n1_:=Aside0.mk (Kd.R_after (ok:=(fun k_=>some k_ ≠ (.slice Ao38 t1362.length co38:Value).ownBlock)) (by (with_reducible repeat (first|apply Kd.R_alloc|apply Kd.R_drewN|apply Kd.R_drew));exact Kd.R_mono HO_1372000.out (fun _ hk=>⟨hk.2,hk.1⟩)) hg hat);have n2_:=Aside0.mk (blk_grown (g:=gb1353) (o:=.cells #[.int .i64 a0_0,.slice (some ad1360) l0_1.length c0_1] 26 (0,0)) (by (with_reducible repeat (first|refine blk_drewN ?_ _|refine blk_drew ?_|refine blk_alloc ?_ _));exact BK1353.out) hg (Kd.R_ne HO_6.out BK1353.out (by decide)));have n3_:=Aside0.mk (blk_grown (g:=gb1359) (o:=.cells #[.int .i64 x1360000_29,.int .i64 x1360001_29] 91 (0,0)) (by (with_reducible repeat (first|refine blk_drewN ?_ _|refine blk_drew ?_|refine blk_alloc ?_ _));exact BK1359.out) hg (Kd.R_ne HO_6.out BK1359.out (by decide)));have n4_:=Aside0.mk (blk_grown (g:=gb1366) (o:=.cells #[.int .i64 t1361,.slice Ao38 t1362.length co38] 26 (0,0)) (by (with_reducible repeat (first|refine blk_drewN ?_ _|refine blk_drew ?_|refine blk_alloc ?_ _));exact BK1366.out) hg (Kd.R_ne HO_6.out BK1366.out (by decide)));have n5_:=Aside0.mk (blk_grown (g:=gb1371) (o:=.cells #[.slice Ao41 t1367.length co41,.int .i64 t1370] 130 (0,0)) (by (with_reducible repeat (first|refine blk_drewN ?_ _|refine blk_drew ?_|refine blk_alloc ?_ _));exact BK1371.out) hg (Kd.R_ne HO_6.out BK1371.out (by decide)));have n6_:=Aside0.mk (blk_grown (g:=gb1378) (o:=.cells #[.int .i64 t1376,.int .i64 t1377] 91 (0,0)) (by (with_reducible repeat (first|refine blk_drewN ?_ _|refine blk_drew ?_|refine blk_alloc ?_ _));exact BK1378.out) hg (Kd.R_ne HO_6.out BK1378.out (by decide)));have n7_:=Aside0.mk (hb);have n8_:=Aside0.mk (ho);clear HO_1367001;clear HO_1372000;clear BK1353;clear BK1359;clear BK1366;clear BK1371;clear BK1378;clear HB;clear HO_6;have HO_1367001:=n0_;have HO_1372000:=n1_;have BK1353:=n2_;have BK1359:=n3_;have BK1366:=n4_;have BK1371:=n5_;have BK1378:=n6_;have HB:=n7_;have HO1386:=n8_;clear n0_ n1_ n2_ n3_ n4_ n5_ n6_ n7_ n8_;clear ho hb hg hat))
              go_roundg kj29
              case measure=>have:=HJ2.out;have:=HK2.out;have:=HJ29.out;omega
              case rel=>exact ⟨(y1384),(wrap64 (x33_2 + 1)),(x1360000_29),(x1360001_29),(by first|rfl|(simp;done)|(simp [*];done)),H',⟨by have:=HJ2.out;have:=HK2.out;have:=HJ29.out;omega⟩,⟨by (with_reducible repeat (first|apply Kd.R_alloc|apply Kd.R_drewN|apply Kd.R_drew));exact Kd.R_mono HO1386.out (fun _ hk=>trivial)⟩,⟨by (with_reducible repeat (first|refine blk_drewN ?_ _|refine blk_drew ?_|refine blk_alloc ?_ _));exact BK1353.out⟩,⟨by (with_reducible repeat (first|refine blk_drewN ?_ _|refine blk_drew ?_|refine blk_alloc ?_ _));exact BK1359.out⟩,⟨by repeat (first|(with_reducible first|exact HB.out|apply below_alloc|apply pw_below_drewN|apply below_drew1|refine below_set ?_ GE1353.out|refine below_set ?_ GE1359.out|refine below_set ?_ GE1366.out|refine below_set ?_ GE1371.out|refine below_set ?_ GE1378.out)|exact HB.out)⟩⟩
             ·rw [if_neg c72] at H
              exact absurd H (by simp)
            ·rw [if_neg c71] at H
             have c71b0:(t1383 == 0) = false:=beq_eq_false_iff_ne.mpr c71
             have c71b1:(t1383 != 0) = true:=bne_iff_ne.mpr c71
             have H':=Aside0.mk H
             clear H
             have hnb84:=NB1378_1353.out
             have hnc84:=NB1353_1378.out
             have hnb85:=NB1378_1359.out
             have hnc85:=NB1359_1378.out
             have hnb86:=NB1378_1366.out
             have hnc86:=NB1366_1378.out
             have hnb87:=NB1378_1371.out
             have hnc87:=NB1371_1378.out
             have hcz88_0:wc.cell? ⟨gb1378,0,none⟩ = some (.int .i64 t1376):=(blk_cell BK1378.out 0).trans rfl
             have hcz88_1:wc.cell? ⟨gb1378,1,none⟩ = some (.int .i64 t1377):=(blk_cell BK1378.out 1).trans rfl
             have hfz88_0:=blk_frozen BK1378.out 0
             have hfz88_1:=blk_frozen BK1378.out 1
             have hnb89:=NB1359_1353.out
             have hnc89:=NB1353_1359.out
             have hnb90:=NB1359_1366.out
             have hnc90:=NB1366_1359.out
             have hnb91:=NB1359_1371.out
             have hnc91:=NB1371_1359.out
             have hcz92_0:wc.cell? ⟨gb1359,0,none⟩ = some (.int .i64 x1360000_29):=(blk_cell BK1359.out 0).trans rfl
             have hcz92_1:wc.cell? ⟨gb1359,1,none⟩ = some (.int .i64 x1360001_29):=(blk_cell BK1359.out 1).trans rfl
             have hfz92_0:=blk_frozen BK1359.out 0
             have hfz92_1:=blk_frozen BK1359.out 1
             go_wp2_with (first|((with_reducible refine gate_callee (f:=129) rfl ?_);refine goesL_ (some 64) rfl rfl Try.func129 (by kernel_rfl) rfl #[.agg #[.int .i64 t1376,.int .i64 t1377],.agg #[.int .i64 x1360000_29,.int .i64 x1360001_29]] rfl (by (try simp only [List.map_toArray,List.map_cons,List.map_nil]);first|done|rfl|(simp only [List.length_drop,List.length_take];rfl)) ?_;(with_reducible refine (impl_compare.calls t1376 t1377 x1360000_29 x1360001_29 t1383 _ A70.out).mono ?_);rintro e w93 ⟨rfl,hb⟩;refine ⟨_,rfl,?_⟩;have n0_:=Aside0.mk (Kd.R_below (by (with_reducible repeat (first|apply Kd.R_alloc|apply Kd.R_drewN|apply Kd.R_drew));exact HO_6.out) hb);have n1_:=Aside0.mk (Kd.R_below (by (with_reducible repeat (first|apply Kd.R_alloc|apply Kd.R_drewN|apply Kd.R_drew));exact HO_1367001.out) hb);have n2_:=Aside0.mk (Kd.R_below (by (with_reducible repeat (first|apply Kd.R_alloc|apply Kd.R_drewN|apply Kd.R_drew));exact HO_1372000.out) hb);have n3_:=Aside0.mk (blk_below (g:=gb1353) (o:=.cells #[.int .i64 a0_0,.slice (some ad1360) l0_1.length c0_1] 26 (0,0)) (by (with_reducible repeat (first|refine blk_drewN ?_ _|refine blk_drew ?_|refine blk_alloc ?_ _));exact BK1353.out) hb);have n4_:=Aside0.mk (blk_below (g:=gb1359) (o:=.cells #[.int .i64 x1360000_29,.int .i64 x1360001_29] 91 (0,0)) (by (with_reducible repeat (first|refine blk_drewN ?_ _|refine blk_drew ?_|refine blk_alloc ?_ _));exact BK1359.out) hb);have n5_:=Aside0.mk (blk_below (g:=gb1366) (o:=.cells #[.int .i64 t1361,.slice Ao38 t1362.length co38] 26 (0,0)) (by (with_reducible repeat (first|refine blk_drewN ?_ _|refine blk_drew ?_|refine blk_alloc ?_ _));exact BK1366.out) hb);have n6_:=Aside0.mk (blk_below (g:=gb1371) (o:=.cells #[.slice Ao41 t1367.length co41,.int .i64 t1370] 130 (0,0)) (by (with_reducible repeat (first|refine blk_drewN ?_ _|refine blk_drew ?_|refine blk_alloc ?_ _));exact BK1371.out) hb);have n7_:=Aside0.mk (blk_below (g:=gb1378) (o:=.cells #[.int .i64 t1376,.int .i64 t1377] 91 (0,0)) (by (with_reducible repeat (first|refine blk_drewN ?_ _|refine blk_drew ?_|refine blk_alloc ?_ _));exact BK1378.out) hb);have n8_:=Aside0.mk (below_step (by repeat (first|(with_reducible first|exact HB.out|apply below_alloc|apply pw_below_drewN|apply below_drew1|refine below_set ?_ GE1353.out|refine below_set ?_ GE1359.out|refine below_set ?_ GE1366.out|refine below_set ?_ GE1371.out|refine below_set ?_ GE1378.out)|exact HB.out)) hb);clear HO_6;clear HO_1367001;clear HO_1372000;clear BK1353;clear BK1359;clear BK1366;clear BK1371;clear BK1378;clear HB;have HO_6:=n0_;have HO_1367001:=n1_;have HO_1372000:=n2_;have BK1353:=n3_;have BK1359:=n4_;have BK1366:=n5_;have BK1371:=n6_;have BK1378:=n7_;have HB:=n8_;clear n0_ n1_ n2_ n3_ n4_ n5_ n6_ n7_ n8_;(try clear hb);(try clear hb2);(try clear hk);(try clear hi)))
             go_roundg kj29
             case measure=>have:=HJ2.out;have:=HK2.out;have:=HJ29.out;omega
             case rel=>exact ⟨(x6_29),(wrap64 (x33_2 + 1)),(x1360000_29),(x1360001_29),(by first|rfl|(simp;done)|(simp [*];done)),H',⟨by have:=HJ2.out;have:=HK2.out;have:=HJ29.out;omega⟩,⟨by (with_reducible repeat (first|apply Kd.R_alloc|apply Kd.R_drewN|apply Kd.R_drew));exact Kd.R_mono HO_6.out (fun _ hk=>trivial)⟩,⟨by (with_reducible repeat (first|refine blk_drewN ?_ _|refine blk_drew ?_|refine blk_alloc ?_ _));exact BK1353.out⟩,⟨by (with_reducible repeat (first|refine blk_drewN ?_ _|refine blk_drew ?_|refine blk_alloc ?_ _));exact BK1359.out⟩,⟨by repeat (first|(with_reducible first|exact HB.out|apply below_alloc|apply pw_below_drewN|apply below_drew1|refine below_set ?_ GE1353.out|refine below_set ?_ GE1359.out|refine below_set ?_ GE1366.out|refine below_set ?_ GE1371.out|refine below_set ?_ GE1378.out)|exact HB.out)⟩⟩
         ·replace c25:=Bool.eq_false_iff.mpr c25
          subst c25
          have H1:(some (([]:List Int),false)) = some (r1,r2):=by rw [if_neg (show ¬ (false = true) by decide)] at H;exact H
          clear H
          have H:=H1
          clear H1
          simp only [Option.some.injEq,Prod.mk.injEq] at H
          obtain ⟨rfl,rfl⟩:=H
          have hnb94:=NB1353_1359.out
          have hnc94:=NB1359_1353.out
          have hcz95_0:wr.cell? ⟨gb1353,0,none⟩ = some (.int .i64 a0_0):=(blk_cell BK1353.out 0).trans rfl
          have hcz95_1:wr.cell? ⟨gb1353,1,none⟩ = some (.slice (some ad1360) l0_1.length c0_1):=(blk_cell BK1353.out 1).trans rfl
          have hfz95_0:=blk_frozen BK1353.out 0
          have hfz95_1:=blk_frozen BK1353.out 1
          go_wp2_with (first|((with_reducible refine gate_callee (f:=18) rfl ?_);refine goesL_ (some 40) rfl rfl Try.func18 (by kernel_rfl) rfl #[.agg #[.int .i64 a0_0,.slice (some ad1360) l0_1.length c0_1],.int .i64 a1,.int .i64 x33_2] rfl (by (try simp only [List.map_toArray,List.map_cons,List.map_nil]);first|done|rfl|(simp only [List.length_drop,List.length_take];rfl)) ?_;(with_reducible refine (impl_SplitMember.calls k2 a0_0 _ _ l0_1 a1 x33_2 t1361 t1362 false _ ?side1 ?side2 A24.out).mono ?_);(case side1=>repeat (first|exact (Kd.C_below HR0_1.out HB.out)|(with_reducible refine Kd.C_alloc ?_ _)|(with_reducible refine Kd.C_drewN ?_ _)|(with_reducible refine Kd.C_drew ?_)));(case side2=>exact HC0_1.out);rintro e w96 ⟨v1363,rfl,ho0,hb⟩;refine ⟨_,rfl,?_⟩;have n0_:=Aside0.mk (Kd.R_elder' (by (with_reducible repeat (first|apply Kd.R_alloc|apply Kd.R_drewN|apply Kd.R_drew));exact HO_6.out) (Kd.R_base ho0) hb);have n1_:=Aside0.mk (Kd.R_lower (Kd.R_new' ho0 (Kd.R_lt (by (with_reducible repeat (first|apply Kd.R_alloc|apply Kd.R_drewN|apply Kd.R_drew));exact HO_6.out))) (below_size (by repeat (first|(with_reducible first|exact HB.out|apply below_alloc|apply pw_below_drewN|apply below_drew1|refine below_set ?_ GE1353.out|refine below_set ?_ GE1359.out)|exact HB.out))));have n2_:=Aside0.mk (blk_below (g:=gb1353) (o:=.cells #[.int .i64 a0_0,.slice (some ad1360) l0_1.length c0_1] 26 (0,0)) (by (with_reducible repeat (first|refine blk_drewN ?_ _|refine blk_drew ?_|refine blk_alloc ?_ _));exact BK1353.out) hb);have n3_:=Aside0.mk (blk_below (g:=gb1359) (o:=.cells #[.int .i64 x1360000_2,.int .i64 x1360001_2] 91 (0,0)) (by (with_reducible repeat (first|refine blk_drewN ?_ _|refine blk_drew ?_|refine blk_alloc ?_ _));exact BK1359.out) hb);have n4_:=Aside0.mk (below_step (by repeat (first|(with_reducible first|exact HB.out|apply below_alloc|apply pw_below_drewN|apply below_drew1|refine below_set ?_ GE1353.out|refine below_set ?_ GE1359.out)|exact HB.out)) hb);clear HO_6;clear BK1353;clear BK1359;clear HB;have HO_6:=n0_;have HO1364:=n1_;have BK1353:=n2_;have BK1359:=n3_;have HB:=n4_;clear n0_ n1_ n2_ n3_ n4_;(try clear hb);(try clear hb2);(try clear hk);(try clear hi);(try clear ho0))|((with_reducible refine gate_dst (N:=9) rfl ?_);refine box_event ?hg (N:=9) ?hd (cs:=#[.int .i64 0,.slice none 0 0]) (t:=26) ?hr ?_;(case hd=>rfl);(case hg=>rfl);(case hr=>first|(go_simp;done)|(go_simp;rfl));intro gb1366 hg w97 hbox hb;have n0_:=Aside0.mk (Kd.R_below (by (with_reducible repeat (first|apply Kd.R_alloc|apply Kd.R_drewN|apply Kd.R_drew));exact HO_6.out) hb);have n1_:=Aside0.mk (Kd.R_below (by (with_reducible repeat (first|apply Kd.R_alloc|apply Kd.R_drewN|apply Kd.R_drew));exact HO1364.out) hb);have n2_:=Aside0.mk (blk_below (g:=gb1353) (o:=.cells #[.int .i64 a0_0,.slice (some ad1360) l0_1.length c0_1] 26 (0,0)) (by (with_reducible repeat (first|refine blk_drewN ?_ _|refine blk_drew ?_|refine blk_alloc ?_ _));exact BK1353.out) hb);have n3_:=Aside0.mk (blk_below (g:=gb1359) (o:=.cells #[.int .i64 x1360000_2,.int .i64 x1360001_2] 91 (0,0)) (by (with_reducible repeat (first|refine blk_drewN ?_ _|refine blk_drew ?_|refine blk_alloc ?_ _));exact BK1359.out) hb);have n4_:=Aside0.mk (below_step (by repeat (first|(with_reducible first|exact HB.out|apply below_alloc|apply pw_below_drewN|apply below_drew1|refine below_set ?_ GE1353.out|refine below_set ?_ GE1359.out)|exact HB.out)) hb);have n5_:=Aside0.mk (hbox);have n6_:=Aside0.mk ((by rw [hg];exact (below_size (by repeat (first|(with_reducible first|exact HB.out|apply below_alloc|apply pw_below_drewN|apply below_drew1|refine below_set ?_ GE1353.out|refine below_set ?_ GE1359.out)|exact HB.out))):w.heap.size ≤ gb1366));have n7_:=Aside0.mk ((by rw [hg];exact (below_size (by repeat (first|(with_reducible first|exact HB.out|apply below_alloc|apply pw_below_drewN|apply below_drew1|refine below_set ?_ GE1353.out|refine below_set ?_ GE1359.out)|exact HB.out))):w.heap.size ≤ gb1366));have n8_:=Aside0.mk ((by rw [hg];exact Nat.ne_of_lt (blk_lt (g:=gb1353) (o:=.cells #[.int .i64 a0_0,.slice (some ad1360) l0_1.length c0_1] 26 (0,0)) (by (with_reducible repeat (first|refine blk_drewN ?_ _|refine blk_drew ?_|refine blk_alloc ?_ _));exact BK1353.out)):gb1353 ≠ gb1366));have n9_:=Aside0.mk ((by rw [hg];exact Nat.ne_of_gt (blk_lt (g:=gb1353) (o:=.cells #[.int .i64 a0_0,.slice (some ad1360) l0_1.length c0_1] 26 (0,0)) (by (with_reducible repeat (first|refine blk_drewN ?_ _|refine blk_drew ?_|refine blk_alloc ?_ _));exact BK1353.out)):gb1366 ≠ gb1353));have n10_:=Aside0.mk ((by rw [hg];exact Nat.ne_of_lt (blk_lt (g:=gb1359) (o:=.cells #[.int .i64 x1360000_2,.int .i64 x1360001_2] 91 (0,0)) (by (with_reducible repeat (first|refine blk_drewN ?_ _|refine blk_drew ?_|refine blk_alloc ?_ _));exact BK1359.out)):gb1359 ≠ gb1366));have n11_:=Aside0.mk ((by rw [hg];exact Nat.ne_of_gt (blk_lt (g:=gb1359) (o:=.cells #[.int .i64 x1360000_2,.int .i64 x1360001_2] 91 (0,0)) (by (with_reducible repeat (first|refine blk_drewN ?_ _|refine blk_drew ?_|refine blk_alloc ?_ _));exact BK1359.out)):gb1366 ≠ gb1359));clear HO_6;clear HO1364;clear BK1353;clear BK1359;clear HB;have HO_6:=n0_;have HO1364:=n1_;have BK1353:=n2_;have BK1359:=n3_;have HB:=n4_;have BK1366:=n5_;have GW1366:=n6_;have GE1366:=n7_;have NB1353_1366:=n8_;have NB1366_1353:=n9_;have NB1359_1366:=n10_;have NB1366_1359:=n11_;clear n0_ n1_ n2_ n3_ n4_ n5_ n6_ n7_ n8_ n9_ n10_ n11_;clear hb hbox hg;have hnb98:=NB1366_1353.out;have hnc98:=NB1353_1366.out;have hnb99:=NB1366_1359.out;have hnc99:=NB1359_1366.out;have hcz100_0:w97.cell? ⟨gb1366,0,none⟩ = some (.int .i64 0):=(blk_cell BK1366.out 0).trans rfl;have hcz100_1:w97.cell? ⟨gb1366,1,none⟩ = some (.slice none 0 0):=(blk_cell BK1366.out 1).trans rfl;have hfz100_0:=blk_frozen BK1366.out 0;have hfz100_1:=blk_frozen BK1366.out 1;obtain ⟨Ao101,co101,eo101⟩:=Kd.R_slice HO1364.out;subst eo101))
          go_ret2
          exact ⟨_,by first|rfl|(simp [errW_none,errW_some] <;> rfl)|(simp [*,errW_none,errW_some] <;> rfl),by first|exact Kd.R_nil _ _ _ _ _|exact Kd.N_nil _ _ _ _ _|exact Kd.V_nil _ _ _ _ _|exact Kd.Q_nil _ _ _ _ _|exact Kd.S_nil _ _ _ _ _,by repeat (first|(with_reducible first|exact HB.out|apply below_alloc|apply pw_below_drewN|apply below_drew1|refine below_set ?_ GE1353.out|refine below_set ?_ GE1359.out|refine below_set ?_ GE1366.out)|exact HB.out)⟩
        ·rw [if_neg c23] at H
         have c23b0:decide (x33_2 < (wrap64 ((rd l0_1 a1) + 1))) = false:=decide_eq_false c23
         clear c23
         simp only [Option.some.injEq,Prod.mk.injEq] at H
         obtain ⟨rfl,rfl⟩:=H
         go_wp2
         go_ret2
         exact ⟨_,by first|rfl|(simp [errW_none,errW_some] <;> rfl)|(simp [*,errW_none,errW_some] <;> rfl),by (with_reducible repeat (first|apply Kd.R_alloc|apply Kd.R_drewN|apply Kd.R_drew));exact HO_6.out,by repeat (first|(with_reducible first|exact HB.out|apply below_alloc|apply pw_below_drewN|apply below_drew1|refine below_set ?_ GE1353.out|refine below_set ?_ GE1359.out)|exact HB.out)⟩
     ·rw [if_neg c16] at H
      exact absurd H (by simp)
    ·rw [if_neg c15] at H
     exact absurd H (by simp)


/-! ### laws_FnExactBestSplits: function 12 -/
def laws_FnExactBestSplits.f (k:Nat) (a0_0:Int) (l0_1:List Int) (a1:Int):Option (Bool):=(laws_szCommittee.f a0_0 l0_1 1048576).bind fun t1388=>(if t1388 < 0 then (some true) else ((laws_toCommittee.f k a0_0 l0_1).bind fun bt1389=>((spec_BestSplits.f k bt1389.1 bt1389.2 a1).bind fun bt1393=>((laws_toCommittee.f k a0_0 l0_1).bind fun bt1397=>((impl_BestSplits.f k bt1397.1 bt1397.2 a1).bind fun bt1402=>((laws_eqIntS.f k bt1402.1 bt1393.1).bind fun t1406=>(if t1406 = true then (if (bt1402.2 != bt1393.2) = true then (some false) else ((laws_toCommittee.f k a0_0 l0_1).bind fun bt1407=>((laws_eqCommittee.f k bt1397.1 bt1397.2 bt1407.1 bt1407.2).bind fun t1411=>(if t1411 = true then ((laws_markCommittee.f k bt1397.1 bt1397.2 1).bind fun bt1412=>(if bt1412.1 < 0 then (some false) else ((laws_eqIntS.f k bt1402.1 bt1393.1).bind fun t1414=>(if t1414 = true then ((laws_markIntS.f k bt1402.1 1).bind fun bt1415=>((laws_heldIntS.f k bt1415.2 1).bind fun t1417=>(if t1417 < 0 then (some false) else (if t1417 = bt1415.1 then ((laws_toCommittee.f k a0_0 l0_1).bind fun bt1418=>((impl_BestSplits.f k bt1418.1 bt1418.2 a1).bind fun bt1422=>((laws_eqIntS.f k bt1422.1 bt1393.1).bind fun t1426=>(if t1426 = true then (if (bt1422.2 != bt1393.2) = true then (some false) else ((laws_heldIntS.f k bt1415.2 1).bind fun t1427=>(if t1427 < 0 then (some false) else (if t1427 = bt1415.1 then (some true) else (some false))))) else (some false))))) else (some false))))) else (some false))))) else (some false))))) else (some false))))))))
theorem laws_FnExactBestSplits.mono:∀ a0 a1 a2 k,LeO (laws_FnExactBestSplits.f k a0 a1 a2) (laws_FnExactBestSplits.f (k + 1) a0 a1 a2):=by
 intro a0 a1 a2 k
 unfold laws_FnExactBestSplits.f
 repeat' first
   | (with_reducible exact impl_BestSplits.mono _ _ _ _)
   | (with_reducible exact laws_eqCommittee.mono _ _ _ _ _)
   | (with_reducible exact laws_eqIntS.mono _ _ _)
   | (with_reducible exact laws_heldIntS.mono _ _ _)
   | (with_reducible exact laws_markCommittee.mono _ _ _ _)
   | (with_reducible exact laws_markIntS.mono _ _ _)
   | (with_reducible exact laws_toCommittee.mono _ _ _)
   | (with_reducible exact spec_BestSplits.mono _ _ _ _)
   | (with_reducible exact LeO.refl _)
   | (with_reducible exact LeO.none _)
   | (with_reducible refine LeO.ite ?_ ?_)
   | (with_reducible refine LeO.bind ?_ (fun _=>?_))
   | exact impl_BestSplits.mono _ _ _ _
   | exact laws_eqCommittee.mono _ _ _ _ _
   | exact laws_eqIntS.mono _ _ _
   | exact laws_heldIntS.mono _ _ _
   | exact laws_markCommittee.mono _ _ _ _
   | exact laws_markIntS.mono _ _ _
   | exact laws_toCommittee.mono _ _ _
   | exact spec_BestSplits.mono _ _ _ _
   | exact LeO.none _
   | refine LeO.ite ?_ ?_
   | refine LeO.bind ?_ (fun _=>?_)
set_option maxHeartbeats 8000000 in
set_option maxRecDepth 100000 in
theorem laws_FnExactBestSplits.calls (k:Nat) (a0_0:Int) (A0_1:Option Addr) (c0_1:Nat) (l0_1:List Int) (a1:Int) (r:Bool) (w:World) (hr0_1:Kd.C (Kd.int .i64) w A0_1 l0_1.length l0_1) (hc0_1:l0_1.length ≤ c0_1) (hr_:Aside0 (r = true)) (h:laws_FnExactBestSplits.f k a0_0 l0_1 a1 = some r) :
  Calls Try.prog 12 #[.agg #[.int .i64 a0_0,.slice A0_1 l0_1.length c0_1],.int .i64 a1] w fun e w'=>e = .returned (.bool r) ∧ Below w.heap.size w w':=by
 have hu24:=Try.underlying24
 have hu26:=Try.underlying26
 have HR0_1:=Aside0.mk hr0_1
 have HC0_1:=Aside0.mk hc0_1
 clear hr0_1 hc0_1
 have HB:=Aside0.mk (Below.refl w.heap.size w)
 have H:((laws_szCommittee.f a0_0 l0_1 1048576).bind fun t1388=>(if t1388 < 0 then (some true) else ((laws_toCommittee.f k a0_0 l0_1).bind fun bt1389=>((spec_BestSplits.f k bt1389.1 bt1389.2 a1).bind fun bt1393=>((laws_toCommittee.f k a0_0 l0_1).bind fun bt1397=>((impl_BestSplits.f k bt1397.1 bt1397.2 a1).bind fun bt1402=>((laws_eqIntS.f k bt1402.1 bt1393.1).bind fun t1406=>(if t1406 = true then (if (bt1402.2 != bt1393.2) = true then (some false) else ((laws_toCommittee.f k a0_0 l0_1).bind fun bt1407=>((laws_eqCommittee.f k bt1397.1 bt1397.2 bt1407.1 bt1407.2).bind fun t1411=>(if t1411 = true then ((laws_markCommittee.f k bt1397.1 bt1397.2 1).bind fun bt1412=>(if bt1412.1 < 0 then (some false) else ((laws_eqIntS.f k bt1402.1 bt1393.1).bind fun t1414=>(if t1414 = true then ((laws_markIntS.f k bt1402.1 1).bind fun bt1415=>((laws_heldIntS.f k bt1415.2 1).bind fun t1417=>(if t1417 < 0 then (some false) else (if t1417 = bt1415.1 then ((laws_toCommittee.f k a0_0 l0_1).bind fun bt1418=>((impl_BestSplits.f k bt1418.1 bt1418.2 a1).bind fun bt1422=>((laws_eqIntS.f k bt1422.1 bt1393.1).bind fun t1426=>(if t1426 = true then (if (bt1422.2 != bt1393.2) = true then (some false) else ((laws_heldIntS.f k bt1415.2 1).bind fun t1427=>(if t1427 < 0 then (some false) else (if t1427 = bt1415.1 then (some true) else (some false))))) else (some false))))) else (some false))))) else (some false))))) else (some false))))) else (some false))))))))) = some r:=h
 clear h
 replace H:=Option.bind_eq_some_iff.mp H
 obtain ⟨t1388,A30,H⟩:=H
 replace H:(if t1388 < 0 then (some true) else ((laws_toCommittee.f k a0_0 l0_1).bind fun bt1389=>((spec_BestSplits.f k bt1389.1 bt1389.2 a1).bind fun bt1393=>((laws_toCommittee.f k a0_0 l0_1).bind fun bt1397=>((impl_BestSplits.f k bt1397.1 bt1397.2 a1).bind fun bt1402=>((laws_eqIntS.f k bt1402.1 bt1393.1).bind fun t1406=>(if t1406 = true then (if (bt1402.2 != bt1393.2) = true then (some false) else ((laws_toCommittee.f k a0_0 l0_1).bind fun bt1407=>((laws_eqCommittee.f k bt1397.1 bt1397.2 bt1407.1 bt1407.2).bind fun t1411=>(if t1411 = true then ((laws_markCommittee.f k bt1397.1 bt1397.2 1).bind fun bt1412=>(if bt1412.1 < 0 then (some false) else ((laws_eqIntS.f k bt1402.1 bt1393.1).bind fun t1414=>(if t1414 = true then ((laws_markIntS.f k bt1402.1 1).bind fun bt1415=>((laws_heldIntS.f k bt1415.2 1).bind fun t1417=>(if t1417 < 0 then (some false) else (if t1417 = bt1415.1 then ((laws_toCommittee.f k a0_0 l0_1).bind fun bt1418=>((impl_BestSplits.f k bt1418.1 bt1418.2 a1).bind fun bt1422=>((laws_eqIntS.f k bt1422.1 bt1393.1).bind fun t1426=>(if t1426 = true then (if (bt1422.2 != bt1393.2) = true then (some false) else ((laws_heldIntS.f k bt1415.2 1).bind fun t1427=>(if t1427 < 0 then (some false) else (if t1427 = bt1415.1 then (some true) else (some false))))) else (some false))))) else (some false))))) else (some false))))) else (some false))))) else (some false)))))))) = some r:=H
 have A3:=Aside0.mk A30
 clear A30
 by_cases c4:t1388 < 0
 ·rw [if_pos c4] at H
  have c4b0:decide (t1388 < 0) = true:=decide_eq_true c4
  clear c4
  obtain rfl:=Option.some.inj H
  go_enter Try.func12,Try.ntmps12
  go_wp2_with (first|((with_reducible refine gate_dst (N:=2) rfl ?_);refine box_event ?hg (N:=2) ?hd (cs:=#[.int .i64 a0_0,.slice A0_1 l0_1.length c0_1]) (t:=24) ?hr ?_;(case hd=>rfl);(case hg=>rfl);(case hr=>first|(go_simp;done)|(go_simp;rfl));intro gb1387 hg w5 hbox hb;have n0_:=Aside0.mk (below_step (by repeat (first|(with_reducible first|exact HB.out|apply below_alloc|apply pw_below_drewN|apply below_drew1)|exact HB.out)) hb);have n1_:=Aside0.mk (hbox);have n2_:=Aside0.mk ((by rw [hg];exact (below_size (by repeat (first|(with_reducible first|exact HB.out|apply below_alloc|apply pw_below_drewN|apply below_drew1)|exact HB.out))):w.heap.size ≤ gb1387));have n3_:=Aside0.mk ((by rw [hg];exact (below_size (by repeat (first|(with_reducible first|exact HB.out|apply below_alloc|apply pw_below_drewN|apply below_drew1)|exact HB.out))):w.heap.size ≤ gb1387));clear HB;have HB:=n0_;have BK1387:=n1_;have GW1387:=n2_;have GE1387:=n3_;clear n0_ n1_ n2_ n3_;clear hb hbox hg;have hcz6_0:w5.cell? ⟨gb1387,0,none⟩ = some (.int .i64 a0_0):=(blk_cell BK1387.out 0).trans rfl;have hcz6_1:w5.cell? ⟨gb1387,1,none⟩ = some (.slice A0_1 l0_1.length c0_1):=(blk_cell BK1387.out 1).trans rfl;have hfz6_0:=blk_frozen BK1387.out 0;have hfz6_1:=blk_frozen BK1387.out 1)|((with_reducible refine gate_callee (f:=15) rfl ?_);refine goesL_ (some 18) rfl rfl Try.func15 (by kernel_rfl) rfl #[.agg #[.int .i64 a0_0,.slice A0_1 l0_1.length c0_1],.int .i64 1048576] rfl (by (try simp only [List.map_toArray,List.map_cons,List.map_nil]);first|done|rfl|(simp only [List.length_drop,List.length_take];rfl)) ?_;(with_reducible refine (laws_szCommittee.calls a0_0 _ _ l0_1 1048576 t1388 _ ?side1 ?side2 A3.out).mono ?_);(case side1=>repeat (first|exact (Kd.C_below HR0_1.out HB.out)|(with_reducible refine Kd.C_alloc ?_ _)|(with_reducible refine Kd.C_drewN ?_ _)|(with_reducible refine Kd.C_drew ?_)));(case side2=>exact HC0_1.out);rintro e w7 ⟨rfl,hb⟩;refine ⟨_,rfl,?_⟩;have n0_:=Aside0.mk (blk_below (g:=gb1387) (o:=.cells #[.int .i64 a0_0,.slice A0_1 l0_1.length c0_1] 24 (0,0)) (by (with_reducible repeat (first|refine blk_drewN ?_ _|refine blk_drew ?_|refine blk_alloc ?_ _));exact BK1387.out) hb);have n1_:=Aside0.mk (below_step (by repeat (first|(with_reducible first|exact HB.out|apply below_alloc|apply pw_below_drewN|apply below_drew1|refine below_set ?_ GE1387.out)|exact HB.out)) hb);clear BK1387;clear HB;have BK1387:=n0_;have HB:=n1_;clear n0_ n1_;(try clear hb);(try clear hb2);(try clear hk);(try clear hi)))
  go_ret
  exact ⟨by first|rfl|(simp [errW_none,errW_some] <;> rfl)|(simp [*,errW_none,errW_some] <;> rfl),by repeat (first|(with_reducible first|exact HB.out|apply below_alloc|apply pw_below_drewN|apply below_drew1|refine below_set ?_ GE1387.out)|exact HB.out)⟩
 ·rw [if_neg c4] at H
  have c4b0:decide (t1388 < 0) = false:=decide_eq_false c4
  clear c4
  replace H:=Option.bind_eq_some_iff.mp H
  obtain ⟨⟨t1389,t1390⟩,A80,H⟩:=H
  replace H:((spec_BestSplits.f k t1389 t1390 a1).bind fun bt1393=>((laws_toCommittee.f k a0_0 l0_1).bind fun bt1397=>((impl_BestSplits.f k bt1397.1 bt1397.2 a1).bind fun bt1402=>((laws_eqIntS.f k bt1402.1 bt1393.1).bind fun t1406=>(if t1406 = true then (if (bt1402.2 != bt1393.2) = true then (some false) else ((laws_toCommittee.f k a0_0 l0_1).bind fun bt1407=>((laws_eqCommittee.f k bt1397.1 bt1397.2 bt1407.1 bt1407.2).bind fun t1411=>(if t1411 = true then ((laws_markCommittee.f k bt1397.1 bt1397.2 1).bind fun bt1412=>(if bt1412.1 < 0 then (some false) else ((laws_eqIntS.f k bt1402.1 bt1393.1).bind fun t1414=>(if t1414 = true then ((laws_markIntS.f k bt1402.1 1).bind fun bt1415=>((laws_heldIntS.f k bt1415.2 1).bind fun t1417=>(if t1417 < 0 then (some false) else (if t1417 = bt1415.1 then ((laws_toCommittee.f k a0_0 l0_1).bind fun bt1418=>((impl_BestSplits.f k bt1418.1 bt1418.2 a1).bind fun bt1422=>((laws_eqIntS.f k bt1422.1 bt1393.1).bind fun t1426=>(if t1426 = true then (if (bt1422.2 != bt1393.2) = true then (some false) else ((laws_heldIntS.f k bt1415.2 1).bind fun t1427=>(if t1427 < 0 then (some false) else (if t1427 = bt1415.1 then (some true) else (some false))))) else (some false))))) else (some false))))) else (some false))))) else (some false))))) else (some false)))))) = some r:=H
  have A8:=Aside0.mk A80
  clear A80
  replace H:=Option.bind_eq_some_iff.mp H
  obtain ⟨⟨t1393,t1396⟩,A90,H⟩:=H
  replace H:((laws_toCommittee.f k a0_0 l0_1).bind fun bt1397=>((impl_BestSplits.f k bt1397.1 bt1397.2 a1).bind fun bt1402=>((laws_eqIntS.f k bt1402.1 t1393).bind fun t1406=>(if t1406 = true then (if (bt1402.2 != t1396) = true then (some false) else ((laws_toCommittee.f k a0_0 l0_1).bind fun bt1407=>((laws_eqCommittee.f k bt1397.1 bt1397.2 bt1407.1 bt1407.2).bind fun t1411=>(if t1411 = true then ((laws_markCommittee.f k bt1397.1 bt1397.2 1).bind fun bt1412=>(if bt1412.1 < 0 then (some false) else ((laws_eqIntS.f k bt1402.1 t1393).bind fun t1414=>(if t1414 = true then ((laws_markIntS.f k bt1402.1 1).bind fun bt1415=>((laws_heldIntS.f k bt1415.2 1).bind fun t1417=>(if t1417 < 0 then (some false) else (if t1417 = bt1415.1 then ((laws_toCommittee.f k a0_0 l0_1).bind fun bt1418=>((impl_BestSplits.f k bt1418.1 bt1418.2 a1).bind fun bt1422=>((laws_eqIntS.f k bt1422.1 t1393).bind fun t1426=>(if t1426 = true then (if (bt1422.2 != t1396) = true then (some false) else ((laws_heldIntS.f k bt1415.2 1).bind fun t1427=>(if t1427 < 0 then (some false) else (if t1427 = bt1415.1 then (some true) else (some false))))) else (some false))))) else (some false))))) else (some false))))) else (some false))))) else (some false))))) = some r:=H
  have A9:=Aside0.mk A90
  clear A90
  replace H:=Option.bind_eq_some_iff.mp H
  obtain ⟨⟨t1397,t1398⟩,A100,H⟩:=H
  replace H:((impl_BestSplits.f k t1397 t1398 a1).bind fun bt1402=>((laws_eqIntS.f k bt1402.1 t1393).bind fun t1406=>(if t1406 = true then (if (bt1402.2 != t1396) = true then (some false) else ((laws_toCommittee.f k a0_0 l0_1).bind fun bt1407=>((laws_eqCommittee.f k t1397 t1398 bt1407.1 bt1407.2).bind fun t1411=>(if t1411 = true then ((laws_markCommittee.f k t1397 t1398 1).bind fun bt1412=>(if bt1412.1 < 0 then (some false) else ((laws_eqIntS.f k bt1402.1 t1393).bind fun t1414=>(if t1414 = true then ((laws_markIntS.f k bt1402.1 1).bind fun bt1415=>((laws_heldIntS.f k bt1415.2 1).bind fun t1417=>(if t1417 < 0 then (some false) else (if t1417 = bt1415.1 then ((laws_toCommittee.f k a0_0 l0_1).bind fun bt1418=>((impl_BestSplits.f k bt1418.1 bt1418.2 a1).bind fun bt1422=>((laws_eqIntS.f k bt1422.1 t1393).bind fun t1426=>(if t1426 = true then (if (bt1422.2 != t1396) = true then (some false) else ((laws_heldIntS.f k bt1415.2 1).bind fun t1427=>(if t1427 < 0 then (some false) else (if t1427 = bt1415.1 then (some true) else (some false))))) else (some false))))) else (some false))))) else (some false))))) else (some false))))) else (some false)))) = some r:=H
  have A10:=Aside0.mk A100
  clear A100
  replace H:=Option.bind_eq_some_iff.mp H
  obtain ⟨⟨t1402,t1405⟩,A110,H⟩:=H
  replace H:((laws_eqIntS.f k t1402 t1393).bind fun t1406=>(if t1406 = true then (if (t1405 != t1396) = true then (some false) else ((laws_toCommittee.f k a0_0 l0_1).bind fun bt1407=>((laws_eqCommittee.f k t1397 t1398 bt1407.1 bt1407.2).bind fun t1411=>(if t1411 = true then ((laws_markCommittee.f k t1397 t1398 1).bind fun bt1412=>(if bt1412.1 < 0 then (some false) else ((laws_eqIntS.f k t1402 t1393).bind fun t1414=>(if t1414 = true then ((laws_markIntS.f k t1402 1).bind fun bt1415=>((laws_heldIntS.f k bt1415.2 1).bind fun t1417=>(if t1417 < 0 then (some false) else (if t1417 = bt1415.1 then ((laws_toCommittee.f k a0_0 l0_1).bind fun bt1418=>((impl_BestSplits.f k bt1418.1 bt1418.2 a1).bind fun bt1422=>((laws_eqIntS.f k bt1422.1 t1393).bind fun t1426=>(if t1426 = true then (if (bt1422.2 != t1396) = true then (some false) else ((laws_heldIntS.f k bt1415.2 1).bind fun t1427=>(if t1427 < 0 then (some false) else (if t1427 = bt1415.1 then (some true) else (some false))))) else (some false))))) else (some false))))) else (some false))))) else (some false))))) else (some false))) = some r:=H
  have A11:=Aside0.mk A110
  clear A110
  replace H:=Option.bind_eq_some_iff.mp H
  obtain ⟨t1406,A120,H⟩:=H
  replace H:(if t1406 = true then (if (t1405 != t1396) = true then (some false) else ((laws_toCommittee.f k a0_0 l0_1).bind fun bt1407=>((laws_eqCommittee.f k t1397 t1398 bt1407.1 bt1407.2).bind fun t1411=>(if t1411 = true then ((laws_markCommittee.f k t1397 t1398 1).bind fun bt1412=>(if bt1412.1 < 0 then (some false) else ((laws_eqIntS.f k t1402 t1393).bind fun t1414=>(if t1414 = true then ((laws_markIntS.f k t1402 1).bind fun bt1415=>((laws_heldIntS.f k bt1415.2 1).bind fun t1417=>(if t1417 < 0 then (some false) else (if t1417 = bt1415.1 then ((laws_toCommittee.f k a0_0 l0_1).bind fun bt1418=>((impl_BestSplits.f k bt1418.1 bt1418.2 a1).bind fun bt1422=>((laws_eqIntS.f k bt1422.1 t1393).bind fun t1426=>(if t1426 = true then (if (bt1422.2 != t1396) = true then (some false) else ((laws_heldIntS.f k bt1415.2 1).bind fun t1427=>(if t1427 < 0 then (some false) else (if t1427 = bt1415.1 then (some true) else (some false))))) else (some false))))) else (some false))))) else (some false))))) else (some false))))) else (some false)) = some r:=H
  have A12:=Aside0.mk A120
  clear A120
  by_cases c13:t1406 = true
  ·subst c13
   have H1:(if (t1405 != t1396) = true then (some false) else ((laws_toCommittee.f k a0_0 l0_1).bind fun bt1407=>((laws_eqCommittee.f k t1397 t1398 bt1407.1 bt1407.2).bind fun t1411=>(if t1411 = true then ((laws_markCommittee.f k t1397 t1398 1).bind fun bt1412=>(if bt1412.1 < 0 then (some false) else ((laws_eqIntS.f k t1402 t1393).bind fun t1414=>(if t1414 = true then ((laws_markIntS.f k t1402 1).bind fun bt1415=>((laws_heldIntS.f k bt1415.2 1).bind fun t1417=>(if t1417 < 0 then (some false) else (if t1417 = bt1415.1 then ((laws_toCommittee.f k a0_0 l0_1).bind fun bt1418=>((impl_BestSplits.f k bt1418.1 bt1418.2 a1).bind fun bt1422=>((laws_eqIntS.f k bt1422.1 t1393).bind fun t1426=>(if t1426 = true then (if (bt1422.2 != t1396) = true then (some false) else ((laws_heldIntS.f k bt1415.2 1).bind fun t1427=>(if t1427 < 0 then (some false) else (if t1427 = bt1415.1 then (some true) else (some false))))) else (some false))))) else (some false))))) else (some false))))) else (some false))))) = some r:=by rw [if_pos rfl] at H;exact H
   clear H
   have H:=H1
   clear H1
   by_cases c14:(t1405 != t1396) = true
   ·rw [if_pos c14] at H
    have c14b0:(t1405 != t1396) = true:=c14
    (try (have c14b1:decide (t1405 = t1396) = false:=by simpa using c14))
    (try (have c14b2:(t1405 == t1396) = false:=by simpa using c14))
    (try (have c14b3:¬ (t1405 = t1396):=by simpa using c14))
    clear c14
    exact absurd (H.trans (congrArg some hr_.out)) (by simp)
   ·rw [if_neg c14] at H
    have c14b0:(t1405 != t1396) = false:=by simpa using c14
    (try (have c14b1:decide (t1405 = t1396) = true:=by simpa using c14))
    (try (have c14b2:(t1405 == t1396) = true:=by simpa using c14))
    clear c14
    replace H:=Option.bind_eq_some_iff.mp H
    obtain ⟨⟨t1407,t1408⟩,A150,H⟩:=H
    replace H:((laws_eqCommittee.f k t1397 t1398 t1407 t1408).bind fun t1411=>(if t1411 = true then ((laws_markCommittee.f k t1397 t1398 1).bind fun bt1412=>(if bt1412.1 < 0 then (some false) else ((laws_eqIntS.f k t1402 t1393).bind fun t1414=>(if t1414 = true then ((laws_markIntS.f k t1402 1).bind fun bt1415=>((laws_heldIntS.f k bt1415.2 1).bind fun t1417=>(if t1417 < 0 then (some false) else (if t1417 = bt1415.1 then ((laws_toCommittee.f k a0_0 l0_1).bind fun bt1418=>((impl_BestSplits.f k bt1418.1 bt1418.2 a1).bind fun bt1422=>((laws_eqIntS.f k bt1422.1 t1393).bind fun t1426=>(if t1426 = true then (if (bt1422.2 != t1396) = true then (some false) else ((laws_heldIntS.f k bt1415.2 1).bind fun t1427=>(if t1427 < 0 then (some false) else (if t1427 = bt1415.1 then (some true) else (some false))))) else (some false))))) else (some false))))) else (some false))))) else (some false))) = some r:=H
    have A15:=Aside0.mk A150
    clear A150
    replace H:=Option.bind_eq_some_iff.mp H
    obtain ⟨t1411,A160,H⟩:=H
    replace H:(if t1411 = true then ((laws_markCommittee.f k t1397 t1398 1).bind fun bt1412=>(if bt1412.1 < 0 then (some false) else ((laws_eqIntS.f k t1402 t1393).bind fun t1414=>(if t1414 = true then ((laws_markIntS.f k t1402 1).bind fun bt1415=>((laws_heldIntS.f k bt1415.2 1).bind fun t1417=>(if t1417 < 0 then (some false) else (if t1417 = bt1415.1 then ((laws_toCommittee.f k a0_0 l0_1).bind fun bt1418=>((impl_BestSplits.f k bt1418.1 bt1418.2 a1).bind fun bt1422=>((laws_eqIntS.f k bt1422.1 t1393).bind fun t1426=>(if t1426 = true then (if (bt1422.2 != t1396) = true then (some false) else ((laws_heldIntS.f k bt1415.2 1).bind fun t1427=>(if t1427 < 0 then (some false) else (if t1427 = bt1415.1 then (some true) else (some false))))) else (some false))))) else (some false))))) else (some false))))) else (some false)) = some r:=H
    have A16:=Aside0.mk A160
    clear A160
    by_cases c17:t1411 = true
    ·subst c17
     have H1:((laws_markCommittee.f k t1397 t1398 1).bind fun bt1412=>(if bt1412.1 < 0 then (some false) else ((laws_eqIntS.f k t1402 t1393).bind fun t1414=>(if t1414 = true then ((laws_markIntS.f k t1402 1).bind fun bt1415=>((laws_heldIntS.f k bt1415.2 1).bind fun t1417=>(if t1417 < 0 then (some false) else (if t1417 = bt1415.1 then ((laws_toCommittee.f k a0_0 l0_1).bind fun bt1418=>((impl_BestSplits.f k bt1418.1 bt1418.2 a1).bind fun bt1422=>((laws_eqIntS.f k bt1422.1 t1393).bind fun t1426=>(if t1426 = true then (if (bt1422.2 != t1396) = true then (some false) else ((laws_heldIntS.f k bt1415.2 1).bind fun t1427=>(if t1427 < 0 then (some false) else (if t1427 = bt1415.1 then (some true) else (some false))))) else (some false))))) else (some false))))) else (some false))))) = some r:=by rw [if_pos rfl] at H;exact H
     clear H
     have H:=H1
     clear H1
     replace H:=Option.bind_eq_some_iff.mp H
     obtain ⟨⟨t1412,t1413⟩,A180,H⟩:=H
     replace H:(if t1412 < 0 then (some false) else ((laws_eqIntS.f k t1402 t1393).bind fun t1414=>(if t1414 = true then ((laws_markIntS.f k t1402 1).bind fun bt1415=>((laws_heldIntS.f k bt1415.2 1).bind fun t1417=>(if t1417 < 0 then (some false) else (if t1417 = bt1415.1 then ((laws_toCommittee.f k a0_0 l0_1).bind fun bt1418=>((impl_BestSplits.f k bt1418.1 bt1418.2 a1).bind fun bt1422=>((laws_eqIntS.f k bt1422.1 t1393).bind fun t1426=>(if t1426 = true then (if (bt1422.2 != t1396) = true then (some false) else ((laws_heldIntS.f k bt1415.2 1).bind fun t1427=>(if t1427 < 0 then (some false) else (if t1427 = bt1415.1 then (some true) else (some false))))) else (some false))))) else (some false))))) else (some false)))) = some r:=H
     have A18:=Aside0.mk A180
     clear A180
     by_cases c19:t1412 < 0
     ·rw [if_pos c19] at H
      have c19b0:decide (t1412 < 0) = true:=decide_eq_true c19
      clear c19
      exact absurd (H.trans (congrArg some hr_.out)) (by simp)
     ·rw [if_neg c19] at H
      have c19b0:decide (t1412 < 0) = false:=decide_eq_false c19
      clear c19
      replace H:=Option.bind_eq_some_iff.mp H
      obtain ⟨t1414,A200,H⟩:=H
      replace H:(if t1414 = true then ((laws_markIntS.f k t1402 1).bind fun bt1415=>((laws_heldIntS.f k bt1415.2 1).bind fun t1417=>(if t1417 < 0 then (some false) else (if t1417 = bt1415.1 then ((laws_toCommittee.f k a0_0 l0_1).bind fun bt1418=>((impl_BestSplits.f k bt1418.1 bt1418.2 a1).bind fun bt1422=>((laws_eqIntS.f k bt1422.1 t1393).bind fun t1426=>(if t1426 = true then (if (bt1422.2 != t1396) = true then (some false) else ((laws_heldIntS.f k bt1415.2 1).bind fun t1427=>(if t1427 < 0 then (some false) else (if t1427 = bt1415.1 then (some true) else (some false))))) else (some false))))) else (some false))))) else (some false)) = some r:=H
      have A20:=Aside0.mk A200
      clear A200
      by_cases c21:t1414 = true
      ·subst c21
       have H1:((laws_markIntS.f k t1402 1).bind fun bt1415=>((laws_heldIntS.f k bt1415.2 1).bind fun t1417=>(if t1417 < 0 then (some false) else (if t1417 = bt1415.1 then ((laws_toCommittee.f k a0_0 l0_1).bind fun bt1418=>((impl_BestSplits.f k bt1418.1 bt1418.2 a1).bind fun bt1422=>((laws_eqIntS.f k bt1422.1 t1393).bind fun t1426=>(if t1426 = true then (if (bt1422.2 != t1396) = true then (some false) else ((laws_heldIntS.f k bt1415.2 1).bind fun t1427=>(if t1427 < 0 then (some false) else (if t1427 = bt1415.1 then (some true) else (some false))))) else (some false))))) else (some false))))) = some r:=by rw [if_pos rfl] at H;exact H
       clear H
       have H:=H1
       clear H1
       replace H:=Option.bind_eq_some_iff.mp H
       obtain ⟨⟨t1415,t1416⟩,A220,H⟩:=H
       replace H:((laws_heldIntS.f k t1416 1).bind fun t1417=>(if t1417 < 0 then (some false) else (if t1417 = t1415 then ((laws_toCommittee.f k a0_0 l0_1).bind fun bt1418=>((impl_BestSplits.f k bt1418.1 bt1418.2 a1).bind fun bt1422=>((laws_eqIntS.f k bt1422.1 t1393).bind fun t1426=>(if t1426 = true then (if (bt1422.2 != t1396) = true then (some false) else ((laws_heldIntS.f k t1416 1).bind fun t1427=>(if t1427 < 0 then (some false) else (if t1427 = t1415 then (some true) else (some false))))) else (some false))))) else (some false)))) = some r:=H
       have A22:=Aside0.mk A220
       clear A220
       replace H:=Option.bind_eq_some_iff.mp H
       obtain ⟨t1417,A230,H⟩:=H
       replace H:(if t1417 < 0 then (some false) else (if t1417 = t1415 then ((laws_toCommittee.f k a0_0 l0_1).bind fun bt1418=>((impl_BestSplits.f k bt1418.1 bt1418.2 a1).bind fun bt1422=>((laws_eqIntS.f k bt1422.1 t1393).bind fun t1426=>(if t1426 = true then (if (bt1422.2 != t1396) = true then (some false) else ((laws_heldIntS.f k t1416 1).bind fun t1427=>(if t1427 < 0 then (some false) else (if t1427 = t1415 then (some true) else (some false))))) else (some false))))) else (some false))) = some r:=H
       have A23:=Aside0.mk A230
       clear A230
       by_cases c24:t1417 < 0
       ·rw [if_pos c24] at H
        have c24b0:decide (t1417 < 0) = true:=decide_eq_true c24
        clear c24
        exact absurd (H.trans (congrArg some hr_.out)) (by simp)
       ·rw [if_neg c24] at H
        have c24b0:decide (t1417 < 0) = false:=decide_eq_false c24
        clear c24
        by_cases c25:t1417 = t1415
        ·rw [if_pos c25] at H
         have c25b0:(t1417 == t1415) = true:=beq_iff_eq.mpr c25
         have c25b1:(t1417 != t1415) = false:=bne_eq_false_iff_eq.mpr c25
         clear c25
         replace H:=Option.bind_eq_some_iff.mp H
         obtain ⟨⟨t1418,t1419⟩,A260,H⟩:=H
         replace H:((impl_BestSplits.f k t1418 t1419 a1).bind fun bt1422=>((laws_eqIntS.f k bt1422.1 t1393).bind fun t1426=>(if t1426 = true then (if (bt1422.2 != t1396) = true then (some false) else ((laws_heldIntS.f k t1416 1).bind fun t1427=>(if t1427 < 0 then (some false) else (if t1427 = t1415 then (some true) else (some false))))) else (some false)))) = some r:=H
         have A26:=Aside0.mk A260
         clear A260
         replace H:=Option.bind_eq_some_iff.mp H
         obtain ⟨⟨t1422,t1425⟩,A270,H⟩:=H
         replace H:((laws_eqIntS.f k t1422 t1393).bind fun t1426=>(if t1426 = true then (if (t1425 != t1396) = true then (some false) else ((laws_heldIntS.f k t1416 1).bind fun t1427=>(if t1427 < 0 then (some false) else (if t1427 = t1415 then (some true) else (some false))))) else (some false))) = some r:=H
         have A27:=Aside0.mk A270
         clear A270
         replace H:=Option.bind_eq_some_iff.mp H
         obtain ⟨t1426,A280,H⟩:=H
         replace H:(if t1426 = true then (if (t1425 != t1396) = true then (some false) else ((laws_heldIntS.f k t1416 1).bind fun t1427=>(if t1427 < 0 then (some false) else (if t1427 = t1415 then (some true) else (some false))))) else (some false)) = some r:=H
         have A28:=Aside0.mk A280
         clear A280
         by_cases c29:t1426 = true
         ·subst c29
          have H1:(if (t1425 != t1396) = true then (some false) else ((laws_heldIntS.f k t1416 1).bind fun t1427=>(if t1427 < 0 then (some false) else (if t1427 = t1415 then (some true) else (some false))))) = some r:=by rw [if_pos rfl] at H;exact H
          clear H
          have H:=H1
          clear H1
          by_cases c30:(t1425 != t1396) = true
          ·rw [if_pos c30] at H
           have c30b0:(t1425 != t1396) = true:=c30
           (try (have c30b1:decide (t1425 = t1396) = false:=by simpa using c30))
           (try (have c30b2:(t1425 == t1396) = false:=by simpa using c30))
           (try (have c30b3:¬ (t1425 = t1396):=by simpa using c30))
           clear c30
           exact absurd (H.trans (congrArg some hr_.out)) (by simp)
          ·rw [if_neg c30] at H
           have c30b0:(t1425 != t1396) = false:=by simpa using c30
           (try (have c30b1:decide (t1425 = t1396) = true:=by simpa using c30))
           (try (have c30b2:(t1425 == t1396) = true:=by simpa using c30))
           clear c30
           replace H:=Option.bind_eq_some_iff.mp H
           obtain ⟨t1427,A310,H⟩:=H
           replace H:(if t1427 < 0 then (some false) else (if t1427 = t1415 then (some true) else (some false))) = some r:=H
           have A31:=Aside0.mk A310
           clear A310
           by_cases c32:t1427 < 0
           ·rw [if_pos c32] at H
            have c32b0:decide (t1427 < 0) = true:=decide_eq_true c32
            clear c32
            exact absurd (H.trans (congrArg some hr_.out)) (by simp)
           ·rw [if_neg c32] at H
            have c32b0:decide (t1427 < 0) = false:=decide_eq_false c32
            clear c32
            by_cases c33:t1427 = t1415
            ·rw [if_pos c33] at H
             have c33b0:(t1427 == t1415) = true:=beq_iff_eq.mpr c33
             have c33b1:(t1427 != t1415) = false:=bne_eq_false_iff_eq.mpr c33
             clear c33
             obtain rfl:=Option.some.inj H
             go_enter Try.func12,Try.ntmps12
             try go_wp2_with (first|((with_reducible refine gate_dst (N:=2) rfl ?_);refine box_event ?hg (N:=2) ?hd (cs:=#[.int .i64 a0_0,.slice A0_1 l0_1.length c0_1]) (t:=24) ?hr ?_;(case hd=>rfl);(case hg=>rfl);(case hr=>first|(go_simp;done)|(go_simp;rfl));intro gb1387 hg w34 hbox hb;have n0_:=Aside0.mk (below_step (by repeat (first|(with_reducible first|exact HB.out|apply below_alloc|apply pw_below_drewN|apply below_drew1)|exact HB.out)) hb);have n1_:=Aside0.mk (hbox);have n2_:=Aside0.mk ((by rw [hg];exact (below_size (by repeat (first|(with_reducible first|exact HB.out|apply below_alloc|apply pw_below_drewN|apply below_drew1)|exact HB.out))):w.heap.size ≤ gb1387));have n3_:=Aside0.mk ((by rw [hg];exact (below_size (by repeat (first|(with_reducible first|exact HB.out|apply below_alloc|apply pw_below_drewN|apply below_drew1)|exact HB.out))):w.heap.size ≤ gb1387));clear HB;have HB:=n0_;have BK1387:=n1_;have GW1387:=n2_;have GE1387:=n3_;clear n0_ n1_ n2_ n3_;clear hb hbox hg;have hcz35_0:w34.cell? ⟨gb1387,0,none⟩ = some (.int .i64 a0_0):=(blk_cell BK1387.out 0).trans rfl;have hcz35_1:w34.cell? ⟨gb1387,1,none⟩ = some (.slice A0_1 l0_1.length c0_1):=(blk_cell BK1387.out 1).trans rfl;have hfz35_0:=blk_frozen BK1387.out 0;have hfz35_1:=blk_frozen BK1387.out 1)|((with_reducible refine gate_callee (f:=15) rfl ?_);refine goesL_ (some 18) rfl rfl Try.func15 (by kernel_rfl) rfl #[.agg #[.int .i64 a0_0,.slice A0_1 l0_1.length c0_1],.int .i64 1048576] rfl (by (try simp only [List.map_toArray,List.map_cons,List.map_nil]);first|done|rfl|(simp only [List.length_drop,List.length_take];rfl)) ?_;(with_reducible refine (laws_szCommittee.calls a0_0 _ _ l0_1 1048576 t1388 _ ?side1 ?side2 A3.out).mono ?_);(case side1=>repeat (first|exact (Kd.C_below HR0_1.out HB.out)|(with_reducible refine Kd.C_alloc ?_ _)|(with_reducible refine Kd.C_drewN ?_ _)|(with_reducible refine Kd.C_drew ?_)));(case side2=>exact HC0_1.out);rintro e w36 ⟨rfl,hb⟩;refine ⟨_,rfl,?_⟩;have n0_:=Aside0.mk (blk_below (g:=gb1387) (o:=.cells #[.int .i64 a0_0,.slice A0_1 l0_1.length c0_1] 24 (0,0)) (by (with_reducible repeat (first|refine blk_drewN ?_ _|refine blk_drew ?_|refine blk_alloc ?_ _));exact BK1387.out) hb);have n1_:=Aside0.mk (below_step (by repeat (first|(with_reducible first|exact HB.out|apply below_alloc|apply pw_below_drewN|apply below_drew1|refine below_set ?_ GE1387.out)|exact HB.out)) hb);clear BK1387;clear HB;have BK1387:=n0_;have HB:=n1_;clear n0_ n1_;(try clear hb);(try clear hb2);(try clear hk);(try clear hi);have hcz37_0:w36.cell? ⟨gb1387,0,none⟩ = some (.int .i64 a0_0):=(blk_cell BK1387.out 0).trans rfl;have hcz37_1:w36.cell? ⟨gb1387,1,none⟩ = some (.slice A0_1 l0_1.length c0_1):=(blk_cell BK1387.out 1).trans rfl;have hfz37_0:=blk_frozen BK1387.out 0;have hfz37_1:=blk_frozen BK1387.out 1)|((with_reducible refine gate_callee (f:=17) rfl ?_);refine goesL_ (some 23) rfl rfl Try.func17 (by kernel_rfl) rfl #[.agg #[.int .i64 a0_0,.slice A0_1 l0_1.length c0_1]] rfl (by (try simp only [List.map_toArray,List.map_cons,List.map_nil]);first|done|rfl|(simp only [List.length_drop,List.length_take];rfl)) ?_;(with_reducible refine (laws_toCommittee.calls k a0_0 _ _ l0_1 t1389 t1390 _ ?side1 ?side2 A8.out).mono ?_);(case side1=>repeat (first|exact (Kd.C_below HR0_1.out HB.out)|(with_reducible refine Kd.C_alloc ?_ _)|(with_reducible refine Kd.C_drewN ?_ _)|(with_reducible refine Kd.C_drew ?_)));(case side2=>exact HC0_1.out);rintro e w38 ⟨v1391,rfl,ho0,hb⟩;refine ⟨_,rfl,?_⟩;have n0_:=Aside0.mk (Kd.R_lower ho0 (below_size (by repeat (first|(with_reducible first|exact HB.out|apply below_alloc|apply pw_below_drewN|apply below_drew1|refine below_set ?_ GE1387.out)|exact HB.out))));have n1_:=Aside0.mk (blk_below (g:=gb1387) (o:=.cells #[.int .i64 a0_0,.slice A0_1 l0_1.length c0_1] 24 (0,0)) (by (with_reducible repeat (first|refine blk_drewN ?_ _|refine blk_drew ?_|refine blk_alloc ?_ _));exact BK1387.out) hb);have n2_:=Aside0.mk (below_step (by repeat (first|(with_reducible first|exact HB.out|apply below_alloc|apply pw_below_drewN|apply below_drew1|refine below_set ?_ GE1387.out)|exact HB.out)) hb);clear BK1387;clear HB;have HO1392:=n0_;have BK1387:=n1_;have HB:=n2_;clear n0_ n1_ n2_;(try clear hb);(try clear hb2);(try clear hk);(try clear hi);(try clear ho0);obtain ⟨Ao39,co39,eo39⟩:=Kd.R_slice HO1392.out;subst eo39)|((with_reducible refine gate_callee (f:=59) rfl ?_);refine goesL_ (some 25) rfl rfl Try.func59 (by kernel_rfl) rfl #[.agg #[.int .i64 t1389,.slice Ao39 t1390.length co39],.int .i64 a1] rfl (by (try simp only [List.map_toArray,List.map_cons,List.map_nil]);first|done|rfl|(simp only [List.length_drop,List.length_take];rfl)) ?_;(with_reducible refine (spec_BestSplits.calls k t1389 _ _ t1390 a1 t1393 t1396 _ ?side1 ?side2 A9.out).mono ?_);(case side1=>repeat (first|exact (Kd.R_reads' HO1392.out).2.2|(with_reducible refine Kd.C_alloc ?_ _)|(with_reducible refine Kd.C_drewN ?_ _)|(with_reducible refine Kd.C_drew ?_)));(case side2=>exact (Kd.R_reads' HO1392.out).2.1);rintro e w40 ⟨v1394,rfl,ho0,hb⟩;refine ⟨_,rfl,?_⟩;have n0_:=Aside0.mk (Kd.R_elder' (by (with_reducible repeat (first|apply Kd.R_alloc|apply Kd.R_drewN|apply Kd.R_drew));exact HO1392.out) (Kd.R_base ho0) hb);have n1_:=Aside0.mk (Kd.R_lower (Kd.R_new' ho0 (Kd.R_lt (by (with_reducible repeat (first|apply Kd.R_alloc|apply Kd.R_drewN|apply Kd.R_drew));exact HO1392.out))) (below_size (by repeat (first|(with_reducible first|exact HB.out|apply below_alloc|apply pw_below_drewN|apply below_drew1|refine below_set ?_ GE1387.out)|exact HB.out))));have n2_:=Aside0.mk (blk_below (g:=gb1387) (o:=.cells #[.int .i64 a0_0,.slice A0_1 l0_1.length c0_1] 24 (0,0)) (by (with_reducible repeat (first|refine blk_drewN ?_ _|refine blk_drew ?_|refine blk_alloc ?_ _));exact BK1387.out) hb);have n3_:=Aside0.mk (below_step (by repeat (first|(with_reducible first|exact HB.out|apply below_alloc|apply pw_below_drewN|apply below_drew1|refine below_set ?_ GE1387.out)|exact HB.out)) hb);clear HO1392;clear BK1387;clear HB;have HO1392:=n0_;have HO1395:=n1_;have BK1387:=n2_;have HB:=n3_;clear n0_ n1_ n2_ n3_;(try clear hb);(try clear hb2);(try clear hk);(try clear hi);(try clear ho0);have hcz41_0:w40.cell? ⟨gb1387,0,none⟩ = some (.int .i64 a0_0):=(blk_cell BK1387.out 0).trans rfl;have hcz41_1:w40.cell? ⟨gb1387,1,none⟩ = some (.slice A0_1 l0_1.length c0_1):=(blk_cell BK1387.out 1).trans rfl;have hfz41_0:=blk_frozen BK1387.out 0;have hfz41_1:=blk_frozen BK1387.out 1)|((with_reducible refine gate_callee (f:=17) rfl ?_);refine goesL_ (some 29) rfl rfl Try.func17 (by kernel_rfl) rfl #[.agg #[.int .i64 a0_0,.slice A0_1 l0_1.length c0_1]] rfl (by (try simp only [List.map_toArray,List.map_cons,List.map_nil]);first|done|rfl|(simp only [List.length_drop,List.length_take];rfl)) ?_;(with_reducible refine (laws_toCommittee.calls k a0_0 _ _ l0_1 t1397 t1398 _ ?side1 ?side2 A10.out).mono ?_);(case side1=>repeat (first|exact (Kd.C_below HR0_1.out HB.out)|(with_reducible refine Kd.C_alloc ?_ _)|(with_reducible refine Kd.C_drewN ?_ _)|(with_reducible refine Kd.C_drew ?_)));(case side2=>exact HC0_1.out);rintro e w42 ⟨v1399,rfl,ho0,hb⟩;refine ⟨_,rfl,?_⟩;have n0_:=Aside0.mk (Kd.R_elder' (by (with_reducible repeat (first|apply Kd.R_alloc|apply Kd.R_drewN|apply Kd.R_drew));exact HO1392.out) (Kd.R_base ho0) hb);have n1_:=Aside0.mk (Kd.R_elder' (by (with_reducible repeat (first|apply Kd.R_alloc|apply Kd.R_drewN|apply Kd.R_drew));exact HO1395.out) (Kd.R_base ho0) hb);have n2_:=Aside0.mk (Kd.R_lower (Kd.R_new' (Kd.R_new' ho0 (Kd.R_lt (by (with_reducible repeat (first|apply Kd.R_alloc|apply Kd.R_drewN|apply Kd.R_drew));exact HO1392.out))) (Kd.R_lt (by (with_reducible repeat (first|apply Kd.R_alloc|apply Kd.R_drewN|apply Kd.R_drew));exact HO1395.out))) (below_size (by repeat (first|(with_reducible first|exact HB.out|apply below_alloc|apply pw_below_drewN|apply below_drew1|refine below_set ?_ GE1387.out)|exact HB.out))));have n3_:=Aside0.mk (blk_below (g:=gb1387) (o:=.cells #[.int .i64 a0_0,.slice A0_1 l0_1.length c0_1] 24 (0,0)) (by (with_reducible repeat (first|refine blk_drewN ?_ _|refine blk_drew ?_|refine blk_alloc ?_ _));exact BK1387.out) hb);have n4_:=Aside0.mk (below_step (by repeat (first|(with_reducible first|exact HB.out|apply below_alloc|apply pw_below_drewN|apply below_drew1|refine below_set ?_ GE1387.out)|exact HB.out)) hb);clear HO1392;clear HO1395;clear BK1387;clear HB;have HO1392:=n0_;have HO1395:=n1_;have HO1400:=n2_;have BK1387:=n3_;have HB:=n4_;clear n0_ n1_ n2_ n3_ n4_;(try clear hb);(try clear hb2);(try clear hk);(try clear hi);(try clear ho0))|((with_reducible refine gate_dst (N:=8) rfl ?_);refine box_event ?hg (N:=8) ?hd (cs:=#[.int .i64 0,.slice none 0 0]) (t:=26) ?hr ?_;(case hd=>rfl);(case hg=>rfl);(case hr=>first|(go_simp;done)|(go_simp;rfl));intro gb1401 hg w43 hbox hb;have n0_:=Aside0.mk (Kd.R_below (by (with_reducible repeat (first|apply Kd.R_alloc|apply Kd.R_drewN|apply Kd.R_drew));exact HO1392.out) hb);have n1_:=Aside0.mk (Kd.R_below (by (with_reducible repeat (first|apply Kd.R_alloc|apply Kd.R_drewN|apply Kd.R_drew));exact HO1395.out) hb);have n2_:=Aside0.mk (Kd.R_below (by (with_reducible repeat (first|apply Kd.R_alloc|apply Kd.R_drewN|apply Kd.R_drew));exact HO1400.out) hb);have n3_:=Aside0.mk (blk_below (g:=gb1387) (o:=.cells #[.int .i64 a0_0,.slice A0_1 l0_1.length c0_1] 24 (0,0)) (by (with_reducible repeat (first|refine blk_drewN ?_ _|refine blk_drew ?_|refine blk_alloc ?_ _));exact BK1387.out) hb);have n4_:=Aside0.mk (below_step (by repeat (first|(with_reducible first|exact HB.out|apply below_alloc|apply pw_below_drewN|apply below_drew1|refine below_set ?_ GE1387.out)|exact HB.out)) hb);have n5_:=Aside0.mk (hbox);have n6_:=Aside0.mk ((by rw [hg];exact (below_size (by repeat (first|(with_reducible first|exact HB.out|apply below_alloc|apply pw_below_drewN|apply below_drew1|refine below_set ?_ GE1387.out)|exact HB.out))):w.heap.size ≤ gb1401));have n7_:=Aside0.mk ((by rw [hg];exact (below_size (by repeat (first|(with_reducible first|exact HB.out|apply below_alloc|apply pw_below_drewN|apply below_drew1|refine below_set ?_ GE1387.out)|exact HB.out))):w.heap.size ≤ gb1401));have n8_:=Aside0.mk ((by rw [hg];exact Nat.ne_of_lt (blk_lt (g:=gb1387) (o:=.cells #[.int .i64 a0_0,.slice A0_1 l0_1.length c0_1] 24 (0,0)) (by (with_reducible repeat (first|refine blk_drewN ?_ _|refine blk_drew ?_|refine blk_alloc ?_ _));exact BK1387.out)):gb1387 ≠ gb1401));have n9_:=Aside0.mk ((by rw [hg];exact Nat.ne_of_gt (blk_lt (g:=gb1387) (o:=.cells #[.int .i64 a0_0,.slice A0_1 l0_1.length c0_1] 24 (0,0)) (by (with_reducible repeat (first|refine blk_drewN ?_ _|refine blk_drew ?_|refine blk_alloc ?_ _));exact BK1387.out)):gb1401 ≠ gb1387));clear HO1392;clear HO1395;clear HO1400;clear BK1387;clear HB;have HO1392:=n0_;have HO1395:=n1_;have HO1400:=n2_;have BK1387:=n3_;have HB:=n4_;have BK1401:=n5_;have GW1401:=n6_;have GE1401:=n7_;have NB1387_1401:=n8_;have NB1401_1387:=n9_;clear n0_ n1_ n2_ n3_ n4_ n5_ n6_ n7_ n8_ n9_;clear hb hbox hg;have hnb44:=NB1401_1387.out;have hnc44:=NB1387_1401.out;have hcz45_0:w43.cell? ⟨gb1401,0,none⟩ = some (.int .i64 0):=(blk_cell BK1401.out 0).trans rfl;have hcz45_1:w43.cell? ⟨gb1401,1,none⟩ = some (.slice none 0 0):=(blk_cell BK1401.out 1).trans rfl;have hfz45_0:=blk_frozen BK1401.out 0;have hfz45_1:=blk_frozen BK1401.out 1;obtain ⟨Ao46,co46,eo46⟩:=Kd.R_slice HO1400.out;subst eo46)|((with_reducible refine gate_callee (f:=60) rfl ?_);refine goesL_ (some 33) rfl rfl Try.func60 (by kernel_rfl) rfl #[.agg #[.int .i64 t1397,.slice Ao46 t1398.length co46],.int .i64 a1] rfl (by (try simp only [List.map_toArray,List.map_cons,List.map_nil]);first|done|rfl|(simp only [List.length_drop,List.length_take];rfl)) ?_;(with_reducible refine (impl_BestSplits.calls k t1397 _ _ t1398 a1 t1402 t1405 _ ?side1 ?side2 A11.out).mono ?_);(case side1=>refine (Kd.R_reads' (e:=3) (base:=w.heap.size) (ok:=fun k_=>((True ∧ some k_ ≠ (.slice Ao39 t1390.length co39:Value).ownBlock) ∧ some k_ ≠ (v1394:Value).ownBlock)) (n:=t1398.length) (c:=co46) ?_).2.2;exact (by (with_reducible repeat (first|apply Kd.R_alloc|apply Kd.R_drewN|apply Kd.R_drew));exact (Kd.R_mono (Kd.R_far (p:=⟨gb1401,1,none⟩) (Kd.R_far (p:=⟨gb1401,0,none⟩) (Kd.R_types HO1400.out BK1401.out (by decide)) (fun _ hk=>hk.2) (.int .i64 t1397)) (fun _ hk=>hk.2) (.slice Ao46 t1398.length co46)) (fun _ h_=>h_.1))));(case side2=>exact (Kd.R_reads' HO1400.out).2.1);rintro e w47 ⟨v1403,rfl,ho0,hb⟩;refine ⟨_,rfl,?_⟩;have n0_:=Aside0.mk (Kd.R_elder' (by (with_reducible repeat (first|apply Kd.R_alloc|apply Kd.R_drewN|apply Kd.R_drew));exact (Kd.R_mono (Kd.R_far (p:=⟨gb1401,1,none⟩) (Kd.R_far (p:=⟨gb1401,0,none⟩) (Kd.R_types HO1392.out BK1401.out (by decide)) (fun _ hk=>hk.2) (.int .i64 t1397)) (fun _ hk=>hk.2) (.slice Ao46 t1398.length co46)) (fun _ h_=>h_.1))) (Kd.R_base ho0) hb);have n1_:=Aside0.mk (Kd.R_elder' (by (with_reducible repeat (first|apply Kd.R_alloc|apply Kd.R_drewN|apply Kd.R_drew));exact (Kd.R_mono (Kd.R_far (p:=⟨gb1401,1,none⟩) (Kd.R_far (p:=⟨gb1401,0,none⟩) (Kd.R_types HO1395.out BK1401.out (by decide)) (fun _ hk=>hk.2) (.int .i64 t1397)) (fun _ hk=>hk.2) (.slice Ao46 t1398.length co46)) (fun _ h_=>h_.1))) (Kd.R_base ho0) hb);have n2_:=Aside0.mk (Kd.R_elder' (by (with_reducible repeat (first|apply Kd.R_alloc|apply Kd.R_drewN|apply Kd.R_drew));exact (Kd.R_mono (Kd.R_far (p:=⟨gb1401,1,none⟩) (Kd.R_far (p:=⟨gb1401,0,none⟩) (Kd.R_types HO1400.out BK1401.out (by decide)) (fun _ hk=>hk.2) (.int .i64 t1397)) (fun _ hk=>hk.2) (.slice Ao46 t1398.length co46)) (fun _ h_=>h_.1))) (Kd.R_base ho0) hb);have n3_:=Aside0.mk (Kd.R_lower (Kd.R_new' (Kd.R_new' (Kd.R_new' ho0 (Kd.R_lt (by (with_reducible repeat (first|apply Kd.R_alloc|apply Kd.R_drewN|apply Kd.R_drew));exact (Kd.R_mono (Kd.R_far (p:=⟨gb1401,1,none⟩) (Kd.R_far (p:=⟨gb1401,0,none⟩) (Kd.R_types HO1392.out BK1401.out (by decide)) (fun _ hk=>hk.2) (.int .i64 t1397)) (fun _ hk=>hk.2) (.slice Ao46 t1398.length co46)) (fun _ h_=>h_.1))))) (Kd.R_lt (by (with_reducible repeat (first|apply Kd.R_alloc|apply Kd.R_drewN|apply Kd.R_drew));exact (Kd.R_mono (Kd.R_far (p:=⟨gb1401,1,none⟩) (Kd.R_far (p:=⟨gb1401,0,none⟩) (Kd.R_types HO1395.out BK1401.out (by decide)) (fun _ hk=>hk.2) (.int .i64 t1397)) (fun _ hk=>hk.2) (.slice Ao46 t1398.length co46)) (fun _ h_=>h_.1))))) (Kd.R_lt (by (with_reducible repeat (first|apply Kd.R_alloc|apply Kd.R_drewN|apply Kd.R_drew));exact (Kd.R_mono (Kd.R_far (p:=⟨gb1401,1,none⟩) (Kd.R_far (p:=⟨gb1401,0,none⟩) (Kd.R_types HO1400.out BK1401.out (by decide)) (fun _ hk=>hk.2) (.int .i64 t1397)) (fun _ hk=>hk.2) (.slice Ao46 t1398.length co46)) (fun _ h_=>h_.1))))) (below_size (by repeat (first|(with_reducible first|exact HB.out|apply below_alloc|apply pw_below_drewN|apply below_drew1|refine below_set ?_ GE1387.out|refine below_set ?_ GE1401.out)|exact HB.out))));have n4_:=Aside0.mk (blk_below (g:=gb1387) (o:=.cells #[.int .i64 a0_0,.slice A0_1 l0_1.length c0_1] 24 (0,0)) (by (with_reducible repeat (first|refine blk_drewN ?_ _|refine blk_drew ?_|refine blk_alloc ?_ _));refine blk_far ?_ NB1387_1401.out _;(with_reducible repeat (first|refine blk_drewN ?_ _|refine blk_drew ?_|refine blk_alloc ?_ _));refine blk_far ?_ NB1387_1401.out _;(with_reducible repeat (first|refine blk_drewN ?_ _|refine blk_drew ?_|refine blk_alloc ?_ _));exact BK1387.out) hb);have n5_:=Aside0.mk (blk_below (g:=gb1401) (o:=.cells #[.int .i64 t1397,.slice Ao46 t1398.length co46] 26 (0,0)) (by (with_reducible repeat (first|refine blk_drewN ?_ _|refine blk_drew ?_|refine blk_alloc ?_ _));refine blk_put (cs:=#[.int .i64 t1397,.slice none 0 0]) ?_ 1 _ rfl;(with_reducible repeat (first|refine blk_drewN ?_ _|refine blk_drew ?_|refine blk_alloc ?_ _));refine blk_put (cs:=#[.int .i64 0,.slice none 0 0]) ?_ 0 _ rfl;(with_reducible repeat (first|refine blk_drewN ?_ _|refine blk_drew ?_|refine blk_alloc ?_ _));exact BK1401.out) hb);have n6_:=Aside0.mk (below_step (by repeat (first|(with_reducible first|exact HB.out|apply below_alloc|apply pw_below_drewN|apply below_drew1|refine below_set ?_ GE1387.out|refine below_set ?_ GE1401.out)|exact HB.out)) hb);clear HO1392;clear HO1395;clear HO1400;clear BK1387;clear BK1401;clear HB;have HO1392:=n0_;have HO1395:=n1_;have HO1400:=n2_;have HO1404:=n3_;have BK1387:=n4_;have BK1401:=n5_;have HB:=n6_;clear n0_ n1_ n2_ n3_ n4_ n5_ n6_;(try clear hb);(try clear hb2);(try clear hk);(try clear hi);(try clear ho0);obtain ⟨Ao48,co48,eo48⟩:=Kd.R_slice HO1404.out;subst eo48;obtain ⟨Ao49,co49,eo49⟩:=Kd.R_slice HO1395.out;subst eo49)|((with_reducible refine gate_callee (f:=33) rfl ?_);refine goesL_ (some 38) rfl rfl Try.func33 (by kernel_rfl) rfl #[.slice Ao48 t1402.length co48,.slice Ao49 t1393.length co49] rfl (by (try simp only [List.map_toArray,List.map_cons,List.map_nil]);first|done|rfl|(simp only [List.length_drop,List.length_take];rfl)) ?_;(with_reducible refine (laws_eqIntS.calls k _ _ t1402 _ _ t1393 true _ ?side1 ?side2 ?side3 ?side4 A12.out).mono ?_);(case side1=>repeat (first|exact (Kd.R_reads' HO1404.out).2.2|(with_reducible refine Kd.C_alloc ?_ _)|(with_reducible refine Kd.C_drewN ?_ _)|(with_reducible refine Kd.C_drew ?_)));(case side2=>exact (Kd.R_reads' HO1404.out).2.1);(case side3=>repeat (first|exact (Kd.R_reads' HO1395.out).2.2|(with_reducible refine Kd.C_alloc ?_ _)|(with_reducible refine Kd.C_drewN ?_ _)|(with_reducible refine Kd.C_drew ?_)));(case side4=>exact (Kd.R_reads' HO1395.out).2.1);rintro e w' ⟨rfl,⟨nd,rfl⟩⟩;refine ⟨_,rfl,?_⟩))
             have n_:=Aside0.mk (Kd.R_mono (ok':=(fun k_=>some k_ ≠ (.slice Ao49 t1393.length co49:Value).ownBlock ∧ some k_ ≠ (.slice Ao46 t1398.length co46:Value).ownBlock ∧ some k_ ≠ (.slice Ao48 t1402.length co48:Value).ownBlock)) HO1392.out (fun k_ hk=>⟨hk.1.1.2,⟨hk.1.2,hk.2⟩⟩))
             clear HO1392
             have HO1392:=n_
             clear n_
             have n_:=Aside0.mk (Kd.R_mono (ok':=(fun k_=>some k_ ≠ (.slice Ao39 t1390.length co39:Value).ownBlock ∧ some k_ ≠ (.slice Ao46 t1398.length co46:Value).ownBlock ∧ some k_ ≠ (.slice Ao48 t1402.length co48:Value).ownBlock)) HO1395.out (fun k_ hk=>⟨hk.1.1.2,⟨hk.1.2,hk.2⟩⟩))
             clear HO1395
             have HO1395:=n_
             clear n_
             have n_:=Aside0.mk (Kd.R_mono (ok':=(fun k_=>some k_ ≠ (.slice Ao39 t1390.length co39:Value).ownBlock ∧ some k_ ≠ (.slice Ao49 t1393.length co49:Value).ownBlock ∧ some k_ ≠ (.slice Ao48 t1402.length co48:Value).ownBlock)) HO1400.out (fun k_ hk=>⟨hk.1.1.2,⟨hk.1.2,hk.2⟩⟩))
             clear HO1400
             have HO1400:=n_
             clear n_
             have n_:=Aside0.mk (Kd.R_mono (ok':=(fun k_=>some k_ ≠ (.slice Ao39 t1390.length co39:Value).ownBlock ∧ some k_ ≠ (.slice Ao49 t1393.length co49:Value).ownBlock ∧ some k_ ≠ (.slice Ao46 t1398.length co46:Value).ownBlock)) HO1404.out (fun k_ hk=>⟨hk.1.1.2,⟨hk.1.2,hk.2⟩⟩))
             clear HO1404
             have HO1404:=n_
             clear n_
             (try (rw [drewN_self w47];generalize hq_:World.drewN w47 _ = w47;have n0_:Aside0 (Kd.R (Kd.int .i64) 3 w47 w.heap.size (fun k_=>some k_ ≠ (.slice Ao49 t1393.length co49:Value).ownBlock ∧ some k_ ≠ (.slice Ao46 t1398.length co46:Value).ownBlock ∧ some k_ ≠ (.slice Ao48 t1402.length co48:Value).ownBlock) (.slice Ao39 t1390.length co39) t1390):=⟨by rw [← hq_];exact (by (with_reducible repeat (first|apply Kd.R_alloc|apply Kd.R_drewN|apply Kd.R_drew));exact HO1392.out)⟩;have n1_:Aside0 (Kd.R (Kd.int .i64) 3 w47 w.heap.size (fun k_=>some k_ ≠ (.slice Ao39 t1390.length co39:Value).ownBlock ∧ some k_ ≠ (.slice Ao46 t1398.length co46:Value).ownBlock ∧ some k_ ≠ (.slice Ao48 t1402.length co48:Value).ownBlock) (.slice Ao49 t1393.length co49) t1393):=⟨by rw [← hq_];exact (by (with_reducible repeat (first|apply Kd.R_alloc|apply Kd.R_drewN|apply Kd.R_drew));exact HO1395.out)⟩;have n2_:Aside0 (Kd.R (Kd.int .i64) 3 w47 w.heap.size (fun k_=>some k_ ≠ (.slice Ao39 t1390.length co39:Value).ownBlock ∧ some k_ ≠ (.slice Ao49 t1393.length co49:Value).ownBlock ∧ some k_ ≠ (.slice Ao48 t1402.length co48:Value).ownBlock) (.slice Ao46 t1398.length co46) t1398):=⟨by rw [← hq_];exact (by (with_reducible repeat (first|apply Kd.R_alloc|apply Kd.R_drewN|apply Kd.R_drew));exact HO1400.out)⟩;have n3_:Aside0 (Kd.R (Kd.int .i64) 3 w47 w.heap.size (fun k_=>some k_ ≠ (.slice Ao39 t1390.length co39:Value).ownBlock ∧ some k_ ≠ (.slice Ao49 t1393.length co49:Value).ownBlock ∧ some k_ ≠ (.slice Ao46 t1398.length co46:Value).ownBlock) (.slice Ao48 t1402.length co48) t1402):=⟨by rw [← hq_];exact (by (with_reducible repeat (first|apply Kd.R_alloc|apply Kd.R_drewN|apply Kd.R_drew));exact HO1404.out)⟩;have n4_:Aside0 (w47.heap[gb1387]? = some (.cells #[.int .i64 a0_0,.slice A0_1 l0_1.length c0_1] 24 (0,0))):=⟨by rw [← hq_];exact (by (with_reducible repeat (first|refine blk_drewN ?_ _|refine blk_drew ?_|refine blk_alloc ?_ _));exact BK1387.out)⟩;have n5_:Aside0 (w47.heap[gb1401]? = some (.cells #[.int .i64 t1397,.slice Ao46 t1398.length co46] 26 (0,0))):=⟨by rw [← hq_];exact (by (with_reducible repeat (first|refine blk_drewN ?_ _|refine blk_drew ?_|refine blk_alloc ?_ _));exact BK1401.out)⟩;have n6_:Aside0 (Below w.heap.size w w47):=⟨by rw [← hq_];exact (by repeat (first|(with_reducible first|exact HB.out|apply below_alloc|apply pw_below_drewN|apply below_drew1|refine below_set ?_ GE1387.out|refine below_set ?_ GE1401.out)|exact HB.out))⟩;clear HO1392 HO1395 HO1400 HO1404 BK1387 BK1401 HB hq_;have HO1392:=n0_;have HO1395:=n1_;have HO1400:=n2_;have HO1404:=n3_;have BK1387:=n4_;have BK1401:=n5_;have HB:=n6_;clear n0_ n1_ n2_ n3_ n4_ n5_ n6_))
             have n0_:=Aside0.mk (Kd.R_drew HO1392.out)
             have n1_:=Aside0.mk (Kd.R_drew HO1395.out)
             have n2_:=Aside0.mk (Kd.R_drew HO1400.out)
             have n3_:=Aside0.mk (Kd.R_drew HO1404.out)
             have n4_:=Aside0.mk (blk_drew BK1387.out)
             have n5_:=Aside0.mk (blk_drew BK1401.out)
             have n6_:=Aside0.mk (below_drew1 HB.out)
             clear HO1392
             clear HO1395
             clear HO1400
             clear HO1404
             clear BK1387
             clear BK1401
             clear HB
             have HO1392:=n0_
             have HO1395:=n1_
             have HO1400:=n2_
             have HO1404:=n3_
             have BK1387:=n4_
             have BK1401:=n5_
             have HB:=n6_
             clear n0_ n1_ n2_ n3_ n4_ n5_ n6_
             refine start_ (n:=5) (S:=fun w'=>w'.cell? ⟨gb1401,0,none⟩ = some (.int .i64 t1397) ∧ w'.cell? ⟨gb1401,1,none⟩ = some (.slice Ao46 t1398.length co46) ∧ w'.cell? ⟨gb1387,0,none⟩ = some (.int .i64 a0_0) ∧ w'.cell? ⟨gb1387,1,none⟩ = some (.slice A0_1 l0_1.length c0_1)) (ds:=[]) #[false,false,false,false,false] (by kernel_rfl) rfl rfl ⟨(blk_cell BK1401.out 0).trans rfl,(blk_cell BK1401.out 1).trans rfl,(blk_cell BK1387.out 0).trans rfl,(blk_cell BK1387.out 1).trans rfl⟩ (fun hHeld=>?_)
             generalize w47.drew = w50 at HO1392 HO1395 HO1400 HO1404 BK1387 BK1401 HB hHeld ⊢
             refine take_ (i:=0) (N:=some 45) (v:=?_) (a':=?_) #[true,false,false,false,false] rfl rfl (by kernel_rfl) (fun _ _ _ h=>h) (Or.inl ⟨by rfl,?_⟩) hHeld ?_ ?_
             rotate_left
             ·rintro w' ⟨s0,s1,s2,s3⟩
              go_simp
              with_reducible rfl
             rotate_left
             ·simp only [Act.put,List.setIfInBounds_toArray,List.set_cons_zero,List.set_cons_succ,i64_w,i32_w]
              rfl
             refine take_ (i:=1) (N:=some 46) (v:=?_) (a':=?_) #[true,true,false,false,false] rfl rfl (by kernel_rfl) (fun _ _ _ h=>h) (Or.inl ⟨by rfl,?_⟩) hHeld ?_ ?_
             rotate_left
             ·rintro w' ⟨s0,s1,s2,s3⟩
              go_simp
              with_reducible rfl
             rotate_left
             ·simp only [Act.put,List.setIfInBounds_toArray,List.set_cons_zero,List.set_cons_succ,i64_w,i32_w]
              rfl
             refine one_ (i:=2) (N:=some 47) #[true,true,true,false,false] rfl rfl (by kernel_rfl) (by decide) (fun K hK=>?_)
             refine goes_ Try.func17 (by kernel_rfl) rfl #[.agg #[.int .i64 a0_0,.slice A0_1 l0_1.length c0_1]] (by rfl) rfl rfl (by (try simp only [List.map_toArray,List.map_cons,List.map_nil]);first|done|rfl|(simp only [List.length_drop,List.length_take];rfl)) ?_
             with_reducible refine (laws_toCommittee.calls k a0_0 _ _ l0_1 t1407 t1408 _ ?side1 ?side2 A15.out).mono ?_
             (case side1=>repeat (first|exact (Kd.C_below HR0_1.out HB.out)|(with_reducible refine Kd.C_alloc ?_ _)|(with_reducible refine Kd.C_drewN ?_ _)|(with_reducible refine Kd.C_drew ?_)))
             (case side2=>exact HC0_1.out)
             rintro e w51 ⟨v1409,rfl,ho0,hb⟩
             refine ⟨_,rfl,?_⟩
             have n0_:=Aside0.mk (Kd.R_elder' (by (with_reducible repeat (first|apply Kd.R_alloc|apply Kd.R_drewN|apply Kd.R_drew));exact HO1392.out) (Kd.R_base ho0) hb)
             have n1_:=Aside0.mk (Kd.R_elder' (by (with_reducible repeat (first|apply Kd.R_alloc|apply Kd.R_drewN|apply Kd.R_drew));exact HO1395.out) (Kd.R_base ho0) hb)
             have n2_:=Aside0.mk (Kd.R_elder' (by (with_reducible repeat (first|apply Kd.R_alloc|apply Kd.R_drewN|apply Kd.R_drew));exact HO1400.out) (Kd.R_base ho0) hb)
             have n3_:=Aside0.mk (Kd.R_elder' (by (with_reducible repeat (first|apply Kd.R_alloc|apply Kd.R_drewN|apply Kd.R_drew));exact HO1404.out) (Kd.R_base ho0) hb)
             have n4_:=Aside0.mk (Kd.R_lower (Kd.R_new' (Kd.R_new' (Kd.R_new' (Kd.R_new' ho0 (Kd.R_lt (by (with_reducible repeat (first|apply Kd.R_alloc|apply Kd.R_drewN|apply Kd.R_drew));exact HO1392.out))) (Kd.R_lt (by (with_reducible repeat (first|apply Kd.R_alloc|apply Kd.R_drewN|apply Kd.R_drew));exact HO1395.out))) (Kd.R_lt (by (with_reducible repeat (first|apply Kd.R_alloc|apply Kd.R_drewN|apply Kd.R_drew));exact HO1400.out))) (Kd.R_lt (by (with_reducible repeat (first|apply Kd.R_alloc|apply Kd.R_drewN|apply Kd.R_drew));exact HO1404.out))) (below_size (by repeat (first|(with_reducible first|exact HB.out|apply below_alloc|apply pw_below_drewN|apply below_drew1|refine below_set ?_ GE1387.out|refine below_set ?_ GE1401.out)|exact HB.out))))
             have n5_:=Aside0.mk (blk_below (g:=gb1387) (o:=.cells #[.int .i64 a0_0,.slice A0_1 l0_1.length c0_1] 24 (0,0)) (by (with_reducible repeat (first|refine blk_drewN ?_ _|refine blk_drew ?_|refine blk_alloc ?_ _));exact BK1387.out) hb)
             have n6_:=Aside0.mk (blk_below (g:=gb1401) (o:=.cells #[.int .i64 t1397,.slice Ao46 t1398.length co46] 26 (0,0)) (by (with_reducible repeat (first|refine blk_drewN ?_ _|refine blk_drew ?_|refine blk_alloc ?_ _));exact BK1401.out) hb)
             have n7_:=Aside0.mk (below_step (by repeat (first|(with_reducible first|exact HB.out|apply below_alloc|apply pw_below_drewN|apply below_drew1|refine below_set ?_ GE1387.out|refine below_set ?_ GE1401.out)|exact HB.out)) hb)
             clear HO1392
             clear HO1395
             clear HO1400
             clear HO1404
             clear BK1387
             clear BK1401
             clear HB
             have HO1392:=n0_
             have HO1395:=n1_
             have HO1400:=n2_
             have HO1404:=n3_
             have HO1410:=n4_
             have BK1387:=n5_
             have BK1401:=n6_
             have HB:=n7_
             clear n0_ n1_ n2_ n3_ n4_ n5_ n6_ n7_
             (try clear hb)
             (try clear hb2)
             (try clear hk)
             (try clear hi)
             (try clear ho0)
             obtain ⟨Ao52,co52,eo52⟩:=Kd.R_slice HO1410.out
             (first|subst eo52|(injection eo52 with f1_ f2_ f3_;have f4_:=f1_.symm;have f5_:=f3_.symm;clear f1_ f2_ f3_;subst f4_;subst f5_))
             refine hK.out _ _ ⟨(blk_cell BK1401.out 0).trans rfl,(blk_cell BK1401.out 1).trans rfl,(blk_cell BK1387.out 0).trans rfl,(blk_cell BK1387.out 1).trans rfl⟩ (fun hHeld=>?_)
             clear hK K
             refine norm_ (a':=?_) ?_ ?_
             rotate_left
             ·show Act.put _ (some 47) _ = _
              simp only [Act.put,List.setIfInBounds_toArray,List.set_cons_zero,List.set_cons_succ,i64_w,i32_w]
              rfl
             refine one_ (i:=3) (N:=some 48) #[true,true,true,true,false] rfl rfl (by kernel_rfl) (by decide) (fun K hK=>?_)
             refine goes_ Try.func19 (by kernel_rfl) rfl #[.agg #[.int .i64 t1397,.slice Ao46 t1398.length co46],.agg #[.int .i64 t1407,.slice Ao52 t1408.length co52]] (by rfl) rfl rfl (by (try simp only [List.map_toArray,List.map_cons,List.map_nil]);first|done|rfl|(simp only [List.length_drop,List.length_take];rfl)) ?_
             with_reducible refine (laws_eqCommittee.calls k t1397 _ _ t1398 t1407 _ _ t1408 true _ ?side1 ?side2 ?side3 ?side4 A16.out).mono ?_
             (case side1=>repeat (first|exact (Kd.R_reads' HO1400.out).2.2|(with_reducible refine Kd.C_alloc ?_ _)|(with_reducible refine Kd.C_drewN ?_ _)|(with_reducible refine Kd.C_drew ?_)))
             (case side2=>exact (Kd.R_reads' HO1400.out).2.1)
             (case side3=>repeat (first|exact (Kd.R_reads' HO1410.out).2.2|(with_reducible refine Kd.C_alloc ?_ _)|(with_reducible refine Kd.C_drewN ?_ _)|(with_reducible refine Kd.C_drew ?_)))
             (case side4=>exact (Kd.R_reads' HO1410.out).2.1)
             rintro e w53 ⟨rfl,hb⟩
             refine ⟨_,rfl,?_⟩
             have n0_:=Aside0.mk (Kd.R_below (by (with_reducible repeat (first|apply Kd.R_alloc|apply Kd.R_drewN|apply Kd.R_drew));exact HO1392.out) hb)
             have n1_:=Aside0.mk (Kd.R_below (by (with_reducible repeat (first|apply Kd.R_alloc|apply Kd.R_drewN|apply Kd.R_drew));exact HO1395.out) hb)
             have n2_:=Aside0.mk (Kd.R_below (by (with_reducible repeat (first|apply Kd.R_alloc|apply Kd.R_drewN|apply Kd.R_drew));exact HO1400.out) hb)
             have n3_:=Aside0.mk (Kd.R_below (by (with_reducible repeat (first|apply Kd.R_alloc|apply Kd.R_drewN|apply Kd.R_drew));exact HO1404.out) hb)
             have n4_:=Aside0.mk (Kd.R_below (by (with_reducible repeat (first|apply Kd.R_alloc|apply Kd.R_drewN|apply Kd.R_drew));exact HO1410.out) hb)
             have n5_:=Aside0.mk (blk_below (g:=gb1387) (o:=.cells #[.int .i64 a0_0,.slice A0_1 l0_1.length c0_1] 24 (0,0)) (by (with_reducible repeat (first|refine blk_drewN ?_ _|refine blk_drew ?_|refine blk_alloc ?_ _));exact BK1387.out) hb)
             have n6_:=Aside0.mk (blk_below (g:=gb1401) (o:=.cells #[.int .i64 t1397,.slice Ao46 t1398.length co46] 26 (0,0)) (by (with_reducible repeat (first|refine blk_drewN ?_ _|refine blk_drew ?_|refine blk_alloc ?_ _));exact BK1401.out) hb)
             have n7_:=Aside0.mk (below_step (by repeat (first|(with_reducible first|exact HB.out|apply below_alloc|apply pw_below_drewN|apply below_drew1|refine below_set ?_ GE1387.out|refine below_set ?_ GE1401.out)|exact HB.out)) hb)
             clear HO1392
             clear HO1395
             clear HO1400
             clear HO1404
             clear HO1410
             clear BK1387
             clear BK1401
             clear HB
             have HO1392:=n0_
             have HO1395:=n1_
             have HO1400:=n2_
             have HO1404:=n3_
             have HO1410:=n4_
             have BK1387:=n5_
             have BK1401:=n6_
             have HB:=n7_
             clear n0_ n1_ n2_ n3_ n4_ n5_ n6_ n7_
             (try clear hb)
             (try clear hb2)
             (try clear hk)
             (try clear hi)
             refine hK.out _ _ ⟨(blk_cell BK1401.out 0).trans rfl,(blk_cell BK1401.out 1).trans rfl,(blk_cell BK1387.out 0).trans rfl,(blk_cell BK1387.out 1).trans rfl⟩ (fun hHeld=>?_)
             clear hK K
             refine norm_ (a':=?_) ?_ ?_
             rotate_left
             ·show Act.put _ (some 48) _ = _
              simp only [Act.put,List.setIfInBounds_toArray,List.set_cons_zero,List.set_cons_succ,i64_w,i32_w]
              rfl
             refine pure_ (i:=4) (N:=some 49) (v:=?_) (a':=?_) #[true,true,true,true,true] rfl rfl (by kernel_rfl) (fun _ _ _ h=>h) (Or.inl ⟨by rfl,?_⟩) ?_ ?_
             rotate_left
             ·intro w'
              go_simp
              with_reducible rfl
             rotate_left
             ·simp only [Act.put,List.setIfInBounds_toArray,List.set_cons_zero,List.set_cons_succ,i64_w,i32_w]
              rfl
             refine done_ (by kernel_rfl) ?_
             have hcz54_0:w53.cell? ⟨gb1401,0,none⟩ = some (.int .i64 t1397):=(blk_cell BK1401.out 0).trans rfl
             have hcz54_1:w53.cell? ⟨gb1401,1,none⟩ = some (.slice Ao46 t1398.length co46):=(blk_cell BK1401.out 1).trans rfl
             have hfz54_0:=blk_frozen BK1401.out 0
             have hfz54_1:=blk_frozen BK1401.out 1
             try go_wp2_with (first|((with_reducible refine gate_callee (f:=20) rfl ?_);refine goesL_ (some 52) rfl rfl Try.func20 (by kernel_rfl) rfl #[.agg #[.int .i64 t1397,.slice Ao46 t1398.length co46],.int .i64 1] rfl (by (try simp only [List.map_toArray,List.map_cons,List.map_nil]);first|done|rfl|(simp only [List.length_drop,List.length_take];rfl)) ?_;(with_reducible refine (laws_markCommittee.calls k t1397 (fun k_=>some k_ = (.slice Ao46 t1398.length co46:Value).ownBlock) (.slice Ao46 t1398.length co46) t1398 1 t1412 t1413 w _ ?side1 ?side2 A18.out).mono ?_);(case side1=>repeat (first|(with_reducible first|exact HB.out|apply below_alloc|apply pw_below_drewN|apply below_drew1|refine below_set ?_ GE1387.out|refine below_set ?_ GE1401.out)|exact HB.out));(case side2=>exact Kd.R_tight rfl HO1400.out);rintro e w55 ⟨rfl,hy0,hb,hkp⟩;refine ⟨_,rfl,?_⟩;have n0_:=Aside0.mk (blk_kept (by (with_reducible repeat (first|refine blk_drewN ?_ _|refine blk_drew ?_|refine blk_alloc ?_ _));exact BK1387.out) hkp (fun hs_=>(fun e_=>(Kd.R_ne HO1400.out BK1387.out (by decide)) e_) hs_));have n1_:=Aside0.mk (Kd.R_mono (ok':=fun k_=>some k_ ≠ (.slice Ao49 t1393.length co49:Value).ownBlock ∧ some k_ ≠ (.slice Ao46 t1398.length co46:Value).ownBlock ∧ some k_ ≠ (.slice Ao48 t1402.length co48:Value).ownBlock ∧ some k_ ≠ (.slice Ao52 t1408.length co52:Value).ownBlock) (Kd.R_keptB (HO1392.out) hkp (fun k_ hk_ hs_=>(hk_.1.2.1) hs_)) (fun k_ hk_=>⟨hk_.1.1.1,hk_.1.1.2.1,hk_.1.1.2.2,hk_.1.2⟩));have n2_:=Aside0.mk (Kd.R_mono (ok':=fun k_=>some k_ ≠ (.slice Ao39 t1390.length co39:Value).ownBlock ∧ some k_ ≠ (.slice Ao46 t1398.length co46:Value).ownBlock ∧ some k_ ≠ (.slice Ao48 t1402.length co48:Value).ownBlock ∧ some k_ ≠ (.slice Ao52 t1408.length co52:Value).ownBlock) (Kd.R_keptB (HO1395.out) hkp (fun k_ hk_ hs_=>(hk_.1.2.1) hs_)) (fun k_ hk_=>⟨hk_.1.1.1,hk_.1.1.2.1,hk_.1.1.2.2,hk_.1.2⟩));have n3_:=Aside0.mk (Kd.R_reok rfl hy0 (fun k_ e_=>HO1400.out.1 k_ e_));have n4_:=Aside0.mk (blk_kept (by (with_reducible repeat (first|refine blk_drewN ?_ _|refine blk_drew ?_|refine blk_alloc ?_ _));exact BK1401.out) hkp (fun hs_=>(fun e_=>(Kd.R_ne HO1400.out BK1401.out (by decide)) e_) hs_));have n5_:=Aside0.mk (Kd.R_mono (ok':=fun k_=>some k_ ≠ (.slice Ao39 t1390.length co39:Value).ownBlock ∧ some k_ ≠ (.slice Ao49 t1393.length co49:Value).ownBlock ∧ some k_ ≠ (.slice Ao46 t1398.length co46:Value).ownBlock ∧ some k_ ≠ (.slice Ao52 t1408.length co52:Value).ownBlock) (Kd.R_keptB (HO1404.out) hkp (fun k_ hk_ hs_=>(hk_.1.2.2) hs_)) (fun k_ hk_=>⟨hk_.1.1.1,hk_.1.1.2.1,hk_.1.1.2.2,hk_.1.2⟩));have n6_:=Aside0.mk (Kd.R_mono (ok':=fun k_=>some k_ ≠ (.slice Ao39 t1390.length co39:Value).ownBlock ∧ some k_ ≠ (.slice Ao49 t1393.length co49:Value).ownBlock ∧ some k_ ≠ (.slice Ao46 t1398.length co46:Value).ownBlock ∧ some k_ ≠ (.slice Ao48 t1402.length co48:Value).ownBlock) (Kd.R_keptB (HO1410.out) hkp (fun k_ hk_ hs_=>(hk_.1.2) hs_)) (fun k_ hk_=>⟨hk_.1.1.1.1.2,hk_.1.1.1.2,hk_.1.1.2,hk_.1.2⟩));have n7_:=Aside0.mk (hb);clear BK1387;clear HO1392;clear HO1395;clear HO1400;clear BK1401;clear HO1404;clear HO1410;clear HB;have BK1387:=n0_;have HO1392:=n1_;have HO1395:=n2_;have HO1400:=n3_;have BK1401:=n4_;have HO1404:=n5_;have HO1410:=n6_;have HB:=n7_;clear n0_ n1_ n2_ n3_ n4_ n5_ n6_ n7_;(try clear hb);(try clear hkp);(try clear hy0))|(go_at_call 33;(with_reducible refine (laws_eqIntS.calls k _ _ t1402 _ _ t1393 true _ ?side1 ?side2 ?side3 ?side4 A20.out).mono ?_);(case side1=>repeat (first|exact (Kd.R_reads' HO1404.out).2.2|(with_reducible refine Kd.C_alloc ?_ _)|(with_reducible refine Kd.C_drewN ?_ _)|(with_reducible refine Kd.C_drew ?_)));(case side2=>exact (Kd.R_reads' HO1404.out).2.1);(case side3=>repeat (first|exact (Kd.R_reads' HO1395.out).2.2|(with_reducible refine Kd.C_alloc ?_ _)|(with_reducible refine Kd.C_drewN ?_ _)|(with_reducible refine Kd.C_drew ?_)));(case side4=>exact (Kd.R_reads' HO1395.out).2.1);rintro e w' ⟨rfl,⟨nd,rfl⟩⟩)|((with_reducible refine gate_callee (f:=34) rfl ?_);refine goesL_ (some 68) rfl rfl Try.func34 (by kernel_rfl) rfl #[.slice Ao48 t1402.length co48,.int .i64 1] rfl (by (try simp only [List.map_toArray,List.map_cons,List.map_nil]);first|done|rfl|(simp only [List.length_drop,List.length_take];rfl)) ?_;(with_reducible refine (laws_markIntS.calls k (fun k_=>some k_ = (.slice Ao48 t1402.length co48:Value).ownBlock) (.slice Ao48 t1402.length co48) t1402 1 t1415 t1416 w _ ?side1 ?side2 A22.out).mono ?_);(case side1=>repeat (first|(with_reducible first|exact HB.out|apply below_alloc|apply pw_below_drewN|apply below_drew1|refine below_set ?_ GE1387.out|refine below_set ?_ GE1401.out)|exact HB.out));(case side2=>exact Kd.R_tight rfl HO1404.out);rintro e w56 ⟨rfl,hy0,hb,hkp⟩;refine ⟨_,rfl,?_⟩;have n0_:=Aside0.mk (blk_kept (by (with_reducible repeat (first|refine blk_drewN ?_ _|refine blk_drew ?_|refine blk_alloc ?_ _));exact BK1387.out) hkp (fun hs_=>(fun e_=>(Kd.R_ne HO1404.out BK1387.out (by decide)) e_) hs_));have n1_:=Aside0.mk (Kd.R_mono (ok':=fun k_=>some k_ ≠ (.slice Ao49 t1393.length co49:Value).ownBlock ∧ some k_ ≠ (.slice Ao46 t1398.length co46:Value).ownBlock ∧ some k_ ≠ (.slice Ao48 t1402.length co48:Value).ownBlock ∧ some k_ ≠ (.slice Ao52 t1408.length co52:Value).ownBlock) (Kd.R_keptB (HO1392.out) hkp (fun k_ hk_ hs_=>(hk_.2.2.1) hs_)) (fun k_ hk_=>⟨hk_.1.1,hk_.1.2.1,hk_.1.2.2.1,hk_.1.2.2.2⟩));have n2_:=Aside0.mk (Kd.R_mono (ok':=fun k_=>some k_ ≠ (.slice Ao39 t1390.length co39:Value).ownBlock ∧ some k_ ≠ (.slice Ao46 t1398.length co46:Value).ownBlock ∧ some k_ ≠ (.slice Ao48 t1402.length co48:Value).ownBlock ∧ some k_ ≠ (.slice Ao52 t1408.length co52:Value).ownBlock) (Kd.R_keptB (HO1395.out) hkp (fun k_ hk_ hs_=>(hk_.2.2.1) hs_)) (fun k_ hk_=>⟨hk_.1.1,hk_.1.2.1,hk_.1.2.2.1,hk_.1.2.2.2⟩));have n3_:=Aside0.mk (Kd.R_mono (ok':=fun k_=>some k_ ≠ (.slice Ao39 t1390.length co39:Value).ownBlock ∧ some k_ ≠ (.slice Ao49 t1393.length co49:Value).ownBlock ∧ some k_ ≠ (.slice Ao48 t1402.length co48:Value).ownBlock ∧ some k_ ≠ (.slice Ao52 t1408.length co52:Value).ownBlock) (Kd.R_keptB (HO1400.out) hkp (fun k_ hk_ hs_=>(hk_.1.2.2) hs_)) (fun k_ hk_=>⟨hk_.1.1.1,hk_.1.1.2.1,hk_.1.1.2.2,hk_.1.2⟩));have n4_:=Aside0.mk (blk_kept (by (with_reducible repeat (first|refine blk_drewN ?_ _|refine blk_drew ?_|refine blk_alloc ?_ _));exact BK1401.out) hkp (fun hs_=>(fun e_=>(Kd.R_ne HO1404.out BK1401.out (by decide)) e_) hs_));have n5_:=Aside0.mk (Kd.R_reok rfl hy0 (fun k_ e_=>HO1404.out.1 k_ e_));have n6_:=Aside0.mk (Kd.R_mono (ok':=fun k_=>some k_ ≠ (.slice Ao39 t1390.length co39:Value).ownBlock ∧ some k_ ≠ (.slice Ao49 t1393.length co49:Value).ownBlock ∧ some k_ ≠ (.slice Ao46 t1398.length co46:Value).ownBlock ∧ some k_ ≠ (.slice Ao48 t1402.length co48:Value).ownBlock) (Kd.R_keptB (HO1410.out) hkp (fun k_ hk_ hs_=>(hk_.2.2.2) hs_)) (fun k_ hk_=>⟨hk_.1.1,hk_.1.2.1,hk_.1.2.2.1,hk_.1.2.2.2⟩));have n7_:=Aside0.mk (hb);clear BK1387;clear HO1392;clear HO1395;clear HO1400;clear BK1401;clear HO1404;clear HO1410;clear HB;have BK1387:=n0_;have HO1392:=n1_;have HO1395:=n2_;have HO1400:=n3_;have BK1401:=n4_;have HO1404:=n5_;have HO1410:=n6_;have HB:=n7_;clear n0_ n1_ n2_ n3_ n4_ n5_ n6_ n7_;(try clear hb);(try clear hkp);(try clear hy0))|((with_reducible refine gate_callee (f:=35) rfl ?_);refine goesL_ (some 71) rfl rfl Try.func35 (by kernel_rfl) rfl #[.slice Ao48 t1416.length co48,.int .i64 1] rfl (by (try simp only [List.map_toArray,List.map_cons,List.map_nil]);first|done|(rw [show t1416.length = t1402.length from (Kd.R_reads' HO1404.out).1.symm] <;> rfl)|rfl|(simp only [List.length_drop,List.length_take];rfl)) ?_;(with_reducible refine (laws_heldIntS.calls k _ _ t1416 1 t1417 _ ?side1 ?side2 A23.out).mono ?_);(case side1=>repeat (first|exact (Kd.R_reads' HO1404.out).2.2|(with_reducible refine Kd.C_alloc ?_ _)|(with_reducible refine Kd.C_drewN ?_ _)|(with_reducible refine Kd.C_drew ?_)));(case side2=>rw [show t1416.length = t1402.length from (Kd.R_reads' HO1404.out).1.symm];exact (Kd.R_reads' HO1404.out).2.1);rintro e w' ⟨rfl,⟨nd,rfl⟩⟩;refine ⟨_,rfl,?_⟩;have hcz57_0:w56.cell? ⟨gb1387,0,none⟩ = some (.int .i64 a0_0):=(blk_cell BK1387.out 0).trans rfl;have hcz57_1:w56.cell? ⟨gb1387,1,none⟩ = some (.slice A0_1 l0_1.length c0_1):=(blk_cell BK1387.out 1).trans rfl;have hfz57_0:=blk_frozen BK1387.out 0;have hfz57_1:=blk_frozen BK1387.out 1)|((with_reducible refine gate_callee (f:=17) rfl ?_);refine goesL_ (some 79) rfl rfl Try.func17 (by kernel_rfl) rfl #[.agg #[.int .i64 a0_0,.slice A0_1 l0_1.length c0_1]] rfl (by (try simp only [List.map_toArray,List.map_cons,List.map_nil]);first|done|rfl|(simp only [List.length_drop,List.length_take];rfl)) ?_;(with_reducible refine (laws_toCommittee.calls k a0_0 _ _ l0_1 t1418 t1419 _ ?side1 ?side2 A26.out).mono ?_);(case side1=>repeat (first|exact (Kd.C_below HR0_1.out (by repeat (first|(with_reducible first|exact HB.out|apply below_alloc|apply pw_below_drewN|apply below_drew1|refine below_set ?_ GE1387.out|refine below_set ?_ GE1401.out)|exact HB.out)))|(with_reducible refine Kd.C_alloc ?_ _)|(with_reducible refine Kd.C_drewN ?_ _)|(with_reducible refine Kd.C_drew ?_)));(case side2=>exact HC0_1.out);rintro e w58 ⟨v1420,rfl,ho0,hb⟩;refine ⟨_,rfl,?_⟩;have n0_:=Aside0.mk (Kd.R_elder' (by (with_reducible repeat (first|apply Kd.R_alloc|apply Kd.R_drewN|apply Kd.R_drew));exact HO1392.out) (Kd.R_base ho0) hb);have n1_:=Aside0.mk (Kd.R_elder' (by (with_reducible repeat (first|apply Kd.R_alloc|apply Kd.R_drewN|apply Kd.R_drew));exact HO1395.out) (Kd.R_base ho0) hb);have n2_:=Aside0.mk (Kd.R_elder' (by (with_reducible repeat (first|apply Kd.R_alloc|apply Kd.R_drewN|apply Kd.R_drew));exact HO1400.out) (Kd.R_base ho0) hb);have n3_:=Aside0.mk (Kd.R_elder' (by (with_reducible repeat (first|apply Kd.R_alloc|apply Kd.R_drewN|apply Kd.R_drew));exact HO1404.out) (Kd.R_base ho0) hb);have n4_:=Aside0.mk (Kd.R_elder' (by (with_reducible repeat (first|apply Kd.R_alloc|apply Kd.R_drewN|apply Kd.R_drew));exact HO1410.out) (Kd.R_base ho0) hb);have n5_:=Aside0.mk (Kd.R_lower (Kd.R_new' (Kd.R_new' (Kd.R_new' (Kd.R_new' (Kd.R_new' ho0 (Kd.R_lt (by (with_reducible repeat (first|apply Kd.R_alloc|apply Kd.R_drewN|apply Kd.R_drew));exact HO1392.out))) (Kd.R_lt (by (with_reducible repeat (first|apply Kd.R_alloc|apply Kd.R_drewN|apply Kd.R_drew));exact HO1395.out))) (Kd.R_lt (by (with_reducible repeat (first|apply Kd.R_alloc|apply Kd.R_drewN|apply Kd.R_drew));exact HO1400.out))) (Kd.R_lt (by (with_reducible repeat (first|apply Kd.R_alloc|apply Kd.R_drewN|apply Kd.R_drew));exact HO1404.out))) (Kd.R_lt (by (with_reducible repeat (first|apply Kd.R_alloc|apply Kd.R_drewN|apply Kd.R_drew));exact HO1410.out))) (below_size (by repeat (first|(with_reducible first|exact HB.out|apply below_alloc|apply pw_below_drewN|apply below_drew1|refine below_set ?_ GE1387.out|refine below_set ?_ GE1401.out)|exact HB.out))));have n6_:=Aside0.mk (blk_below (g:=gb1387) (o:=.cells #[.int .i64 a0_0,.slice A0_1 l0_1.length c0_1] 24 (0,0)) (by (with_reducible repeat (first|refine blk_drewN ?_ _|refine blk_drew ?_|refine blk_alloc ?_ _));exact BK1387.out) hb);have n7_:=Aside0.mk (blk_below (g:=gb1401) (o:=.cells #[.int .i64 t1397,.slice Ao46 t1398.length co46] 26 (0,0)) (by (with_reducible repeat (first|refine blk_drewN ?_ _|refine blk_drew ?_|refine blk_alloc ?_ _));exact BK1401.out) hb);have n8_:=Aside0.mk (below_step (by repeat (first|(with_reducible first|exact HB.out|apply below_alloc|apply pw_below_drewN|apply below_drew1|refine below_set ?_ GE1387.out|refine below_set ?_ GE1401.out)|exact HB.out)) hb);clear HO1392;clear HO1395;clear HO1400;clear HO1404;clear HO1410;clear BK1387;clear BK1401;clear HB;have HO1392:=n0_;have HO1395:=n1_;have HO1400:=n2_;have HO1404:=n3_;have HO1410:=n4_;have HO1421:=n5_;have BK1387:=n6_;have BK1401:=n7_;have HB:=n8_;clear n0_ n1_ n2_ n3_ n4_ n5_ n6_ n7_ n8_;(try clear hb);(try clear hb2);(try clear hk);(try clear hi);(try clear ho0);obtain ⟨Ao59,co59,eo59⟩:=Kd.R_slice HO1421.out;subst eo59)|((with_reducible refine gate_callee (f:=60) rfl ?_);refine goesL_ (some 81) rfl rfl Try.func60 (by kernel_rfl) rfl #[.agg #[.int .i64 t1418,.slice Ao59 t1419.length co59],.int .i64 a1] rfl (by (try simp only [List.map_toArray,List.map_cons,List.map_nil]);first|done|rfl|(simp only [List.length_drop,List.length_take];rfl)) ?_;(with_reducible refine (impl_BestSplits.calls k t1418 _ _ t1419 a1 t1422 t1425 _ ?side1 ?side2 A27.out).mono ?_);(case side1=>repeat (first|exact (Kd.R_reads' HO1421.out).2.2|(with_reducible refine Kd.C_alloc ?_ _)|(with_reducible refine Kd.C_drewN ?_ _)|(with_reducible refine Kd.C_drew ?_)));(case side2=>exact (Kd.R_reads' HO1421.out).2.1);rintro e w60 ⟨v1423,rfl,ho0,hb⟩;refine ⟨_,rfl,?_⟩;have n0_:=Aside0.mk (Kd.R_elder' (by (with_reducible repeat (first|apply Kd.R_alloc|apply Kd.R_drewN|apply Kd.R_drew));exact HO1392.out) (Kd.R_base ho0) hb);have n1_:=Aside0.mk (Kd.R_elder' (by (with_reducible repeat (first|apply Kd.R_alloc|apply Kd.R_drewN|apply Kd.R_drew));exact HO1395.out) (Kd.R_base ho0) hb);have n2_:=Aside0.mk (Kd.R_elder' (by (with_reducible repeat (first|apply Kd.R_alloc|apply Kd.R_drewN|apply Kd.R_drew));exact HO1400.out) (Kd.R_base ho0) hb);have n3_:=Aside0.mk (Kd.R_elder' (by (with_reducible repeat (first|apply Kd.R_alloc|apply Kd.R_drewN|apply Kd.R_drew));exact HO1404.out) (Kd.R_base ho0) hb);have n4_:=Aside0.mk (Kd.R_elder' (by (with_reducible repeat (first|apply Kd.R_alloc|apply Kd.R_drewN|apply Kd.R_drew));exact HO1410.out) (Kd.R_base ho0) hb);have n5_:=Aside0.mk (Kd.R_elder' (by (with_reducible repeat (first|apply Kd.R_alloc|apply Kd.R_drewN|apply Kd.R_drew));exact HO1421.out) (Kd.R_base ho0) hb);have n6_:=Aside0.mk (Kd.R_lower (Kd.R_new' (Kd.R_new' (Kd.R_new' (Kd.R_new' (Kd.R_new' (Kd.R_new' ho0 (Kd.R_lt (by (with_reducible repeat (first|apply Kd.R_alloc|apply Kd.R_drewN|apply Kd.R_drew));exact HO1392.out))) (Kd.R_lt (by (with_reducible repeat (first|apply Kd.R_alloc|apply Kd.R_drewN|apply Kd.R_drew));exact HO1395.out))) (Kd.R_lt (by (with_reducible repeat (first|apply Kd.R_alloc|apply Kd.R_drewN|apply Kd.R_drew));exact HO1400.out))) (Kd.R_lt (by (with_reducible repeat (first|apply Kd.R_alloc|apply Kd.R_drewN|apply Kd.R_drew));exact HO1404.out))) (Kd.R_lt (by (with_reducible repeat (first|apply Kd.R_alloc|apply Kd.R_drewN|apply Kd.R_drew));exact HO1410.out))) (Kd.R_lt (by (with_reducible repeat (first|apply Kd.R_alloc|apply Kd.R_drewN|apply Kd.R_drew));exact HO1421.out))) (below_size (by repeat (first|(with_reducible first|exact HB.out|apply below_alloc|apply pw_below_drewN|apply below_drew1|refine below_set ?_ GE1387.out|refine below_set ?_ GE1401.out)|exact HB.out))));have n7_:=Aside0.mk (blk_below (g:=gb1387) (o:=.cells #[.int .i64 a0_0,.slice A0_1 l0_1.length c0_1] 24 (0,0)) (by (with_reducible repeat (first|refine blk_drewN ?_ _|refine blk_drew ?_|refine blk_alloc ?_ _));exact BK1387.out) hb);have n8_:=Aside0.mk (blk_below (g:=gb1401) (o:=.cells #[.int .i64 t1397,.slice Ao46 t1398.length co46] 26 (0,0)) (by (with_reducible repeat (first|refine blk_drewN ?_ _|refine blk_drew ?_|refine blk_alloc ?_ _));exact BK1401.out) hb);have n9_:=Aside0.mk (below_step (by repeat (first|(with_reducible first|exact HB.out|apply below_alloc|apply pw_below_drewN|apply below_drew1|refine below_set ?_ GE1387.out|refine below_set ?_ GE1401.out)|exact HB.out)) hb);clear HO1392;clear HO1395;clear HO1400;clear HO1404;clear HO1410;clear HO1421;clear BK1387;clear BK1401;clear HB;have HO1392:=n0_;have HO1395:=n1_;have HO1400:=n2_;have HO1404:=n3_;have HO1410:=n4_;have HO1421:=n5_;have HO1424:=n6_;have BK1387:=n7_;have BK1401:=n8_;have HB:=n9_;clear n0_ n1_ n2_ n3_ n4_ n5_ n6_ n7_ n8_ n9_;(try clear hb);(try clear hb2);(try clear hk);(try clear hi);(try clear ho0);obtain ⟨Ao61,co61,eo61⟩:=Kd.R_slice HO1424.out;subst eo61)|((with_reducible refine gate_callee (f:=33) rfl ?_);refine goesL_ (some 86) rfl rfl Try.func33 (by kernel_rfl) rfl #[.slice Ao61 t1422.length co61,.slice Ao49 t1393.length co49] rfl (by (try simp only [List.map_toArray,List.map_cons,List.map_nil]);first|done|rfl|(simp only [List.length_drop,List.length_take];rfl)) ?_;(with_reducible refine (laws_eqIntS.calls k _ _ t1422 _ _ t1393 true _ ?side1 ?side2 ?side3 ?side4 A28.out).mono ?_);(case side1=>repeat (first|exact (Kd.R_reads' HO1424.out).2.2|(with_reducible refine Kd.C_alloc ?_ _)|(with_reducible refine Kd.C_drewN ?_ _)|(with_reducible refine Kd.C_drew ?_)));(case side2=>exact (Kd.R_reads' HO1424.out).2.1);(case side3=>repeat (first|exact (Kd.R_reads' HO1395.out).2.2|(with_reducible refine Kd.C_alloc ?_ _)|(with_reducible refine Kd.C_drewN ?_ _)|(with_reducible refine Kd.C_drew ?_)));(case side4=>exact (Kd.R_reads' HO1395.out).2.1);rintro e w' ⟨rfl,⟨nd,rfl⟩⟩;refine ⟨_,rfl,?_⟩)|((with_reducible refine gate_callee (f:=35) rfl ?_);refine goesL_ (some 95) rfl rfl Try.func35 (by kernel_rfl) rfl #[.slice Ao48 t1416.length co48,.int .i64 1] rfl (by (try simp only [List.map_toArray,List.map_cons,List.map_nil]);first|done|(rw [show t1416.length = t1402.length from (Kd.R_reads' HO1404.out).1.symm] <;> rfl)|rfl|(simp only [List.length_drop,List.length_take];rfl)) ?_;(with_reducible refine (laws_heldIntS.calls k _ _ t1416 1 t1427 _ ?side1 ?side2 A31.out).mono ?_);(case side1=>repeat (first|exact (Kd.R_reads' HO1404.out).2.2|(with_reducible refine Kd.C_alloc ?_ _)|(with_reducible refine Kd.C_drewN ?_ _)|(with_reducible refine Kd.C_drew ?_)));(case side2=>rw [show t1416.length = t1402.length from (Kd.R_reads' HO1404.out).1.symm];exact (Kd.R_reads' HO1404.out).2.1);rintro e w' ⟨rfl,⟨nd,rfl⟩⟩;refine ⟨_,rfl,?_⟩))
             go_ret
             exact ⟨by first|rfl|(simp [errW_none,errW_some] <;> rfl)|(simp [*,errW_none,errW_some] <;> rfl),by repeat (first|(with_reducible first|exact HB.out|apply below_alloc|apply pw_below_drewN|apply below_drew1|refine below_set ?_ GE1387.out|refine below_set ?_ GE1401.out)|exact HB.out)⟩
            ·rw [if_neg c33] at H
             have c33b0:(t1427 == t1415) = false:=beq_eq_false_iff_ne.mpr c33
             have c33b1:(t1427 != t1415) = true:=bne_iff_ne.mpr c33
             exact absurd (H.trans (congrArg some hr_.out)) (by simp)
         ·replace c29:=Bool.eq_false_iff.mpr c29
          subst c29
          have H1:(some false) = some r:=by rw [if_neg (show ¬ (false = true) by decide)] at H;exact H
          clear H
          have H:=H1
          clear H1
          exact absurd (H.trans (congrArg some hr_.out)) (by simp)
        ·rw [if_neg c25] at H
         have c25b0:(t1417 == t1415) = false:=beq_eq_false_iff_ne.mpr c25
         have c25b1:(t1417 != t1415) = true:=bne_iff_ne.mpr c25
         exact absurd (H.trans (congrArg some hr_.out)) (by simp)
      ·replace c21:=Bool.eq_false_iff.mpr c21
       subst c21
       have H1:(some false) = some r:=by rw [if_neg (show ¬ (false = true) by decide)] at H;exact H
       clear H
       have H:=H1
       clear H1
       exact absurd (H.trans (congrArg some hr_.out)) (by simp)
    ·replace c17:=Bool.eq_false_iff.mpr c17
     subst c17
     have H1:(some false) = some r:=by rw [if_neg (show ¬ (false = true) by decide)] at H;exact H
     clear H
     have H:=H1
     clear H1
     exact absurd (H.trans (congrArg some hr_.out)) (by simp)
  ·replace c13:=Bool.eq_false_iff.mpr c13
   subst c13
   have H1:(some false) = some r:=by rw [if_neg (show ¬ (false = true) by decide)] at H;exact H
   clear H
   have H:=H1
   clear H1
   exact absurd (H.trans (congrArg some hr_.out)) (by simp)


/-! ### impl_gain: function 122 -/
def impl_gain.f (k:Nat) (l0_0:List Int) (a0_1:Int) (l1:List Int) (l2_0:List Int) (a2_1:Int) (l3:List Int):Option (Int):=(impl_powers_of.f k l2_0 a2_1 l3).bind fun t1152=>((impl_powers_of.f k l0_0 a0_1 l1).bind fun t1153=>((cmp_Compare_int.f (wrap64 (t1152 * a0_1)) (wrap64 (t1153 * a2_1))).bind fun t1154=>(some t1154)))
theorem impl_gain.mono:∀ a0 a1 a2 a3 a4 a5 k,LeO (impl_gain.f k a0 a1 a2 a3 a4 a5) (impl_gain.f (k + 1) a0 a1 a2 a3 a4 a5):=by
 intro a0 a1 a2 a3 a4 a5 k
 unfold impl_gain.f
 repeat' first
   | (with_reducible exact impl_powers_of.mono _ _ _ _)
   | (with_reducible exact LeO.refl _)
   | (with_reducible exact LeO.none _)
   | (with_reducible refine LeO.ite ?_ ?_)
   | (with_reducible refine LeO.bind ?_ (fun _=>?_))
   | exact impl_powers_of.mono _ _ _ _
   | exact LeO.none _
   | refine LeO.ite ?_ ?_
   | refine LeO.bind ?_ (fun _=>?_)
def impl_gain.T1:Bool × List (List Nat × List Nat):=(true,[([],[]),([],[]),([0,1],[0,1]),([],[]),([3],[3]),([2,4],[2,4]),([],[]),([],[]),([6,7,2],[6,7]),([],[]),([9],[9]),([8,10],[8,10]),([5,11,8],[5,11]),([12,12,0,1,2,3,4,5,6,7,8,9,10,11,12],[12])])
def impl_gain.B1:List Nat:=[0,0,3,0,8,31,0,0,199,0,512,1991,4095,8191]
theorem impl_gain.tab1:rtab .any (opsOf Try.f122 1) = impl_gain.T1:=by kernel_rfl
theorem impl_gain.bits1:waitsOk impl_gain.T1.2 impl_gain.B1 = true:=by kernel_rfl
set_option maxHeartbeats 8000000 in
set_option maxRecDepth 100000 in
theorem impl_gain.calls (k:Nat) (A0_0:Option Addr) (c0_0:Nat) (l0_0:List Int) (a0_1:Int) (A1:Option Addr) (c1:Nat) (l1:List Int) (A2_0:Option Addr) (c2_0:Nat) (l2_0:List Int) (a2_1:Int) (A3:Option Addr) (c3:Nat) (l3:List Int) (r:Int) (w:World) (hr0_0:Kd.C (Kd.int .i64) w A0_0 l0_0.length l0_0) (hc0_0:l0_0.length ≤ c0_0) (hr1:Kd.C (Kd.int .i64) w A1 l1.length l1) (hc1:l1.length ≤ c1) (hr2_0:Kd.C (Kd.int .i64) w A2_0 l2_0.length l2_0) (hc2_0:l2_0.length ≤ c2_0) (hr3:Kd.C (Kd.int .i64) w A3 l3.length l3) (hc3:l3.length ≤ c3) (h:impl_gain.f k l0_0 a0_1 l1 l2_0 a2_1 l3 = some r) :
  Calls Try.prog 122 #[.agg #[.slice A0_0 l0_0.length c0_0,.int .i64 a0_1],.slice A1 l1.length c1,.agg #[.slice A2_0 l2_0.length c2_0,.int .i64 a2_1],.slice A3 l3.length c3] w fun e w'=>e = .returned (.int .i64 r) ∧ Below w.heap.size w w':=by
 have hu130:=Try.underlying130
 have HR0_0:=Aside0.mk hr0_0
 have HC0_0:=Aside0.mk hc0_0
 clear hr0_0 hc0_0
 have HR1:=Aside0.mk hr1
 have HC1:=Aside0.mk hc1
 clear hr1 hc1
 have HR2_0:=Aside0.mk hr2_0
 have HC2_0:=Aside0.mk hc2_0
 clear hr2_0 hc2_0
 have HR3:=Aside0.mk hr3
 have HC3:=Aside0.mk hc3
 clear hr3 hc3
 have HB:=Aside0.mk (Below.refl w.heap.size w)
 have H:((impl_powers_of.f k l2_0 a2_1 l3).bind fun t1152=>((impl_powers_of.f k l0_0 a0_1 l1).bind fun t1153=>((cmp_Compare_int.f (wrap64 (t1152 * a0_1)) (wrap64 (t1153 * a2_1))).bind fun t1154=>(some t1154)))) = some r:=h
 clear h
 replace H:=Option.bind_eq_some_iff.mp H
 obtain ⟨t1152,A50,H⟩:=H
 replace H:((impl_powers_of.f k l0_0 a0_1 l1).bind fun t1153=>((cmp_Compare_int.f (wrap64 (t1152 * a0_1)) (wrap64 (t1153 * a2_1))).bind fun t1154=>(some t1154))) = some r:=H
 have A5:=Aside0.mk A50
 clear A50
 replace H:=Option.bind_eq_some_iff.mp H
 obtain ⟨t1153,A60,H⟩:=H
 replace H:((cmp_Compare_int.f (wrap64 (t1152 * a0_1)) (wrap64 (t1153 * a2_1))).bind fun t1154=>(some t1154)) = some r:=H
 have A6:=Aside0.mk A60
 clear A60
 replace H:=Option.bind_eq_some_iff.mp H
 obtain ⟨t1154,A70,H⟩:=H
 replace H:(some t1154) = some r:=H
 have A7:=Aside0.mk A70
 clear A70
 obtain rfl:=Option.some.inj H
 go_enter Try.func122,Try.ntmps122
 try go_wp2_with (first|((with_reducible refine gate_dst (N:=4) rfl ?_);refine box_event ?hg (N:=4) ?hd (cs:=#[.slice A0_0 l0_0.length c0_0,.int .i64 a0_1]) (t:=130) ?hr ?_;(case hd=>rfl);(case hg=>rfl);(case hr=>first|(go_simp;done)|(go_simp;rfl));intro gb1150 hg w8 hbox hb;have n0_:=Aside0.mk (below_step (by repeat (first|(with_reducible first|exact HB.out|apply below_alloc|apply pw_below_drewN|apply below_drew1)|exact HB.out)) hb);have n1_:=Aside0.mk (hbox);have n2_:=Aside0.mk ((by rw [hg];exact (below_size (by repeat (first|(with_reducible first|exact HB.out|apply below_alloc|apply pw_below_drewN|apply below_drew1)|exact HB.out))):w.heap.size ≤ gb1150));have n3_:=Aside0.mk ((by rw [hg];exact (below_size (by repeat (first|(with_reducible first|exact HB.out|apply below_alloc|apply pw_below_drewN|apply below_drew1)|exact HB.out))):w.heap.size ≤ gb1150));clear HB;have HB:=n0_;have BK1150:=n1_;have GW1150:=n2_;have GE1150:=n3_;clear n0_ n1_ n2_ n3_;clear hb hbox hg)|((with_reducible refine gate_dst (N:=6) rfl ?_);refine box_event ?hg (N:=6) ?hd (cs:=#[.slice A2_0 l2_0.length c2_0,.int .i64 a2_1]) (t:=130) ?hr ?_;(case hd=>rfl);(case hg=>rfl);(case hr=>first|(go_simp;done)|(go_simp;rfl));intro gb1151 hg w9 hbox hb;have n0_:=Aside0.mk (blk_below (g:=gb1150) (o:=.cells #[.slice A0_0 l0_0.length c0_0,.int .i64 a0_1] 130 (0,0)) (by (with_reducible repeat (first|refine blk_drewN ?_ _|refine blk_drew ?_|refine blk_alloc ?_ _));exact BK1150.out) hb);have n1_:=Aside0.mk (below_step (by repeat (first|(with_reducible first|exact HB.out|apply below_alloc|apply pw_below_drewN|apply below_drew1|refine below_set ?_ GE1150.out)|exact HB.out)) hb);have n2_:=Aside0.mk (hbox);have n3_:=Aside0.mk ((by rw [hg];exact (below_size (by repeat (first|(with_reducible first|exact HB.out|apply below_alloc|apply pw_below_drewN|apply below_drew1|refine below_set ?_ GE1150.out)|exact HB.out))):w.heap.size ≤ gb1151));have n4_:=Aside0.mk ((by rw [hg];exact (below_size (by repeat (first|(with_reducible first|exact HB.out|apply below_alloc|apply pw_below_drewN|apply below_drew1|refine below_set ?_ GE1150.out)|exact HB.out))):w.heap.size ≤ gb1151));have n5_:=Aside0.mk ((by rw [hg];exact Nat.ne_of_lt (blk_lt (g:=gb1150) (o:=.cells #[.slice A0_0 l0_0.length c0_0,.int .i64 a0_1] 130 (0,0)) (by (with_reducible repeat (first|refine blk_drewN ?_ _|refine blk_drew ?_|refine blk_alloc ?_ _));exact BK1150.out)):gb1150 ≠ gb1151));have n6_:=Aside0.mk ((by rw [hg];exact Nat.ne_of_gt (blk_lt (g:=gb1150) (o:=.cells #[.slice A0_0 l0_0.length c0_0,.int .i64 a0_1] 130 (0,0)) (by (with_reducible repeat (first|refine blk_drewN ?_ _|refine blk_drew ?_|refine blk_alloc ?_ _));exact BK1150.out)):gb1151 ≠ gb1150));clear BK1150;clear HB;have BK1150:=n0_;have HB:=n1_;have BK1151:=n2_;have GW1151:=n3_;have GE1151:=n4_;have NB1150_1151:=n5_;have NB1151_1150:=n6_;clear n0_ n1_ n2_ n3_ n4_ n5_ n6_;clear hb hbox hg))
 have n0_:=Aside0.mk (blk_drew BK1150.out)
 have n1_:=Aside0.mk (blk_drew BK1151.out)
 have n2_:=Aside0.mk (below_drew1 HB.out)
 clear BK1150
 clear BK1151
 clear HB
 have BK1150:=n0_
 have BK1151:=n1_
 have HB:=n2_
 clear n0_ n1_ n2_
 refine start_ (n:=14) (S:=fun w'=>w'.cell? ⟨gb1151,0,none⟩ = some (.slice A2_0 l2_0.length c2_0) ∧ w'.cell? ⟨gb1151,1,none⟩ = some (.int .i64 a2_1) ∧ w'.cell? ⟨gb1150,0,none⟩ = some (.slice A0_0 l0_0.length c0_0) ∧ w'.cell? ⟨gb1150,1,none⟩ = some (.int .i64 a0_1)) (ds:=[]) #[false,false,false,false,false,false,false,false,false,false,false,false,false,false] (by kernel_rfl) rfl rfl ⟨(blk_cell BK1151.out 0).trans rfl,(blk_cell BK1151.out 1).trans rfl,(blk_cell BK1150.out 0).trans rfl,(blk_cell BK1150.out 1).trans rfl⟩ (fun hHeld=>?_);refine with_tabW impl_gain.tab1 impl_gain.bits1 (fun HT_ HW_=>?_)
 generalize w9.drew = w10 at BK1150 BK1151 HB hHeld ⊢
 refine pure_ (i:=1) (N:=some 10) (v:=?_) (a':=?_) #[false,true,false,false,false,false,false,false,false,false,false,false,false,false] rfl rfl (any_of HT_.out (by kernel_rfl)) (fun _ _ _ h=>h) (Or.inl ⟨by rfl,?_⟩) ?_ ?_
 rotate_left
 ·intro w'
  go_simp
  with_reducible rfl
 rotate_left
 ·simp only [Act.put,List.setIfInBounds_toArray,List.set_cons_zero,List.set_cons_succ,i64_w,i32_w]
  rfl
 refine pure_ (i:=3) (N:=some 12) (v:=?_) (a':=?_) #[false,true,false,true,false,false,false,false,false,false,false,false,false,false] rfl rfl (any_of HT_.out (by kernel_rfl)) (fun _ _ _ h=>h) (Or.inl ⟨by rfl,?_⟩) ?_ ?_
 rotate_left
 ·intro w'
  go_simp
  with_reducible rfl
 rotate_left
 ·simp only [Act.put,List.setIfInBounds_toArray,List.set_cons_zero,List.set_cons_succ,i64_w,i32_w]
  rfl
 refine pure_ (i:=7) (N:=some 16) (v:=?_) (a':=?_) #[false,true,false,true,false,false,false,true,false,false,false,false,false,false] rfl rfl (any_of HT_.out (by kernel_rfl)) (fun _ _ _ h=>h) (Or.inl ⟨by rfl,?_⟩) ?_ ?_
 rotate_left
 ·intro w'
  go_simp
  with_reducible rfl
 rotate_left
 ·simp only [Act.put,List.setIfInBounds_toArray,List.set_cons_zero,List.set_cons_succ,i64_w,i32_w]
  rfl
 refine pure_ (i:=9) (N:=some 18) (v:=?_) (a':=?_) #[false,true,false,true,false,false,false,true,false,true,false,false,false,false] rfl rfl (any_of HT_.out (by kernel_rfl)) (fun _ _ _ h=>h) (Or.inl ⟨by rfl,?_⟩) ?_ ?_
 rotate_left
 ·intro w'
  go_simp
  with_reducible rfl
 rotate_left
 ·simp only [Act.put,List.setIfInBounds_toArray,List.set_cons_zero,List.set_cons_succ,i64_w,i32_w]
  rfl
 refine take_ (i:=0) (N:=some 9) (v:=?_) (a':=?_) #[true,true,false,true,false,false,false,true,false,true,false,false,false,false] rfl rfl (take_ofW HT_.out HW_.out (by kernel_rfl)) (fun _ _ _ h=>h) (Or.inl ⟨by rfl,?_⟩) hHeld ?_ ?_
 rotate_left
 ·rintro w' ⟨s0,s1,s2,s3⟩
  go_simp
  with_reducible rfl
 rotate_left
 ·simp only [Act.put,List.setIfInBounds_toArray,List.set_cons_zero,List.set_cons_succ,i64_w,i32_w]
  rfl
 refine take_ (i:=4) (N:=some 13) (v:=?_) (a':=?_) #[true,true,false,true,true,false,false,true,false,true,false,false,false,false] rfl rfl (take_ofW HT_.out HW_.out (by kernel_rfl)) (fun _ _ _ h=>h) (Or.inl ⟨by rfl,?_⟩) hHeld ?_ ?_
 rotate_left
 ·rintro w' ⟨s0,s1,s2,s3⟩
  go_simp
  with_reducible rfl
 rotate_left
 ·simp only [Act.put,List.setIfInBounds_toArray,List.set_cons_zero,List.set_cons_succ,i64_w,i32_w]
  rfl
 refine take_ (i:=6) (N:=some 15) (v:=?_) (a':=?_) #[true,true,false,true,true,false,true,true,false,true,false,false,false,false] rfl rfl (take_ofW HT_.out HW_.out (by kernel_rfl)) (fun _ _ _ h=>h) (Or.inl ⟨by rfl,?_⟩) hHeld ?_ ?_
 rotate_left
 ·rintro w' ⟨s0,s1,s2,s3⟩
  go_simp
  with_reducible rfl
 rotate_left
 ·simp only [Act.put,List.setIfInBounds_toArray,List.set_cons_zero,List.set_cons_succ,i64_w,i32_w]
  rfl
 refine take_ (i:=10) (N:=some 19) (v:=?_) (a':=?_) #[true,true,false,true,true,false,true,true,false,true,true,false,false,false] rfl rfl (take_ofW HT_.out HW_.out (by kernel_rfl)) (fun _ _ _ h=>h) (Or.inl ⟨by rfl,?_⟩) hHeld ?_ ?_
 rotate_left
 ·rintro w' ⟨s0,s1,s2,s3⟩
  go_simp
  with_reducible rfl
 rotate_left
 ·simp only [Act.put,List.setIfInBounds_toArray,List.set_cons_zero,List.set_cons_succ,i64_w,i32_w]
  rfl
 refine one_ (i:=2) (N:=some 11) #[true,true,true,true,true,false,true,true,false,true,true,false,false,false] rfl rfl (one_of HT_.out (by kernel_rfl)) (by decide) (fun K hK=>?_)
 refine goes_ Try.func128 (by kernel_rfl) rfl #[.agg #[.slice A2_0 l2_0.length c2_0,.int .i64 a2_1],.slice A3 l3.length c3] (by rfl) rfl rfl (by (try simp only [List.map_toArray,List.map_cons,List.map_nil]);first|done|rfl|(simp only [List.length_drop,List.length_take];rfl)) ?_
 with_reducible refine (impl_powers_of.calls k _ _ l2_0 a2_1 _ _ l3 t1152 _ ?side1 ?side2 ?side3 ?side4 A5.out).mono ?_
 (case side1=>repeat (first|exact (Kd.C_below HR2_0.out HB.out)|(with_reducible refine Kd.C_alloc ?_ _)|(with_reducible refine Kd.C_drewN ?_ _)|(with_reducible refine Kd.C_drew ?_)))
 (case side2=>exact HC2_0.out)
 (case side3=>repeat (first|exact (Kd.C_below HR3.out HB.out)|(with_reducible refine Kd.C_alloc ?_ _)|(with_reducible refine Kd.C_drewN ?_ _)|(with_reducible refine Kd.C_drew ?_)))
 (case side4=>exact HC3.out)
 rintro e w11 ⟨rfl,hb⟩
 refine ⟨_,rfl,?_⟩
 have n0_:=Aside0.mk (blk_below (g:=gb1150) (o:=.cells #[.slice A0_0 l0_0.length c0_0,.int .i64 a0_1] 130 (0,0)) (by (with_reducible repeat (first|refine blk_drewN ?_ _|refine blk_drew ?_|refine blk_alloc ?_ _));exact BK1150.out) hb)
 have n1_:=Aside0.mk (blk_below (g:=gb1151) (o:=.cells #[.slice A2_0 l2_0.length c2_0,.int .i64 a2_1] 130 (0,0)) (by (with_reducible repeat (first|refine blk_drewN ?_ _|refine blk_drew ?_|refine blk_alloc ?_ _));exact BK1151.out) hb)
 have n2_:=Aside0.mk (below_step (by repeat (first|(with_reducible first|exact HB.out|apply below_alloc|apply pw_below_drewN|apply below_drew1|refine below_set ?_ GE1150.out|refine below_set ?_ GE1151.out)|exact HB.out)) hb)
 clear BK1150
 clear BK1151
 clear HB
 have BK1150:=n0_
 have BK1151:=n1_
 have HB:=n2_
 clear n0_ n1_ n2_
 (try clear hb)
 (try clear hb2)
 (try clear hk)
 (try clear hi)
 refine hK.out _ _ ⟨(blk_cell BK1151.out 0).trans rfl,(blk_cell BK1151.out 1).trans rfl,(blk_cell BK1150.out 0).trans rfl,(blk_cell BK1150.out 1).trans rfl⟩ (fun hHeld=>?_)
 clear hK K
 refine norm_ (a':=?_) ?_ ?_
 rotate_left
 ·show Act.put _ (some 11) _ = _
  simp only [Act.put,List.setIfInBounds_toArray,List.set_cons_zero,List.set_cons_succ,i64_w,i32_w]
  rfl
 refine pure_ (i:=5) (N:=some 14) (v:=?_) (a':=?_) #[true,true,true,true,true,true,true,true,false,true,true,false,false,false] rfl rfl (any_of HT_.out (by kernel_rfl)) (fun _ _ _ h=>h) (Or.inl ⟨by rfl,?_⟩) ?_ ?_
 rotate_left
 ·intro w'
  go_simp
  with_reducible rfl
 rotate_left
 ·simp only [Act.put,List.setIfInBounds_toArray,List.set_cons_zero,List.set_cons_succ,i64_w,i32_w]
  rfl
 refine one_ (i:=8) (N:=some 17) #[true,true,true,true,true,true,true,true,true,true,true,false,false,false] rfl rfl (one_of HT_.out (by kernel_rfl)) (by decide) (fun K hK=>?_)
 refine goes_ Try.func128 (by kernel_rfl) rfl #[.agg #[.slice A0_0 l0_0.length c0_0,.int .i64 a0_1],.slice A1 l1.length c1] (by rfl) rfl rfl (by (try simp only [List.map_toArray,List.map_cons,List.map_nil]);first|done|rfl|(simp only [List.length_drop,List.length_take];rfl)) ?_
 with_reducible refine (impl_powers_of.calls k _ _ l0_0 a0_1 _ _ l1 t1153 _ ?side1 ?side2 ?side3 ?side4 A6.out).mono ?_
 (case side1=>repeat (first|exact (Kd.C_below HR0_0.out HB.out)|(with_reducible refine Kd.C_alloc ?_ _)|(with_reducible refine Kd.C_drewN ?_ _)|(with_reducible refine Kd.C_drew ?_)))
 (case side2=>exact HC0_0.out)
 (case side3=>repeat (first|exact (Kd.C_below HR1.out HB.out)|(with_reducible refine Kd.C_alloc ?_ _)|(with_reducible refine Kd.C_drewN ?_ _)|(with_reducible refine Kd.C_drew ?_)))
 (case side4=>exact HC1.out)
 rintro e w12 ⟨rfl,hb⟩
 refine ⟨_,rfl,?_⟩
 have n0_:=Aside0.mk (blk_below (g:=gb1150) (o:=.cells #[.slice A0_0 l0_0.length c0_0,.int .i64 a0_1] 130 (0,0)) (by (with_reducible repeat (first|refine blk_drewN ?_ _|refine blk_drew ?_|refine blk_alloc ?_ _));exact BK1150.out) hb)
 have n1_:=Aside0.mk (blk_below (g:=gb1151) (o:=.cells #[.slice A2_0 l2_0.length c2_0,.int .i64 a2_1] 130 (0,0)) (by (with_reducible repeat (first|refine blk_drewN ?_ _|refine blk_drew ?_|refine blk_alloc ?_ _));exact BK1151.out) hb)
 have n2_:=Aside0.mk (below_step (by repeat (first|(with_reducible first|exact HB.out|apply below_alloc|apply pw_below_drewN|apply below_drew1|refine below_set ?_ GE1150.out|refine below_set ?_ GE1151.out)|exact HB.out)) hb)
 clear BK1150
 clear BK1151
 clear HB
 have BK1150:=n0_
 have BK1151:=n1_
 have HB:=n2_
 clear n0_ n1_ n2_
 (try clear hb)
 (try clear hb2)
 (try clear hk)
 (try clear hi)
 refine hK.out _ _ ⟨(blk_cell BK1151.out 0).trans rfl,(blk_cell BK1151.out 1).trans rfl,(blk_cell BK1150.out 0).trans rfl,(blk_cell BK1150.out 1).trans rfl⟩ (fun hHeld=>?_)
 clear hK K
 refine norm_ (a':=?_) ?_ ?_
 rotate_left
 ·show Act.put _ (some 17) _ = _
  simp only [Act.put,List.setIfInBounds_toArray,List.set_cons_zero,List.set_cons_succ,i64_w,i32_w]
  rfl
 refine pure_ (i:=11) (N:=some 20) (v:=?_) (a':=?_) #[true,true,true,true,true,true,true,true,true,true,true,true,false,false] rfl rfl (any_of HT_.out (by kernel_rfl)) (fun _ _ _ h=>h) (Or.inl ⟨by rfl,?_⟩) ?_ ?_
 rotate_left
 ·intro w'
  go_simp
  with_reducible rfl
 rotate_left
 ·simp only [Act.put,List.setIfInBounds_toArray,List.set_cons_zero,List.set_cons_succ,i64_w,i32_w]
  rfl
 refine one_ (i:=12) (N:=some 21) #[true,true,true,true,true,true,true,true,true,true,true,true,true,false] rfl rfl (one_of HT_.out (by kernel_rfl)) (by decide) (fun K hK=>?_)
 refine goes_ Try.func179 (by kernel_rfl) rfl #[.int .i64 (wrap64 (t1152 * a0_1)),.int .i64 (wrap64 (t1153 * a2_1))] (by rfl) rfl rfl (by (try simp only [List.map_toArray,List.map_cons,List.map_nil]);first|done|rfl|(simp only [List.length_drop,List.length_take];rfl)) ?_
 with_reducible refine (cmp_Compare_int.calls (wrap64 (t1152 * a0_1)) (wrap64 (t1153 * a2_1)) t1154 _ A7.out).mono ?_
 rintro e w' ⟨rfl,⟨nd,rfl⟩⟩
 refine ⟨_,rfl,?_⟩
 refine hK.out _ _ ⟨(blk_cell BK1151.out 0).trans rfl,(blk_cell BK1151.out 1).trans rfl,(blk_cell BK1150.out 0).trans rfl,(blk_cell BK1150.out 1).trans rfl⟩ (fun hHeld=>?_)
 clear hK K
 refine norm_ (a':=?_) ?_ ?_
 rotate_left
 ·show Act.put _ (some 21) _ = _
  simp only [Act.put,List.setIfInBounds_toArray,List.set_cons_zero,List.set_cons_succ,i64_w,i32_w]
  rfl
 refine pure_ (i:=13) (N:=some 8) (v:=?_) (a':=?_) #[true,true,true,true,true,true,true,true,true,true,true,true,true,true] rfl rfl (any_of HT_.out (by kernel_rfl)) (fun _ _ _ h=>h) (Or.inl ⟨by rfl,?_⟩) ?_ ?_
 rotate_left
 ·intro w'
  go_simp
  with_reducible rfl
 rotate_left
 ·simp only [Act.put,List.setIfInBounds_toArray,List.set_cons_zero,List.set_cons_succ,i64_w,i32_w]
  rfl
 refine done_ (done_of HT_.out (by kernel_rfl)) ?_
 try go_wp2
 go_ret
 exact ⟨by first|rfl|(simp [errW_none,errW_some] <;> rfl)|(simp [*,errW_none,errW_some] <;> rfl),by repeat (first|(with_reducible first|exact HB.out|apply below_alloc|apply pw_below_drewN|apply below_drew1|refine below_set ?_ GE1150.out|refine below_set ?_ GE1151.out)|exact HB.out)⟩


/-! ### spec_pwCommon: function 147 -/
def spec_pwCommon.l0:Nat → Int → Int → Option (Int)
 | 0,_,_=>none
 | k + 1,x0,x1=>if x1 > 0 then (if x1 = 0 then (none) else (spec_pwCommon.l0 k x1 (Int.tmod x0 x1))) else (some x0)
def spec_pwCommon.f (k:Nat) (a0:Int) (a1:Int):Option (Int):=spec_pwCommon.l0 k a0 a1
theorem spec_pwCommon.mono_l:∀ k,(∀ y0 y1,LeO (spec_pwCommon.l0 k y0 y1) (spec_pwCommon.l0 (k + 1) y0 y1))
 | 0=>fun _ _ r h=>by simp [spec_pwCommon.l0] at h
 | k + 1=>by
  have ih0:=spec_pwCommon.mono_l k
  ·intro y0 y1
   unfold spec_pwCommon.l0
   repeat' first
   | (with_reducible exact ih0 _ _)
   | (with_reducible exact LeO.refl _)
   | (with_reducible exact LeO.none _)
   | (with_reducible refine LeO.ite ?_ ?_)
   | (with_reducible refine LeO.bind ?_ (fun _=>?_))
   | exact ih0 _ _
   | exact LeO.none _
   | refine LeO.ite ?_ ?_
   | refine LeO.bind ?_ (fun _=>?_)
theorem spec_pwCommon.mono:∀ a0 a1 k,LeO (spec_pwCommon.f k a0 a1) (spec_pwCommon.f (k + 1) a0 a1):=by
 intro a0 a1 k
 have ih0:=spec_pwCommon.mono_l k
 unfold spec_pwCommon.f
 repeat' first
   | (with_reducible exact ih0 _ _)
   | (with_reducible exact LeO.refl _)
   | (with_reducible exact LeO.none _)
   | (with_reducible refine LeO.ite ?_ ?_)
   | (with_reducible refine LeO.bind ?_ (fun _=>?_))
   | exact ih0 _ _
   | exact LeO.none _
   | refine LeO.ite ?_ ?_
   | refine LeO.bind ?_ (fun _=>?_)
set_option maxHeartbeats 8000000 in
set_option maxRecDepth 100000 in
theorem spec_pwCommon.calls (k:Nat) (a0:Int) (a1:Int) (r:Int) (w:World) (h:spec_pwCommon.f k a0 a1 = some r) :
  Calls Try.prog 147 #[.int .i64 a0,.int .i64 a1] w fun e w'=>e = .returned (.int .i64 r) ∧ Drawn0 w w':=by
 have H:(spec_pwCommon.l0 k a0 a1) = some r:=h
 clear h
 have H':=Aside0.mk H
 clear H
 go_enter Try.func147,Try.ntmps147
 go_wp2
 repeat (go_quiet (fail);try go_wp2)
 go_loopg [0,1] k (fun kq v0 v1 w'=>∃ (x0_1:Int) (x1_1:Int),v0 = .int .i64 x0_1 ∧ v1 = .int .i64 x1_1 ∧ Aside0 (spec_pwCommon.l0 kq x0_1 x1_1 = some r) ∧ Aside0 (kq ≤ k) ∧ Drawn0 w w')
 case atStart=>exact ⟨(a0),(a1),(by first|rfl|(simp;done)|(simp [*];done)),(by first|rfl|(simp;done)|(simp [*];done)),H',⟨Nat.le_refl _⟩,by repeat (first|exact Drawn0.refl _|apply Drawn0.step)⟩
 case round =>
  clear H'
  try clear c1
  try clear p2
  obtain ⟨x0_1,x1_1,rfl,rfl,HA,HK1,⟨m1,rfl⟩⟩:=hrel
  cases gk with
  | zero=>exact absurd HA.out (by simp [spec_pwCommon.l0])
  | succ k1 =>
   have H:=HA.out
   clear HA
   simp only [spec_pwCommon.l0] at H
   by_cases c3:x1_1 > 0
   ·rw [if_pos c3] at H
    have c3b0:decide (0 < x1_1) = true:=decide_eq_true c3
    clear c3
    by_cases c4:x1_1 = 0
    ·rw [if_pos c4] at H
     exact absurd H (by simp)
    ·rw [if_neg c4] at H
     have c4b0:(x1_1 == 0) = false:=beq_eq_false_iff_ne.mpr c4
     have c4b1:(x1_1 != 0) = true:=bne_iff_ne.mpr c4
     have H':=Aside0.mk H
     clear H
     go_wp2
     repeat (go_quiet (fail);try go_wp2)
     go_roundg k1
     case measure=>have:=HK1.out;omega
     case rel=>exact ⟨(x1_1),(Int.tmod x0_1 x1_1),(by first|rfl|(simp;done)|(simp [*];done)),(by first|rfl|(simp;done)|(simp [*];done)),H',⟨by have:=HK1.out;omega⟩,by repeat (first|exact Drawn0.refl _|apply Drawn0.step)⟩
   ·rw [if_neg c3] at H
    have c3b0:decide (0 < x1_1) = false:=decide_eq_false c3
    clear c3
    obtain rfl:=Option.some.inj H
    go_wp2
    repeat (go_quiet (fail);try go_wp2)
    go_ret
    exact ⟨by first|rfl|(simp;done)|(simp [*];done),by repeat (first|exact Drawn0.refl _|apply Drawn0.step)⟩

end Go.Proofs.Ythkbaolpiigioaa.P
