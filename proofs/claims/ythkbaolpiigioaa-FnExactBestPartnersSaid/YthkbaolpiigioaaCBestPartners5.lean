/- Part 5 of the texts below the law FnExactBestPartners. Printed by this session's driver over the kit's printer, but for the hand contracts and the plain laws. -/
import Derived.Test.YthkbaolpiigioaaCBestPartners1
import Derived.Test.YthkbaolpiigioaaCBestPartners2
import Derived.Test.YthkbaolpiigioaaCBestPartners3
import Derived.Test.YthkbaolpiigioaaCBestPartners4
namespace Go.Proofs.Ythkbaolpiigioaa.P
open Go.RowKit Go.Proofs.YthkbaolpiigioaaW.PrintWords Go.Proofs.YthkbaolpiigioaaW.PrintLast Go.Proofs.YthkbaolpiigioaaW.PrintMore
attribute [local go_sem] max2_int min2_int max_two min_two max_three min_three max_four min_four   -- for this text's walks alone
set_option linter.unusedVariables false
set_option linter.unusedSimpArgs false

/-! ### laws_FnExactBestPartners: function 13 -/
def laws_FnExactBestPartners.f (k:Nat) (a0_0:Int) (l0_1:List Int) (a1:Int):Option (Bool):=(laws_szCommittee.f a0_0 l0_1 1048576).bind fun t1373=>(if t1373 < 0 then (some true) else ((laws_toCommittee.f k a0_0 l0_1).bind fun bt1374=>((spec_BestPartners.f k bt1374.1 bt1374.2 a1).bind fun bt1378=>((laws_toCommittee.f k a0_0 l0_1).bind fun bt1382=>((impl_BestPartners.f k bt1382.1 bt1382.2 a1).bind fun bt1387=>((laws_eqIntS.f k bt1387.1 bt1378.1).bind fun t1391=>(if t1391 = true then (if (bt1387.2 != bt1378.2) = true then (some false) else ((laws_toCommittee.f k a0_0 l0_1).bind fun bt1392=>((laws_eqCommittee.f k bt1382.1 bt1382.2 bt1392.1 bt1392.2).bind fun t1396=>(if t1396 = true then ((laws_markCommittee.f k bt1382.1 bt1382.2 1).bind fun bt1397=>(if bt1397.1 < 0 then (some false) else ((laws_eqIntS.f k bt1387.1 bt1378.1).bind fun t1399=>(if t1399 = true then ((laws_markIntS.f k bt1387.1 1).bind fun bt1400=>((laws_heldIntS.f k bt1400.2 1).bind fun t1402=>(if t1402 < 0 then (some false) else (if t1402 = bt1400.1 then ((laws_toCommittee.f k a0_0 l0_1).bind fun bt1403=>((impl_BestPartners.f k bt1403.1 bt1403.2 a1).bind fun bt1407=>((laws_eqIntS.f k bt1407.1 bt1378.1).bind fun t1411=>(if t1411 = true then (if (bt1407.2 != bt1378.2) = true then (some false) else ((laws_heldIntS.f k bt1400.2 1).bind fun t1412=>(if t1412 < 0 then (some false) else (if t1412 = bt1400.1 then (some true) else (some false))))) else (some false))))) else (some false))))) else (some false))))) else (some false))))) else (some false))))))))
theorem laws_FnExactBestPartners.mono:∀ a0 a1 a2 k,LeO (laws_FnExactBestPartners.f k a0 a1 a2) (laws_FnExactBestPartners.f (k + 1) a0 a1 a2):=by
 intro a0 a1 a2 k
 unfold laws_FnExactBestPartners.f
 repeat' first
   | (with_reducible exact impl_BestPartners.mono _ _ _ _)
   | (with_reducible exact laws_eqCommittee.mono _ _ _ _ _)
   | (with_reducible exact laws_eqIntS.mono _ _ _)
   | (with_reducible exact laws_heldIntS.mono _ _ _)
   | (with_reducible exact laws_markCommittee.mono _ _ _ _)
   | (with_reducible exact laws_markIntS.mono _ _ _)
   | (with_reducible exact laws_toCommittee.mono _ _ _)
   | (with_reducible exact spec_BestPartners.mono _ _ _ _)
   | (with_reducible exact LeO.refl _)
   | (with_reducible exact LeO.none _)
   | (with_reducible refine LeO.ite ?_ ?_)
   | (with_reducible refine LeO.bind ?_ (fun _=>?_))
   | exact impl_BestPartners.mono _ _ _ _
   | exact laws_eqCommittee.mono _ _ _ _ _
   | exact laws_eqIntS.mono _ _ _
   | exact laws_heldIntS.mono _ _ _
   | exact laws_markCommittee.mono _ _ _ _
   | exact laws_markIntS.mono _ _ _
   | exact laws_toCommittee.mono _ _ _
   | exact spec_BestPartners.mono _ _ _ _
   | exact LeO.none _
   | refine LeO.ite ?_ ?_
   | refine LeO.bind ?_ (fun _=>?_)
set_option maxHeartbeats 8000000 in
set_option maxRecDepth 100000 in
theorem laws_FnExactBestPartners.calls (k:Nat) (a0_0:Int) (A0_1:Option Addr) (c0_1:Nat) (l0_1:List Int) (a1:Int) (r:Bool) (w:World) (hr0_1:Kd.C (Kd.int .i64) w A0_1 l0_1.length l0_1) (hc0_1:l0_1.length ≤ c0_1) (hr_:Aside0 (r = true)) (h:laws_FnExactBestPartners.f k a0_0 l0_1 a1 = some r) :
  Calls Try.prog 13 #[.agg #[.int .i64 a0_0,.slice A0_1 l0_1.length c0_1],.int .i64 a1] w fun e w'=>e = .returned (.bool r) ∧ Below w.heap.size w w':=by
 have hu24:=Try.underlying24
 have hu26:=Try.underlying26
 have HR0_1:=Aside0.mk hr0_1
 have HC0_1:=Aside0.mk hc0_1
 clear hr0_1 hc0_1
 have HB:=Aside0.mk (Below.refl w.heap.size w)
 have H:((laws_szCommittee.f a0_0 l0_1 1048576).bind fun t1373=>(if t1373 < 0 then (some true) else ((laws_toCommittee.f k a0_0 l0_1).bind fun bt1374=>((spec_BestPartners.f k bt1374.1 bt1374.2 a1).bind fun bt1378=>((laws_toCommittee.f k a0_0 l0_1).bind fun bt1382=>((impl_BestPartners.f k bt1382.1 bt1382.2 a1).bind fun bt1387=>((laws_eqIntS.f k bt1387.1 bt1378.1).bind fun t1391=>(if t1391 = true then (if (bt1387.2 != bt1378.2) = true then (some false) else ((laws_toCommittee.f k a0_0 l0_1).bind fun bt1392=>((laws_eqCommittee.f k bt1382.1 bt1382.2 bt1392.1 bt1392.2).bind fun t1396=>(if t1396 = true then ((laws_markCommittee.f k bt1382.1 bt1382.2 1).bind fun bt1397=>(if bt1397.1 < 0 then (some false) else ((laws_eqIntS.f k bt1387.1 bt1378.1).bind fun t1399=>(if t1399 = true then ((laws_markIntS.f k bt1387.1 1).bind fun bt1400=>((laws_heldIntS.f k bt1400.2 1).bind fun t1402=>(if t1402 < 0 then (some false) else (if t1402 = bt1400.1 then ((laws_toCommittee.f k a0_0 l0_1).bind fun bt1403=>((impl_BestPartners.f k bt1403.1 bt1403.2 a1).bind fun bt1407=>((laws_eqIntS.f k bt1407.1 bt1378.1).bind fun t1411=>(if t1411 = true then (if (bt1407.2 != bt1378.2) = true then (some false) else ((laws_heldIntS.f k bt1400.2 1).bind fun t1412=>(if t1412 < 0 then (some false) else (if t1412 = bt1400.1 then (some true) else (some false))))) else (some false))))) else (some false))))) else (some false))))) else (some false))))) else (some false))))))))) = some r:=h
 clear h
 replace H:=Option.bind_eq_some_iff.mp H
 obtain ⟨t1373,A30,H⟩:=H
 replace H:(if t1373 < 0 then (some true) else ((laws_toCommittee.f k a0_0 l0_1).bind fun bt1374=>((spec_BestPartners.f k bt1374.1 bt1374.2 a1).bind fun bt1378=>((laws_toCommittee.f k a0_0 l0_1).bind fun bt1382=>((impl_BestPartners.f k bt1382.1 bt1382.2 a1).bind fun bt1387=>((laws_eqIntS.f k bt1387.1 bt1378.1).bind fun t1391=>(if t1391 = true then (if (bt1387.2 != bt1378.2) = true then (some false) else ((laws_toCommittee.f k a0_0 l0_1).bind fun bt1392=>((laws_eqCommittee.f k bt1382.1 bt1382.2 bt1392.1 bt1392.2).bind fun t1396=>(if t1396 = true then ((laws_markCommittee.f k bt1382.1 bt1382.2 1).bind fun bt1397=>(if bt1397.1 < 0 then (some false) else ((laws_eqIntS.f k bt1387.1 bt1378.1).bind fun t1399=>(if t1399 = true then ((laws_markIntS.f k bt1387.1 1).bind fun bt1400=>((laws_heldIntS.f k bt1400.2 1).bind fun t1402=>(if t1402 < 0 then (some false) else (if t1402 = bt1400.1 then ((laws_toCommittee.f k a0_0 l0_1).bind fun bt1403=>((impl_BestPartners.f k bt1403.1 bt1403.2 a1).bind fun bt1407=>((laws_eqIntS.f k bt1407.1 bt1378.1).bind fun t1411=>(if t1411 = true then (if (bt1407.2 != bt1378.2) = true then (some false) else ((laws_heldIntS.f k bt1400.2 1).bind fun t1412=>(if t1412 < 0 then (some false) else (if t1412 = bt1400.1 then (some true) else (some false))))) else (some false))))) else (some false))))) else (some false))))) else (some false))))) else (some false)))))))) = some r:=H
 have A3:=Aside0.mk A30
 clear A30
 by_cases c4:t1373 < 0
 ·rw [if_pos c4] at H
  have c4b0:decide (t1373 < 0) = true:=decide_eq_true c4
  clear c4
  obtain rfl:=Option.some.inj H
  go_enter Try.func13,Try.ntmps13
  go_wp2_with (first|((with_reducible refine gate_dst (N:=2) rfl ?_);refine box_event ?hg (N:=2) ?hd (cs:=#[.int .i64 a0_0,.slice A0_1 l0_1.length c0_1]) (t:=24) ?hr ?_;(case hd=>rfl);(case hg=>rfl);(case hr=>first|(go_simp;done)|(go_simp;rfl));intro gb1372 hg w5 hbox hb;have n0_:=Aside0.mk (below_step (by repeat (first|(with_reducible first|exact HB.out|apply below_alloc|apply pw_below_drewN|apply below_drew1)|exact HB.out)) hb);have n1_:=Aside0.mk (hbox);have n2_:=Aside0.mk ((by rw [hg];exact (below_size (by repeat (first|(with_reducible first|exact HB.out|apply below_alloc|apply pw_below_drewN|apply below_drew1)|exact HB.out))):w.heap.size ≤ gb1372));have n3_:=Aside0.mk ((by rw [hg];exact (below_size (by repeat (first|(with_reducible first|exact HB.out|apply below_alloc|apply pw_below_drewN|apply below_drew1)|exact HB.out))):w.heap.size ≤ gb1372));clear HB;have HB:=n0_;have BK1372:=n1_;have GW1372:=n2_;have GE1372:=n3_;clear n0_ n1_ n2_ n3_;clear hb hbox hg;have hcz6_0:w5.cell? ⟨gb1372,0,none⟩ = some (.int .i64 a0_0):=(blk_cell BK1372.out 0).trans rfl;have hcz6_1:w5.cell? ⟨gb1372,1,none⟩ = some (.slice A0_1 l0_1.length c0_1):=(blk_cell BK1372.out 1).trans rfl;have hfz6_0:=blk_frozen BK1372.out 0;have hfz6_1:=blk_frozen BK1372.out 1)|((with_reducible refine gate_callee (f:=15) rfl ?_);refine goesL_ (some 18) rfl rfl Try.func15 (by kernel_rfl) rfl #[.agg #[.int .i64 a0_0,.slice A0_1 l0_1.length c0_1],.int .i64 1048576] rfl (by (try simp only [List.map_toArray,List.map_cons,List.map_nil]);first|done|rfl|(simp only [List.length_drop,List.length_take];rfl)) ?_;(with_reducible refine (laws_szCommittee.calls a0_0 _ _ l0_1 1048576 t1373 _ ?side1 ?side2 A3.out).mono ?_);(case side1=>repeat (first|exact (Kd.C_below HR0_1.out HB.out)|(with_reducible refine Kd.C_alloc ?_ _)|(with_reducible refine Kd.C_drewN ?_ _)|(with_reducible refine Kd.C_drew ?_)));(case side2=>exact HC0_1.out);rintro e w7 ⟨rfl,hb⟩;refine ⟨_,rfl,?_⟩;have n0_:=Aside0.mk (blk_below (g:=gb1372) (o:=.cells #[.int .i64 a0_0,.slice A0_1 l0_1.length c0_1] 24 (0,0)) (by (with_reducible repeat (first|refine blk_drewN ?_ _|refine blk_drew ?_|refine blk_alloc ?_ _));exact BK1372.out) hb);have n1_:=Aside0.mk (below_step (by repeat (first|(with_reducible first|exact HB.out|apply below_alloc|apply pw_below_drewN|apply below_drew1|refine below_set ?_ GE1372.out)|exact HB.out)) hb);clear BK1372;clear HB;have BK1372:=n0_;have HB:=n1_;clear n0_ n1_;(try clear hb);(try clear hb2);(try clear hk);(try clear hi)))
  go_ret
  exact ⟨by first|rfl|(simp [errW_none,errW_some] <;> rfl)|(simp [*,errW_none,errW_some] <;> rfl),by repeat (first|(with_reducible first|exact HB.out|apply below_alloc|apply pw_below_drewN|apply below_drew1|refine below_set ?_ GE1372.out)|exact HB.out)⟩
 ·rw [if_neg c4] at H
  have c4b0:decide (t1373 < 0) = false:=decide_eq_false c4
  clear c4
  replace H:=Option.bind_eq_some_iff.mp H
  obtain ⟨⟨t1374,t1375⟩,A80,H⟩:=H
  replace H:((spec_BestPartners.f k t1374 t1375 a1).bind fun bt1378=>((laws_toCommittee.f k a0_0 l0_1).bind fun bt1382=>((impl_BestPartners.f k bt1382.1 bt1382.2 a1).bind fun bt1387=>((laws_eqIntS.f k bt1387.1 bt1378.1).bind fun t1391=>(if t1391 = true then (if (bt1387.2 != bt1378.2) = true then (some false) else ((laws_toCommittee.f k a0_0 l0_1).bind fun bt1392=>((laws_eqCommittee.f k bt1382.1 bt1382.2 bt1392.1 bt1392.2).bind fun t1396=>(if t1396 = true then ((laws_markCommittee.f k bt1382.1 bt1382.2 1).bind fun bt1397=>(if bt1397.1 < 0 then (some false) else ((laws_eqIntS.f k bt1387.1 bt1378.1).bind fun t1399=>(if t1399 = true then ((laws_markIntS.f k bt1387.1 1).bind fun bt1400=>((laws_heldIntS.f k bt1400.2 1).bind fun t1402=>(if t1402 < 0 then (some false) else (if t1402 = bt1400.1 then ((laws_toCommittee.f k a0_0 l0_1).bind fun bt1403=>((impl_BestPartners.f k bt1403.1 bt1403.2 a1).bind fun bt1407=>((laws_eqIntS.f k bt1407.1 bt1378.1).bind fun t1411=>(if t1411 = true then (if (bt1407.2 != bt1378.2) = true then (some false) else ((laws_heldIntS.f k bt1400.2 1).bind fun t1412=>(if t1412 < 0 then (some false) else (if t1412 = bt1400.1 then (some true) else (some false))))) else (some false))))) else (some false))))) else (some false))))) else (some false))))) else (some false)))))) = some r:=H
  have A8:=Aside0.mk A80
  clear A80
  replace H:=Option.bind_eq_some_iff.mp H
  obtain ⟨⟨t1378,t1381⟩,A90,H⟩:=H
  replace H:((laws_toCommittee.f k a0_0 l0_1).bind fun bt1382=>((impl_BestPartners.f k bt1382.1 bt1382.2 a1).bind fun bt1387=>((laws_eqIntS.f k bt1387.1 t1378).bind fun t1391=>(if t1391 = true then (if (bt1387.2 != t1381) = true then (some false) else ((laws_toCommittee.f k a0_0 l0_1).bind fun bt1392=>((laws_eqCommittee.f k bt1382.1 bt1382.2 bt1392.1 bt1392.2).bind fun t1396=>(if t1396 = true then ((laws_markCommittee.f k bt1382.1 bt1382.2 1).bind fun bt1397=>(if bt1397.1 < 0 then (some false) else ((laws_eqIntS.f k bt1387.1 t1378).bind fun t1399=>(if t1399 = true then ((laws_markIntS.f k bt1387.1 1).bind fun bt1400=>((laws_heldIntS.f k bt1400.2 1).bind fun t1402=>(if t1402 < 0 then (some false) else (if t1402 = bt1400.1 then ((laws_toCommittee.f k a0_0 l0_1).bind fun bt1403=>((impl_BestPartners.f k bt1403.1 bt1403.2 a1).bind fun bt1407=>((laws_eqIntS.f k bt1407.1 t1378).bind fun t1411=>(if t1411 = true then (if (bt1407.2 != t1381) = true then (some false) else ((laws_heldIntS.f k bt1400.2 1).bind fun t1412=>(if t1412 < 0 then (some false) else (if t1412 = bt1400.1 then (some true) else (some false))))) else (some false))))) else (some false))))) else (some false))))) else (some false))))) else (some false))))) = some r:=H
  have A9:=Aside0.mk A90
  clear A90
  replace H:=Option.bind_eq_some_iff.mp H
  obtain ⟨⟨t1382,t1383⟩,A100,H⟩:=H
  replace H:((impl_BestPartners.f k t1382 t1383 a1).bind fun bt1387=>((laws_eqIntS.f k bt1387.1 t1378).bind fun t1391=>(if t1391 = true then (if (bt1387.2 != t1381) = true then (some false) else ((laws_toCommittee.f k a0_0 l0_1).bind fun bt1392=>((laws_eqCommittee.f k t1382 t1383 bt1392.1 bt1392.2).bind fun t1396=>(if t1396 = true then ((laws_markCommittee.f k t1382 t1383 1).bind fun bt1397=>(if bt1397.1 < 0 then (some false) else ((laws_eqIntS.f k bt1387.1 t1378).bind fun t1399=>(if t1399 = true then ((laws_markIntS.f k bt1387.1 1).bind fun bt1400=>((laws_heldIntS.f k bt1400.2 1).bind fun t1402=>(if t1402 < 0 then (some false) else (if t1402 = bt1400.1 then ((laws_toCommittee.f k a0_0 l0_1).bind fun bt1403=>((impl_BestPartners.f k bt1403.1 bt1403.2 a1).bind fun bt1407=>((laws_eqIntS.f k bt1407.1 t1378).bind fun t1411=>(if t1411 = true then (if (bt1407.2 != t1381) = true then (some false) else ((laws_heldIntS.f k bt1400.2 1).bind fun t1412=>(if t1412 < 0 then (some false) else (if t1412 = bt1400.1 then (some true) else (some false))))) else (some false))))) else (some false))))) else (some false))))) else (some false))))) else (some false)))) = some r:=H
  have A10:=Aside0.mk A100
  clear A100
  replace H:=Option.bind_eq_some_iff.mp H
  obtain ⟨⟨t1387,t1390⟩,A110,H⟩:=H
  replace H:((laws_eqIntS.f k t1387 t1378).bind fun t1391=>(if t1391 = true then (if (t1390 != t1381) = true then (some false) else ((laws_toCommittee.f k a0_0 l0_1).bind fun bt1392=>((laws_eqCommittee.f k t1382 t1383 bt1392.1 bt1392.2).bind fun t1396=>(if t1396 = true then ((laws_markCommittee.f k t1382 t1383 1).bind fun bt1397=>(if bt1397.1 < 0 then (some false) else ((laws_eqIntS.f k t1387 t1378).bind fun t1399=>(if t1399 = true then ((laws_markIntS.f k t1387 1).bind fun bt1400=>((laws_heldIntS.f k bt1400.2 1).bind fun t1402=>(if t1402 < 0 then (some false) else (if t1402 = bt1400.1 then ((laws_toCommittee.f k a0_0 l0_1).bind fun bt1403=>((impl_BestPartners.f k bt1403.1 bt1403.2 a1).bind fun bt1407=>((laws_eqIntS.f k bt1407.1 t1378).bind fun t1411=>(if t1411 = true then (if (bt1407.2 != t1381) = true then (some false) else ((laws_heldIntS.f k bt1400.2 1).bind fun t1412=>(if t1412 < 0 then (some false) else (if t1412 = bt1400.1 then (some true) else (some false))))) else (some false))))) else (some false))))) else (some false))))) else (some false))))) else (some false))) = some r:=H
  have A11:=Aside0.mk A110
  clear A110
  replace H:=Option.bind_eq_some_iff.mp H
  obtain ⟨t1391,A120,H⟩:=H
  replace H:(if t1391 = true then (if (t1390 != t1381) = true then (some false) else ((laws_toCommittee.f k a0_0 l0_1).bind fun bt1392=>((laws_eqCommittee.f k t1382 t1383 bt1392.1 bt1392.2).bind fun t1396=>(if t1396 = true then ((laws_markCommittee.f k t1382 t1383 1).bind fun bt1397=>(if bt1397.1 < 0 then (some false) else ((laws_eqIntS.f k t1387 t1378).bind fun t1399=>(if t1399 = true then ((laws_markIntS.f k t1387 1).bind fun bt1400=>((laws_heldIntS.f k bt1400.2 1).bind fun t1402=>(if t1402 < 0 then (some false) else (if t1402 = bt1400.1 then ((laws_toCommittee.f k a0_0 l0_1).bind fun bt1403=>((impl_BestPartners.f k bt1403.1 bt1403.2 a1).bind fun bt1407=>((laws_eqIntS.f k bt1407.1 t1378).bind fun t1411=>(if t1411 = true then (if (bt1407.2 != t1381) = true then (some false) else ((laws_heldIntS.f k bt1400.2 1).bind fun t1412=>(if t1412 < 0 then (some false) else (if t1412 = bt1400.1 then (some true) else (some false))))) else (some false))))) else (some false))))) else (some false))))) else (some false))))) else (some false)) = some r:=H
  have A12:=Aside0.mk A120
  clear A120
  by_cases c13:t1391 = true
  ·subst c13
   have H1:(if (t1390 != t1381) = true then (some false) else ((laws_toCommittee.f k a0_0 l0_1).bind fun bt1392=>((laws_eqCommittee.f k t1382 t1383 bt1392.1 bt1392.2).bind fun t1396=>(if t1396 = true then ((laws_markCommittee.f k t1382 t1383 1).bind fun bt1397=>(if bt1397.1 < 0 then (some false) else ((laws_eqIntS.f k t1387 t1378).bind fun t1399=>(if t1399 = true then ((laws_markIntS.f k t1387 1).bind fun bt1400=>((laws_heldIntS.f k bt1400.2 1).bind fun t1402=>(if t1402 < 0 then (some false) else (if t1402 = bt1400.1 then ((laws_toCommittee.f k a0_0 l0_1).bind fun bt1403=>((impl_BestPartners.f k bt1403.1 bt1403.2 a1).bind fun bt1407=>((laws_eqIntS.f k bt1407.1 t1378).bind fun t1411=>(if t1411 = true then (if (bt1407.2 != t1381) = true then (some false) else ((laws_heldIntS.f k bt1400.2 1).bind fun t1412=>(if t1412 < 0 then (some false) else (if t1412 = bt1400.1 then (some true) else (some false))))) else (some false))))) else (some false))))) else (some false))))) else (some false))))) = some r:=by rw [if_pos rfl] at H;exact H
   clear H
   have H:=H1
   clear H1
   by_cases c14:(t1390 != t1381) = true
   ·rw [if_pos c14] at H
    have c14b0:(t1390 != t1381) = true:=c14
    (try (have c14b1:decide (t1390 = t1381) = false:=by simpa using c14))
    (try (have c14b2:(t1390 == t1381) = false:=by simpa using c14))
    (try (have c14b3:¬ (t1390 = t1381):=by simpa using c14))
    clear c14
    exact absurd (H.trans (congrArg some hr_.out)) (by simp)
   ·rw [if_neg c14] at H
    have c14b0:(t1390 != t1381) = false:=by simpa using c14
    (try (have c14b1:decide (t1390 = t1381) = true:=by simpa using c14))
    (try (have c14b2:(t1390 == t1381) = true:=by simpa using c14))
    clear c14
    replace H:=Option.bind_eq_some_iff.mp H
    obtain ⟨⟨t1392,t1393⟩,A150,H⟩:=H
    replace H:((laws_eqCommittee.f k t1382 t1383 t1392 t1393).bind fun t1396=>(if t1396 = true then ((laws_markCommittee.f k t1382 t1383 1).bind fun bt1397=>(if bt1397.1 < 0 then (some false) else ((laws_eqIntS.f k t1387 t1378).bind fun t1399=>(if t1399 = true then ((laws_markIntS.f k t1387 1).bind fun bt1400=>((laws_heldIntS.f k bt1400.2 1).bind fun t1402=>(if t1402 < 0 then (some false) else (if t1402 = bt1400.1 then ((laws_toCommittee.f k a0_0 l0_1).bind fun bt1403=>((impl_BestPartners.f k bt1403.1 bt1403.2 a1).bind fun bt1407=>((laws_eqIntS.f k bt1407.1 t1378).bind fun t1411=>(if t1411 = true then (if (bt1407.2 != t1381) = true then (some false) else ((laws_heldIntS.f k bt1400.2 1).bind fun t1412=>(if t1412 < 0 then (some false) else (if t1412 = bt1400.1 then (some true) else (some false))))) else (some false))))) else (some false))))) else (some false))))) else (some false))) = some r:=H
    have A15:=Aside0.mk A150
    clear A150
    replace H:=Option.bind_eq_some_iff.mp H
    obtain ⟨t1396,A160,H⟩:=H
    replace H:(if t1396 = true then ((laws_markCommittee.f k t1382 t1383 1).bind fun bt1397=>(if bt1397.1 < 0 then (some false) else ((laws_eqIntS.f k t1387 t1378).bind fun t1399=>(if t1399 = true then ((laws_markIntS.f k t1387 1).bind fun bt1400=>((laws_heldIntS.f k bt1400.2 1).bind fun t1402=>(if t1402 < 0 then (some false) else (if t1402 = bt1400.1 then ((laws_toCommittee.f k a0_0 l0_1).bind fun bt1403=>((impl_BestPartners.f k bt1403.1 bt1403.2 a1).bind fun bt1407=>((laws_eqIntS.f k bt1407.1 t1378).bind fun t1411=>(if t1411 = true then (if (bt1407.2 != t1381) = true then (some false) else ((laws_heldIntS.f k bt1400.2 1).bind fun t1412=>(if t1412 < 0 then (some false) else (if t1412 = bt1400.1 then (some true) else (some false))))) else (some false))))) else (some false))))) else (some false))))) else (some false)) = some r:=H
    have A16:=Aside0.mk A160
    clear A160
    by_cases c17:t1396 = true
    ·subst c17
     have H1:((laws_markCommittee.f k t1382 t1383 1).bind fun bt1397=>(if bt1397.1 < 0 then (some false) else ((laws_eqIntS.f k t1387 t1378).bind fun t1399=>(if t1399 = true then ((laws_markIntS.f k t1387 1).bind fun bt1400=>((laws_heldIntS.f k bt1400.2 1).bind fun t1402=>(if t1402 < 0 then (some false) else (if t1402 = bt1400.1 then ((laws_toCommittee.f k a0_0 l0_1).bind fun bt1403=>((impl_BestPartners.f k bt1403.1 bt1403.2 a1).bind fun bt1407=>((laws_eqIntS.f k bt1407.1 t1378).bind fun t1411=>(if t1411 = true then (if (bt1407.2 != t1381) = true then (some false) else ((laws_heldIntS.f k bt1400.2 1).bind fun t1412=>(if t1412 < 0 then (some false) else (if t1412 = bt1400.1 then (some true) else (some false))))) else (some false))))) else (some false))))) else (some false))))) = some r:=by rw [if_pos rfl] at H;exact H
     clear H
     have H:=H1
     clear H1
     replace H:=Option.bind_eq_some_iff.mp H
     obtain ⟨⟨t1397,t1398⟩,A180,H⟩:=H
     replace H:(if t1397 < 0 then (some false) else ((laws_eqIntS.f k t1387 t1378).bind fun t1399=>(if t1399 = true then ((laws_markIntS.f k t1387 1).bind fun bt1400=>((laws_heldIntS.f k bt1400.2 1).bind fun t1402=>(if t1402 < 0 then (some false) else (if t1402 = bt1400.1 then ((laws_toCommittee.f k a0_0 l0_1).bind fun bt1403=>((impl_BestPartners.f k bt1403.1 bt1403.2 a1).bind fun bt1407=>((laws_eqIntS.f k bt1407.1 t1378).bind fun t1411=>(if t1411 = true then (if (bt1407.2 != t1381) = true then (some false) else ((laws_heldIntS.f k bt1400.2 1).bind fun t1412=>(if t1412 < 0 then (some false) else (if t1412 = bt1400.1 then (some true) else (some false))))) else (some false))))) else (some false))))) else (some false)))) = some r:=H
     have A18:=Aside0.mk A180
     clear A180
     by_cases c19:t1397 < 0
     ·rw [if_pos c19] at H
      have c19b0:decide (t1397 < 0) = true:=decide_eq_true c19
      clear c19
      exact absurd (H.trans (congrArg some hr_.out)) (by simp)
     ·rw [if_neg c19] at H
      have c19b0:decide (t1397 < 0) = false:=decide_eq_false c19
      clear c19
      replace H:=Option.bind_eq_some_iff.mp H
      obtain ⟨t1399,A200,H⟩:=H
      replace H:(if t1399 = true then ((laws_markIntS.f k t1387 1).bind fun bt1400=>((laws_heldIntS.f k bt1400.2 1).bind fun t1402=>(if t1402 < 0 then (some false) else (if t1402 = bt1400.1 then ((laws_toCommittee.f k a0_0 l0_1).bind fun bt1403=>((impl_BestPartners.f k bt1403.1 bt1403.2 a1).bind fun bt1407=>((laws_eqIntS.f k bt1407.1 t1378).bind fun t1411=>(if t1411 = true then (if (bt1407.2 != t1381) = true then (some false) else ((laws_heldIntS.f k bt1400.2 1).bind fun t1412=>(if t1412 < 0 then (some false) else (if t1412 = bt1400.1 then (some true) else (some false))))) else (some false))))) else (some false))))) else (some false)) = some r:=H
      have A20:=Aside0.mk A200
      clear A200
      by_cases c21:t1399 = true
      ·subst c21
       have H1:((laws_markIntS.f k t1387 1).bind fun bt1400=>((laws_heldIntS.f k bt1400.2 1).bind fun t1402=>(if t1402 < 0 then (some false) else (if t1402 = bt1400.1 then ((laws_toCommittee.f k a0_0 l0_1).bind fun bt1403=>((impl_BestPartners.f k bt1403.1 bt1403.2 a1).bind fun bt1407=>((laws_eqIntS.f k bt1407.1 t1378).bind fun t1411=>(if t1411 = true then (if (bt1407.2 != t1381) = true then (some false) else ((laws_heldIntS.f k bt1400.2 1).bind fun t1412=>(if t1412 < 0 then (some false) else (if t1412 = bt1400.1 then (some true) else (some false))))) else (some false))))) else (some false))))) = some r:=by rw [if_pos rfl] at H;exact H
       clear H
       have H:=H1
       clear H1
       replace H:=Option.bind_eq_some_iff.mp H
       obtain ⟨⟨t1400,t1401⟩,A220,H⟩:=H
       replace H:((laws_heldIntS.f k t1401 1).bind fun t1402=>(if t1402 < 0 then (some false) else (if t1402 = t1400 then ((laws_toCommittee.f k a0_0 l0_1).bind fun bt1403=>((impl_BestPartners.f k bt1403.1 bt1403.2 a1).bind fun bt1407=>((laws_eqIntS.f k bt1407.1 t1378).bind fun t1411=>(if t1411 = true then (if (bt1407.2 != t1381) = true then (some false) else ((laws_heldIntS.f k t1401 1).bind fun t1412=>(if t1412 < 0 then (some false) else (if t1412 = t1400 then (some true) else (some false))))) else (some false))))) else (some false)))) = some r:=H
       have A22:=Aside0.mk A220
       clear A220
       replace H:=Option.bind_eq_some_iff.mp H
       obtain ⟨t1402,A230,H⟩:=H
       replace H:(if t1402 < 0 then (some false) else (if t1402 = t1400 then ((laws_toCommittee.f k a0_0 l0_1).bind fun bt1403=>((impl_BestPartners.f k bt1403.1 bt1403.2 a1).bind fun bt1407=>((laws_eqIntS.f k bt1407.1 t1378).bind fun t1411=>(if t1411 = true then (if (bt1407.2 != t1381) = true then (some false) else ((laws_heldIntS.f k t1401 1).bind fun t1412=>(if t1412 < 0 then (some false) else (if t1412 = t1400 then (some true) else (some false))))) else (some false))))) else (some false))) = some r:=H
       have A23:=Aside0.mk A230
       clear A230
       by_cases c24:t1402 < 0
       ·rw [if_pos c24] at H
        have c24b0:decide (t1402 < 0) = true:=decide_eq_true c24
        clear c24
        exact absurd (H.trans (congrArg some hr_.out)) (by simp)
       ·rw [if_neg c24] at H
        have c24b0:decide (t1402 < 0) = false:=decide_eq_false c24
        clear c24
        by_cases c25:t1402 = t1400
        ·rw [if_pos c25] at H
         have c25b0:(t1402 == t1400) = true:=beq_iff_eq.mpr c25
         have c25b1:(t1402 != t1400) = false:=bne_eq_false_iff_eq.mpr c25
         clear c25
         replace H:=Option.bind_eq_some_iff.mp H
         obtain ⟨⟨t1403,t1404⟩,A260,H⟩:=H
         replace H:((impl_BestPartners.f k t1403 t1404 a1).bind fun bt1407=>((laws_eqIntS.f k bt1407.1 t1378).bind fun t1411=>(if t1411 = true then (if (bt1407.2 != t1381) = true then (some false) else ((laws_heldIntS.f k t1401 1).bind fun t1412=>(if t1412 < 0 then (some false) else (if t1412 = t1400 then (some true) else (some false))))) else (some false)))) = some r:=H
         have A26:=Aside0.mk A260
         clear A260
         replace H:=Option.bind_eq_some_iff.mp H
         obtain ⟨⟨t1407,t1410⟩,A270,H⟩:=H
         replace H:((laws_eqIntS.f k t1407 t1378).bind fun t1411=>(if t1411 = true then (if (t1410 != t1381) = true then (some false) else ((laws_heldIntS.f k t1401 1).bind fun t1412=>(if t1412 < 0 then (some false) else (if t1412 = t1400 then (some true) else (some false))))) else (some false))) = some r:=H
         have A27:=Aside0.mk A270
         clear A270
         replace H:=Option.bind_eq_some_iff.mp H
         obtain ⟨t1411,A280,H⟩:=H
         replace H:(if t1411 = true then (if (t1410 != t1381) = true then (some false) else ((laws_heldIntS.f k t1401 1).bind fun t1412=>(if t1412 < 0 then (some false) else (if t1412 = t1400 then (some true) else (some false))))) else (some false)) = some r:=H
         have A28:=Aside0.mk A280
         clear A280
         by_cases c29:t1411 = true
         ·subst c29
          have H1:(if (t1410 != t1381) = true then (some false) else ((laws_heldIntS.f k t1401 1).bind fun t1412=>(if t1412 < 0 then (some false) else (if t1412 = t1400 then (some true) else (some false))))) = some r:=by rw [if_pos rfl] at H;exact H
          clear H
          have H:=H1
          clear H1
          by_cases c30:(t1410 != t1381) = true
          ·rw [if_pos c30] at H
           have c30b0:(t1410 != t1381) = true:=c30
           (try (have c30b1:decide (t1410 = t1381) = false:=by simpa using c30))
           (try (have c30b2:(t1410 == t1381) = false:=by simpa using c30))
           (try (have c30b3:¬ (t1410 = t1381):=by simpa using c30))
           clear c30
           exact absurd (H.trans (congrArg some hr_.out)) (by simp)
          ·rw [if_neg c30] at H
           have c30b0:(t1410 != t1381) = false:=by simpa using c30
           (try (have c30b1:decide (t1410 = t1381) = true:=by simpa using c30))
           (try (have c30b2:(t1410 == t1381) = true:=by simpa using c30))
           clear c30
           replace H:=Option.bind_eq_some_iff.mp H
           obtain ⟨t1412,A310,H⟩:=H
           replace H:(if t1412 < 0 then (some false) else (if t1412 = t1400 then (some true) else (some false))) = some r:=H
           have A31:=Aside0.mk A310
           clear A310
           by_cases c32:t1412 < 0
           ·rw [if_pos c32] at H
            have c32b0:decide (t1412 < 0) = true:=decide_eq_true c32
            clear c32
            exact absurd (H.trans (congrArg some hr_.out)) (by simp)
           ·rw [if_neg c32] at H
            have c32b0:decide (t1412 < 0) = false:=decide_eq_false c32
            clear c32
            by_cases c33:t1412 = t1400
            ·rw [if_pos c33] at H
             have c33b0:(t1412 == t1400) = true:=beq_iff_eq.mpr c33
             have c33b1:(t1412 != t1400) = false:=bne_eq_false_iff_eq.mpr c33
             clear c33
             obtain rfl:=Option.some.inj H
             go_enter Try.func13,Try.ntmps13
             try go_wp2_with (first|((with_reducible refine gate_dst (N:=2) rfl ?_);refine box_event ?hg (N:=2) ?hd (cs:=#[.int .i64 a0_0,.slice A0_1 l0_1.length c0_1]) (t:=24) ?hr ?_;(case hd=>rfl);(case hg=>rfl);(case hr=>first|(go_simp;done)|(go_simp;rfl));intro gb1372 hg w34 hbox hb;have n0_:=Aside0.mk (below_step (by repeat (first|(with_reducible first|exact HB.out|apply below_alloc|apply pw_below_drewN|apply below_drew1)|exact HB.out)) hb);have n1_:=Aside0.mk (hbox);have n2_:=Aside0.mk ((by rw [hg];exact (below_size (by repeat (first|(with_reducible first|exact HB.out|apply below_alloc|apply pw_below_drewN|apply below_drew1)|exact HB.out))):w.heap.size ≤ gb1372));have n3_:=Aside0.mk ((by rw [hg];exact (below_size (by repeat (first|(with_reducible first|exact HB.out|apply below_alloc|apply pw_below_drewN|apply below_drew1)|exact HB.out))):w.heap.size ≤ gb1372));clear HB;have HB:=n0_;have BK1372:=n1_;have GW1372:=n2_;have GE1372:=n3_;clear n0_ n1_ n2_ n3_;clear hb hbox hg;have hcz35_0:w34.cell? ⟨gb1372,0,none⟩ = some (.int .i64 a0_0):=(blk_cell BK1372.out 0).trans rfl;have hcz35_1:w34.cell? ⟨gb1372,1,none⟩ = some (.slice A0_1 l0_1.length c0_1):=(blk_cell BK1372.out 1).trans rfl;have hfz35_0:=blk_frozen BK1372.out 0;have hfz35_1:=blk_frozen BK1372.out 1)|((with_reducible refine gate_callee (f:=15) rfl ?_);refine goesL_ (some 18) rfl rfl Try.func15 (by kernel_rfl) rfl #[.agg #[.int .i64 a0_0,.slice A0_1 l0_1.length c0_1],.int .i64 1048576] rfl (by (try simp only [List.map_toArray,List.map_cons,List.map_nil]);first|done|rfl|(simp only [List.length_drop,List.length_take];rfl)) ?_;(with_reducible refine (laws_szCommittee.calls a0_0 _ _ l0_1 1048576 t1373 _ ?side1 ?side2 A3.out).mono ?_);(case side1=>repeat (first|exact (Kd.C_below HR0_1.out HB.out)|(with_reducible refine Kd.C_alloc ?_ _)|(with_reducible refine Kd.C_drewN ?_ _)|(with_reducible refine Kd.C_drew ?_)));(case side2=>exact HC0_1.out);rintro e w36 ⟨rfl,hb⟩;refine ⟨_,rfl,?_⟩;have n0_:=Aside0.mk (blk_below (g:=gb1372) (o:=.cells #[.int .i64 a0_0,.slice A0_1 l0_1.length c0_1] 24 (0,0)) (by (with_reducible repeat (first|refine blk_drewN ?_ _|refine blk_drew ?_|refine blk_alloc ?_ _));exact BK1372.out) hb);have n1_:=Aside0.mk (below_step (by repeat (first|(with_reducible first|exact HB.out|apply below_alloc|apply pw_below_drewN|apply below_drew1|refine below_set ?_ GE1372.out)|exact HB.out)) hb);clear BK1372;clear HB;have BK1372:=n0_;have HB:=n1_;clear n0_ n1_;(try clear hb);(try clear hb2);(try clear hk);(try clear hi);have hcz37_0:w36.cell? ⟨gb1372,0,none⟩ = some (.int .i64 a0_0):=(blk_cell BK1372.out 0).trans rfl;have hcz37_1:w36.cell? ⟨gb1372,1,none⟩ = some (.slice A0_1 l0_1.length c0_1):=(blk_cell BK1372.out 1).trans rfl;have hfz37_0:=blk_frozen BK1372.out 0;have hfz37_1:=blk_frozen BK1372.out 1)|((with_reducible refine gate_callee (f:=17) rfl ?_);refine goesL_ (some 23) rfl rfl Try.func17 (by kernel_rfl) rfl #[.agg #[.int .i64 a0_0,.slice A0_1 l0_1.length c0_1]] rfl (by (try simp only [List.map_toArray,List.map_cons,List.map_nil]);first|done|rfl|(simp only [List.length_drop,List.length_take];rfl)) ?_;(with_reducible refine (laws_toCommittee.calls k a0_0 _ _ l0_1 t1374 t1375 _ ?side1 ?side2 A8.out).mono ?_);(case side1=>repeat (first|exact (Kd.C_below HR0_1.out HB.out)|(with_reducible refine Kd.C_alloc ?_ _)|(with_reducible refine Kd.C_drewN ?_ _)|(with_reducible refine Kd.C_drew ?_)));(case side2=>exact HC0_1.out);rintro e w38 ⟨v1376,rfl,ho0,hb⟩;refine ⟨_,rfl,?_⟩;have n0_:=Aside0.mk (Kd.R_lower ho0 (below_size (by repeat (first|(with_reducible first|exact HB.out|apply below_alloc|apply pw_below_drewN|apply below_drew1|refine below_set ?_ GE1372.out)|exact HB.out))));have n1_:=Aside0.mk (blk_below (g:=gb1372) (o:=.cells #[.int .i64 a0_0,.slice A0_1 l0_1.length c0_1] 24 (0,0)) (by (with_reducible repeat (first|refine blk_drewN ?_ _|refine blk_drew ?_|refine blk_alloc ?_ _));exact BK1372.out) hb);have n2_:=Aside0.mk (below_step (by repeat (first|(with_reducible first|exact HB.out|apply below_alloc|apply pw_below_drewN|apply below_drew1|refine below_set ?_ GE1372.out)|exact HB.out)) hb);clear BK1372;clear HB;have HO1377:=n0_;have BK1372:=n1_;have HB:=n2_;clear n0_ n1_ n2_;(try clear hb);(try clear hb2);(try clear hk);(try clear hi);(try clear ho0);obtain ⟨Ao39,co39,eo39⟩:=Kd.R_slice HO1377.out;subst eo39)|((with_reducible refine gate_callee (f:=61) rfl ?_);refine goesL_ (some 25) rfl rfl Try.func61 (by kernel_rfl) rfl #[.agg #[.int .i64 t1374,.slice Ao39 t1375.length co39],.int .i64 a1] rfl (by (try simp only [List.map_toArray,List.map_cons,List.map_nil]);first|done|rfl|(simp only [List.length_drop,List.length_take];rfl)) ?_;(with_reducible refine (spec_BestPartners.calls k t1374 _ _ t1375 a1 t1378 t1381 _ ?side1 ?side2 A9.out).mono ?_);(case side1=>repeat (first|exact (Kd.R_reads' HO1377.out).2.2|(with_reducible refine Kd.C_alloc ?_ _)|(with_reducible refine Kd.C_drewN ?_ _)|(with_reducible refine Kd.C_drew ?_)));(case side2=>exact (Kd.R_reads' HO1377.out).2.1);rintro e w40 ⟨v1379,rfl,ho0,hb⟩;refine ⟨_,rfl,?_⟩;have n0_:=Aside0.mk (Kd.R_elder' (by (with_reducible repeat (first|apply Kd.R_alloc|apply Kd.R_drewN|apply Kd.R_drew));exact HO1377.out) (Kd.R_base ho0) hb);have n1_:=Aside0.mk (Kd.R_lower (Kd.R_new' ho0 (Kd.R_lt (by (with_reducible repeat (first|apply Kd.R_alloc|apply Kd.R_drewN|apply Kd.R_drew));exact HO1377.out))) (below_size (by repeat (first|(with_reducible first|exact HB.out|apply below_alloc|apply pw_below_drewN|apply below_drew1|refine below_set ?_ GE1372.out)|exact HB.out))));have n2_:=Aside0.mk (blk_below (g:=gb1372) (o:=.cells #[.int .i64 a0_0,.slice A0_1 l0_1.length c0_1] 24 (0,0)) (by (with_reducible repeat (first|refine blk_drewN ?_ _|refine blk_drew ?_|refine blk_alloc ?_ _));exact BK1372.out) hb);have n3_:=Aside0.mk (below_step (by repeat (first|(with_reducible first|exact HB.out|apply below_alloc|apply pw_below_drewN|apply below_drew1|refine below_set ?_ GE1372.out)|exact HB.out)) hb);clear HO1377;clear BK1372;clear HB;have HO1377:=n0_;have HO1380:=n1_;have BK1372:=n2_;have HB:=n3_;clear n0_ n1_ n2_ n3_;(try clear hb);(try clear hb2);(try clear hk);(try clear hi);(try clear ho0);have hcz41_0:w40.cell? ⟨gb1372,0,none⟩ = some (.int .i64 a0_0):=(blk_cell BK1372.out 0).trans rfl;have hcz41_1:w40.cell? ⟨gb1372,1,none⟩ = some (.slice A0_1 l0_1.length c0_1):=(blk_cell BK1372.out 1).trans rfl;have hfz41_0:=blk_frozen BK1372.out 0;have hfz41_1:=blk_frozen BK1372.out 1)|((with_reducible refine gate_callee (f:=17) rfl ?_);refine goesL_ (some 29) rfl rfl Try.func17 (by kernel_rfl) rfl #[.agg #[.int .i64 a0_0,.slice A0_1 l0_1.length c0_1]] rfl (by (try simp only [List.map_toArray,List.map_cons,List.map_nil]);first|done|rfl|(simp only [List.length_drop,List.length_take];rfl)) ?_;(with_reducible refine (laws_toCommittee.calls k a0_0 _ _ l0_1 t1382 t1383 _ ?side1 ?side2 A10.out).mono ?_);(case side1=>repeat (first|exact (Kd.C_below HR0_1.out HB.out)|(with_reducible refine Kd.C_alloc ?_ _)|(with_reducible refine Kd.C_drewN ?_ _)|(with_reducible refine Kd.C_drew ?_)));(case side2=>exact HC0_1.out);rintro e w42 ⟨v1384,rfl,ho0,hb⟩;refine ⟨_,rfl,?_⟩;have n0_:=Aside0.mk (Kd.R_elder' (by (with_reducible repeat (first|apply Kd.R_alloc|apply Kd.R_drewN|apply Kd.R_drew));exact HO1377.out) (Kd.R_base ho0) hb);have n1_:=Aside0.mk (Kd.R_elder' (by (with_reducible repeat (first|apply Kd.R_alloc|apply Kd.R_drewN|apply Kd.R_drew));exact HO1380.out) (Kd.R_base ho0) hb);have n2_:=Aside0.mk (Kd.R_lower (Kd.R_new' (Kd.R_new' ho0 (Kd.R_lt (by (with_reducible repeat (first|apply Kd.R_alloc|apply Kd.R_drewN|apply Kd.R_drew));exact HO1377.out))) (Kd.R_lt (by (with_reducible repeat (first|apply Kd.R_alloc|apply Kd.R_drewN|apply Kd.R_drew));exact HO1380.out))) (below_size (by repeat (first|(with_reducible first|exact HB.out|apply below_alloc|apply pw_below_drewN|apply below_drew1|refine below_set ?_ GE1372.out)|exact HB.out))));have n3_:=Aside0.mk (blk_below (g:=gb1372) (o:=.cells #[.int .i64 a0_0,.slice A0_1 l0_1.length c0_1] 24 (0,0)) (by (with_reducible repeat (first|refine blk_drewN ?_ _|refine blk_drew ?_|refine blk_alloc ?_ _));exact BK1372.out) hb);have n4_:=Aside0.mk (below_step (by repeat (first|(with_reducible first|exact HB.out|apply below_alloc|apply pw_below_drewN|apply below_drew1|refine below_set ?_ GE1372.out)|exact HB.out)) hb);clear HO1377;clear HO1380;clear BK1372;clear HB;have HO1377:=n0_;have HO1380:=n1_;have HO1385:=n2_;have BK1372:=n3_;have HB:=n4_;clear n0_ n1_ n2_ n3_ n4_;(try clear hb);(try clear hb2);(try clear hk);(try clear hi);(try clear ho0))|((with_reducible refine gate_dst (N:=8) rfl ?_);refine box_event ?hg (N:=8) ?hd (cs:=#[.int .i64 0,.slice none 0 0]) (t:=26) ?hr ?_;(case hd=>rfl);(case hg=>rfl);(case hr=>first|(go_simp;done)|(go_simp;rfl));intro gb1386 hg w43 hbox hb;have n0_:=Aside0.mk (Kd.R_below (by (with_reducible repeat (first|apply Kd.R_alloc|apply Kd.R_drewN|apply Kd.R_drew));exact HO1377.out) hb);have n1_:=Aside0.mk (Kd.R_below (by (with_reducible repeat (first|apply Kd.R_alloc|apply Kd.R_drewN|apply Kd.R_drew));exact HO1380.out) hb);have n2_:=Aside0.mk (Kd.R_below (by (with_reducible repeat (first|apply Kd.R_alloc|apply Kd.R_drewN|apply Kd.R_drew));exact HO1385.out) hb);have n3_:=Aside0.mk (blk_below (g:=gb1372) (o:=.cells #[.int .i64 a0_0,.slice A0_1 l0_1.length c0_1] 24 (0,0)) (by (with_reducible repeat (first|refine blk_drewN ?_ _|refine blk_drew ?_|refine blk_alloc ?_ _));exact BK1372.out) hb);have n4_:=Aside0.mk (below_step (by repeat (first|(with_reducible first|exact HB.out|apply below_alloc|apply pw_below_drewN|apply below_drew1|refine below_set ?_ GE1372.out)|exact HB.out)) hb);have n5_:=Aside0.mk (hbox);have n6_:=Aside0.mk ((by rw [hg];exact (below_size (by repeat (first|(with_reducible first|exact HB.out|apply below_alloc|apply pw_below_drewN|apply below_drew1|refine below_set ?_ GE1372.out)|exact HB.out))):w.heap.size ≤ gb1386));have n7_:=Aside0.mk ((by rw [hg];exact (below_size (by repeat (first|(with_reducible first|exact HB.out|apply below_alloc|apply pw_below_drewN|apply below_drew1|refine below_set ?_ GE1372.out)|exact HB.out))):w.heap.size ≤ gb1386));have n8_:=Aside0.mk ((by rw [hg];exact Nat.ne_of_lt (blk_lt (g:=gb1372) (o:=.cells #[.int .i64 a0_0,.slice A0_1 l0_1.length c0_1] 24 (0,0)) (by (with_reducible repeat (first|refine blk_drewN ?_ _|refine blk_drew ?_|refine blk_alloc ?_ _));exact BK1372.out)):gb1372 ≠ gb1386));have n9_:=Aside0.mk ((by rw [hg];exact Nat.ne_of_gt (blk_lt (g:=gb1372) (o:=.cells #[.int .i64 a0_0,.slice A0_1 l0_1.length c0_1] 24 (0,0)) (by (with_reducible repeat (first|refine blk_drewN ?_ _|refine blk_drew ?_|refine blk_alloc ?_ _));exact BK1372.out)):gb1386 ≠ gb1372));clear HO1377;clear HO1380;clear HO1385;clear BK1372;clear HB;have HO1377:=n0_;have HO1380:=n1_;have HO1385:=n2_;have BK1372:=n3_;have HB:=n4_;have BK1386:=n5_;have GW1386:=n6_;have GE1386:=n7_;have NB1372_1386:=n8_;have NB1386_1372:=n9_;clear n0_ n1_ n2_ n3_ n4_ n5_ n6_ n7_ n8_ n9_;clear hb hbox hg;have hnb44:=NB1386_1372.out;have hnc44:=NB1372_1386.out;have hcz45_0:w43.cell? ⟨gb1386,0,none⟩ = some (.int .i64 0):=(blk_cell BK1386.out 0).trans rfl;have hcz45_1:w43.cell? ⟨gb1386,1,none⟩ = some (.slice none 0 0):=(blk_cell BK1386.out 1).trans rfl;have hfz45_0:=blk_frozen BK1386.out 0;have hfz45_1:=blk_frozen BK1386.out 1;obtain ⟨Ao46,co46,eo46⟩:=Kd.R_slice HO1385.out;subst eo46)|((with_reducible refine gate_callee (f:=62) rfl ?_);refine goesL_ (some 33) rfl rfl Try.func62 (by kernel_rfl) rfl #[.agg #[.int .i64 t1382,.slice Ao46 t1383.length co46],.int .i64 a1] rfl (by (try simp only [List.map_toArray,List.map_cons,List.map_nil]);first|done|rfl|(simp only [List.length_drop,List.length_take];rfl)) ?_;(with_reducible refine (impl_BestPartners.calls k t1382 _ _ t1383 a1 t1387 t1390 _ ?side1 ?side2 A11.out).mono ?_);(case side1=>refine (Kd.R_reads' (e:=3) (base:=w.heap.size) (ok:=fun k_=>((True ∧ some k_ ≠ (.slice Ao39 t1375.length co39:Value).ownBlock) ∧ some k_ ≠ (v1379:Value).ownBlock)) (n:=t1383.length) (c:=co46) ?_).2.2;exact (by (with_reducible repeat (first|apply Kd.R_alloc|apply Kd.R_drewN|apply Kd.R_drew));exact (Kd.R_mono (Kd.R_far (p:=⟨gb1386,1,none⟩) (Kd.R_far (p:=⟨gb1386,0,none⟩) (Kd.R_types HO1385.out BK1386.out (by decide)) (fun _ hk=>hk.2) (.int .i64 t1382)) (fun _ hk=>hk.2) (.slice Ao46 t1383.length co46)) (fun _ h_=>h_.1))));(case side2=>exact (Kd.R_reads' HO1385.out).2.1);rintro e w47 ⟨v1388,rfl,ho0,hb⟩;refine ⟨_,rfl,?_⟩;have n0_:=Aside0.mk (Kd.R_elder' (by (with_reducible repeat (first|apply Kd.R_alloc|apply Kd.R_drewN|apply Kd.R_drew));exact (Kd.R_mono (Kd.R_far (p:=⟨gb1386,1,none⟩) (Kd.R_far (p:=⟨gb1386,0,none⟩) (Kd.R_types HO1377.out BK1386.out (by decide)) (fun _ hk=>hk.2) (.int .i64 t1382)) (fun _ hk=>hk.2) (.slice Ao46 t1383.length co46)) (fun _ h_=>h_.1))) (Kd.R_base ho0) hb);have n1_:=Aside0.mk (Kd.R_elder' (by (with_reducible repeat (first|apply Kd.R_alloc|apply Kd.R_drewN|apply Kd.R_drew));exact (Kd.R_mono (Kd.R_far (p:=⟨gb1386,1,none⟩) (Kd.R_far (p:=⟨gb1386,0,none⟩) (Kd.R_types HO1380.out BK1386.out (by decide)) (fun _ hk=>hk.2) (.int .i64 t1382)) (fun _ hk=>hk.2) (.slice Ao46 t1383.length co46)) (fun _ h_=>h_.1))) (Kd.R_base ho0) hb);have n2_:=Aside0.mk (Kd.R_elder' (by (with_reducible repeat (first|apply Kd.R_alloc|apply Kd.R_drewN|apply Kd.R_drew));exact (Kd.R_mono (Kd.R_far (p:=⟨gb1386,1,none⟩) (Kd.R_far (p:=⟨gb1386,0,none⟩) (Kd.R_types HO1385.out BK1386.out (by decide)) (fun _ hk=>hk.2) (.int .i64 t1382)) (fun _ hk=>hk.2) (.slice Ao46 t1383.length co46)) (fun _ h_=>h_.1))) (Kd.R_base ho0) hb);have n3_:=Aside0.mk (Kd.R_lower (Kd.R_new' (Kd.R_new' (Kd.R_new' ho0 (Kd.R_lt (by (with_reducible repeat (first|apply Kd.R_alloc|apply Kd.R_drewN|apply Kd.R_drew));exact (Kd.R_mono (Kd.R_far (p:=⟨gb1386,1,none⟩) (Kd.R_far (p:=⟨gb1386,0,none⟩) (Kd.R_types HO1377.out BK1386.out (by decide)) (fun _ hk=>hk.2) (.int .i64 t1382)) (fun _ hk=>hk.2) (.slice Ao46 t1383.length co46)) (fun _ h_=>h_.1))))) (Kd.R_lt (by (with_reducible repeat (first|apply Kd.R_alloc|apply Kd.R_drewN|apply Kd.R_drew));exact (Kd.R_mono (Kd.R_far (p:=⟨gb1386,1,none⟩) (Kd.R_far (p:=⟨gb1386,0,none⟩) (Kd.R_types HO1380.out BK1386.out (by decide)) (fun _ hk=>hk.2) (.int .i64 t1382)) (fun _ hk=>hk.2) (.slice Ao46 t1383.length co46)) (fun _ h_=>h_.1))))) (Kd.R_lt (by (with_reducible repeat (first|apply Kd.R_alloc|apply Kd.R_drewN|apply Kd.R_drew));exact (Kd.R_mono (Kd.R_far (p:=⟨gb1386,1,none⟩) (Kd.R_far (p:=⟨gb1386,0,none⟩) (Kd.R_types HO1385.out BK1386.out (by decide)) (fun _ hk=>hk.2) (.int .i64 t1382)) (fun _ hk=>hk.2) (.slice Ao46 t1383.length co46)) (fun _ h_=>h_.1))))) (below_size (by repeat (first|(with_reducible first|exact HB.out|apply below_alloc|apply pw_below_drewN|apply below_drew1|refine below_set ?_ GE1372.out|refine below_set ?_ GE1386.out)|exact HB.out))));have n4_:=Aside0.mk (blk_below (g:=gb1372) (o:=.cells #[.int .i64 a0_0,.slice A0_1 l0_1.length c0_1] 24 (0,0)) (by (with_reducible repeat (first|refine blk_drewN ?_ _|refine blk_drew ?_|refine blk_alloc ?_ _));refine blk_far ?_ NB1372_1386.out _;(with_reducible repeat (first|refine blk_drewN ?_ _|refine blk_drew ?_|refine blk_alloc ?_ _));refine blk_far ?_ NB1372_1386.out _;(with_reducible repeat (first|refine blk_drewN ?_ _|refine blk_drew ?_|refine blk_alloc ?_ _));exact BK1372.out) hb);have n5_:=Aside0.mk (blk_below (g:=gb1386) (o:=.cells #[.int .i64 t1382,.slice Ao46 t1383.length co46] 26 (0,0)) (by (with_reducible repeat (first|refine blk_drewN ?_ _|refine blk_drew ?_|refine blk_alloc ?_ _));refine blk_put (cs:=#[.int .i64 t1382,.slice none 0 0]) ?_ 1 _ rfl;(with_reducible repeat (first|refine blk_drewN ?_ _|refine blk_drew ?_|refine blk_alloc ?_ _));refine blk_put (cs:=#[.int .i64 0,.slice none 0 0]) ?_ 0 _ rfl;(with_reducible repeat (first|refine blk_drewN ?_ _|refine blk_drew ?_|refine blk_alloc ?_ _));exact BK1386.out) hb);have n6_:=Aside0.mk (below_step (by repeat (first|(with_reducible first|exact HB.out|apply below_alloc|apply pw_below_drewN|apply below_drew1|refine below_set ?_ GE1372.out|refine below_set ?_ GE1386.out)|exact HB.out)) hb);clear HO1377;clear HO1380;clear HO1385;clear BK1372;clear BK1386;clear HB;have HO1377:=n0_;have HO1380:=n1_;have HO1385:=n2_;have HO1389:=n3_;have BK1372:=n4_;have BK1386:=n5_;have HB:=n6_;clear n0_ n1_ n2_ n3_ n4_ n5_ n6_;(try clear hb);(try clear hb2);(try clear hk);(try clear hi);(try clear ho0);obtain ⟨Ao48,co48,eo48⟩:=Kd.R_slice HO1389.out;subst eo48;obtain ⟨Ao49,co49,eo49⟩:=Kd.R_slice HO1380.out;subst eo49)|((with_reducible refine gate_callee (f:=33) rfl ?_);refine goesL_ (some 38) rfl rfl Try.func33 (by kernel_rfl) rfl #[.slice Ao48 t1387.length co48,.slice Ao49 t1378.length co49] rfl (by (try simp only [List.map_toArray,List.map_cons,List.map_nil]);first|done|rfl|(simp only [List.length_drop,List.length_take];rfl)) ?_;(with_reducible refine (laws_eqIntS.calls k _ _ t1387 _ _ t1378 true _ ?side1 ?side2 ?side3 ?side4 A12.out).mono ?_);(case side1=>repeat (first|exact (Kd.R_reads' HO1389.out).2.2|(with_reducible refine Kd.C_alloc ?_ _)|(with_reducible refine Kd.C_drewN ?_ _)|(with_reducible refine Kd.C_drew ?_)));(case side2=>exact (Kd.R_reads' HO1389.out).2.1);(case side3=>repeat (first|exact (Kd.R_reads' HO1380.out).2.2|(with_reducible refine Kd.C_alloc ?_ _)|(with_reducible refine Kd.C_drewN ?_ _)|(with_reducible refine Kd.C_drew ?_)));(case side4=>exact (Kd.R_reads' HO1380.out).2.1);rintro e w' ⟨rfl,⟨nd,rfl⟩⟩;refine ⟨_,rfl,?_⟩))
             have n_:=Aside0.mk (Kd.R_mono (ok':=(fun k_=>some k_ ≠ (.slice Ao49 t1378.length co49:Value).ownBlock ∧ some k_ ≠ (.slice Ao46 t1383.length co46:Value).ownBlock ∧ some k_ ≠ (.slice Ao48 t1387.length co48:Value).ownBlock)) HO1377.out (fun k_ hk=>⟨hk.1.1.2,⟨hk.1.2,hk.2⟩⟩))
             clear HO1377
             have HO1377:=n_
             clear n_
             have n_:=Aside0.mk (Kd.R_mono (ok':=(fun k_=>some k_ ≠ (.slice Ao39 t1375.length co39:Value).ownBlock ∧ some k_ ≠ (.slice Ao46 t1383.length co46:Value).ownBlock ∧ some k_ ≠ (.slice Ao48 t1387.length co48:Value).ownBlock)) HO1380.out (fun k_ hk=>⟨hk.1.1.2,⟨hk.1.2,hk.2⟩⟩))
             clear HO1380
             have HO1380:=n_
             clear n_
             have n_:=Aside0.mk (Kd.R_mono (ok':=(fun k_=>some k_ ≠ (.slice Ao39 t1375.length co39:Value).ownBlock ∧ some k_ ≠ (.slice Ao49 t1378.length co49:Value).ownBlock ∧ some k_ ≠ (.slice Ao48 t1387.length co48:Value).ownBlock)) HO1385.out (fun k_ hk=>⟨hk.1.1.2,⟨hk.1.2,hk.2⟩⟩))
             clear HO1385
             have HO1385:=n_
             clear n_
             have n_:=Aside0.mk (Kd.R_mono (ok':=(fun k_=>some k_ ≠ (.slice Ao39 t1375.length co39:Value).ownBlock ∧ some k_ ≠ (.slice Ao49 t1378.length co49:Value).ownBlock ∧ some k_ ≠ (.slice Ao46 t1383.length co46:Value).ownBlock)) HO1389.out (fun k_ hk=>⟨hk.1.1.2,⟨hk.1.2,hk.2⟩⟩))
             clear HO1389
             have HO1389:=n_
             clear n_
             (try (rw [drewN_self w47];generalize hq_:World.drewN w47 _ = w47;have n0_:Aside0 (Kd.R (Kd.int .i64) 3 w47 w.heap.size (fun k_=>some k_ ≠ (.slice Ao49 t1378.length co49:Value).ownBlock ∧ some k_ ≠ (.slice Ao46 t1383.length co46:Value).ownBlock ∧ some k_ ≠ (.slice Ao48 t1387.length co48:Value).ownBlock) (.slice Ao39 t1375.length co39) t1375):=⟨by rw [← hq_];exact (by (with_reducible repeat (first|apply Kd.R_alloc|apply Kd.R_drewN|apply Kd.R_drew));exact HO1377.out)⟩;have n1_:Aside0 (Kd.R (Kd.int .i64) 3 w47 w.heap.size (fun k_=>some k_ ≠ (.slice Ao39 t1375.length co39:Value).ownBlock ∧ some k_ ≠ (.slice Ao46 t1383.length co46:Value).ownBlock ∧ some k_ ≠ (.slice Ao48 t1387.length co48:Value).ownBlock) (.slice Ao49 t1378.length co49) t1378):=⟨by rw [← hq_];exact (by (with_reducible repeat (first|apply Kd.R_alloc|apply Kd.R_drewN|apply Kd.R_drew));exact HO1380.out)⟩;have n2_:Aside0 (Kd.R (Kd.int .i64) 3 w47 w.heap.size (fun k_=>some k_ ≠ (.slice Ao39 t1375.length co39:Value).ownBlock ∧ some k_ ≠ (.slice Ao49 t1378.length co49:Value).ownBlock ∧ some k_ ≠ (.slice Ao48 t1387.length co48:Value).ownBlock) (.slice Ao46 t1383.length co46) t1383):=⟨by rw [← hq_];exact (by (with_reducible repeat (first|apply Kd.R_alloc|apply Kd.R_drewN|apply Kd.R_drew));exact HO1385.out)⟩;have n3_:Aside0 (Kd.R (Kd.int .i64) 3 w47 w.heap.size (fun k_=>some k_ ≠ (.slice Ao39 t1375.length co39:Value).ownBlock ∧ some k_ ≠ (.slice Ao49 t1378.length co49:Value).ownBlock ∧ some k_ ≠ (.slice Ao46 t1383.length co46:Value).ownBlock) (.slice Ao48 t1387.length co48) t1387):=⟨by rw [← hq_];exact (by (with_reducible repeat (first|apply Kd.R_alloc|apply Kd.R_drewN|apply Kd.R_drew));exact HO1389.out)⟩;have n4_:Aside0 (w47.heap[gb1372]? = some (.cells #[.int .i64 a0_0,.slice A0_1 l0_1.length c0_1] 24 (0,0))):=⟨by rw [← hq_];exact (by (with_reducible repeat (first|refine blk_drewN ?_ _|refine blk_drew ?_|refine blk_alloc ?_ _));exact BK1372.out)⟩;have n5_:Aside0 (w47.heap[gb1386]? = some (.cells #[.int .i64 t1382,.slice Ao46 t1383.length co46] 26 (0,0))):=⟨by rw [← hq_];exact (by (with_reducible repeat (first|refine blk_drewN ?_ _|refine blk_drew ?_|refine blk_alloc ?_ _));exact BK1386.out)⟩;have n6_:Aside0 (Below w.heap.size w w47):=⟨by rw [← hq_];exact (by repeat (first|(with_reducible first|exact HB.out|apply below_alloc|apply pw_below_drewN|apply below_drew1|refine below_set ?_ GE1372.out|refine below_set ?_ GE1386.out)|exact HB.out))⟩;clear HO1377 HO1380 HO1385 HO1389 BK1372 BK1386 HB hq_;have HO1377:=n0_;have HO1380:=n1_;have HO1385:=n2_;have HO1389:=n3_;have BK1372:=n4_;have BK1386:=n5_;have HB:=n6_;clear n0_ n1_ n2_ n3_ n4_ n5_ n6_))
             have n0_:=Aside0.mk (Kd.R_drew HO1377.out)
             have n1_:=Aside0.mk (Kd.R_drew HO1380.out)
             have n2_:=Aside0.mk (Kd.R_drew HO1385.out)
             have n3_:=Aside0.mk (Kd.R_drew HO1389.out)
             have n4_:=Aside0.mk (blk_drew BK1372.out)
             have n5_:=Aside0.mk (blk_drew BK1386.out)
             have n6_:=Aside0.mk (below_drew1 HB.out)
             clear HO1377
             clear HO1380
             clear HO1385
             clear HO1389
             clear BK1372
             clear BK1386
             clear HB
             have HO1377:=n0_
             have HO1380:=n1_
             have HO1385:=n2_
             have HO1389:=n3_
             have BK1372:=n4_
             have BK1386:=n5_
             have HB:=n6_
             clear n0_ n1_ n2_ n3_ n4_ n5_ n6_
             refine start_ (n:=5) (S:=fun w'=>w'.cell? ⟨gb1386,0,none⟩ = some (.int .i64 t1382) ∧ w'.cell? ⟨gb1386,1,none⟩ = some (.slice Ao46 t1383.length co46) ∧ w'.cell? ⟨gb1372,0,none⟩ = some (.int .i64 a0_0) ∧ w'.cell? ⟨gb1372,1,none⟩ = some (.slice A0_1 l0_1.length c0_1)) (ds:=[]) #[false,false,false,false,false] (by kernel_rfl) rfl rfl ⟨(blk_cell BK1386.out 0).trans rfl,(blk_cell BK1386.out 1).trans rfl,(blk_cell BK1372.out 0).trans rfl,(blk_cell BK1372.out 1).trans rfl⟩ (fun hHeld=>?_)
             generalize w47.drew = w50 at HO1377 HO1380 HO1385 HO1389 BK1372 BK1386 HB hHeld ⊢
             refine take_ (i:=0) (N:=some 45) (v:=?_) (a':=?_) #[true,false,false,false,false] rfl rfl (by kernel_rfl) (fun _ _ _ h=>h) (Or.inl ⟨by rfl,?_⟩) hHeld ?_ ?_
             rotate_left
             ·rintro w' ⟨s0,s1,s2,s3⟩
              go_simp
              with_reducible rfl
             rotate_left
             ·simp only [Act.put,List.setIfInBounds_toArray,List.set_cons_zero,List.set_cons_succ,i64_w,i32_w]
              rfl
             refine take_ (i:=1) (N:=some 46) (v:=?_) (a':=?_) #[true,true,false,false,false] rfl rfl (by kernel_rfl) (fun _ _ _ h=>h) (Or.inl ⟨by rfl,?_⟩) hHeld ?_ ?_
             rotate_left
             ·rintro w' ⟨s0,s1,s2,s3⟩
              go_simp
              with_reducible rfl
             rotate_left
             ·simp only [Act.put,List.setIfInBounds_toArray,List.set_cons_zero,List.set_cons_succ,i64_w,i32_w]
              rfl
             refine one_ (i:=2) (N:=some 47) #[true,true,true,false,false] rfl rfl (by kernel_rfl) (by decide) (fun K hK=>?_)
             refine goes_ Try.func17 (by kernel_rfl) rfl #[.agg #[.int .i64 a0_0,.slice A0_1 l0_1.length c0_1]] (by rfl) rfl rfl (by (try simp only [List.map_toArray,List.map_cons,List.map_nil]);first|done|rfl|(simp only [List.length_drop,List.length_take];rfl)) ?_
             with_reducible refine (laws_toCommittee.calls k a0_0 _ _ l0_1 t1392 t1393 _ ?side1 ?side2 A15.out).mono ?_
             (case side1=>repeat (first|exact (Kd.C_below HR0_1.out HB.out)|(with_reducible refine Kd.C_alloc ?_ _)|(with_reducible refine Kd.C_drewN ?_ _)|(with_reducible refine Kd.C_drew ?_)))
             (case side2=>exact HC0_1.out)
             rintro e w51 ⟨v1394,rfl,ho0,hb⟩
             refine ⟨_,rfl,?_⟩
             have n0_:=Aside0.mk (Kd.R_elder' (by (with_reducible repeat (first|apply Kd.R_alloc|apply Kd.R_drewN|apply Kd.R_drew));exact HO1377.out) (Kd.R_base ho0) hb)
             have n1_:=Aside0.mk (Kd.R_elder' (by (with_reducible repeat (first|apply Kd.R_alloc|apply Kd.R_drewN|apply Kd.R_drew));exact HO1380.out) (Kd.R_base ho0) hb)
             have n2_:=Aside0.mk (Kd.R_elder' (by (with_reducible repeat (first|apply Kd.R_alloc|apply Kd.R_drewN|apply Kd.R_drew));exact HO1385.out) (Kd.R_base ho0) hb)
             have n3_:=Aside0.mk (Kd.R_elder' (by (with_reducible repeat (first|apply Kd.R_alloc|apply Kd.R_drewN|apply Kd.R_drew));exact HO1389.out) (Kd.R_base ho0) hb)
             have n4_:=Aside0.mk (Kd.R_lower (Kd.R_new' (Kd.R_new' (Kd.R_new' (Kd.R_new' ho0 (Kd.R_lt (by (with_reducible repeat (first|apply Kd.R_alloc|apply Kd.R_drewN|apply Kd.R_drew));exact HO1377.out))) (Kd.R_lt (by (with_reducible repeat (first|apply Kd.R_alloc|apply Kd.R_drewN|apply Kd.R_drew));exact HO1380.out))) (Kd.R_lt (by (with_reducible repeat (first|apply Kd.R_alloc|apply Kd.R_drewN|apply Kd.R_drew));exact HO1385.out))) (Kd.R_lt (by (with_reducible repeat (first|apply Kd.R_alloc|apply Kd.R_drewN|apply Kd.R_drew));exact HO1389.out))) (below_size (by repeat (first|(with_reducible first|exact HB.out|apply below_alloc|apply pw_below_drewN|apply below_drew1|refine below_set ?_ GE1372.out|refine below_set ?_ GE1386.out)|exact HB.out))))
             have n5_:=Aside0.mk (blk_below (g:=gb1372) (o:=.cells #[.int .i64 a0_0,.slice A0_1 l0_1.length c0_1] 24 (0,0)) (by (with_reducible repeat (first|refine blk_drewN ?_ _|refine blk_drew ?_|refine blk_alloc ?_ _));exact BK1372.out) hb)
             have n6_:=Aside0.mk (blk_below (g:=gb1386) (o:=.cells #[.int .i64 t1382,.slice Ao46 t1383.length co46] 26 (0,0)) (by (with_reducible repeat (first|refine blk_drewN ?_ _|refine blk_drew ?_|refine blk_alloc ?_ _));exact BK1386.out) hb)
             have n7_:=Aside0.mk (below_step (by repeat (first|(with_reducible first|exact HB.out|apply below_alloc|apply pw_below_drewN|apply below_drew1|refine below_set ?_ GE1372.out|refine below_set ?_ GE1386.out)|exact HB.out)) hb)
             clear HO1377
             clear HO1380
             clear HO1385
             clear HO1389
             clear BK1372
             clear BK1386
             clear HB
             have HO1377:=n0_
             have HO1380:=n1_
             have HO1385:=n2_
             have HO1389:=n3_
             have HO1395:=n4_
             have BK1372:=n5_
             have BK1386:=n6_
             have HB:=n7_
             clear n0_ n1_ n2_ n3_ n4_ n5_ n6_ n7_
             (try clear hb)
             (try clear hb2)
             (try clear hk)
             (try clear hi)
             (try clear ho0)
             obtain ⟨Ao52,co52,eo52⟩:=Kd.R_slice HO1395.out
             (first|subst eo52|(injection eo52 with f1_ f2_ f3_;have f4_:=f1_.symm;have f5_:=f3_.symm;clear f1_ f2_ f3_;subst f4_;subst f5_))
             refine hK.out _ _ ⟨(blk_cell BK1386.out 0).trans rfl,(blk_cell BK1386.out 1).trans rfl,(blk_cell BK1372.out 0).trans rfl,(blk_cell BK1372.out 1).trans rfl⟩ (fun hHeld=>?_)
             clear hK K
             refine norm_ (a':=?_) ?_ ?_
             rotate_left
             ·show Act.put _ (some 47) _ = _
              simp only [Act.put,List.setIfInBounds_toArray,List.set_cons_zero,List.set_cons_succ,i64_w,i32_w]
              rfl
             refine one_ (i:=3) (N:=some 48) #[true,true,true,true,false] rfl rfl (by kernel_rfl) (by decide) (fun K hK=>?_)
             refine goes_ Try.func19 (by kernel_rfl) rfl #[.agg #[.int .i64 t1382,.slice Ao46 t1383.length co46],.agg #[.int .i64 t1392,.slice Ao52 t1393.length co52]] (by rfl) rfl rfl (by (try simp only [List.map_toArray,List.map_cons,List.map_nil]);first|done|rfl|(simp only [List.length_drop,List.length_take];rfl)) ?_
             with_reducible refine (laws_eqCommittee.calls k t1382 _ _ t1383 t1392 _ _ t1393 true _ ?side1 ?side2 ?side3 ?side4 A16.out).mono ?_
             (case side1=>repeat (first|exact (Kd.R_reads' HO1385.out).2.2|(with_reducible refine Kd.C_alloc ?_ _)|(with_reducible refine Kd.C_drewN ?_ _)|(with_reducible refine Kd.C_drew ?_)))
             (case side2=>exact (Kd.R_reads' HO1385.out).2.1)
             (case side3=>repeat (first|exact (Kd.R_reads' HO1395.out).2.2|(with_reducible refine Kd.C_alloc ?_ _)|(with_reducible refine Kd.C_drewN ?_ _)|(with_reducible refine Kd.C_drew ?_)))
             (case side4=>exact (Kd.R_reads' HO1395.out).2.1)
             rintro e w53 ⟨rfl,hb⟩
             refine ⟨_,rfl,?_⟩
             have n0_:=Aside0.mk (Kd.R_below (by (with_reducible repeat (first|apply Kd.R_alloc|apply Kd.R_drewN|apply Kd.R_drew));exact HO1377.out) hb)
             have n1_:=Aside0.mk (Kd.R_below (by (with_reducible repeat (first|apply Kd.R_alloc|apply Kd.R_drewN|apply Kd.R_drew));exact HO1380.out) hb)
             have n2_:=Aside0.mk (Kd.R_below (by (with_reducible repeat (first|apply Kd.R_alloc|apply Kd.R_drewN|apply Kd.R_drew));exact HO1385.out) hb)
             have n3_:=Aside0.mk (Kd.R_below (by (with_reducible repeat (first|apply Kd.R_alloc|apply Kd.R_drewN|apply Kd.R_drew));exact HO1389.out) hb)
             have n4_:=Aside0.mk (Kd.R_below (by (with_reducible repeat (first|apply Kd.R_alloc|apply Kd.R_drewN|apply Kd.R_drew));exact HO1395.out) hb)
             have n5_:=Aside0.mk (blk_below (g:=gb1372) (o:=.cells #[.int .i64 a0_0,.slice A0_1 l0_1.length c0_1] 24 (0,0)) (by (with_reducible repeat (first|refine blk_drewN ?_ _|refine blk_drew ?_|refine blk_alloc ?_ _));exact BK1372.out) hb)
             have n6_:=Aside0.mk (blk_below (g:=gb1386) (o:=.cells #[.int .i64 t1382,.slice Ao46 t1383.length co46] 26 (0,0)) (by (with_reducible repeat (first|refine blk_drewN ?_ _|refine blk_drew ?_|refine blk_alloc ?_ _));exact BK1386.out) hb)
             have n7_:=Aside0.mk (below_step (by repeat (first|(with_reducible first|exact HB.out|apply below_alloc|apply pw_below_drewN|apply below_drew1|refine below_set ?_ GE1372.out|refine below_set ?_ GE1386.out)|exact HB.out)) hb)
             clear HO1377
             clear HO1380
             clear HO1385
             clear HO1389
             clear HO1395
             clear BK1372
             clear BK1386
             clear HB
             have HO1377:=n0_
             have HO1380:=n1_
             have HO1385:=n2_
             have HO1389:=n3_
             have HO1395:=n4_
             have BK1372:=n5_
             have BK1386:=n6_
             have HB:=n7_
             clear n0_ n1_ n2_ n3_ n4_ n5_ n6_ n7_
             (try clear hb)
             (try clear hb2)
             (try clear hk)
             (try clear hi)
             refine hK.out _ _ ⟨(blk_cell BK1386.out 0).trans rfl,(blk_cell BK1386.out 1).trans rfl,(blk_cell BK1372.out 0).trans rfl,(blk_cell BK1372.out 1).trans rfl⟩ (fun hHeld=>?_)
             clear hK K
             refine norm_ (a':=?_) ?_ ?_
             rotate_left
             ·show Act.put _ (some 48) _ = _
              simp only [Act.put,List.setIfInBounds_toArray,List.set_cons_zero,List.set_cons_succ,i64_w,i32_w]
              rfl
             refine pure_ (i:=4) (N:=some 49) (v:=?_) (a':=?_) #[true,true,true,true,true] rfl rfl (by kernel_rfl) (fun _ _ _ h=>h) (Or.inl ⟨by rfl,?_⟩) ?_ ?_
             rotate_left
             ·intro w'
              go_simp
              with_reducible rfl
             rotate_left
             ·simp only [Act.put,List.setIfInBounds_toArray,List.set_cons_zero,List.set_cons_succ,i64_w,i32_w]
              rfl
             refine done_ (by kernel_rfl) ?_
             have hcz54_0:w53.cell? ⟨gb1386,0,none⟩ = some (.int .i64 t1382):=(blk_cell BK1386.out 0).trans rfl
             have hcz54_1:w53.cell? ⟨gb1386,1,none⟩ = some (.slice Ao46 t1383.length co46):=(blk_cell BK1386.out 1).trans rfl
             have hfz54_0:=blk_frozen BK1386.out 0
             have hfz54_1:=blk_frozen BK1386.out 1
             try go_wp2_with (first|((with_reducible refine gate_callee (f:=20) rfl ?_);refine goesL_ (some 52) rfl rfl Try.func20 (by kernel_rfl) rfl #[.agg #[.int .i64 t1382,.slice Ao46 t1383.length co46],.int .i64 1] rfl (by (try simp only [List.map_toArray,List.map_cons,List.map_nil]);first|done|rfl|(simp only [List.length_drop,List.length_take];rfl)) ?_;(with_reducible refine (laws_markCommittee.calls k t1382 (fun k_=>some k_ = (.slice Ao46 t1383.length co46:Value).ownBlock) (.slice Ao46 t1383.length co46) t1383 1 t1397 t1398 w _ ?side1 ?side2 A18.out).mono ?_);(case side1=>repeat (first|(with_reducible first|exact HB.out|apply below_alloc|apply pw_below_drewN|apply below_drew1|refine below_set ?_ GE1372.out|refine below_set ?_ GE1386.out)|exact HB.out));(case side2=>exact Kd.R_tight rfl HO1385.out);rintro e w55 ⟨rfl,hy0,hb,hkp⟩;refine ⟨_,rfl,?_⟩;have n0_:=Aside0.mk (blk_kept (by (with_reducible repeat (first|refine blk_drewN ?_ _|refine blk_drew ?_|refine blk_alloc ?_ _));exact BK1372.out) hkp (fun hs_=>(fun e_=>(Kd.R_ne HO1385.out BK1372.out (by decide)) e_) hs_));have n1_:=Aside0.mk (Kd.R_mono (ok':=fun k_=>some k_ ≠ (.slice Ao49 t1378.length co49:Value).ownBlock ∧ some k_ ≠ (.slice Ao46 t1383.length co46:Value).ownBlock ∧ some k_ ≠ (.slice Ao48 t1387.length co48:Value).ownBlock ∧ some k_ ≠ (.slice Ao52 t1393.length co52:Value).ownBlock) (Kd.R_keptB (HO1377.out) hkp (fun k_ hk_ hs_=>(hk_.1.2.1) hs_)) (fun k_ hk_=>⟨hk_.1.1.1,hk_.1.1.2.1,hk_.1.1.2.2,hk_.1.2⟩));have n2_:=Aside0.mk (Kd.R_mono (ok':=fun k_=>some k_ ≠ (.slice Ao39 t1375.length co39:Value).ownBlock ∧ some k_ ≠ (.slice Ao46 t1383.length co46:Value).ownBlock ∧ some k_ ≠ (.slice Ao48 t1387.length co48:Value).ownBlock ∧ some k_ ≠ (.slice Ao52 t1393.length co52:Value).ownBlock) (Kd.R_keptB (HO1380.out) hkp (fun k_ hk_ hs_=>(hk_.1.2.1) hs_)) (fun k_ hk_=>⟨hk_.1.1.1,hk_.1.1.2.1,hk_.1.1.2.2,hk_.1.2⟩));have n3_:=Aside0.mk (Kd.R_reok rfl hy0 (fun k_ e_=>HO1385.out.1 k_ e_));have n4_:=Aside0.mk (blk_kept (by (with_reducible repeat (first|refine blk_drewN ?_ _|refine blk_drew ?_|refine blk_alloc ?_ _));exact BK1386.out) hkp (fun hs_=>(fun e_=>(Kd.R_ne HO1385.out BK1386.out (by decide)) e_) hs_));have n5_:=Aside0.mk (Kd.R_mono (ok':=fun k_=>some k_ ≠ (.slice Ao39 t1375.length co39:Value).ownBlock ∧ some k_ ≠ (.slice Ao49 t1378.length co49:Value).ownBlock ∧ some k_ ≠ (.slice Ao46 t1383.length co46:Value).ownBlock ∧ some k_ ≠ (.slice Ao52 t1393.length co52:Value).ownBlock) (Kd.R_keptB (HO1389.out) hkp (fun k_ hk_ hs_=>(hk_.1.2.2) hs_)) (fun k_ hk_=>⟨hk_.1.1.1,hk_.1.1.2.1,hk_.1.1.2.2,hk_.1.2⟩));have n6_:=Aside0.mk (Kd.R_mono (ok':=fun k_=>some k_ ≠ (.slice Ao39 t1375.length co39:Value).ownBlock ∧ some k_ ≠ (.slice Ao49 t1378.length co49:Value).ownBlock ∧ some k_ ≠ (.slice Ao46 t1383.length co46:Value).ownBlock ∧ some k_ ≠ (.slice Ao48 t1387.length co48:Value).ownBlock) (Kd.R_keptB (HO1395.out) hkp (fun k_ hk_ hs_=>(hk_.1.2) hs_)) (fun k_ hk_=>⟨hk_.1.1.1.1.2,hk_.1.1.1.2,hk_.1.1.2,hk_.1.2⟩));have n7_:=Aside0.mk (hb);clear BK1372;clear HO1377;clear HO1380;clear HO1385;clear BK1386;clear HO1389;clear HO1395;clear HB;have BK1372:=n0_;have HO1377:=n1_;have HO1380:=n2_;have HO1385:=n3_;have BK1386:=n4_;have HO1389:=n5_;have HO1395:=n6_;have HB:=n7_;clear n0_ n1_ n2_ n3_ n4_ n5_ n6_ n7_;(try clear hb);(try clear hkp);(try clear hy0))|(go_at_call 33;(with_reducible refine (laws_eqIntS.calls k _ _ t1387 _ _ t1378 true _ ?side1 ?side2 ?side3 ?side4 A20.out).mono ?_);(case side1=>repeat (first|exact (Kd.R_reads' HO1389.out).2.2|(with_reducible refine Kd.C_alloc ?_ _)|(with_reducible refine Kd.C_drewN ?_ _)|(with_reducible refine Kd.C_drew ?_)));(case side2=>exact (Kd.R_reads' HO1389.out).2.1);(case side3=>repeat (first|exact (Kd.R_reads' HO1380.out).2.2|(with_reducible refine Kd.C_alloc ?_ _)|(with_reducible refine Kd.C_drewN ?_ _)|(with_reducible refine Kd.C_drew ?_)));(case side4=>exact (Kd.R_reads' HO1380.out).2.1);rintro e w' ⟨rfl,⟨nd,rfl⟩⟩)|((with_reducible refine gate_callee (f:=34) rfl ?_);refine goesL_ (some 68) rfl rfl Try.func34 (by kernel_rfl) rfl #[.slice Ao48 t1387.length co48,.int .i64 1] rfl (by (try simp only [List.map_toArray,List.map_cons,List.map_nil]);first|done|rfl|(simp only [List.length_drop,List.length_take];rfl)) ?_;(with_reducible refine (laws_markIntS.calls k (fun k_=>some k_ = (.slice Ao48 t1387.length co48:Value).ownBlock) (.slice Ao48 t1387.length co48) t1387 1 t1400 t1401 w _ ?side1 ?side2 A22.out).mono ?_);(case side1=>repeat (first|(with_reducible first|exact HB.out|apply below_alloc|apply pw_below_drewN|apply below_drew1|refine below_set ?_ GE1372.out|refine below_set ?_ GE1386.out)|exact HB.out));(case side2=>exact Kd.R_tight rfl HO1389.out);rintro e w56 ⟨rfl,hy0,hb,hkp⟩;refine ⟨_,rfl,?_⟩;have n0_:=Aside0.mk (blk_kept (by (with_reducible repeat (first|refine blk_drewN ?_ _|refine blk_drew ?_|refine blk_alloc ?_ _));exact BK1372.out) hkp (fun hs_=>(fun e_=>(Kd.R_ne HO1389.out BK1372.out (by decide)) e_) hs_));have n1_:=Aside0.mk (Kd.R_mono (ok':=fun k_=>some k_ ≠ (.slice Ao49 t1378.length co49:Value).ownBlock ∧ some k_ ≠ (.slice Ao46 t1383.length co46:Value).ownBlock ∧ some k_ ≠ (.slice Ao48 t1387.length co48:Value).ownBlock ∧ some k_ ≠ (.slice Ao52 t1393.length co52:Value).ownBlock) (Kd.R_keptB (HO1377.out) hkp (fun k_ hk_ hs_=>(hk_.2.2.1) hs_)) (fun k_ hk_=>⟨hk_.1.1,hk_.1.2.1,hk_.1.2.2.1,hk_.1.2.2.2⟩));have n2_:=Aside0.mk (Kd.R_mono (ok':=fun k_=>some k_ ≠ (.slice Ao39 t1375.length co39:Value).ownBlock ∧ some k_ ≠ (.slice Ao46 t1383.length co46:Value).ownBlock ∧ some k_ ≠ (.slice Ao48 t1387.length co48:Value).ownBlock ∧ some k_ ≠ (.slice Ao52 t1393.length co52:Value).ownBlock) (Kd.R_keptB (HO1380.out) hkp (fun k_ hk_ hs_=>(hk_.2.2.1) hs_)) (fun k_ hk_=>⟨hk_.1.1,hk_.1.2.1,hk_.1.2.2.1,hk_.1.2.2.2⟩));have n3_:=Aside0.mk (Kd.R_mono (ok':=fun k_=>some k_ ≠ (.slice Ao39 t1375.length co39:Value).ownBlock ∧ some k_ ≠ (.slice Ao49 t1378.length co49:Value).ownBlock ∧ some k_ ≠ (.slice Ao48 t1387.length co48:Value).ownBlock ∧ some k_ ≠ (.slice Ao52 t1393.length co52:Value).ownBlock) (Kd.R_keptB (HO1385.out) hkp (fun k_ hk_ hs_=>(hk_.1.2.2) hs_)) (fun k_ hk_=>⟨hk_.1.1.1,hk_.1.1.2.1,hk_.1.1.2.2,hk_.1.2⟩));have n4_:=Aside0.mk (blk_kept (by (with_reducible repeat (first|refine blk_drewN ?_ _|refine blk_drew ?_|refine blk_alloc ?_ _));exact BK1386.out) hkp (fun hs_=>(fun e_=>(Kd.R_ne HO1389.out BK1386.out (by decide)) e_) hs_));have n5_:=Aside0.mk (Kd.R_reok rfl hy0 (fun k_ e_=>HO1389.out.1 k_ e_));have n6_:=Aside0.mk (Kd.R_mono (ok':=fun k_=>some k_ ≠ (.slice Ao39 t1375.length co39:Value).ownBlock ∧ some k_ ≠ (.slice Ao49 t1378.length co49:Value).ownBlock ∧ some k_ ≠ (.slice Ao46 t1383.length co46:Value).ownBlock ∧ some k_ ≠ (.slice Ao48 t1387.length co48:Value).ownBlock) (Kd.R_keptB (HO1395.out) hkp (fun k_ hk_ hs_=>(hk_.2.2.2) hs_)) (fun k_ hk_=>⟨hk_.1.1,hk_.1.2.1,hk_.1.2.2.1,hk_.1.2.2.2⟩));have n7_:=Aside0.mk (hb);clear BK1372;clear HO1377;clear HO1380;clear HO1385;clear BK1386;clear HO1389;clear HO1395;clear HB;have BK1372:=n0_;have HO1377:=n1_;have HO1380:=n2_;have HO1385:=n3_;have BK1386:=n4_;have HO1389:=n5_;have HO1395:=n6_;have HB:=n7_;clear n0_ n1_ n2_ n3_ n4_ n5_ n6_ n7_;(try clear hb);(try clear hkp);(try clear hy0))|((with_reducible refine gate_callee (f:=35) rfl ?_);refine goesL_ (some 71) rfl rfl Try.func35 (by kernel_rfl) rfl #[.slice Ao48 t1401.length co48,.int .i64 1] rfl (by (try simp only [List.map_toArray,List.map_cons,List.map_nil]);first|done|(rw [show t1401.length = t1387.length from (Kd.R_reads' HO1389.out).1.symm] <;> rfl)|rfl|(simp only [List.length_drop,List.length_take];rfl)) ?_;(with_reducible refine (laws_heldIntS.calls k _ _ t1401 1 t1402 _ ?side1 ?side2 A23.out).mono ?_);(case side1=>repeat (first|exact (Kd.R_reads' HO1389.out).2.2|(with_reducible refine Kd.C_alloc ?_ _)|(with_reducible refine Kd.C_drewN ?_ _)|(with_reducible refine Kd.C_drew ?_)));(case side2=>rw [show t1401.length = t1387.length from (Kd.R_reads' HO1389.out).1.symm];exact (Kd.R_reads' HO1389.out).2.1);rintro e w' ⟨rfl,⟨nd,rfl⟩⟩;refine ⟨_,rfl,?_⟩;have hcz57_0:w56.cell? ⟨gb1372,0,none⟩ = some (.int .i64 a0_0):=(blk_cell BK1372.out 0).trans rfl;have hcz57_1:w56.cell? ⟨gb1372,1,none⟩ = some (.slice A0_1 l0_1.length c0_1):=(blk_cell BK1372.out 1).trans rfl;have hfz57_0:=blk_frozen BK1372.out 0;have hfz57_1:=blk_frozen BK1372.out 1)|((with_reducible refine gate_callee (f:=17) rfl ?_);refine goesL_ (some 79) rfl rfl Try.func17 (by kernel_rfl) rfl #[.agg #[.int .i64 a0_0,.slice A0_1 l0_1.length c0_1]] rfl (by (try simp only [List.map_toArray,List.map_cons,List.map_nil]);first|done|rfl|(simp only [List.length_drop,List.length_take];rfl)) ?_;(with_reducible refine (laws_toCommittee.calls k a0_0 _ _ l0_1 t1403 t1404 _ ?side1 ?side2 A26.out).mono ?_);(case side1=>repeat (first|exact (Kd.C_below HR0_1.out (by repeat (first|(with_reducible first|exact HB.out|apply below_alloc|apply pw_below_drewN|apply below_drew1|refine below_set ?_ GE1372.out|refine below_set ?_ GE1386.out)|exact HB.out)))|(with_reducible refine Kd.C_alloc ?_ _)|(with_reducible refine Kd.C_drewN ?_ _)|(with_reducible refine Kd.C_drew ?_)));(case side2=>exact HC0_1.out);rintro e w58 ⟨v1405,rfl,ho0,hb⟩;refine ⟨_,rfl,?_⟩;have n0_:=Aside0.mk (Kd.R_elder' (by (with_reducible repeat (first|apply Kd.R_alloc|apply Kd.R_drewN|apply Kd.R_drew));exact HO1377.out) (Kd.R_base ho0) hb);have n1_:=Aside0.mk (Kd.R_elder' (by (with_reducible repeat (first|apply Kd.R_alloc|apply Kd.R_drewN|apply Kd.R_drew));exact HO1380.out) (Kd.R_base ho0) hb);have n2_:=Aside0.mk (Kd.R_elder' (by (with_reducible repeat (first|apply Kd.R_alloc|apply Kd.R_drewN|apply Kd.R_drew));exact HO1385.out) (Kd.R_base ho0) hb);have n3_:=Aside0.mk (Kd.R_elder' (by (with_reducible repeat (first|apply Kd.R_alloc|apply Kd.R_drewN|apply Kd.R_drew));exact HO1389.out) (Kd.R_base ho0) hb);have n4_:=Aside0.mk (Kd.R_elder' (by (with_reducible repeat (first|apply Kd.R_alloc|apply Kd.R_drewN|apply Kd.R_drew));exact HO1395.out) (Kd.R_base ho0) hb);have n5_:=Aside0.mk (Kd.R_lower (Kd.R_new' (Kd.R_new' (Kd.R_new' (Kd.R_new' (Kd.R_new' ho0 (Kd.R_lt (by (with_reducible repeat (first|apply Kd.R_alloc|apply Kd.R_drewN|apply Kd.R_drew));exact HO1377.out))) (Kd.R_lt (by (with_reducible repeat (first|apply Kd.R_alloc|apply Kd.R_drewN|apply Kd.R_drew));exact HO1380.out))) (Kd.R_lt (by (with_reducible repeat (first|apply Kd.R_alloc|apply Kd.R_drewN|apply Kd.R_drew));exact HO1385.out))) (Kd.R_lt (by (with_reducible repeat (first|apply Kd.R_alloc|apply Kd.R_drewN|apply Kd.R_drew));exact HO1389.out))) (Kd.R_lt (by (with_reducible repeat (first|apply Kd.R_alloc|apply Kd.R_drewN|apply Kd.R_drew));exact HO1395.out))) (below_size (by repeat (first|(with_reducible first|exact HB.out|apply below_alloc|apply pw_below_drewN|apply below_drew1|refine below_set ?_ GE1372.out|refine below_set ?_ GE1386.out)|exact HB.out))));have n6_:=Aside0.mk (blk_below (g:=gb1372) (o:=.cells #[.int .i64 a0_0,.slice A0_1 l0_1.length c0_1] 24 (0,0)) (by (with_reducible repeat (first|refine blk_drewN ?_ _|refine blk_drew ?_|refine blk_alloc ?_ _));exact BK1372.out) hb);have n7_:=Aside0.mk (blk_below (g:=gb1386) (o:=.cells #[.int .i64 t1382,.slice Ao46 t1383.length co46] 26 (0,0)) (by (with_reducible repeat (first|refine blk_drewN ?_ _|refine blk_drew ?_|refine blk_alloc ?_ _));exact BK1386.out) hb);have n8_:=Aside0.mk (below_step (by repeat (first|(with_reducible first|exact HB.out|apply below_alloc|apply pw_below_drewN|apply below_drew1|refine below_set ?_ GE1372.out|refine below_set ?_ GE1386.out)|exact HB.out)) hb);clear HO1377;clear HO1380;clear HO1385;clear HO1389;clear HO1395;clear BK1372;clear BK1386;clear HB;have HO1377:=n0_;have HO1380:=n1_;have HO1385:=n2_;have HO1389:=n3_;have HO1395:=n4_;have HO1406:=n5_;have BK1372:=n6_;have BK1386:=n7_;have HB:=n8_;clear n0_ n1_ n2_ n3_ n4_ n5_ n6_ n7_ n8_;(try clear hb);(try clear hb2);(try clear hk);(try clear hi);(try clear ho0);obtain ⟨Ao59,co59,eo59⟩:=Kd.R_slice HO1406.out;subst eo59)|((with_reducible refine gate_callee (f:=62) rfl ?_);refine goesL_ (some 81) rfl rfl Try.func62 (by kernel_rfl) rfl #[.agg #[.int .i64 t1403,.slice Ao59 t1404.length co59],.int .i64 a1] rfl (by (try simp only [List.map_toArray,List.map_cons,List.map_nil]);first|done|rfl|(simp only [List.length_drop,List.length_take];rfl)) ?_;(with_reducible refine (impl_BestPartners.calls k t1403 _ _ t1404 a1 t1407 t1410 _ ?side1 ?side2 A27.out).mono ?_);(case side1=>repeat (first|exact (Kd.R_reads' HO1406.out).2.2|(with_reducible refine Kd.C_alloc ?_ _)|(with_reducible refine Kd.C_drewN ?_ _)|(with_reducible refine Kd.C_drew ?_)));(case side2=>exact (Kd.R_reads' HO1406.out).2.1);rintro e w60 ⟨v1408,rfl,ho0,hb⟩;refine ⟨_,rfl,?_⟩;have n0_:=Aside0.mk (Kd.R_elder' (by (with_reducible repeat (first|apply Kd.R_alloc|apply Kd.R_drewN|apply Kd.R_drew));exact HO1377.out) (Kd.R_base ho0) hb);have n1_:=Aside0.mk (Kd.R_elder' (by (with_reducible repeat (first|apply Kd.R_alloc|apply Kd.R_drewN|apply Kd.R_drew));exact HO1380.out) (Kd.R_base ho0) hb);have n2_:=Aside0.mk (Kd.R_elder' (by (with_reducible repeat (first|apply Kd.R_alloc|apply Kd.R_drewN|apply Kd.R_drew));exact HO1385.out) (Kd.R_base ho0) hb);have n3_:=Aside0.mk (Kd.R_elder' (by (with_reducible repeat (first|apply Kd.R_alloc|apply Kd.R_drewN|apply Kd.R_drew));exact HO1389.out) (Kd.R_base ho0) hb);have n4_:=Aside0.mk (Kd.R_elder' (by (with_reducible repeat (first|apply Kd.R_alloc|apply Kd.R_drewN|apply Kd.R_drew));exact HO1395.out) (Kd.R_base ho0) hb);have n5_:=Aside0.mk (Kd.R_elder' (by (with_reducible repeat (first|apply Kd.R_alloc|apply Kd.R_drewN|apply Kd.R_drew));exact HO1406.out) (Kd.R_base ho0) hb);have n6_:=Aside0.mk (Kd.R_lower (Kd.R_new' (Kd.R_new' (Kd.R_new' (Kd.R_new' (Kd.R_new' (Kd.R_new' ho0 (Kd.R_lt (by (with_reducible repeat (first|apply Kd.R_alloc|apply Kd.R_drewN|apply Kd.R_drew));exact HO1377.out))) (Kd.R_lt (by (with_reducible repeat (first|apply Kd.R_alloc|apply Kd.R_drewN|apply Kd.R_drew));exact HO1380.out))) (Kd.R_lt (by (with_reducible repeat (first|apply Kd.R_alloc|apply Kd.R_drewN|apply Kd.R_drew));exact HO1385.out))) (Kd.R_lt (by (with_reducible repeat (first|apply Kd.R_alloc|apply Kd.R_drewN|apply Kd.R_drew));exact HO1389.out))) (Kd.R_lt (by (with_reducible repeat (first|apply Kd.R_alloc|apply Kd.R_drewN|apply Kd.R_drew));exact HO1395.out))) (Kd.R_lt (by (with_reducible repeat (first|apply Kd.R_alloc|apply Kd.R_drewN|apply Kd.R_drew));exact HO1406.out))) (below_size (by repeat (first|(with_reducible first|exact HB.out|apply below_alloc|apply pw_below_drewN|apply below_drew1|refine below_set ?_ GE1372.out|refine below_set ?_ GE1386.out)|exact HB.out))));have n7_:=Aside0.mk (blk_below (g:=gb1372) (o:=.cells #[.int .i64 a0_0,.slice A0_1 l0_1.length c0_1] 24 (0,0)) (by (with_reducible repeat (first|refine blk_drewN ?_ _|refine blk_drew ?_|refine blk_alloc ?_ _));exact BK1372.out) hb);have n8_:=Aside0.mk (blk_below (g:=gb1386) (o:=.cells #[.int .i64 t1382,.slice Ao46 t1383.length co46] 26 (0,0)) (by (with_reducible repeat (first|refine blk_drewN ?_ _|refine blk_drew ?_|refine blk_alloc ?_ _));exact BK1386.out) hb);have n9_:=Aside0.mk (below_step (by repeat (first|(with_reducible first|exact HB.out|apply below_alloc|apply pw_below_drewN|apply below_drew1|refine below_set ?_ GE1372.out|refine below_set ?_ GE1386.out)|exact HB.out)) hb);clear HO1377;clear HO1380;clear HO1385;clear HO1389;clear HO1395;clear HO1406;clear BK1372;clear BK1386;clear HB;have HO1377:=n0_;have HO1380:=n1_;have HO1385:=n2_;have HO1389:=n3_;have HO1395:=n4_;have HO1406:=n5_;have HO1409:=n6_;have BK1372:=n7_;have BK1386:=n8_;have HB:=n9_;clear n0_ n1_ n2_ n3_ n4_ n5_ n6_ n7_ n8_ n9_;(try clear hb);(try clear hb2);(try clear hk);(try clear hi);(try clear ho0);obtain ⟨Ao61,co61,eo61⟩:=Kd.R_slice HO1409.out;subst eo61)|((with_reducible refine gate_callee (f:=33) rfl ?_);refine goesL_ (some 86) rfl rfl Try.func33 (by kernel_rfl) rfl #[.slice Ao61 t1407.length co61,.slice Ao49 t1378.length co49] rfl (by (try simp only [List.map_toArray,List.map_cons,List.map_nil]);first|done|rfl|(simp only [List.length_drop,List.length_take];rfl)) ?_;(with_reducible refine (laws_eqIntS.calls k _ _ t1407 _ _ t1378 true _ ?side1 ?side2 ?side3 ?side4 A28.out).mono ?_);(case side1=>repeat (first|exact (Kd.R_reads' HO1409.out).2.2|(with_reducible refine Kd.C_alloc ?_ _)|(with_reducible refine Kd.C_drewN ?_ _)|(with_reducible refine Kd.C_drew ?_)));(case side2=>exact (Kd.R_reads' HO1409.out).2.1);(case side3=>repeat (first|exact (Kd.R_reads' HO1380.out).2.2|(with_reducible refine Kd.C_alloc ?_ _)|(with_reducible refine Kd.C_drewN ?_ _)|(with_reducible refine Kd.C_drew ?_)));(case side4=>exact (Kd.R_reads' HO1380.out).2.1);rintro e w' ⟨rfl,⟨nd,rfl⟩⟩;refine ⟨_,rfl,?_⟩)|((with_reducible refine gate_callee (f:=35) rfl ?_);refine goesL_ (some 95) rfl rfl Try.func35 (by kernel_rfl) rfl #[.slice Ao48 t1401.length co48,.int .i64 1] rfl (by (try simp only [List.map_toArray,List.map_cons,List.map_nil]);first|done|(rw [show t1401.length = t1387.length from (Kd.R_reads' HO1389.out).1.symm] <;> rfl)|rfl|(simp only [List.length_drop,List.length_take];rfl)) ?_;(with_reducible refine (laws_heldIntS.calls k _ _ t1401 1 t1412 _ ?side1 ?side2 A31.out).mono ?_);(case side1=>repeat (first|exact (Kd.R_reads' HO1389.out).2.2|(with_reducible refine Kd.C_alloc ?_ _)|(with_reducible refine Kd.C_drewN ?_ _)|(with_reducible refine Kd.C_drew ?_)));(case side2=>rw [show t1401.length = t1387.length from (Kd.R_reads' HO1389.out).1.symm];exact (Kd.R_reads' HO1389.out).2.1);rintro e w' ⟨rfl,⟨nd,rfl⟩⟩;refine ⟨_,rfl,?_⟩))
             go_ret
             exact ⟨by first|rfl|(simp [errW_none,errW_some] <;> rfl)|(simp [*,errW_none,errW_some] <;> rfl),by repeat (first|(with_reducible first|exact HB.out|apply below_alloc|apply pw_below_drewN|apply below_drew1|refine below_set ?_ GE1372.out|refine below_set ?_ GE1386.out)|exact HB.out)⟩
            ·rw [if_neg c33] at H
             have c33b0:(t1412 == t1400) = false:=beq_eq_false_iff_ne.mpr c33
             have c33b1:(t1412 != t1400) = true:=bne_iff_ne.mpr c33
             exact absurd (H.trans (congrArg some hr_.out)) (by simp)
         ·replace c29:=Bool.eq_false_iff.mpr c29
          subst c29
          have H1:(some false) = some r:=by rw [if_neg (show ¬ (false = true) by decide)] at H;exact H
          clear H
          have H:=H1
          clear H1
          exact absurd (H.trans (congrArg some hr_.out)) (by simp)
        ·rw [if_neg c25] at H
         have c25b0:(t1402 == t1400) = false:=beq_eq_false_iff_ne.mpr c25
         have c25b1:(t1402 != t1400) = true:=bne_iff_ne.mpr c25
         exact absurd (H.trans (congrArg some hr_.out)) (by simp)
      ·replace c21:=Bool.eq_false_iff.mpr c21
       subst c21
       have H1:(some false) = some r:=by rw [if_neg (show ¬ (false = true) by decide)] at H;exact H
       clear H
       have H:=H1
       clear H1
       exact absurd (H.trans (congrArg some hr_.out)) (by simp)
    ·replace c17:=Bool.eq_false_iff.mpr c17
     subst c17
     have H1:(some false) = some r:=by rw [if_neg (show ¬ (false = true) by decide)] at H;exact H
     clear H
     have H:=H1
     clear H1
     exact absurd (H.trans (congrArg some hr_.out)) (by simp)
  ·replace c13:=Bool.eq_false_iff.mpr c13
   subst c13
   have H1:(some false) = some r:=by rw [if_neg (show ¬ (false = true) by decide)] at H;exact H
   clear H
   have H:=H1
   clear H1
   exact absurd (H.trans (congrArg some hr_.out)) (by simp)


/-! ### impl_votes_swings: function 114 -/
mutual
def impl_votes_swings.l0:Nat → List Int → Int → Int → Int → List Bool → Option (List Int)
 | 0,_,_,_,_,_=>none
 | k + 1,x3,x10,x11,x893000,x893001=>if x11 < x10 then (impl_votes_swings.l1 k x3 x11 x10 x11 (x893001.length:Int) 0 x893000 x893001) else (some x3)
def impl_votes_swings.l1:Nat → List Int → Int → Int → Int → Int → Int → Int → List Bool → Option (List Int)
 | 0,_,_,_,_,_,_,_,_=>none
 | k + 1,x3,x4,x10,x11,x16,x17,x893000,x893001=>if x17 < x16 then ((impl_votes_isSwing.f x893000 x893001 x17 x4).bind fun t896=>(if t896 = true then (if 0 ≤ x4 then (if x4 < (x3.length:Int) then (impl_votes_swings.l1 k (x3.set (x4:Int).toNat (wrap64 ((rd x3 x4) + 1))) x4 x10 x11 x16 (wrap64 (x17 + 1)) x893000 x893001) else (none)) else (none)) else (impl_votes_swings.l1 k x3 x4 x10 x11 x16 (wrap64 (x17 + 1)) x893000 x893001))) else (impl_votes_swings.l0 k x3 x10 (wrap64 (x11 + 1)) x893000 x893001)
end
def impl_votes_swings.f (k:Nat) (a0_0:Int) (l0_1:List Bool):Option (List Int):=if 0 ≤ a0_0 then (if (a0_0:Int).toNat ≤ 35184372088832 then ((some (List.replicate (a0_0:Int).toNat 0:List Int)).bind fun y893=>(impl_votes_swings.l0 k y893 (y893.length:Int) 0 a0_0 l0_1)) else (none)) else (none)
theorem impl_votes_swings.mono_l:∀ k,(∀ y0 y1 y2 y3 y4,LeO (impl_votes_swings.l0 k y0 y1 y2 y3 y4) (impl_votes_swings.l0 (k + 1) y0 y1 y2 y3 y4)) ∧ (∀ y0 y1 y2 y3 y4 y5 y6 y7,LeO (impl_votes_swings.l1 k y0 y1 y2 y3 y4 y5 y6 y7) (impl_votes_swings.l1 (k + 1) y0 y1 y2 y3 y4 y5 y6 y7))
 | 0=>⟨fun _ _ _ _ _ r h=>by simp [impl_votes_swings.l0] at h,fun _ _ _ _ _ _ _ _ r h=>by simp [impl_votes_swings.l1] at h⟩
 | k + 1=>by
  obtain ⟨ih0,ih1⟩:=impl_votes_swings.mono_l k
  refine ⟨?_,?_⟩
  ·intro y0 y1 y2 y3 y4
   unfold impl_votes_swings.l0
   repeat' first
   | (with_reducible exact ih0 _ _ _ _ _)
   | (with_reducible exact ih1 _ _ _ _ _ _ _ _)
   | (with_reducible exact LeO.refl _)
   | (with_reducible exact LeO.none _)
   | (with_reducible refine LeO.ite ?_ ?_)
   | (with_reducible refine LeO.bind ?_ (fun _=>?_))
   | exact ih0 _ _ _ _ _
   | exact ih1 _ _ _ _ _ _ _ _
   | exact LeO.none _
   | refine LeO.ite ?_ ?_
   | refine LeO.bind ?_ (fun _=>?_)
  ·intro y0 y1 y2 y3 y4 y5 y6 y7
   unfold impl_votes_swings.l1
   repeat' first
   | (with_reducible exact ih0 _ _ _ _ _)
   | (with_reducible exact ih1 _ _ _ _ _ _ _ _)
   | (with_reducible exact LeO.refl _)
   | (with_reducible exact LeO.none _)
   | (with_reducible refine LeO.ite ?_ ?_)
   | (with_reducible refine LeO.bind ?_ (fun _=>?_))
   | exact ih0 _ _ _ _ _
   | exact ih1 _ _ _ _ _ _ _ _
   | exact LeO.none _
   | refine LeO.ite ?_ ?_
   | refine LeO.bind ?_ (fun _=>?_)
theorem impl_votes_swings.mono:∀ a0 a1 k,LeO (impl_votes_swings.f k a0 a1) (impl_votes_swings.f (k + 1) a0 a1):=by
 intro a0 a1 k
 obtain ⟨ih0,ih1⟩:=impl_votes_swings.mono_l k
 unfold impl_votes_swings.f
 repeat' first
   | (with_reducible exact ih0 _ _ _ _ _)
   | (with_reducible exact ih1 _ _ _ _ _ _ _ _)
   | (with_reducible exact LeO.refl _)
   | (with_reducible exact LeO.none _)
   | (with_reducible refine LeO.ite ?_ ?_)
   | (with_reducible refine LeO.bind ?_ (fun _=>?_))
   | exact ih0 _ _ _ _ _
   | exact ih1 _ _ _ _ _ _ _ _
   | exact LeO.none _
   | refine LeO.ite ?_ ?_
   | refine LeO.bind ?_ (fun _=>?_)
set_option maxHeartbeats 8000000 in
set_option maxRecDepth 100000 in
theorem impl_votes_swings.calls (k:Nat) (a0_0:Int) (A0_1:Option Addr) (c0_1:Nat) (l0_1:List Bool) (r:List Int) (w:World) (hr0_1:Kd.C Kd.bool w A0_1 l0_1.length l0_1) (hc0_1:l0_1.length ≤ c0_1) (h:impl_votes_swings.f k a0_0 l0_1 = some r) :
  Calls Try.prog 114 #[.agg #[.int .i64 a0_0,.slice A0_1 l0_1.length c0_1]] w fun e w'=>∃ v0_:Value,e = .returned (v0_) ∧ Kd.R (Kd.int .i64) 3 w' w.heap.size (fun _=>True) v0_ r ∧ Below w.heap.size w w':=by
 have hu94:=Try.underlying94
 have HR0_1:=Aside0.mk hr0_1
 have HC0_1:=Aside0.mk hc0_1
 clear hr0_1 hc0_1
 have HB:=Aside0.mk (Below.refl w.heap.size w)
 have H:(if 0 ≤ a0_0 then (if (a0_0:Int).toNat ≤ 35184372088832 then ((some (List.replicate (a0_0:Int).toNat 0:List Int)).bind fun y893=>(impl_votes_swings.l0 k y893 (y893.length:Int) 0 a0_0 l0_1)) else (none)) else (none)) = some r:=h
 clear h
 by_cases c2:0 ≤ a0_0
 ·rw [if_pos c2] at H
  have c2b0:=eq_true c2
  have c2b1:decide (0 ≤ a0_0) = true:=decide_eq_true c2
  clear c2
  by_cases c3:(a0_0:Int).toNat ≤ 35184372088832
  ·rw [if_pos c3] at H
   have c3b0:=eq_true c3
   have c3b1:decide ((a0_0:Int).toNat ≤ 35184372088832) = true:=decide_eq_true c3
   clear c3
   obtain ⟨y893,hy893⟩:∃ y_:List Int,y_ = (List.replicate (a0_0:Int).toNat 0):=⟨_,rfl⟩
   replace H:(impl_votes_swings.l0 k y893 (y893.length:Int) 0 a0_0 l0_1) = some r:=by first|(rw [hy893];with_reducible exact H)|(have H2_:=(Option.bind_some _ _).symm.trans H;rw [hy893];with_reducible exact H2_)|(have H2_:=(Option.bind_some _ _).symm.trans H;with_reducible exact H2_)|with_reducible exact H|(rw [hy893];exact H)|exact H
   have Ny893:=Aside0.mk hy893
   clear hy893
   have H':=Aside0.mk H
   clear H
   go_enter Try.func114,Try.ntmps114
   go_wp2_with (first|((with_reducible refine gate_dst (N:=1) rfl ?_);refine box_event ?hg (N:=1) ?hd (cs:=#[.int .i64 a0_0,.slice A0_1 l0_1.length c0_1]) (t:=94) ?hr ?_;(case hd=>rfl);(case hg=>rfl);(case hr=>first|(go_simp;done)|(go_simp;rfl));intro gb892 hg w4 hbox hb;have n0_:=Aside0.mk (below_step (by repeat (first|(with_reducible first|exact HB.out|apply below_alloc|apply pw_below_drewN|apply below_drew1)|exact HB.out)) hb);have n1_:=Aside0.mk (hbox);have n2_:=Aside0.mk ((by rw [hg];exact (below_size (by repeat (first|(with_reducible first|exact HB.out|apply below_alloc|apply pw_below_drewN|apply below_drew1)|exact HB.out))):w.heap.size ≤ gb892));have n3_:=Aside0.mk ((by rw [hg];exact (below_size (by repeat (first|(with_reducible first|exact HB.out|apply below_alloc|apply pw_below_drewN|apply below_drew1)|exact HB.out))):w.heap.size ≤ gb892));clear HB;have HB:=n0_;have BK892:=n1_;have GW892:=n2_;have GE892:=n3_;clear n0_ n1_ n2_ n3_;clear hb hbox hg;have hcz5_0:w4.cell? ⟨gb892,0,none⟩ = some (.int .i64 a0_0):=(blk_cell BK892.out 0).trans rfl;have hcz5_1:w4.cell? ⟨gb892,1,none⟩ = some (.slice A0_1 l0_1.length c0_1):=(blk_cell BK892.out 1).trans rfl;have hfz5_0:=blk_frozen BK892.out 0;have hfz5_1:=blk_frozen BK892.out 1)|((with_reducible refine gate_dst (N:=8) rfl ?_);refine Kd.R_make (Kd.int .i64) _ 3 rfl (N:=8) rfl 22 _ _ rfl a0_0 rfl rfl Try.underlying22 (.int .i64 0) 8 info3 rfl (by decide) (by omega) 0 (ok:=fun _=>True) (okp:=fun _=>True) rfl (fun _ hk=>hk) trivial (of_decide_eq_true (by first|(with_reducible assumption)|assumption)) (Nat.le_trans (Nat.mul_le_mul_right _ (of_decide_eq_true (by first|(with_reducible assumption)|assumption):a0_0.toNat ≤ 35184372088832)) (by omega)) (Below.refl _ _) (Nat.le_refl _) ?_;intro v894 w6 ho7 hb hg_ hnew_;clear hg_ hnew_;(first|rw [← Ny893.out] at ho7|(simp only [Int.reduceToNat] at ho7;rw [← Ny893.out] at ho7));have n0_:=Aside0.mk (Kd.R_lower ho7 (below_size (by repeat (first|(with_reducible first|exact HB.out|apply below_alloc|apply pw_below_drewN|apply below_drew1|refine below_set ?_ GE892.out)|exact HB.out))));have n1_:=Aside0.mk (blk_below (g:=gb892) (o:=.cells #[.int .i64 a0_0,.slice A0_1 l0_1.length c0_1] 94 (0,0)) (by (with_reducible repeat (first|refine blk_drewN ?_ _|refine blk_drew ?_|refine blk_alloc ?_ _));exact BK892.out) hb);have n2_:=Aside0.mk (below_step (by repeat (first|(with_reducible first|exact HB.out|apply below_alloc|apply pw_below_drewN|apply below_drew1|refine below_set ?_ GE892.out)|exact HB.out)) hb);clear BK892;clear HB;have HO895:=n0_;have BK892:=n1_;have HB:=n2_;clear n0_ n1_ n2_;clear hb ho7;obtain ⟨Ao8,co8,eo8⟩:=Kd.R_slice HO895.out;subst eo8))
   go_loopg [11] k (fun kq v11 w'=>∃ (x3_1:List Int) (x11_1:Int),v11 = .int .i64 x11_1 ∧ Aside0 (impl_votes_swings.l0 kq x3_1 (y893.length:Int) x11_1 a0_0 l0_1 = some r) ∧ Aside0 (kq ≤ k) ∧ Aside0 (Kd.R (Kd.int .i64) 3 w' w.heap.size (fun _=>True) (.slice Ao8 y893.length co8) x3_1) ∧ Aside0 (w'.heap[gb892]? = some (.cells #[.int .i64 a0_0,(.slice A0_1 l0_1.length c0_1)] 94 (0,0))) ∧ Aside0 (Below w.heap.size w w'))
   case atStart=>exact ⟨(y893),(0),(by first|rfl|(simp;done)|(simp [*];done)),H',⟨Nat.le_refl _⟩,⟨by (with_reducible repeat (first|apply Kd.R_alloc|apply Kd.R_drewN|apply Kd.R_drew));exact HO895.out⟩,⟨by (with_reducible repeat (first|refine blk_drewN ?_ _|refine blk_drew ?_|refine blk_alloc ?_ _));exact BK892.out⟩,⟨by repeat (first|(with_reducible first|exact HB.out|apply below_alloc|apply pw_below_drewN|apply below_drew1|refine below_set ?_ GE892.out)|exact HB.out)⟩⟩
   case round =>
    clear H'
    try clear c1
    try clear c2
    try clear c2b0
    try clear c2b1
    try clear p2
    try clear c3
    try clear c3b0
    try clear c3b1
    try clear hcz5_0
    try clear hcz5_1
    try clear hfz5_0
    try clear hfz5_1
    obtain ⟨x3_1,x11_1,rfl,HA,HK1,HO_3,BK892,HB⟩:=hrel
    have hl3_1:=(Kd.R_reads' HO_3.out).1
    rw [hl3_1] at HO_3
    (try simp only [hl3_1])
    (try simp only [hl3_1] at BK892)
    cases gk with
    | zero=>exact absurd HA.out (by simp [impl_votes_swings.l0])
    | succ k1 =>
     have H:=HA.out
     clear HA
     simp only [impl_votes_swings.l0] at H
     by_cases c9:x11_1 < (y893.length:Int)
     ·rw [if_pos c9] at H
      have c9b0:decide (x11_1 < (y893.length:Int)) = true:=decide_eq_true c9
      (try simp only [hl3_1] at c9b0)
      clear c9
      have H':=Aside0.mk H
      clear H
      have hcz10_0:wr.cell? ⟨gb892,0,none⟩ = some (.int .i64 a0_0):=(blk_cell BK892.out 0).trans rfl
      have hcz10_1:wr.cell? ⟨gb892,1,none⟩ = some (.slice A0_1 l0_1.length c0_1):=(blk_cell BK892.out 1).trans rfl
      have hfz10_0:=blk_frozen BK892.out 0
      have hfz10_1:=blk_frozen BK892.out 1
      go_wp2
      go_loopg [17] k1 (fun kq v17 w'=>∃ (x3_2:List Int) (x17_2:Int),v17 = .int .i64 x17_2 ∧ Aside0 (impl_votes_swings.l1 kq x3_2 x11_1 (y893.length:Int) x11_1 (l0_1.length:Int) x17_2 a0_0 l0_1 = some r) ∧ Aside0 (kq ≤ k1) ∧ Aside0 (Kd.R (Kd.int .i64) 3 w' w.heap.size (fun _=>True) (.slice Ao8 x3_1.length co8) x3_2) ∧ Aside0 (w'.heap[gb892]? = some (.cells #[.int .i64 a0_0,(.slice A0_1 l0_1.length c0_1)] 94 (0,0))) ∧ Aside0 (Below w.heap.size w w'))
      case atStart=>exact ⟨(x3_1),(0),(by first|rfl|(simp;done)|(simp [*];done)),H',⟨Nat.le_refl _⟩,⟨by (try simp only [hl3_1]);(with_reducible repeat (first|apply Kd.R_alloc|apply Kd.R_drewN|apply Kd.R_drew));exact HO_3.out⟩,⟨by (try simp only [hl3_1]);(with_reducible repeat (first|refine blk_drewN ?_ _|refine blk_drew ?_|refine blk_alloc ?_ _));exact BK892.out⟩,⟨by repeat (first|(with_reducible first|exact HB.out|apply below_alloc|apply pw_below_drewN|apply below_drew1|refine below_set ?_ GE892.out)|exact HB.out)⟩⟩
      case round =>
       clear H'
       try clear c1
       try clear c2
       try clear c2b0
       try clear c2b1
       try clear p2
       try clear c3
       try clear c3b0
       try clear c3b1
       try clear c9
       try clear c9b0
       try clear hcz10_0
       try clear hcz10_1
       try clear hcz5_0
       try clear hcz5_1
       try clear hfz10_0
       try clear hfz10_1
       try clear hfz5_0
       try clear hfz5_1
       try clear p2
       obtain ⟨x3_2,x17_2,rfl,HA,HK2,HO_3,BK892,HB⟩:=hrel
       have hl3_2:=(Kd.R_reads' HO_3.out).1
       rw [hl3_2] at HO_3
       (try simp only [hl3_2])
       (try simp only [hl3_2] at BK892)
       cases gk with
       | zero=>exact absurd HA.out (by simp [impl_votes_swings.l1])
       | succ k2 =>
        have H:=HA.out
        clear HA
        simp only [impl_votes_swings.l1] at H
        by_cases c11:x17_2 < (l0_1.length:Int)
        ·rw [if_pos c11] at H
         have c11b0:decide (x17_2 < (l0_1.length:Int)) = true:=decide_eq_true c11
         (try simp only [hl3_1,hl3_2] at c11b0)
         clear c11
         replace H:=Option.bind_eq_some_iff.mp H
         obtain ⟨t896,A120,H⟩:=H
         replace H:(if t896 = true then (if 0 ≤ x11_1 then (if x11_1 < (x3_2.length:Int) then (impl_votes_swings.l1 k2 (x3_2.set (x11_1:Int).toNat (wrap64 ((rd x3_2 x11_1) + 1))) x11_1 (y893.length:Int) x11_1 (l0_1.length:Int) (wrap64 (x17_2 + 1)) a0_0 l0_1) else (none)) else (none)) else (impl_votes_swings.l1 k2 x3_2 x11_1 (y893.length:Int) x11_1 (l0_1.length:Int) (wrap64 (x17_2 + 1)) a0_0 l0_1)) = some r:=H
         have A12:=Aside0.mk A120
         clear A120
         by_cases c13:t896 = true
         ·subst c13
          have H1:(if 0 ≤ x11_1 then (if x11_1 < (x3_2.length:Int) then (impl_votes_swings.l1 k2 (x3_2.set (x11_1:Int).toNat (wrap64 ((rd x3_2 x11_1) + 1))) x11_1 (y893.length:Int) x11_1 (l0_1.length:Int) (wrap64 (x17_2 + 1)) a0_0 l0_1) else (none)) else (none)) = some r:=by rw [if_pos rfl] at H;exact H
          clear H
          have H:=H1
          clear H1
          by_cases c14:0 ≤ x11_1
          ·rw [if_pos c14] at H
           have c14b0:decide (0 ≤ x11_1) = true:=decide_eq_true c14
           clear c14
           by_cases c15:x11_1 < (x3_2.length:Int)
           ·rw [if_pos c15] at H
            have c15b0:decide (x11_1 < (x3_2.length:Int)) = true:=decide_eq_true c15
            (try simp only [hl3_1,hl3_2] at c15b0)
            clear c15
            obtain ⟨y898,hy898⟩:∃ y_:List Int,y_ = (x3_2.set (x11_1:Int).toNat (wrap64 ((rd x3_2 x11_1) + 1))):=⟨_,rfl⟩
            replace H:(impl_votes_swings.l1 k2 y898 x11_1 (y893.length:Int) x11_1 (l0_1.length:Int) (wrap64 (x17_2 + 1)) a0_0 l0_1) = some r:=by first|(rw [hy898];with_reducible exact H)|(have H2_:=(Option.bind_some _ _).symm.trans H;rw [hy898];with_reducible exact H2_)|(have H2_:=(Option.bind_some _ _).symm.trans H;with_reducible exact H2_)|with_reducible exact H|(rw [hy898];exact H)|exact H
            have Ny898:=Aside0.mk hy898
            clear hy898
            have H':=Aside0.mk H
            clear H
            have hcz17_0:wr.cell? ⟨gb892,0,none⟩ = some (.int .i64 a0_0):=(blk_cell BK892.out 0).trans rfl
            have hcz17_1:wr.cell? ⟨gb892,1,none⟩ = some (.slice A0_1 l0_1.length c0_1):=(blk_cell BK892.out 1).trans rfl
            have hfz17_0:=blk_frozen BK892.out 0
            have hfz17_1:=blk_frozen BK892.out 1
            go_wp2_with (first|((with_reducible refine gate_callee (f:=161) rfl ?_);refine goesL_ (some 23) rfl rfl Try.func161 (by kernel_rfl) rfl #[.agg #[.int .i64 a0_0,.slice A0_1 l0_1.length c0_1],.int .i64 x17_2,.int .i64 x11_1] rfl (by (try simp only [List.map_toArray,List.map_cons,List.map_nil]);first|done|rfl|(simp only [List.length_drop,List.length_take];rfl)) ?_;(with_reducible refine (impl_votes_isSwing.calls a0_0 _ _ l0_1 x17_2 x11_1 true _ ?side1 ?side2 A12.out).mono ?_);(case side1=>repeat (first|exact (Kd.C_below HR0_1.out HB.out)|(with_reducible refine Kd.C_alloc ?_ _)|(with_reducible refine Kd.C_drewN ?_ _)|(with_reducible refine Kd.C_drew ?_)));(case side2=>exact HC0_1.out);rintro e w18 ⟨rfl,hb⟩;refine ⟨_,rfl,?_⟩;have n0_:=Aside0.mk (Kd.R_below (by (with_reducible repeat (first|apply Kd.R_alloc|apply Kd.R_drewN|apply Kd.R_drew));exact HO_3.out) hb);have n1_:=Aside0.mk (blk_below (g:=gb892) (o:=.cells #[.int .i64 a0_0,.slice A0_1 l0_1.length c0_1] 94 (0,0)) (by (with_reducible repeat (first|refine blk_drewN ?_ _|refine blk_drew ?_|refine blk_alloc ?_ _));exact BK892.out) hb);have n2_:=Aside0.mk (below_step (by repeat (first|(with_reducible first|exact HB.out|apply below_alloc|apply pw_below_drewN|apply below_drew1|refine below_set ?_ GE892.out)|exact HB.out)) hb);clear HO_3;clear BK892;clear HB;have HO_3:=n0_;have BK892:=n1_;have HB:=n2_;clear n0_ n1_ n2_;(try clear hb);(try clear hb2);(try clear hk);(try clear hi);have p897:0 ≤ (x11_1:Int):=of_decide_eq_true (by first|(with_reducible assumption)|assumption);have q897:x11_1 < (x3_2.length:Int):=of_decide_eq_true (by first|(with_reducible assumption)|assumption);obtain ⟨ad897,e897,hx897_0⟩:=Kd.at_int (Kd.R_reads' HO_3.out).2.2 x11_1 p897 q897;cases e897;replace p897:=eq_true p897;replace q897:=eq_true q897;have p16:0 ≤ (x11_1:Int):=of_decide_eq_true (by first|(with_reducible assumption)|assumption);have q16:(x11_1:Int) < ((x3_2.length:Int):Int):=of_decide_eq_true (by first|(with_reducible assumption)|assumption);obtain ⟨go16,co16,eo16,gb16,gl16,cl16,HG16⟩:=Kd.R_form HO_3.out (by omega);(first|cases eo16|(injection eo16 with ea_ en_ ec_;(first|subst ea_|(injection ea_ with ea_;subst ea_));subst ec_;clear en_));have GB16:=Aside0.mk gb16;have GG16:=Aside0.mk HG16;clear gb16 gl16 HG16;(first|simp only [add_plain] at hx897_0|skip);obtain ⟨hx16_0,hf16_0⟩:=Kd.R_celln 0 HO_3.out (x11_1:Int) p16 q16;replace p16:=eq_true p16;replace q16:=eq_true q16;obtain ⟨hy19_,hz19_⟩:=Kd.R_celln 0 HO_3.out (x11_1:Int) (of_decide_eq_true (by first|(with_reducible assumption)|assumption)) (of_decide_eq_true (by first|(with_reducible assumption)|assumption));have HP19:=Kd.R_putg HO_3.out (x11_1:Int) (wrap64 ((rd x3_2 x11_1) + 1)))|((with_reducible refine gate_store (t:=3) (p:=29) rfl ?_);refine store_event (t:=3) (p:=29) (v:=?vo_w20) (w1:=(w18.setCell ⟨go16,(x11_1:Int).toNat,none⟩ (.int .i64 (wrap64 ((rd x3_2 x11_1) + 1))))) ?hg ?ho ?hn ?hr ?_;(case ho=>rfl);(case hg=>rfl);(case hn=>rfl);(case hr=>first|(go_simp;done)|(go_simp;rfl));intro w20 hw;have hg:w18.grownBy w20 (some go16):=(by rw [hw];exact HP19.2);have hp_:Kd.R (Kd.int .i64) 3 w20 w.heap.size (fun _=>True) (.slice (some ⟨go16,0,none⟩) x3_2.length co8) y898:=(by rw [hw,Ny898.out];exact HP19.1);clear HP19;have n0_:=Aside0.mk (hp_);have n1_:=Aside0.mk (blk_grown (g:=gb892) (o:=.cells #[.int .i64 a0_0,.slice A0_1 l0_1.length c0_1] 94 (0,0)) (by (with_reducible repeat (first|refine blk_drewN ?_ _|refine blk_drew ?_|refine blk_alloc ?_ _));exact BK892.out) hg (Kd.R_ne HO_3.out BK892.out (by decide)));have n2_:=Aside0.mk ((by rw [hw];exact below_set (HB.out) GB16.out:Below w.heap.size w w20));clear HO_3;clear BK892;clear HB;have HO_3:=n0_;have BK892:=n1_;have HB:=n2_;clear n0_ n1_ n2_;clear hg hw hp_))
            (try simp only [← hl3_2])
            go_roundg k2
            case measure=>have:=HK1.out;have:=HK2.out;omega
            case rel=>exact ⟨(y898),(wrap64 (x17_2 + 1)),(by first|rfl|(simp;done)|(simp [*];done)),H',⟨by have:=HK1.out;have:=HK2.out;omega⟩,⟨by (try simp only [hl3_1]);(try simp only [hl3_2]);(with_reducible repeat (first|apply Kd.R_alloc|apply Kd.R_drewN|apply Kd.R_drew));exact HO_3.out⟩,⟨by (try simp only [hl3_1]);(try simp only [hl3_2]);(with_reducible repeat (first|refine blk_drewN ?_ _|refine blk_drew ?_|refine blk_alloc ?_ _));exact BK892.out⟩,⟨by repeat (first|(with_reducible first|exact HB.out|apply below_alloc|apply pw_below_drewN|apply below_drew1|refine below_set ?_ GE892.out)|exact HB.out)⟩⟩
           ·rw [if_neg c15] at H
            exact absurd H (by simp)
          ·rw [if_neg c14] at H
           exact absurd H (by simp)
         ·replace c13:=Bool.eq_false_iff.mpr c13
          subst c13
          have H1:(impl_votes_swings.l1 k2 x3_2 x11_1 (y893.length:Int) x11_1 (l0_1.length:Int) (wrap64 (x17_2 + 1)) a0_0 l0_1) = some r:=by rw [if_neg (show ¬ (false = true) by decide)] at H;exact H
          clear H
          have H:=H1
          clear H1
          have H':=Aside0.mk H
          clear H
          have hcz21_0:wr.cell? ⟨gb892,0,none⟩ = some (.int .i64 a0_0):=(blk_cell BK892.out 0).trans rfl
          have hcz21_1:wr.cell? ⟨gb892,1,none⟩ = some (.slice A0_1 l0_1.length c0_1):=(blk_cell BK892.out 1).trans rfl
          have hfz21_0:=blk_frozen BK892.out 0
          have hfz21_1:=blk_frozen BK892.out 1
          go_wp2_with (first|((with_reducible refine gate_callee (f:=161) rfl ?_);refine goesL_ (some 23) rfl rfl Try.func161 (by kernel_rfl) rfl #[.agg #[.int .i64 a0_0,.slice A0_1 l0_1.length c0_1],.int .i64 x17_2,.int .i64 x11_1] rfl (by (try simp only [List.map_toArray,List.map_cons,List.map_nil]);first|done|rfl|(simp only [List.length_drop,List.length_take];rfl)) ?_;(with_reducible refine (impl_votes_isSwing.calls a0_0 _ _ l0_1 x17_2 x11_1 false _ ?side1 ?side2 A12.out).mono ?_);(case side1=>repeat (first|exact (Kd.C_below HR0_1.out HB.out)|(with_reducible refine Kd.C_alloc ?_ _)|(with_reducible refine Kd.C_drewN ?_ _)|(with_reducible refine Kd.C_drew ?_)));(case side2=>exact HC0_1.out);rintro e w22 ⟨rfl,hb⟩;refine ⟨_,rfl,?_⟩;have n0_:=Aside0.mk (Kd.R_below (by (with_reducible repeat (first|apply Kd.R_alloc|apply Kd.R_drewN|apply Kd.R_drew));exact HO_3.out) hb);have n1_:=Aside0.mk (blk_below (g:=gb892) (o:=.cells #[.int .i64 a0_0,.slice A0_1 l0_1.length c0_1] 94 (0,0)) (by (with_reducible repeat (first|refine blk_drewN ?_ _|refine blk_drew ?_|refine blk_alloc ?_ _));exact BK892.out) hb);have n2_:=Aside0.mk (below_step (by repeat (first|(with_reducible first|exact HB.out|apply below_alloc|apply pw_below_drewN|apply below_drew1|refine below_set ?_ GE892.out)|exact HB.out)) hb);clear HO_3;clear BK892;clear HB;have HO_3:=n0_;have BK892:=n1_;have HB:=n2_;clear n0_ n1_ n2_;(try clear hb);(try clear hb2);(try clear hk);(try clear hi)))
          (try simp only [← hl3_2])
          go_roundg k2
          case measure=>have:=HK1.out;have:=HK2.out;omega
          case rel=>exact ⟨(x3_2),(wrap64 (x17_2 + 1)),(by first|rfl|(simp;done)|(simp [*];done)),H',⟨by have:=HK1.out;have:=HK2.out;omega⟩,⟨by (try simp only [hl3_1]);(try simp only [hl3_2]);(with_reducible repeat (first|apply Kd.R_alloc|apply Kd.R_drewN|apply Kd.R_drew));exact HO_3.out⟩,⟨by (try simp only [hl3_1]);(try simp only [hl3_2]);(with_reducible repeat (first|refine blk_drewN ?_ _|refine blk_drew ?_|refine blk_alloc ?_ _));exact BK892.out⟩,⟨by repeat (first|(with_reducible first|exact HB.out|apply below_alloc|apply pw_below_drewN|apply below_drew1|refine below_set ?_ GE892.out)|exact HB.out)⟩⟩
        ·rw [if_neg c11] at H
         have c11b0:decide (x17_2 < (l0_1.length:Int)) = false:=decide_eq_false c11
         (try simp only [hl3_1,hl3_2] at c11b0)
         clear c11
         have H':=Aside0.mk H
         clear H
         go_wp2
         (try simp only [← hl3_1,← hl3_2])
         go_roundg k2
         case measure=>have:=HK1.out;have:=HK2.out;omega
         case rel=>exact ⟨(x3_2),(wrap64 (x11_1 + 1)),(by first|rfl|(simp;done)|(simp [*];done)),H',⟨by have:=HK1.out;have:=HK2.out;omega⟩,⟨by (try simp only [hl3_1]);(try simp only [hl3_2]);(with_reducible repeat (first|apply Kd.R_alloc|apply Kd.R_drewN|apply Kd.R_drew));exact HO_3.out⟩,⟨by (try simp only [hl3_1]);(try simp only [hl3_2]);(with_reducible repeat (first|refine blk_drewN ?_ _|refine blk_drew ?_|refine blk_alloc ?_ _));exact BK892.out⟩,⟨by repeat (first|(with_reducible first|exact HB.out|apply below_alloc|apply pw_below_drewN|apply below_drew1|refine below_set ?_ GE892.out)|exact HB.out)⟩⟩
     ·rw [if_neg c9] at H
      have c9b0:decide (x11_1 < (y893.length:Int)) = false:=decide_eq_false c9
      (try simp only [hl3_1] at c9b0)
      clear c9
      obtain rfl:=Option.some.inj H
      go_wp2
      go_ret
      exact ⟨_,by first|rfl|(simp [errW_none,errW_some] <;> rfl)|(simp [*,errW_none,errW_some] <;> rfl),by (with_reducible repeat (first|apply Kd.R_alloc|apply Kd.R_drewN|apply Kd.R_drew));exact HO_3.out,by repeat (first|(with_reducible first|exact HB.out|apply below_alloc|apply pw_below_drewN|apply below_drew1|refine below_set ?_ GE892.out)|exact HB.out)⟩
  ·rw [if_neg c3] at H
   exact absurd H (by simp)
 ·rw [if_neg c2] at H
  exact absurd H (by simp)


/-! ### spec_pwCounts: function 109 -/
def spec_pwCounts.l0:Nat → List Bool → Int → List Int → Int → Option (List Int)
 | 0,_,_,_,_=>none
 | k + 1,x0,x1,x5,x6=>if x6 < x1 then ((spec_pwSwings.f k x0 x6).bind fun t832=>(if x5.length < 17592186044416 then (spec_pwCounts.l0 k x0 x1 (x5 ++ [(t832.length:Int)]) (wrap64 (x6 + 1))) else (none))) else (some x5)
def spec_pwCounts.f (k:Nat) (l0:List Bool) (a1:Int):Option (List Int):=spec_pwCounts.l0 k l0 a1 ([]:List Int) 0
theorem spec_pwCounts.mono_l:∀ k,(∀ y0 y1 y2 y3,LeO (spec_pwCounts.l0 k y0 y1 y2 y3) (spec_pwCounts.l0 (k + 1) y0 y1 y2 y3))
 | 0=>fun _ _ _ _ r h=>by simp [spec_pwCounts.l0] at h
 | k + 1=>by
  have ih0:=spec_pwCounts.mono_l k
  ·intro y0 y1 y2 y3
   unfold spec_pwCounts.l0
   repeat' first
   | (with_reducible exact ih0 _ _ _ _)
   | (with_reducible exact spec_pwSwings.mono _ _ _)
   | (with_reducible exact LeO.refl _)
   | (with_reducible exact LeO.none _)
   | (with_reducible refine LeO.ite ?_ ?_)
   | (with_reducible refine LeO.bind ?_ (fun _=>?_))
   | exact ih0 _ _ _ _
   | exact spec_pwSwings.mono _ _ _
   | exact LeO.none _
   | refine LeO.ite ?_ ?_
   | refine LeO.bind ?_ (fun _=>?_)
theorem spec_pwCounts.mono:∀ a0 a1 k,LeO (spec_pwCounts.f k a0 a1) (spec_pwCounts.f (k + 1) a0 a1):=by
 intro a0 a1 k
 have ih0:=spec_pwCounts.mono_l k
 unfold spec_pwCounts.f
 repeat' first
   | (with_reducible exact ih0 _ _ _ _)
   | (with_reducible exact spec_pwSwings.mono _ _ _)
   | (with_reducible exact LeO.refl _)
   | (with_reducible exact LeO.none _)
   | (with_reducible refine LeO.ite ?_ ?_)
   | (with_reducible refine LeO.bind ?_ (fun _=>?_))
   | exact ih0 _ _ _ _
   | exact spec_pwSwings.mono _ _ _
   | exact LeO.none _
   | refine LeO.ite ?_ ?_
   | refine LeO.bind ?_ (fun _=>?_)
set_option maxHeartbeats 8000000 in
set_option maxRecDepth 100000 in
theorem spec_pwCounts.calls (k:Nat) (A0:Option Addr) (c0:Nat) (l0:List Bool) (a1:Int) (r:List Int) (w:World) (hr0:Kd.C Kd.bool w A0 l0.length l0) (hc0:l0.length ≤ c0) (h:spec_pwCounts.f k l0 a1 = some r) :
  Calls Try.prog 109 #[.slice A0 l0.length c0,.int .i64 a1] w fun e w'=>∃ v0_:Value,e = .returned (v0_) ∧ Kd.R (Kd.int .i64) 3 w' w.heap.size (fun _=>True) v0_ r ∧ Below w.heap.size w w':=by
 have HR0:=Aside0.mk hr0
 have HC0:=Aside0.mk hc0
 clear hr0 hc0
 have HB:=Aside0.mk (Below.refl w.heap.size w)
 have H:(spec_pwCounts.l0 k l0 a1 ([]:List Int) 0) = some r:=h
 clear h
 have H':=Aside0.mk H
 clear H
 go_enter Try.func109,Try.ntmps109
 go_wp2
 go_loopg [5,6] k (fun kq v5 v6 w'=>∃ (x5_1:List Int) (x6_1:Int),v6 = .int .i64 x6_1 ∧ Aside0 (spec_pwCounts.l0 kq l0 a1 x5_1 x6_1 = some r) ∧ Aside0 (kq ≤ k) ∧ Aside0 (Kd.R (Kd.int .i64) 3 w' w.heap.size (fun _=>True) v5 x5_1) ∧ Aside0 (Below w.heap.size w w'))
 case atStart=>exact ⟨(([]:List Int)),(0),(by first|rfl|(simp;done)|(simp [*];done)),H',⟨Nat.le_refl _⟩,⟨by first|exact Kd.R_nil _ _ _ _ _|exact Kd.N_nil _ _ _ _ _|exact Kd.V_nil _ _ _ _ _|exact Kd.Q_nil _ _ _ _ _|exact Kd.S_nil _ _ _ _ _⟩,⟨by repeat (first|(with_reducible first|exact HB.out|apply below_alloc|apply pw_below_drewN|apply below_drew1)|exact HB.out)⟩⟩
 case round =>
  clear H'
  try clear c1
  try clear p2
  obtain ⟨x5_1,x6_1,rfl,HA,HK1,HO_5,HB⟩:=hrel
  cases gk with
  | zero=>exact absurd HA.out (by simp [spec_pwCounts.l0])
  | succ k1 =>
   have H:=HA.out
   clear HA
   simp only [spec_pwCounts.l0] at H
   by_cases c3:x6_1 < a1
   ·rw [if_pos c3] at H
    have c3b0:decide (x6_1 < a1) = true:=decide_eq_true c3
    clear c3
    replace H:=Option.bind_eq_some_iff.mp H
    obtain ⟨t832,A40,H⟩:=H
    replace H:(if x5_1.length < 17592186044416 then (spec_pwCounts.l0 k1 l0 a1 (x5_1 ++ [(t832.length:Int)]) (wrap64 (x6_1 + 1))) else (none)) = some r:=H
    have A4:=Aside0.mk A40
    clear A40
    by_cases c5:x5_1.length < 17592186044416
    ·rw [if_pos c5] at H
     have LMc5:=Aside0.mk c5
     clear c5
     obtain ⟨y835,hy835⟩:∃ y_:List Int,y_ = (x5_1 ++ [(t832.length:Int)]):=⟨_,rfl⟩
     replace H:(spec_pwCounts.l0 k1 l0 a1 y835 (wrap64 (x6_1 + 1))) = some r:=by first|(rw [hy835];with_reducible exact H)|(have H2_:=(Option.bind_some _ _).symm.trans H;rw [hy835];with_reducible exact H2_)|(have H2_:=(Option.bind_some _ _).symm.trans H;with_reducible exact H2_)|with_reducible exact H|(rw [hy835];exact H)|exact H
     have Ny835:=Aside0.mk hy835
     clear hy835
     have H':=Aside0.mk H
     clear H
     go_wp2_with (first|((with_reducible refine gate_callee (f:=173) rfl ?_);refine goesL_ (some 15) rfl rfl Try.func173 (by kernel_rfl) rfl #[.slice A0 l0.length c0,.int .i64 x6_1] rfl (by (try simp only [List.map_toArray,List.map_cons,List.map_nil]);first|done|rfl|(simp only [List.length_drop,List.length_take];rfl)) ?_;(with_reducible refine (spec_pwSwings.calls k1 _ _ l0 x6_1 t832 _ ?side1 ?side2 A4.out).mono ?_);(case side1=>repeat (first|exact (Kd.C_below HR0.out HB.out)|(with_reducible refine Kd.C_alloc ?_ _)|(with_reducible refine Kd.C_drewN ?_ _)|(with_reducible refine Kd.C_drew ?_)));(case side2=>exact HC0.out);rintro e w6 ⟨v833,rfl,ho0,hb⟩;refine ⟨_,rfl,?_⟩;have n0_:=Aside0.mk (Kd.R_elder' (by (with_reducible repeat (first|apply Kd.R_alloc|apply Kd.R_drewN|apply Kd.R_drew));exact HO_5.out) (Kd.R_base ho0) hb);have n1_:=Aside0.mk (Kd.R_lower (Kd.R_new' ho0 (Kd.R_lt (by (with_reducible repeat (first|apply Kd.R_alloc|apply Kd.R_drewN|apply Kd.R_drew));exact HO_5.out))) (below_size (by repeat (first|(with_reducible first|exact HB.out|apply below_alloc|apply pw_below_drewN|apply below_drew1)|exact HB.out))));have n2_:=Aside0.mk (below_step (by repeat (first|(with_reducible first|exact HB.out|apply below_alloc|apply pw_below_drewN|apply below_drew1)|exact HB.out)) hb);clear HO_5;clear HB;have HO_5:=n0_;have HO834:=n1_;have HB:=n2_;clear n0_ n1_ n2_;(try clear hb);(try clear hb2);(try clear hk);(try clear hi);(try clear ho0);obtain ⟨Ao7,co7,eo7⟩:=Kd.R_slice HO834.out;subst eo7)|((with_reducible refine gate_builtin (b:=.append) (xs:=#[.tmp 12,.tmp 17]) rfl ?_);at_builtin;refine Kd.R_append (Kd.int .i64) (w0:=w) w.heap.size rfl (.tmp 12) (.tmp 17) 22 3 (.int .i64 0) 8 rfl Try.underlying22 info3 rfl (by decide) (by omega) u5 x5_1 (t832.length:Int) [.int .i64 (t832.length:Int)] (fun k_=>some k_ ≠ (.slice Ao7 t832.length co7:Value).ownBlock) (fun _=>False) rfl rfl ?aP (fun _ hk=>hk.elim) ?aF ?aO ?aB ?aS ?aL ?_;(case aP=>exact rfl);(case aB=>exact (by repeat (first|(with_reducible first|exact HB.out|apply below_alloc|apply pw_below_drewN|apply below_drew1)|exact HB.out)));(case aF=>exact (fun k_ hk=>Kd.fresh' (Kd.R_lt (by (with_reducible repeat (first|apply Kd.R_alloc|apply Kd.R_drewN|apply Kd.R_drew));exact HO834.out)) k_ hk));(case aO=>exact (by (with_reducible repeat (first|apply Kd.R_alloc|apply Kd.R_drewN|apply Kd.R_drew));exact Kd.R_mono HO_5.out (fun _ hk=>hk.2)));(case aS=>exact (below_size (by repeat (first|(with_reducible first|exact HB.out|apply below_alloc|apply pw_below_drewN|apply below_drew1)|exact HB.out))));(case aL=>have:=LMc5.out;omega);intro v836 w8 ho hb hg hat;rw [← Ny835.out] at ho;have n0_:=Aside0.mk (Kd.R_after (ok:=(fun _=>True)) (by (with_reducible repeat (first|apply Kd.R_alloc|apply Kd.R_drewN|apply Kd.R_drew));exact HO834.out) hg hat);have n1_:=Aside0.mk (hb);have n2_:=Aside0.mk (ho);clear HO834;clear HB;clear HO_5;have HO834:=n0_;have HB:=n1_;have HO837:=n2_;clear n0_ n1_ n2_;clear ho hb hg hat))
     go_roundg k1
     case measure=>have:=HK1.out;omega
     case rel=>exact ⟨(y835),(wrap64 (x6_1 + 1)),(by first|rfl|(simp;done)|(simp [*];done)),H',⟨by have:=HK1.out;omega⟩,⟨by (with_reducible repeat (first|apply Kd.R_alloc|apply Kd.R_drewN|apply Kd.R_drew));exact Kd.R_mono HO837.out (fun _ hk=>trivial)⟩,⟨by repeat (first|(with_reducible first|exact HB.out|apply below_alloc|apply pw_below_drewN|apply below_drew1)|exact HB.out)⟩⟩
    ·rw [if_neg c5] at H
     exact absurd H (by simp)
   ·rw [if_neg c3] at H
    have c3b0:decide (x6_1 < a1) = false:=decide_eq_false c3
    clear c3
    obtain rfl:=Option.some.inj H
    go_wp2
    go_ret
    exact ⟨_,by first|rfl|(simp [errW_none,errW_some] <;> rfl)|(simp [*,errW_none,errW_some] <;> rfl),by (with_reducible repeat (first|apply Kd.R_alloc|apply Kd.R_drewN|apply Kd.R_drew));exact HO_5.out,by repeat (first|(with_reducible first|exact HB.out|apply below_alloc|apply pw_below_drewN|apply below_drew1)|exact HB.out)⟩


/-! ### cmp_isNaN_int: function 202 -/
def cmp_isNaN_int.f (a0:Int):Option (Bool):=some (a0 != a0)
set_option maxHeartbeats 8000000 in
set_option maxRecDepth 100000 in
theorem cmp_isNaN_int.calls (a0:Int) (r:Bool) (w:World) (h:cmp_isNaN_int.f a0 = some r) :
  Calls Try.prog 202 #[.int .i64 a0] w fun e w'=>e = .returned (.bool r) ∧ Drawn0 w w':=by
 have H:(some (a0 != a0)) = some r:=h
 clear h
 obtain rfl:=Option.some.inj H
 go_enter Try.func202,Try.ntmps202
 go_wp2
 go_ret
 exact ⟨by first|rfl|(simp;done)|(simp [*];done),by repeat (first|exact Drawn0.refl _|apply Drawn0.step)⟩


/-! ### cmp_Compare_int: function 179 -/
def cmp_Compare_int.f (a0:Int) (a1:Int):Option (Int):=(cmp_isNaN_int.f a0).bind fun t710=>((cmp_isNaN_int.f a1).bind fun t711=>(if t710 = true then (if t711 = true then (some 0) else (some (-1))) else (if t711 = true then (some 1) else (if a0 < a1 then (some (-1)) else (if a0 > a1 then (some 1) else (some 0))))))
set_option maxHeartbeats 8000000 in
set_option maxRecDepth 100000 in
theorem cmp_Compare_int.calls (a0:Int) (a1:Int) (r:Int) (w:World) (h:cmp_Compare_int.f a0 a1 = some r) :
  Calls Try.prog 179 #[.int .i64 a0,.int .i64 a1] w fun e w'=>e = .returned (.int .i64 r) ∧ Drawn0 w w':=by
 have H:((cmp_isNaN_int.f a0).bind fun t710=>((cmp_isNaN_int.f a1).bind fun t711=>(if t710 = true then (if t711 = true then (some 0) else (some (-1))) else (if t711 = true then (some 1) else (if a0 < a1 then (some (-1)) else (if a0 > a1 then (some 1) else (some 0))))))) = some r:=h
 clear h
 replace H:=Option.bind_eq_some_iff.mp H
 obtain ⟨t710,A30,H⟩:=H
 replace H:((cmp_isNaN_int.f a1).bind fun t711=>(if t710 = true then (if t711 = true then (some 0) else (some (-1))) else (if t711 = true then (some 1) else (if a0 < a1 then (some (-1)) else (if a0 > a1 then (some 1) else (some 0)))))) = some r:=H
 have A3:=Aside0.mk A30
 clear A30
 replace H:=Option.bind_eq_some_iff.mp H
 obtain ⟨t711,A40,H⟩:=H
 replace H:(if t710 = true then (if t711 = true then (some 0) else (some (-1))) else (if t711 = true then (some 1) else (if a0 < a1 then (some (-1)) else (if a0 > a1 then (some 1) else (some 0))))) = some r:=H
 have A4:=Aside0.mk A40
 clear A40
 by_cases c5:t710 = true
 ·subst c5
  have H1:(if t711 = true then (some 0) else (some (-1))) = some r:=by rw [if_pos rfl] at H;exact H
  clear H
  have H:=H1
  clear H1
  by_cases c6:t711 = true
  ·subst c6
   have H1:(some 0) = some r:=by rw [if_pos rfl] at H;exact H
   clear H
   have H:=H1
   clear H1
   obtain rfl:=Option.some.inj H
   go_enter Try.func179,Try.ntmps179
   go_wp2_with (first|((with_reducible refine gate_callee (f:=202) rfl ?_);refine goesL_ (some 8) rfl rfl Try.func202 (by kernel_rfl) rfl #[.int .i64 a0] rfl (by (try simp only [List.map_toArray,List.map_cons,List.map_nil]);first|done|rfl|(simp only [List.length_drop,List.length_take];rfl)) ?_;(with_reducible refine (cmp_isNaN_int.calls a0 true _ A3.out).mono ?_);rintro e w' ⟨rfl,⟨nd,rfl⟩⟩;refine ⟨_,rfl,?_⟩)|((with_reducible refine gate_callee (f:=202) rfl ?_);refine goesL_ (some 10) rfl rfl Try.func202 (by kernel_rfl) rfl #[.int .i64 a1] rfl (by (try simp only [List.map_toArray,List.map_cons,List.map_nil]);first|done|rfl|(simp only [List.length_drop,List.length_take];rfl)) ?_;(with_reducible refine (cmp_isNaN_int.calls a1 true _ A4.out).mono ?_);rintro e w' ⟨rfl,⟨nd,rfl⟩⟩;refine ⟨_,rfl,?_⟩))
   go_ret
   exact ⟨by first|rfl|(simp;done)|(simp [*];done),by repeat (first|exact Drawn0.refl _|apply Drawn0.step)⟩
  ·replace c6:=Bool.eq_false_iff.mpr c6
   subst c6
   have H1:(some (-1)) = some r:=by rw [if_neg (show ¬ (false = true) by decide)] at H;exact H
   clear H
   have H:=H1
   clear H1
   obtain rfl:=Option.some.inj H
   go_enter Try.func179,Try.ntmps179
   go_wp2_with (first|((with_reducible refine gate_callee (f:=202) rfl ?_);refine goesL_ (some 8) rfl rfl Try.func202 (by kernel_rfl) rfl #[.int .i64 a0] rfl (by (try simp only [List.map_toArray,List.map_cons,List.map_nil]);first|done|rfl|(simp only [List.length_drop,List.length_take];rfl)) ?_;(with_reducible refine (cmp_isNaN_int.calls a0 true _ A3.out).mono ?_);rintro e w' ⟨rfl,⟨nd,rfl⟩⟩;refine ⟨_,rfl,?_⟩)|((with_reducible refine gate_callee (f:=202) rfl ?_);refine goesL_ (some 10) rfl rfl Try.func202 (by kernel_rfl) rfl #[.int .i64 a1] rfl (by (try simp only [List.map_toArray,List.map_cons,List.map_nil]);first|done|rfl|(simp only [List.length_drop,List.length_take];rfl)) ?_;(with_reducible refine (cmp_isNaN_int.calls a1 false _ A4.out).mono ?_);rintro e w' ⟨rfl,⟨nd,rfl⟩⟩;refine ⟨_,rfl,?_⟩))
   go_ret
   exact ⟨by first|rfl|(simp;done)|(simp [*];done),by repeat (first|exact Drawn0.refl _|apply Drawn0.step)⟩
 ·replace c5:=Bool.eq_false_iff.mpr c5
  subst c5
  have H1:(if t711 = true then (some 1) else (if a0 < a1 then (some (-1)) else (if a0 > a1 then (some 1) else (some 0)))) = some r:=by rw [if_neg (show ¬ (false = true) by decide)] at H;exact H
  clear H
  have H:=H1
  clear H1
  by_cases c7:t711 = true
  ·subst c7
   have H1:(some 1) = some r:=by rw [if_pos rfl] at H;exact H
   clear H
   have H:=H1
   clear H1
   obtain rfl:=Option.some.inj H
   go_enter Try.func179,Try.ntmps179
   go_wp2_with (first|((with_reducible refine gate_callee (f:=202) rfl ?_);refine goesL_ (some 8) rfl rfl Try.func202 (by kernel_rfl) rfl #[.int .i64 a0] rfl (by (try simp only [List.map_toArray,List.map_cons,List.map_nil]);first|done|rfl|(simp only [List.length_drop,List.length_take];rfl)) ?_;(with_reducible refine (cmp_isNaN_int.calls a0 false _ A3.out).mono ?_);rintro e w' ⟨rfl,⟨nd,rfl⟩⟩;refine ⟨_,rfl,?_⟩)|((with_reducible refine gate_callee (f:=202) rfl ?_);refine goesL_ (some 10) rfl rfl Try.func202 (by kernel_rfl) rfl #[.int .i64 a1] rfl (by (try simp only [List.map_toArray,List.map_cons,List.map_nil]);first|done|rfl|(simp only [List.length_drop,List.length_take];rfl)) ?_;(with_reducible refine (cmp_isNaN_int.calls a1 true _ A4.out).mono ?_);rintro e w' ⟨rfl,⟨nd,rfl⟩⟩;refine ⟨_,rfl,?_⟩))
   go_ret
   exact ⟨by first|rfl|(simp;done)|(simp [*];done),by repeat (first|exact Drawn0.refl _|apply Drawn0.step)⟩
  ·replace c7:=Bool.eq_false_iff.mpr c7
   subst c7
   have H1:(if a0 < a1 then (some (-1)) else (if a0 > a1 then (some 1) else (some 0))) = some r:=by rw [if_neg (show ¬ (false = true) by decide)] at H;exact H
   clear H
   have H:=H1
   clear H1
   by_cases c8:a0 < a1
   ·rw [if_pos c8] at H
    have c8b0:decide (a0 < a1) = true:=decide_eq_true c8
    clear c8
    obtain rfl:=Option.some.inj H
    go_enter Try.func179,Try.ntmps179
    go_wp2_with (first|((with_reducible refine gate_callee (f:=202) rfl ?_);refine goesL_ (some 8) rfl rfl Try.func202 (by kernel_rfl) rfl #[.int .i64 a0] rfl (by (try simp only [List.map_toArray,List.map_cons,List.map_nil]);first|done|rfl|(simp only [List.length_drop,List.length_take];rfl)) ?_;(with_reducible refine (cmp_isNaN_int.calls a0 false _ A3.out).mono ?_);rintro e w' ⟨rfl,⟨nd,rfl⟩⟩;refine ⟨_,rfl,?_⟩)|((with_reducible refine gate_callee (f:=202) rfl ?_);refine goesL_ (some 10) rfl rfl Try.func202 (by kernel_rfl) rfl #[.int .i64 a1] rfl (by (try simp only [List.map_toArray,List.map_cons,List.map_nil]);first|done|rfl|(simp only [List.length_drop,List.length_take];rfl)) ?_;(with_reducible refine (cmp_isNaN_int.calls a1 false _ A4.out).mono ?_);rintro e w' ⟨rfl,⟨nd,rfl⟩⟩;refine ⟨_,rfl,?_⟩))
    go_ret
    exact ⟨by first|rfl|(simp;done)|(simp [*];done),by repeat (first|exact Drawn0.refl _|apply Drawn0.step)⟩
   ·rw [if_neg c8] at H
    have c8b0:decide (a0 < a1) = false:=decide_eq_false c8
    clear c8
    by_cases c9:a0 > a1
    ·rw [if_pos c9] at H
     have c9b0:decide (a1 < a0) = true:=decide_eq_true c9
     clear c9
     obtain rfl:=Option.some.inj H
     go_enter Try.func179,Try.ntmps179
     go_wp2_with (first|((with_reducible refine gate_callee (f:=202) rfl ?_);refine goesL_ (some 8) rfl rfl Try.func202 (by kernel_rfl) rfl #[.int .i64 a0] rfl (by (try simp only [List.map_toArray,List.map_cons,List.map_nil]);first|done|rfl|(simp only [List.length_drop,List.length_take];rfl)) ?_;(with_reducible refine (cmp_isNaN_int.calls a0 false _ A3.out).mono ?_);rintro e w' ⟨rfl,⟨nd,rfl⟩⟩;refine ⟨_,rfl,?_⟩)|((with_reducible refine gate_callee (f:=202) rfl ?_);refine goesL_ (some 10) rfl rfl Try.func202 (by kernel_rfl) rfl #[.int .i64 a1] rfl (by (try simp only [List.map_toArray,List.map_cons,List.map_nil]);first|done|rfl|(simp only [List.length_drop,List.length_take];rfl)) ?_;(with_reducible refine (cmp_isNaN_int.calls a1 false _ A4.out).mono ?_);rintro e w' ⟨rfl,⟨nd,rfl⟩⟩;refine ⟨_,rfl,?_⟩))
     go_ret
     exact ⟨by first|rfl|(simp;done)|(simp [*];done),by repeat (first|exact Drawn0.refl _|apply Drawn0.step)⟩
    ·rw [if_neg c9] at H
     have c9b0:decide (a1 < a0) = false:=decide_eq_false c9
     clear c9
     obtain rfl:=Option.some.inj H
     go_enter Try.func179,Try.ntmps179
     go_wp2_with (first|((with_reducible refine gate_callee (f:=202) rfl ?_);refine goesL_ (some 8) rfl rfl Try.func202 (by kernel_rfl) rfl #[.int .i64 a0] rfl (by (try simp only [List.map_toArray,List.map_cons,List.map_nil]);first|done|rfl|(simp only [List.length_drop,List.length_take];rfl)) ?_;(with_reducible refine (cmp_isNaN_int.calls a0 false _ A3.out).mono ?_);rintro e w' ⟨rfl,⟨nd,rfl⟩⟩;refine ⟨_,rfl,?_⟩)|((with_reducible refine gate_callee (f:=202) rfl ?_);refine goesL_ (some 10) rfl rfl Try.func202 (by kernel_rfl) rfl #[.int .i64 a1] rfl (by (try simp only [List.map_toArray,List.map_cons,List.map_nil]);first|done|rfl|(simp only [List.length_drop,List.length_take];rfl)) ?_;(with_reducible refine (cmp_isNaN_int.calls a1 false _ A4.out).mono ?_);rintro e w' ⟨rfl,⟨nd,rfl⟩⟩;refine ⟨_,rfl,?_⟩))
     go_ret
     exact ⟨by first|rfl|(simp;done)|(simp [*];done),by repeat (first|exact Drawn0.refl _|apply Drawn0.step)⟩


/-! ### impl_powers_of: function 128 -/
def impl_powers_of.l0:Nat → Int → List Int → Int → Int → List Int → Int → Option (Int)
 | 0,_,_,_,_,_,_=>none
 | k + 1,x5,x8,x9,x10,x1117000,x1117001=>if x10 < x9 then (if 0 ≤ x10 then (if x10 < (x8.length:Int) then (if 0 ≤ (rd x8 x10) then (if (rd x8 x10) < (x1117000.length:Int) then (impl_powers_of.l0 k (wrap64 (x5 + (rd x1117000 (rd x8 x10)))) x8 x9 (wrap64 (x10 + 1)) x1117000 x1117001) else (none)) else (none)) else (none)) else (none)) else (some x5)
def impl_powers_of.f (k:Nat) (l0_0:List Int) (a0_1:Int) (l1:List Int):Option (Int):=impl_powers_of.l0 k 0 l1 (l1.length:Int) 0 l0_0 a0_1
theorem impl_powers_of.mono_l:∀ k,(∀ y0 y1 y2 y3 y4 y5,LeO (impl_powers_of.l0 k y0 y1 y2 y3 y4 y5) (impl_powers_of.l0 (k + 1) y0 y1 y2 y3 y4 y5))
 | 0=>fun _ _ _ _ _ _ r h=>by simp [impl_powers_of.l0] at h
 | k + 1=>by
  have ih0:=impl_powers_of.mono_l k
  ·intro y0 y1 y2 y3 y4 y5
   unfold impl_powers_of.l0
   repeat' first
   | (with_reducible exact ih0 _ _ _ _ _ _)
   | (with_reducible exact LeO.refl _)
   | (with_reducible exact LeO.none _)
   | (with_reducible refine LeO.ite ?_ ?_)
   | (with_reducible refine LeO.bind ?_ (fun _=>?_))
   | exact ih0 _ _ _ _ _ _
   | exact LeO.none _
   | refine LeO.ite ?_ ?_
   | refine LeO.bind ?_ (fun _=>?_)
theorem impl_powers_of.mono:∀ a0 a1 a2 k,LeO (impl_powers_of.f k a0 a1 a2) (impl_powers_of.f (k + 1) a0 a1 a2):=by
 intro a0 a1 a2 k
 have ih0:=impl_powers_of.mono_l k
 unfold impl_powers_of.f
 repeat' first
   | (with_reducible exact ih0 _ _ _ _ _ _)
   | (with_reducible exact LeO.refl _)
   | (with_reducible exact LeO.none _)
   | (with_reducible refine LeO.ite ?_ ?_)
   | (with_reducible refine LeO.bind ?_ (fun _=>?_))
   | exact ih0 _ _ _ _ _ _
   | exact LeO.none _
   | refine LeO.ite ?_ ?_
   | refine LeO.bind ?_ (fun _=>?_)
set_option maxHeartbeats 8000000 in
set_option maxRecDepth 100000 in
theorem impl_powers_of.calls (k:Nat) (A0_0:Option Addr) (c0_0:Nat) (l0_0:List Int) (a0_1:Int) (A1:Option Addr) (c1:Nat) (l1:List Int) (r:Int) (w:World) (hr0_0:Kd.C (Kd.int .i64) w A0_0 l0_0.length l0_0) (hc0_0:l0_0.length ≤ c0_0) (hr1:Kd.C (Kd.int .i64) w A1 l1.length l1) (hc1:l1.length ≤ c1) (h:impl_powers_of.f k l0_0 a0_1 l1 = some r) :
  Calls Try.prog 128 #[.agg #[.slice A0_0 l0_0.length c0_0,.int .i64 a0_1],.slice A1 l1.length c1] w fun e w'=>e = .returned (.int .i64 r) ∧ Below w.heap.size w w':=by
 have hu130:=Try.underlying130
 have HR0_0:=Aside0.mk hr0_0
 have HC0_0:=Aside0.mk hc0_0
 clear hr0_0 hc0_0
 have HR1:=Aside0.mk hr1
 have HC1:=Aside0.mk hc1
 clear hr1 hc1
 have HB:=Aside0.mk (Below.refl w.heap.size w)
 have H:(impl_powers_of.l0 k 0 l1 (l1.length:Int) 0 l0_0 a0_1) = some r:=h
 clear h
 have H':=Aside0.mk H
 clear H
 go_enter Try.func128,Try.ntmps128
 go_wp2_with (first|((with_reducible refine gate_dst (N:=2) rfl ?_);refine box_event ?hg (N:=2) ?hd (cs:=#[.slice A0_0 l0_0.length c0_0,.int .i64 a0_1]) (t:=130) ?hr ?_;(case hd=>rfl);(case hg=>rfl);(case hr=>first|(go_simp;done)|(go_simp;rfl));intro gb1116 hg w3 hbox hb;have n0_:=Aside0.mk (below_step (by repeat (first|(with_reducible first|exact HB.out|apply below_alloc|apply pw_below_drewN|apply below_drew1)|exact HB.out)) hb);have n1_:=Aside0.mk (hbox);have n2_:=Aside0.mk ((by rw [hg];exact (below_size (by repeat (first|(with_reducible first|exact HB.out|apply below_alloc|apply pw_below_drewN|apply below_drew1)|exact HB.out))):w.heap.size ≤ gb1116));have n3_:=Aside0.mk ((by rw [hg];exact (below_size (by repeat (first|(with_reducible first|exact HB.out|apply below_alloc|apply pw_below_drewN|apply below_drew1)|exact HB.out))):w.heap.size ≤ gb1116));clear HB;have HB:=n0_;have BK1116:=n1_;have GW1116:=n2_;have GE1116:=n3_;clear n0_ n1_ n2_ n3_;clear hb hbox hg))
 go_loopg [5,10] k (fun kq v5 v10 w'=>∃ (x5_1:Int) (x10_1:Int),v5 = .int .i64 x5_1 ∧ v10 = .int .i64 x10_1 ∧ Aside0 (impl_powers_of.l0 kq x5_1 l1 (l1.length:Int) x10_1 l0_0 a0_1 = some r) ∧ Aside0 (kq ≤ k) ∧ Aside0 (w'.heap[gb1116]? = some (.cells #[(.slice A0_0 l0_0.length c0_0),.int .i64 a0_1] 130 (0,0))) ∧ Aside0 (Below w.heap.size w w'))
 case atStart=>exact ⟨(0),(0),(by first|rfl|(simp;done)|(simp [*];done)),(by first|rfl|(simp;done)|(simp [*];done)),H',⟨Nat.le_refl _⟩,⟨by (with_reducible repeat (first|refine blk_drewN ?_ _|refine blk_drew ?_|refine blk_alloc ?_ _));exact BK1116.out⟩,⟨by repeat (first|(with_reducible first|exact HB.out|apply below_alloc|apply pw_below_drewN|apply below_drew1|refine below_set ?_ GE1116.out)|exact HB.out)⟩⟩
 case round =>
  clear H'
  try clear c1
  try clear p2
  obtain ⟨x5_1,x10_1,rfl,rfl,HA,HK1,BK1116,HB⟩:=hrel
  cases gk with
  | zero=>exact absurd HA.out (by simp [impl_powers_of.l0])
  | succ k1 =>
   have H:=HA.out
   clear HA
   simp only [impl_powers_of.l0] at H
   by_cases c4:x10_1 < (l1.length:Int)
   ·rw [if_pos c4] at H
    have c4b0:decide (x10_1 < (l1.length:Int)) = true:=decide_eq_true c4
    clear c4
    by_cases c5:0 ≤ x10_1
    ·rw [if_pos c5] at H
     have c5b0:decide (0 ≤ x10_1) = true:=decide_eq_true c5
     clear c5
     by_cases c6:x10_1 < (l1.length:Int)
     ·rw [if_pos c6] at H
      have c6b0:decide (x10_1 < (l1.length:Int)) = true:=decide_eq_true c6
      clear c6
      by_cases c7:0 ≤ (rd l1 x10_1)
      ·rw [if_pos c7] at H
       have c7b0:decide (0 ≤ (rd l1 x10_1)) = true:=decide_eq_true c7
       clear c7
       by_cases c8:(rd l1 x10_1) < (l0_0.length:Int)
       ·rw [if_pos c8] at H
        have c8b0:decide ((rd l1 x10_1) < (l0_0.length:Int)) = true:=decide_eq_true c8
        clear c8
        have H':=Aside0.mk H
        clear H
        have p1117:0 ≤ (x10_1:Int):=of_decide_eq_true (by first|(with_reducible assumption)|assumption)
        have q1117:x10_1 < (l1.length:Int):=of_decide_eq_true (by first|(with_reducible assumption)|assumption)
        obtain ⟨ad1117,e1117,hx1117_0⟩:=Kd.at_int HR1.out x10_1 p1117 q1117
        cases e1117
        replace hx1117_0:=(HB.out.cell (World.block_lt_of_cell? w _ hx1117_0)).trans hx1117_0
        replace p1117:=eq_true p1117
        replace q1117:=eq_true q1117
        have hcz9_0:wr.cell? ⟨gb1116,0,none⟩ = some (.slice A0_0 l0_0.length c0_0):=(blk_cell BK1116.out 0).trans rfl
        have hcz9_1:wr.cell? ⟨gb1116,1,none⟩ = some (.int .i64 a0_1):=(blk_cell BK1116.out 1).trans rfl
        have hfz9_0:=blk_frozen BK1116.out 0
        have hfz9_1:=blk_frozen BK1116.out 1
        have p1118:0 ≤ ((rd l1 x10_1):Int):=of_decide_eq_true (by first|(with_reducible assumption)|assumption)
        have q1118:(rd l1 x10_1) < (l0_0.length:Int):=of_decide_eq_true (by first|(with_reducible assumption)|assumption)
        obtain ⟨ad1118,e1118,hx1118_0⟩:=Kd.at_int HR0_0.out (rd l1 x10_1) p1118 q1118
        cases e1118
        replace hx1118_0:=(HB.out.cell (World.block_lt_of_cell? w _ hx1118_0)).trans hx1118_0
        replace p1118:=eq_true p1118
        replace q1118:=eq_true q1118
        go_wp2
        go_roundg k1
        case measure=>have:=HK1.out;omega
        case rel=>exact ⟨(wrap64 (x5_1 + (rd l0_0 (rd l1 x10_1)))),(wrap64 (x10_1 + 1)),(by first|rfl|(simp;done)|(simp [*];done)),(by first|rfl|(simp;done)|(simp [*];done)),H',⟨by have:=HK1.out;omega⟩,⟨by (with_reducible repeat (first|refine blk_drewN ?_ _|refine blk_drew ?_|refine blk_alloc ?_ _));exact BK1116.out⟩,⟨by repeat (first|(with_reducible first|exact HB.out|apply below_alloc|apply pw_below_drewN|apply below_drew1|refine below_set ?_ GE1116.out)|exact HB.out)⟩⟩
       ·rw [if_neg c8] at H
        exact absurd H (by simp)
      ·rw [if_neg c7] at H
       exact absurd H (by simp)
     ·rw [if_neg c6] at H
      exact absurd H (by simp)
    ·rw [if_neg c5] at H
     exact absurd H (by simp)
   ·rw [if_neg c4] at H
    have c4b0:decide (x10_1 < (l1.length:Int)) = false:=decide_eq_false c4
    clear c4
    obtain rfl:=Option.some.inj H
    go_wp2
    go_ret
    exact ⟨by first|rfl|(simp [errW_none,errW_some] <;> rfl)|(simp [*,errW_none,errW_some] <;> rfl),by repeat (first|(with_reducible first|exact HB.out|apply below_alloc|apply pw_below_drewN|apply below_drew1|refine below_set ?_ GE1116.out)|exact HB.out)⟩


/-! ### impl_gain: function 122 -/
def impl_gain.f (k:Nat) (l0_0:List Int) (a0_1:Int) (l1:List Int) (l2_0:List Int) (a2_1:Int) (l3:List Int):Option (Int):=(impl_powers_of.f k l2_0 a2_1 l3).bind fun t1121=>((impl_powers_of.f k l0_0 a0_1 l1).bind fun t1122=>((cmp_Compare_int.f (wrap64 (t1121 * a0_1)) (wrap64 (t1122 * a2_1))).bind fun t1123=>(some t1123)))
theorem impl_gain.mono:∀ a0 a1 a2 a3 a4 a5 k,LeO (impl_gain.f k a0 a1 a2 a3 a4 a5) (impl_gain.f (k + 1) a0 a1 a2 a3 a4 a5):=by
 intro a0 a1 a2 a3 a4 a5 k
 unfold impl_gain.f
 repeat' first
   | (with_reducible exact impl_powers_of.mono _ _ _ _)
   | (with_reducible exact LeO.refl _)
   | (with_reducible exact LeO.none _)
   | (with_reducible refine LeO.ite ?_ ?_)
   | (with_reducible refine LeO.bind ?_ (fun _=>?_))
   | exact impl_powers_of.mono _ _ _ _
   | exact LeO.none _
   | refine LeO.ite ?_ ?_
   | refine LeO.bind ?_ (fun _=>?_)
def impl_gain.T1:Bool × List (List Nat × List Nat):=(true,[([],[]),([],[]),([0,1],[0,1]),([],[]),([3],[3]),([2,4],[2,4]),([],[]),([],[]),([6,7,2],[6,7]),([],[]),([9],[9]),([8,10],[8,10]),([5,11,8],[5,11]),([12,12,0,1,2,3,4,5,6,7,8,9,10,11,12],[12])])
def impl_gain.B1:List Nat:=[0,0,3,0,8,31,0,0,199,0,512,1991,4095,8191]
theorem impl_gain.tab1:rtab .any (opsOf Try.f122 1) = impl_gain.T1:=by kernel_rfl
theorem impl_gain.bits1:waitsOk impl_gain.T1.2 impl_gain.B1 = true:=by kernel_rfl
set_option maxHeartbeats 8000000 in
set_option maxRecDepth 100000 in
theorem impl_gain.calls (k:Nat) (A0_0:Option Addr) (c0_0:Nat) (l0_0:List Int) (a0_1:Int) (A1:Option Addr) (c1:Nat) (l1:List Int) (A2_0:Option Addr) (c2_0:Nat) (l2_0:List Int) (a2_1:Int) (A3:Option Addr) (c3:Nat) (l3:List Int) (r:Int) (w:World) (hr0_0:Kd.C (Kd.int .i64) w A0_0 l0_0.length l0_0) (hc0_0:l0_0.length ≤ c0_0) (hr1:Kd.C (Kd.int .i64) w A1 l1.length l1) (hc1:l1.length ≤ c1) (hr2_0:Kd.C (Kd.int .i64) w A2_0 l2_0.length l2_0) (hc2_0:l2_0.length ≤ c2_0) (hr3:Kd.C (Kd.int .i64) w A3 l3.length l3) (hc3:l3.length ≤ c3) (h:impl_gain.f k l0_0 a0_1 l1 l2_0 a2_1 l3 = some r) :
  Calls Try.prog 122 #[.agg #[.slice A0_0 l0_0.length c0_0,.int .i64 a0_1],.slice A1 l1.length c1,.agg #[.slice A2_0 l2_0.length c2_0,.int .i64 a2_1],.slice A3 l3.length c3] w fun e w'=>e = .returned (.int .i64 r) ∧ Below w.heap.size w w':=by
 have hu130:=Try.underlying130
 have HR0_0:=Aside0.mk hr0_0
 have HC0_0:=Aside0.mk hc0_0
 clear hr0_0 hc0_0
 have HR1:=Aside0.mk hr1
 have HC1:=Aside0.mk hc1
 clear hr1 hc1
 have HR2_0:=Aside0.mk hr2_0
 have HC2_0:=Aside0.mk hc2_0
 clear hr2_0 hc2_0
 have HR3:=Aside0.mk hr3
 have HC3:=Aside0.mk hc3
 clear hr3 hc3
 have HB:=Aside0.mk (Below.refl w.heap.size w)
 have H:((impl_powers_of.f k l2_0 a2_1 l3).bind fun t1121=>((impl_powers_of.f k l0_0 a0_1 l1).bind fun t1122=>((cmp_Compare_int.f (wrap64 (t1121 * a0_1)) (wrap64 (t1122 * a2_1))).bind fun t1123=>(some t1123)))) = some r:=h
 clear h
 replace H:=Option.bind_eq_some_iff.mp H
 obtain ⟨t1121,A50,H⟩:=H
 replace H:((impl_powers_of.f k l0_0 a0_1 l1).bind fun t1122=>((cmp_Compare_int.f (wrap64 (t1121 * a0_1)) (wrap64 (t1122 * a2_1))).bind fun t1123=>(some t1123))) = some r:=H
 have A5:=Aside0.mk A50
 clear A50
 replace H:=Option.bind_eq_some_iff.mp H
 obtain ⟨t1122,A60,H⟩:=H
 replace H:((cmp_Compare_int.f (wrap64 (t1121 * a0_1)) (wrap64 (t1122 * a2_1))).bind fun t1123=>(some t1123)) = some r:=H
 have A6:=Aside0.mk A60
 clear A60
 replace H:=Option.bind_eq_some_iff.mp H
 obtain ⟨t1123,A70,H⟩:=H
 replace H:(some t1123) = some r:=H
 have A7:=Aside0.mk A70
 clear A70
 obtain rfl:=Option.some.inj H
 go_enter Try.func122,Try.ntmps122
 try go_wp2_with (first|((with_reducible refine gate_dst (N:=4) rfl ?_);refine box_event ?hg (N:=4) ?hd (cs:=#[.slice A0_0 l0_0.length c0_0,.int .i64 a0_1]) (t:=130) ?hr ?_;(case hd=>rfl);(case hg=>rfl);(case hr=>first|(go_simp;done)|(go_simp;rfl));intro gb1119 hg w8 hbox hb;have n0_:=Aside0.mk (below_step (by repeat (first|(with_reducible first|exact HB.out|apply below_alloc|apply pw_below_drewN|apply below_drew1)|exact HB.out)) hb);have n1_:=Aside0.mk (hbox);have n2_:=Aside0.mk ((by rw [hg];exact (below_size (by repeat (first|(with_reducible first|exact HB.out|apply below_alloc|apply pw_below_drewN|apply below_drew1)|exact HB.out))):w.heap.size ≤ gb1119));have n3_:=Aside0.mk ((by rw [hg];exact (below_size (by repeat (first|(with_reducible first|exact HB.out|apply below_alloc|apply pw_below_drewN|apply below_drew1)|exact HB.out))):w.heap.size ≤ gb1119));clear HB;have HB:=n0_;have BK1119:=n1_;have GW1119:=n2_;have GE1119:=n3_;clear n0_ n1_ n2_ n3_;clear hb hbox hg)|((with_reducible refine gate_dst (N:=6) rfl ?_);refine box_event ?hg (N:=6) ?hd (cs:=#[.slice A2_0 l2_0.length c2_0,.int .i64 a2_1]) (t:=130) ?hr ?_;(case hd=>rfl);(case hg=>rfl);(case hr=>first|(go_simp;done)|(go_simp;rfl));intro gb1120 hg w9 hbox hb;have n0_:=Aside0.mk (blk_below (g:=gb1119) (o:=.cells #[.slice A0_0 l0_0.length c0_0,.int .i64 a0_1] 130 (0,0)) (by (with_reducible repeat (first|refine blk_drewN ?_ _|refine blk_drew ?_|refine blk_alloc ?_ _));exact BK1119.out) hb);have n1_:=Aside0.mk (below_step (by repeat (first|(with_reducible first|exact HB.out|apply below_alloc|apply pw_below_drewN|apply below_drew1|refine below_set ?_ GE1119.out)|exact HB.out)) hb);have n2_:=Aside0.mk (hbox);have n3_:=Aside0.mk ((by rw [hg];exact (below_size (by repeat (first|(with_reducible first|exact HB.out|apply below_alloc|apply pw_below_drewN|apply below_drew1|refine below_set ?_ GE1119.out)|exact HB.out))):w.heap.size ≤ gb1120));have n4_:=Aside0.mk ((by rw [hg];exact (below_size (by repeat (first|(with_reducible first|exact HB.out|apply below_alloc|apply pw_below_drewN|apply below_drew1|refine below_set ?_ GE1119.out)|exact HB.out))):w.heap.size ≤ gb1120));have n5_:=Aside0.mk ((by rw [hg];exact Nat.ne_of_lt (blk_lt (g:=gb1119) (o:=.cells #[.slice A0_0 l0_0.length c0_0,.int .i64 a0_1] 130 (0,0)) (by (with_reducible repeat (first|refine blk_drewN ?_ _|refine blk_drew ?_|refine blk_alloc ?_ _));exact BK1119.out)):gb1119 ≠ gb1120));have n6_:=Aside0.mk ((by rw [hg];exact Nat.ne_of_gt (blk_lt (g:=gb1119) (o:=.cells #[.slice A0_0 l0_0.length c0_0,.int .i64 a0_1] 130 (0,0)) (by (with_reducible repeat (first|refine blk_drewN ?_ _|refine blk_drew ?_|refine blk_alloc ?_ _));exact BK1119.out)):gb1120 ≠ gb1119));clear BK1119;clear HB;have BK1119:=n0_;have HB:=n1_;have BK1120:=n2_;have GW1120:=n3_;have GE1120:=n4_;have NB1119_1120:=n5_;have NB1120_1119:=n6_;clear n0_ n1_ n2_ n3_ n4_ n5_ n6_;clear hb hbox hg))
 have n0_:=Aside0.mk (blk_drew BK1119.out)
 have n1_:=Aside0.mk (blk_drew BK1120.out)
 have n2_:=Aside0.mk (below_drew1 HB.out)
 clear BK1119
 clear BK1120
 clear HB
 have BK1119:=n0_
 have BK1120:=n1_
 have HB:=n2_
 clear n0_ n1_ n2_
 refine start_ (n:=14) (S:=fun w'=>w'.cell? ⟨gb1120,0,none⟩ = some (.slice A2_0 l2_0.length c2_0) ∧ w'.cell? ⟨gb1120,1,none⟩ = some (.int .i64 a2_1) ∧ w'.cell? ⟨gb1119,0,none⟩ = some (.slice A0_0 l0_0.length c0_0) ∧ w'.cell? ⟨gb1119,1,none⟩ = some (.int .i64 a0_1)) (ds:=[]) #[false,false,false,false,false,false,false,false,false,false,false,false,false,false] (by kernel_rfl) rfl rfl ⟨(blk_cell BK1120.out 0).trans rfl,(blk_cell BK1120.out 1).trans rfl,(blk_cell BK1119.out 0).trans rfl,(blk_cell BK1119.out 1).trans rfl⟩ (fun hHeld=>?_);refine with_tabW impl_gain.tab1 impl_gain.bits1 (fun HT_ HW_=>?_)
 generalize w9.drew = w10 at BK1119 BK1120 HB hHeld ⊢
 refine pure_ (i:=1) (N:=some 10) (v:=?_) (a':=?_) #[false,true,false,false,false,false,false,false,false,false,false,false,false,false] rfl rfl (any_of HT_.out (by kernel_rfl)) (fun _ _ _ h=>h) (Or.inl ⟨by rfl,?_⟩) ?_ ?_
 rotate_left
 ·intro w'
  go_simp
  with_reducible rfl
 rotate_left
 ·simp only [Act.put,List.setIfInBounds_toArray,List.set_cons_zero,List.set_cons_succ,i64_w,i32_w]
  rfl
 refine pure_ (i:=3) (N:=some 12) (v:=?_) (a':=?_) #[false,true,false,true,false,false,false,false,false,false,false,false,false,false] rfl rfl (any_of HT_.out (by kernel_rfl)) (fun _ _ _ h=>h) (Or.inl ⟨by rfl,?_⟩) ?_ ?_
 rotate_left
 ·intro w'
  go_simp
  with_reducible rfl
 rotate_left
 ·simp only [Act.put,List.setIfInBounds_toArray,List.set_cons_zero,List.set_cons_succ,i64_w,i32_w]
  rfl
 refine pure_ (i:=7) (N:=some 16) (v:=?_) (a':=?_) #[false,true,false,true,false,false,false,true,false,false,false,false,false,false] rfl rfl (any_of HT_.out (by kernel_rfl)) (fun _ _ _ h=>h) (Or.inl ⟨by rfl,?_⟩) ?_ ?_
 rotate_left
 ·intro w'
  go_simp
  with_reducible rfl
 rotate_left
 ·simp only [Act.put,List.setIfInBounds_toArray,List.set_cons_zero,List.set_cons_succ,i64_w,i32_w]
  rfl
 refine pure_ (i:=9) (N:=some 18) (v:=?_) (a':=?_) #[false,true,false,true,false,false,false,true,false,true,false,false,false,false] rfl rfl (any_of HT_.out (by kernel_rfl)) (fun _ _ _ h=>h) (Or.inl ⟨by rfl,?_⟩) ?_ ?_
 rotate_left
 ·intro w'
  go_simp
  with_reducible rfl
 rotate_left
 ·simp only [Act.put,List.setIfInBounds_toArray,List.set_cons_zero,List.set_cons_succ,i64_w,i32_w]
  rfl
 refine take_ (i:=0) (N:=some 9) (v:=?_) (a':=?_) #[true,true,false,true,false,false,false,true,false,true,false,false,false,false] rfl rfl (take_ofW HT_.out HW_.out (by kernel_rfl)) (fun _ _ _ h=>h) (Or.inl ⟨by rfl,?_⟩) hHeld ?_ ?_
 rotate_left
 ·rintro w' ⟨s0,s1,s2,s3⟩
  go_simp
  with_reducible rfl
 rotate_left
 ·simp only [Act.put,List.setIfInBounds_toArray,List.set_cons_zero,List.set_cons_succ,i64_w,i32_w]
  rfl
 refine take_ (i:=4) (N:=some 13) (v:=?_) (a':=?_) #[true,true,false,true,true,false,false,true,false,true,false,false,false,false] rfl rfl (take_ofW HT_.out HW_.out (by kernel_rfl)) (fun _ _ _ h=>h) (Or.inl ⟨by rfl,?_⟩) hHeld ?_ ?_
 rotate_left
 ·rintro w' ⟨s0,s1,s2,s3⟩
  go_simp
  with_reducible rfl
 rotate_left
 ·simp only [Act.put,List.setIfInBounds_toArray,List.set_cons_zero,List.set_cons_succ,i64_w,i32_w]
  rfl
 refine take_ (i:=6) (N:=some 15) (v:=?_) (a':=?_) #[true,true,false,true,true,false,true,true,false,true,false,false,false,false] rfl rfl (take_ofW HT_.out HW_.out (by kernel_rfl)) (fun _ _ _ h=>h) (Or.inl ⟨by rfl,?_⟩) hHeld ?_ ?_
 rotate_left
 ·rintro w' ⟨s0,s1,s2,s3⟩
  go_simp
  with_reducible rfl
 rotate_left
 ·simp only [Act.put,List.setIfInBounds_toArray,List.set_cons_zero,List.set_cons_succ,i64_w,i32_w]
  rfl
 refine take_ (i:=10) (N:=some 19) (v:=?_) (a':=?_) #[true,true,false,true,true,false,true,true,false,true,true,false,false,false] rfl rfl (take_ofW HT_.out HW_.out (by kernel_rfl)) (fun _ _ _ h=>h) (Or.inl ⟨by rfl,?_⟩) hHeld ?_ ?_
 rotate_left
 ·rintro w' ⟨s0,s1,s2,s3⟩
  go_simp
  with_reducible rfl
 rotate_left
 ·simp only [Act.put,List.setIfInBounds_toArray,List.set_cons_zero,List.set_cons_succ,i64_w,i32_w]
  rfl
 refine one_ (i:=2) (N:=some 11) #[true,true,true,true,true,false,true,true,false,true,true,false,false,false] rfl rfl (one_of HT_.out (by kernel_rfl)) (by decide) (fun K hK=>?_)
 refine goes_ Try.func128 (by kernel_rfl) rfl #[.agg #[.slice A2_0 l2_0.length c2_0,.int .i64 a2_1],.slice A3 l3.length c3] (by rfl) rfl rfl (by (try simp only [List.map_toArray,List.map_cons,List.map_nil]);first|done|rfl|(simp only [List.length_drop,List.length_take];rfl)) ?_
 with_reducible refine (impl_powers_of.calls k _ _ l2_0 a2_1 _ _ l3 t1121 _ ?side1 ?side2 ?side3 ?side4 A5.out).mono ?_
 (case side1=>repeat (first|exact (Kd.C_below HR2_0.out HB.out)|(with_reducible refine Kd.C_alloc ?_ _)|(with_reducible refine Kd.C_drewN ?_ _)|(with_reducible refine Kd.C_drew ?_)))
 (case side2=>exact HC2_0.out)
 (case side3=>repeat (first|exact (Kd.C_below HR3.out HB.out)|(with_reducible refine Kd.C_alloc ?_ _)|(with_reducible refine Kd.C_drewN ?_ _)|(with_reducible refine Kd.C_drew ?_)))
 (case side4=>exact HC3.out)
 rintro e w11 ⟨rfl,hb⟩
 refine ⟨_,rfl,?_⟩
 have n0_:=Aside0.mk (blk_below (g:=gb1119) (o:=.cells #[.slice A0_0 l0_0.length c0_0,.int .i64 a0_1] 130 (0,0)) (by (with_reducible repeat (first|refine blk_drewN ?_ _|refine blk_drew ?_|refine blk_alloc ?_ _));exact BK1119.out) hb)
 have n1_:=Aside0.mk (blk_below (g:=gb1120) (o:=.cells #[.slice A2_0 l2_0.length c2_0,.int .i64 a2_1] 130 (0,0)) (by (with_reducible repeat (first|refine blk_drewN ?_ _|refine blk_drew ?_|refine blk_alloc ?_ _));exact BK1120.out) hb)
 have n2_:=Aside0.mk (below_step (by repeat (first|(with_reducible first|exact HB.out|apply below_alloc|apply pw_below_drewN|apply below_drew1|refine below_set ?_ GE1119.out|refine below_set ?_ GE1120.out)|exact HB.out)) hb)
 clear BK1119
 clear BK1120
 clear HB
 have BK1119:=n0_
 have BK1120:=n1_
 have HB:=n2_
 clear n0_ n1_ n2_
 (try clear hb)
 (try clear hb2)
 (try clear hk)
 (try clear hi)
 refine hK.out _ _ ⟨(blk_cell BK1120.out 0).trans rfl,(blk_cell BK1120.out 1).trans rfl,(blk_cell BK1119.out 0).trans rfl,(blk_cell BK1119.out 1).trans rfl⟩ (fun hHeld=>?_)
 clear hK K
 refine norm_ (a':=?_) ?_ ?_
 rotate_left
 ·show Act.put _ (some 11) _ = _
  simp only [Act.put,List.setIfInBounds_toArray,List.set_cons_zero,List.set_cons_succ,i64_w,i32_w]
  rfl
 refine pure_ (i:=5) (N:=some 14) (v:=?_) (a':=?_) #[true,true,true,true,true,true,true,true,false,true,true,false,false,false] rfl rfl (any_of HT_.out (by kernel_rfl)) (fun _ _ _ h=>h) (Or.inl ⟨by rfl,?_⟩) ?_ ?_
 rotate_left
 ·intro w'
  go_simp
  with_reducible rfl
 rotate_left
 ·simp only [Act.put,List.setIfInBounds_toArray,List.set_cons_zero,List.set_cons_succ,i64_w,i32_w]
  rfl
 refine one_ (i:=8) (N:=some 17) #[true,true,true,true,true,true,true,true,true,true,true,false,false,false] rfl rfl (one_of HT_.out (by kernel_rfl)) (by decide) (fun K hK=>?_)
 refine goes_ Try.func128 (by kernel_rfl) rfl #[.agg #[.slice A0_0 l0_0.length c0_0,.int .i64 a0_1],.slice A1 l1.length c1] (by rfl) rfl rfl (by (try simp only [List.map_toArray,List.map_cons,List.map_nil]);first|done|rfl|(simp only [List.length_drop,List.length_take];rfl)) ?_
 with_reducible refine (impl_powers_of.calls k _ _ l0_0 a0_1 _ _ l1 t1122 _ ?side1 ?side2 ?side3 ?side4 A6.out).mono ?_
 (case side1=>repeat (first|exact (Kd.C_below HR0_0.out HB.out)|(with_reducible refine Kd.C_alloc ?_ _)|(with_reducible refine Kd.C_drewN ?_ _)|(with_reducible refine Kd.C_drew ?_)))
 (case side2=>exact HC0_0.out)
 (case side3=>repeat (first|exact (Kd.C_below HR1.out HB.out)|(with_reducible refine Kd.C_alloc ?_ _)|(with_reducible refine Kd.C_drewN ?_ _)|(with_reducible refine Kd.C_drew ?_)))
 (case side4=>exact HC1.out)
 rintro e w12 ⟨rfl,hb⟩
 refine ⟨_,rfl,?_⟩
 have n0_:=Aside0.mk (blk_below (g:=gb1119) (o:=.cells #[.slice A0_0 l0_0.length c0_0,.int .i64 a0_1] 130 (0,0)) (by (with_reducible repeat (first|refine blk_drewN ?_ _|refine blk_drew ?_|refine blk_alloc ?_ _));exact BK1119.out) hb)
 have n1_:=Aside0.mk (blk_below (g:=gb1120) (o:=.cells #[.slice A2_0 l2_0.length c2_0,.int .i64 a2_1] 130 (0,0)) (by (with_reducible repeat (first|refine blk_drewN ?_ _|refine blk_drew ?_|refine blk_alloc ?_ _));exact BK1120.out) hb)
 have n2_:=Aside0.mk (below_step (by repeat (first|(with_reducible first|exact HB.out|apply below_alloc|apply pw_below_drewN|apply below_drew1|refine below_set ?_ GE1119.out|refine below_set ?_ GE1120.out)|exact HB.out)) hb)
 clear BK1119
 clear BK1120
 clear HB
 have BK1119:=n0_
 have BK1120:=n1_
 have HB:=n2_
 clear n0_ n1_ n2_
 (try clear hb)
 (try clear hb2)
 (try clear hk)
 (try clear hi)
 refine hK.out _ _ ⟨(blk_cell BK1120.out 0).trans rfl,(blk_cell BK1120.out 1).trans rfl,(blk_cell BK1119.out 0).trans rfl,(blk_cell BK1119.out 1).trans rfl⟩ (fun hHeld=>?_)
 clear hK K
 refine norm_ (a':=?_) ?_ ?_
 rotate_left
 ·show Act.put _ (some 17) _ = _
  simp only [Act.put,List.setIfInBounds_toArray,List.set_cons_zero,List.set_cons_succ,i64_w,i32_w]
  rfl
 refine pure_ (i:=11) (N:=some 20) (v:=?_) (a':=?_) #[true,true,true,true,true,true,true,true,true,true,true,true,false,false] rfl rfl (any_of HT_.out (by kernel_rfl)) (fun _ _ _ h=>h) (Or.inl ⟨by rfl,?_⟩) ?_ ?_
 rotate_left
 ·intro w'
  go_simp
  with_reducible rfl
 rotate_left
 ·simp only [Act.put,List.setIfInBounds_toArray,List.set_cons_zero,List.set_cons_succ,i64_w,i32_w]
  rfl
 refine one_ (i:=12) (N:=some 21) #[true,true,true,true,true,true,true,true,true,true,true,true,true,false] rfl rfl (one_of HT_.out (by kernel_rfl)) (by decide) (fun K hK=>?_)
 refine goes_ Try.func179 (by kernel_rfl) rfl #[.int .i64 (wrap64 (t1121 * a0_1)),.int .i64 (wrap64 (t1122 * a2_1))] (by rfl) rfl rfl (by (try simp only [List.map_toArray,List.map_cons,List.map_nil]);first|done|rfl|(simp only [List.length_drop,List.length_take];rfl)) ?_
 with_reducible refine (cmp_Compare_int.calls (wrap64 (t1121 * a0_1)) (wrap64 (t1122 * a2_1)) t1123 _ A7.out).mono ?_
 rintro e w' ⟨rfl,⟨nd,rfl⟩⟩
 refine ⟨_,rfl,?_⟩
 refine hK.out _ _ ⟨(blk_cell BK1120.out 0).trans rfl,(blk_cell BK1120.out 1).trans rfl,(blk_cell BK1119.out 0).trans rfl,(blk_cell BK1119.out 1).trans rfl⟩ (fun hHeld=>?_)
 clear hK K
 refine norm_ (a':=?_) ?_ ?_
 rotate_left
 ·show Act.put _ (some 21) _ = _
  simp only [Act.put,List.setIfInBounds_toArray,List.set_cons_zero,List.set_cons_succ,i64_w,i32_w]
  rfl
 refine pure_ (i:=13) (N:=some 8) (v:=?_) (a':=?_) #[true,true,true,true,true,true,true,true,true,true,true,true,true,true] rfl rfl (any_of HT_.out (by kernel_rfl)) (fun _ _ _ h=>h) (Or.inl ⟨by rfl,?_⟩) ?_ ?_
 rotate_left
 ·intro w'
  go_simp
  with_reducible rfl
 rotate_left
 ·simp only [Act.put,List.setIfInBounds_toArray,List.set_cons_zero,List.set_cons_succ,i64_w,i32_w]
  rfl
 refine done_ (done_of HT_.out (by kernel_rfl)) ?_
 try go_wp2
 go_ret
 exact ⟨by first|rfl|(simp [errW_none,errW_some] <;> rfl)|(simp [*,errW_none,errW_some] <;> rfl),by repeat (first|(with_reducible first|exact HB.out|apply below_alloc|apply pw_below_drewN|apply below_drew1|refine below_set ?_ GE1119.out|refine below_set ?_ GE1120.out)|exact HB.out)⟩


/-! ### spec_l1Sign: function 178 -/
def spec_l1Sign.f (a0:Int):Option (Int):=if a0 > 0 then (some 1) else (if a0 < 0 then (some (-1)) else (some 0))
set_option maxHeartbeats 8000000 in
set_option maxRecDepth 100000 in
theorem spec_l1Sign.calls (a0:Int) (r:Int) (w:World) (h:spec_l1Sign.f a0 = some r) :
  Calls Try.prog 178 #[.int .i64 a0] w fun e w'=>e = .returned (.int .i64 r) ∧ Drawn0 w w':=by
 have H:(if a0 > 0 then (some 1) else (if a0 < 0 then (some (-1)) else (some 0))) = some r:=h
 clear h
 by_cases c2:a0 > 0
 ·rw [if_pos c2] at H
  have c2b0:decide (0 < a0) = true:=decide_eq_true c2
  clear c2
  obtain rfl:=Option.some.inj H
  go_enter Try.func178,Try.ntmps178
  go_wp2
  go_ret
  exact ⟨by first|rfl|(simp;done)|(simp [*];done),by repeat (first|exact Drawn0.refl _|apply Drawn0.step)⟩
 ·rw [if_neg c2] at H
  have c2b0:decide (0 < a0) = false:=decide_eq_false c2
  clear c2
  by_cases c3:a0 < 0
  ·rw [if_pos c3] at H
   have c3b0:decide (a0 < 0) = true:=decide_eq_true c3
   clear c3
   obtain rfl:=Option.some.inj H
   go_enter Try.func178,Try.ntmps178
   go_wp2
   go_ret
   exact ⟨by first|rfl|(simp;done)|(simp [*];done),by repeat (first|exact Drawn0.refl _|apply Drawn0.step)⟩
  ·rw [if_neg c3] at H
   have c3b0:decide (a0 < 0) = false:=decide_eq_false c3
   clear c3
   obtain rfl:=Option.some.inj H
   go_enter Try.func178,Try.ntmps178
   go_wp2
   go_ret
   exact ⟨by first|rfl|(simp;done)|(simp [*];done),by repeat (first|exact Drawn0.refl _|apply Drawn0.step)⟩


/-! ### spec_unGain: function 121 -/
def spec_unGain.f (a0:Int) (a1:Int) (a2:Int) (a3:Int):Option (Int):=(spec_l1Sign.f (wrap64 ((wrap64 (a2 * a1)) - (wrap64 (a0 * a3))))).bind fun t1098=>(some t1098)
set_option maxHeartbeats 8000000 in
set_option maxRecDepth 100000 in
theorem spec_unGain.calls (a0:Int) (a1:Int) (a2:Int) (a3:Int) (r:Int) (w:World) (h:spec_unGain.f a0 a1 a2 a3 = some r) :
  Calls Try.prog 121 #[.int .i64 a0,.int .i64 a1,.int .i64 a2,.int .i64 a3] w fun e w'=>e = .returned (.int .i64 r) ∧ Drawn0 w w':=by
 have H:((spec_l1Sign.f (wrap64 ((wrap64 (a2 * a1)) - (wrap64 (a0 * a3))))).bind fun t1098=>(some t1098)) = some r:=h
 clear h
 replace H:=Option.bind_eq_some_iff.mp H
 obtain ⟨t1098,A50,H⟩:=H
 replace H:(some t1098) = some r:=H
 have A5:=Aside0.mk A50
 clear A50
 obtain rfl:=Option.some.inj H
 go_enter Try.func121,Try.ntmps121
 go_wp2_with (first|((with_reducible refine gate_callee (f:=178) rfl ?_);refine goesL_ (some 16) rfl rfl Try.func178 (by kernel_rfl) rfl #[.int .i64 (wrap64 ((wrap64 (a2 * a1)) - (wrap64 (a0 * a3))))] rfl (by (try simp only [List.map_toArray,List.map_cons,List.map_nil]);first|done|rfl|(simp only [List.length_drop,List.length_take];rfl)) ?_;(with_reducible refine (spec_l1Sign.calls (wrap64 ((wrap64 (a2 * a1)) - (wrap64 (a0 * a3)))) t1098 _ A5.out).mono ?_);rintro e w' ⟨rfl,⟨nd,rfl⟩⟩;refine ⟨_,rfl,?_⟩))
 go_ret
 exact ⟨by first|rfl|(simp;done)|(simp [*];done),by repeat (first|exact Drawn0.refl _|apply Drawn0.step)⟩

end Go.Proofs.Ythkbaolpiigioaa.P
