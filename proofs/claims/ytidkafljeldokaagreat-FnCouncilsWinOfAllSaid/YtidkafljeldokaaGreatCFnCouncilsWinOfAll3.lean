/- Part 3 of the texts below the law FnCouncilsWinOfAll. Printed by this session's driver over the kit's printer, but for the hand contracts and the plain laws. -/
import Derived.Test.YtidkafljeldokaaGreatCFnCouncilsWinOfAll1
import Derived.Test.YtidkafljeldokaaGreatCFnCouncilsWinOfAll2
set_option linter.unusedVariables false
set_option linter.unusedSimpArgs false
namespace Go.Proofs.YtidkafljeldokaaGreat.P
open Go.RowKit Go.Proofs.YtidkafljeldokaaGreatW.PrintWords Go.Proofs.YtidkafljeldokaaGreatW.PrintLast Go.Proofs.YtidkafljeldokaaGreatW.PrintMore
attribute [local go_sem] max2_int min2_int max_two min_two max_three min_three max_four min_four   -- for this text's walks alone
set_option linter.unusedVariables false
set_option linter.unusedSimpArgs false

/-! ### spec_WinsCouncil: function 23 -/
mutual
def spec_WinsCouncil.j0:Nat → List (S_impl_Committee) → List (List Int) → Bool → Int → List Int → Option (Bool × Bool)
 | 0,_,_,_,_,_=>none
 | k + 1,x1,x2,x21,x7,x9=>if x21 = true then (some (false,false)) else (spec_WinsCouncil.l0 k x2 0 x1 (x1.length:Int) 0 x7 x9)
def spec_WinsCouncil.l0:Nat → List (List Int) → Int → List (S_impl_Committee) → Int → Int → Int → List Int → Option (Bool × Bool)
 | 0,_,_,_,_,_,_,_=>none
 | k + 1,x2,x8,x22,x23,x24,x7,x9=>if x24 < x23 then (if 0 ≤ x24 then (if x24 < (x22.length:Int) then (if x24 < (x2.length:Int) then ((spec_voSet.f k (((rd_impl_Committee x22 x24).f1).length:Int) (rd_LI x2 x24)).bind fun t4=>(if t4 = true then ((spec_voBits.f k (rd_LI x2 x24)).bind fun t5=>((spec_voWeight.f k ((rd_impl_Committee x22 x24).f0) ((rd_impl_Committee x22 x24).f1) t5).bind fun t6=>(if t6 ≥ ((rd_impl_Committee x22 x24).f0) then (spec_WinsCouncil.l0 k x2 (Go.bits .or .i64 x8 (shl .i64 1 x24)) x22 x23 (wrap64 (x24 + 1)) x7 x9) else (spec_WinsCouncil.l0 k x2 x8 x22 x23 (wrap64 (x24 + 1)) x7 x9)))) else (some (false,false)))) else (none)) else (none)) else (none)) else ((spec_voWeight.f k x7 x9 x8).bind fun t3=>(some (decide (t3 ≥ x7),true)))
end
def spec_WinsCouncil.f (k:Nat) (a0_0:Int) (l0_1:List Int) (l1:List (S_impl_Committee)) (l2:List (List Int)):Option (Bool × Bool):=(spec_AreCouncil.f k a0_0 l0_1 l1).bind fun t3=>(if t3 = true then (spec_WinsCouncil.j0 k l1 l2 ((l2.length:Int) != (l1.length:Int)) a0_0 l0_1) else (spec_WinsCouncil.j0 k l1 l2 true a0_0 l0_1))
def spec_WinsCouncil.T7:Bool × List (List Nat × List Nat):=(true,[([],[]),([0],[0]),([1],[1]),([],[]),([],[]),([3,4],[3,4]),([5],[5]),([2,6],[2,6]),([7],[7])])
def spec_WinsCouncil.B7:List Nat:=[0,1,3,0,0,24,56,127,255]
theorem spec_WinsCouncil.tab7:rtab .any (opsOf Tryz.f23 7) = spec_WinsCouncil.T7:=by kernel_rfl
theorem spec_WinsCouncil.bits7:waitsOk spec_WinsCouncil.T7.2 spec_WinsCouncil.B7 = true:=by kernel_rfl
def spec_WinsCouncil.T9:Bool × List (List Nat × List Nat):=(true,[([],[]),([],[]),([],[]),([1,2],[1,2]),([3],[3]),([4],[4]),([0,5,5],[0,5]),([],[]),([7],[7]),([6,8],[6,8])])
def spec_WinsCouncil.B9:List Nat:=[0,0,0,6,14,30,63,0,128,511]
theorem spec_WinsCouncil.tab9:rtab .any (opsOf Tryz.f23 9) = spec_WinsCouncil.T9:=by kernel_rfl
theorem spec_WinsCouncil.bits9:waitsOk spec_WinsCouncil.T9.2 spec_WinsCouncil.B9 = true:=by kernel_rfl
def spec_WinsCouncil.T12:Bool × List (List Nat × List Nat):=(true,[([],[]),([],[]),([0,1],[0,1]),([],[]),([3],[3]),([2,4],[2,4]),([5,2,0,1,2,3,4,5],[5]),([6,0,1,2,3,4,5,6],[])])
def spec_WinsCouncil.B12:List Nat:=[0,0,3,0,8,31,63,127]
theorem spec_WinsCouncil.tab12:rtab .any (opsOf Tryz.f23 12) = spec_WinsCouncil.T12:=by kernel_rfl
theorem spec_WinsCouncil.bits12:waitsOk spec_WinsCouncil.T12.2 spec_WinsCouncil.B12 = true:=by kernel_rfl
set_option maxHeartbeats 8000000 in
set_option maxRecDepth 100000 in
theorem spec_WinsCouncil.calls (k:Nat) (a0_0:Int) (A0_1:Option Addr) (c0_1:Nat) (l0_1:List Int) (A1:Option Addr) (c1:Nat) (l1:List (S_impl_Committee)) (A2:Option Addr) (c2:Nat) (l2:List (List Int)) (r1:Bool) (r2:Bool) (w:World) (hr0_1:Kd.C (Kd.int .i64) w A0_1 l0_1.length l0_1) (hc0_1:l0_1.length ≤ c0_1) (hr1:Kd.C k_impl_Committee w A1 l1.length l1) (hc1:l1.length ≤ c1) (hr2:Kd.C (Kd.slice 3 (Kd.int .i64)) w A2 l2.length l2) (hc2:l2.length ≤ c2) (h:spec_WinsCouncil.f k a0_0 l0_1 l1 l2 = some (r1,r2)) :
  Calls Tryz.prog 23 #[.agg #[.int .i64 a0_0,.slice A0_1 l0_1.length c0_1],.slice A1 l1.length c1,.slice A2 l2.length c2] w fun e w'=>e = .returned (.tuple #[.bool r1,.bool r2]) ∧ Below w.heap.size w w':=by
 have hu24:=Tryz.underlying24;have HR0_1:=aM hr0_1;have HC0_1:=aM hc0_1;clear hr0_1 hc0_1;have HR1:=aM hr1;have HC1:=aM hc1;clear hr1 hc1;have HR2:=aM hr2;have HC2:=aM hc2;clear hr2 hc2;have HB:=aM (Below.refl w.heap.size w);have H:((spec_AreCouncil.f k a0_0 l0_1 l1).bind fun t47=>(if t47 = true then (spec_WinsCouncil.j0 k l1 l2 ((l2.length:Int) != (l1.length:Int)) a0_0 l0_1) else (spec_WinsCouncil.j0 k l1 l2 true a0_0 l0_1))) = some (r1,r2):=h;clear h;have HC4:=aM H;clear H;go_enter Tryz.func23,Tryz.ntmps23;go_upto_region 1 with (first|((with_reducible refine gate_dst (N:=3) rfl ?_);(try (refine gate_guard (by rfl) ?_;dsimp only));refine bE 3 #[.int .i64 a0_0,.slice A0_1 l0_1.length c0_1] 24 ?_;intro gb46 hg w5 hbox hb;have BK46:=aM (hbox);have GW46:=aM (gS hg);have GE46:=aM (gS hg);replace HB:=aM (below_step bw hb);clear hb hbox hg))
 (try simp only [Act.put,sA,sZ,sS])
 go_cut [21] (fun v21 wc=>∃ (kq:Nat) (x21_3:Bool),v21 = .bool x21_3 ∧ Aside0 (spec_WinsCouncil.j0 kq l1 l2 x21_3 a0_0 l0_1 = some (r1,r2)) ∧ Aside0 (kq ≤ k) ∧ Aside0 (wc.heap[gb46]? = some (.cells #[.int .i64 a0_0,(.slice A0_1 l0_1.length c0_1)] 24 (0,0))) ∧ Aside0 (Below w.heap.size w wc))
 case first =>
  have H:=HC4.out;clear HC4;replace H:=oB H;obtain ⟨t47,A6,H⟩:=H;(try dsimp only at H)
  by_cases c7:t47 = true
  ·subst c7;rw [if_pos rfl] at H;have H':=aM H;clear H;have hcz8_0:=cz BK46.out 0;have hcz8_1:=cz BK46.out 1;have hfz8_0:=blk_frozen BK46.out 0;have hfz8_1:=blk_frozen BK46.out 1;go_wp2_with (first|((with_reducible refine gate_callee (f:=13) rfl ?_);refine gL 13 Tryz.func13 #[.agg #[.int .i64 a0_0,.slice A0_1 l0_1.length c0_1],.slice A1 l1.length c1] ?_;(with_reducible refine (spec_AreCouncil.calls k a0_0 _ _ l0_1 _ _ l1 true _ ?side1 ?side2 ?side3 ?side4 A6.out).mono ?_);(case side1=>exact qcs HR0_1.out HB.out);(case side2=>exact HC0_1.out);(case side3=>exact qcs HR1.out HB.out);(case side4=>exact HC1.out);rintro e w9 ⟨rfl,hb⟩;refine ⟨_,rfl,?_⟩;replace BK46:=aM (bB BK46.out hb);replace HB:=aM (below_step bw hb);(try clear hb)))
   go_meet
   case rel=>exact ⟨_,(((l2.length:Int) != (l1.length:Int))),qrs,H',⟨by first|omega|exact Nat.le_refl _⟩,⟨bk1 BK46.out⟩,⟨by exact bw⟩⟩
  ·replace c7:=Bool.eq_false_iff.mpr c7;subst c7;rw [if_neg (show ¬ (false = true) by decide)] at H;have H':=aM H;clear H;have hcz10_0:=cz BK46.out 0;have hcz10_1:=cz BK46.out 1;have hfz10_0:=blk_frozen BK46.out 0;have hfz10_1:=blk_frozen BK46.out 1;go_wp2_with (first|((with_reducible refine gate_callee (f:=13) rfl ?_);refine gL 13 Tryz.func13 #[.agg #[.int .i64 a0_0,.slice A0_1 l0_1.length c0_1],.slice A1 l1.length c1] ?_;(with_reducible refine (spec_AreCouncil.calls k a0_0 _ _ l0_1 _ _ l1 false _ ?side1 ?side2 ?side3 ?side4 A6.out).mono ?_);(case side1=>exact qcs HR0_1.out HB.out);(case side2=>exact HC0_1.out);(case side3=>exact qcs HR1.out HB.out);(case side4=>exact HC1.out);rintro e w11 ⟨rfl,hb⟩;refine ⟨_,rfl,?_⟩;replace BK46:=aM (bB BK46.out hb);replace HB:=aM (below_step bw hb);(try clear hb)))
   go_meet
   case rel=>exact ⟨_,(true),qrs,H',⟨by first|omega|exact Nat.le_refl _⟩,⟨bk1 BK46.out⟩,⟨by exact bw⟩⟩
 case rest =>
  clear HC4;(try clear c1);(try clear c2);(try clear c7);(try clear hcz10_0);(try clear hcz10_1);(try clear hcz8_0);(try clear hcz8_1);(try clear hfz10_0);(try clear hfz10_1);(try clear hfz8_0);(try clear hfz8_1)
  obtain ⟨kq,x21_3,rfl,HA,HJ3,BK46,HB⟩:=hcut
  cases kq with
  | zero=>exact absurd HA.out (by simp [spec_WinsCouncil.j0])
  | succ kj3 =>
   have H:=HA.out;clear HA;simp only [spec_WinsCouncil.j0] at H;by_cases c12:x21_3 = true
   ·subst c12;rw [if_pos rfl] at H;simp only [Option.some.injEq,Prod.mk.injEq] at H;obtain ⟨rfl,rfl⟩:=H;go_wp2
    go_ret2
    exact ⟨eE,by exact bw⟩
   ·replace c12:=Bool.eq_false_iff.mpr c12;subst c12;rw [if_neg (show ¬ (false = true) by decide)] at H;have H':=aM H;clear H;go_wp2
    go_loopg [8,24] kj3 (fun kq v8 v24 w'=>∃ (x8_2:Int) (x24_2:Int),v8 = .int .i64 x8_2 ∧ v24 = .int .i64 x24_2 ∧ Aside0 (spec_WinsCouncil.l0 kq l2 x8_2 l1 (l1.length:Int) x24_2 a0_0 l0_1 = some (r1,r2)) ∧ Aside0 (kq ≤ kj3) ∧ Aside0 (w'.heap[gb46]? = some (.cells #[.int .i64 a0_0,(.slice A0_1 l0_1.length c0_1)] 24 (0,0))) ∧ Aside0 (Below w.heap.size w w'))
    case atStart=>exact ⟨(0),(0),qrs,qrs,H',⟨Nat.le_refl _⟩,⟨bk1 BK46.out⟩,⟨by exact bw⟩⟩
    case round =>
     clear H';(try clear c12)
     obtain ⟨x8_2,x24_2,rfl,rfl,HA,HK2,BK46,HB⟩:=hrel
     cases gk with
     | zero=>exact absurd HA.out (by simp [spec_WinsCouncil.l0])
     | succ k2 =>
      have H:=HA.out;clear HA;simp only [spec_WinsCouncil.l0] at H;by_cases c13:x24_2 < (l1.length:Int)
      ·rw [if_pos c13] at H;have c13b0:=decide_eq_true c13;clear c13;replace H:=iN H;obtain ⟨c14,H⟩:=H;have c14b0:decide (0 ≤ x24_2) = true:=decide_eq_true c14;clear c14;replace H:=iN H;obtain ⟨c15,H⟩:=H;have c15b0:decide (x24_2 < (l1.length:Int)) = true:=decide_eq_true c15;clear c15;replace H:=iN H;obtain ⟨c16,H⟩:=H;have c16b0:decide (x24_2 < (l2.length:Int)) = true:=decide_eq_true c16;clear c16;replace H:=oB H;obtain ⟨t52,A17,H⟩:=H;(try dsimp only at H)
       by_cases c18:t52 = true
       ·subst c18;rw [if_pos rfl] at H;replace H:=oB H;obtain ⟨t57,A19,H⟩:=H;(try dsimp only at H)
        replace H:=oB H;obtain ⟨t58,A20,H⟩:=H;(try dsimp only at H)
        by_cases c21:t58 ≥ ((rd_impl_Committee l1 x24_2).f0)
        ·rw [if_pos c21] at H;have c21b0:decide (((rd_impl_Committee l1 x24_2).f0) ≤ t58) = true:=decide_eq_true c21;clear c21;have c22b0:=eq_true (of_decide_eq_true ab:0 ≤ x24_2);obtain ⟨ji23,hji23⟩:∃ j_:Int,(shl .i64 1 x24_2) = j_:=⟨_,rfl⟩;(first|rw [hji23] at H|simp only [hji23] at H)
         (try rw [hji23] at A17)
         (try rw [hji23] at A19)
         (try rw [hji23] at A20)
         have hji23_:(IntKind.i64.wrap (1 * 2 ^ min x24_2.toNat 64)) = ji23:=hji23;have hji23z:x24_2 ≤ 64 → (IntKind.i64.wrap (1 * 2 ^ x24_2.toNat)) = ji23:=shl_small hji23;have hji23u:(IntKind.i64.wrap (2 ^ min x24_2.toNat 64)) = ji23:=by have h_:=hji23_;rw [Int.one_mul] at h_;exact h_
         have hji23v:x24_2 ≤ 64 → (IntKind.i64.wrap (2 ^ x24_2.toNat)) = ji23:=fun hle_=>by have h_:=hji23z hle_;rw [Int.one_mul] at h_;exact h_
         have hji23y:(wrap64 (1 * 2 ^ min x24_2.toNat 64)) = ji23:=(i64_w _).symm.trans hji23_;have hji23x:x24_2 ≤ 64 → (wrap64 (1 * 2 ^ x24_2.toNat)) = ji23:=fun h_=>(i64_w _).symm.trans (hji23z h_)
         have H':=aM H;clear H;have p49:0 ≤ (x24_2:Int):=of_decide_eq_true ab;have q49:x24_2 < (l1.length:Int):=of_decide_eq_true ab;obtain ⟨ad49,A49_1,c510_1,e49,hx49_0,hx49_1,hl49_1,hi49_1⟩:=at_impl_Committee HR1.out x24_2 p49 q49;cases e49
         replace hx49_0:=(HB.out.cell (World.block_lt_of_cell? w _ hx49_0)).trans hx49_0;replace hx49_1:=(HB.out.cell (World.block_lt_of_cell? w _ hx49_1)).trans hx49_1;have HR49_1:=aM hi49_1;have HC49_1:=aM hl49_1;clear hi49_1 hl49_1;replace p49:=eq_true p49;replace q49:=eq_true q49
         try go_wp2_with (first|((with_reducible refine gate_dst (N:=10) rfl ?_);(try (refine gate_guard (by rfl) ?_;dsimp only));refine bE 10 #[.int .i64 0,.slice none 0 0] 24 ?_;intro gb50 hg w24 hbox hb;have BK50:=aM (hbox);have GW50:=aM (gS hg);have GE50:=aM (gS hg);replace HB:=aM (below_step bw hb);have NB46_50:=aM (nL BK46.out hg);have NB50_46:=aM (nR BK46.out hg);replace BK46:=aM (bB BK46.out hb);clear hb hbox hg;have hnb25:=NB50_46.out;have hnc25:=NB46_50.out;have hcz26_0:=cz BK50.out 0;have hcz26_1:=cz BK50.out 1;have hfz26_0:=blk_frozen BK50.out 0;have hfz26_1:=blk_frozen BK50.out 1))
         generalize hW_:((w24.setCell ⟨gb50,0,none⟩ (.int .i64 ((rd_impl_Committee l1 x24_2).f0))).setCell ⟨gb50,1,none⟩ (.slice A49_1 ((rd_impl_Committee l1 x24_2).f1).length c510_1)) = w27
         replace BK46:=aM (sF2 hW_ BK46.out NB46_50.out);replace BK50:=aM (sP2 hW_ BK50.out);replace HB:=aM (sB2 hW_ HB.out);clear hW_;replace BK46:=aM (blk_drew BK46.out);replace BK50:=aM (blk_drew BK50.out);replace HB:=aM (below_drew1 HB.out);have p51:0 ≤ (x24_2:Int):=of_decide_eq_true ab;have q51:x24_2 < (l2.length:Int):=of_decide_eq_true ab;obtain ⟨ad51,A51_0,c512_0,e51,hx51_0,hl51_0,hi51_0⟩:=at_LI HR2.out x24_2 p51 q51;have hw51_0:=hx51_0;cases e51
         replace hx51_0:=(HB.out.cell (World.block_lt_of_cell? w _ hx51_0)).trans hx51_0;have HR51_0:=aM hi51_0;have HC51_0:=aM hl51_0;clear hi51_0 hl51_0;replace p51:=eq_true p51;replace q51:=eq_true q51;refine start_ (n:=9) (S:=fun w'=>w'.cell? ⟨gb50,0,none⟩ = some (.int .i64 ((rd_impl_Committee l1 x24_2).f0)) ∧ w'.cell? ⟨gb50,1,none⟩ = some (.slice A49_1 ((rd_impl_Committee l1 x24_2).f1).length c510_1) ∧ w'.cell? (ad51.add (x24_2).toNat) = some (.slice A51_0 (rd_LI l2 x24_2).length c512_0)) (ds:=[]) (mA 9 0) kR rfl rfl ⟨(blk_cell BK50.out 0).trans rfl,(blk_cell BK50.out 1).trans rfl,((HB.out.cell (World.block_lt_of_cell? w _ hw51_0)).trans hw51_0)⟩ (fun hHeld=>?_);refine with_tabW spec_WinsCouncil.tab7 spec_WinsCouncil.bits7 (fun HT_ HW_=>?_)
         generalize w27.drew = w28 at BK46 BK50 HB HR51_0 hx51_0 hHeld ⊢
         refine pT 0 29 HT_.out ?_;refine pT 3 32 HT_.out ?_;refine pT 4 33 HT_.out ?_;refine pT 5 34 HT_.out ?_;refine pK 1 30 HT_.out HW_.out hHeld ?_;refine pT 2 31 HT_.out ?_;refine pK 6 35 HT_.out HW_.out hHeld ?_;refine oN 7 (some 36) HT_.out fun K hK=>?_
         refine gC Tryz.func53 #[.int .i64 (((rd_impl_Committee l1 x24_2).f1).length:Int),.slice A51_0 (rd_LI l2 x24_2).length c512_0] ?_
         with_reducible refine (spec_voSet.calls k2 (((rd_impl_Committee l1 x24_2).f1).length:Int) _ _ (rd_LI l2 x24_2) true _ ?side1 ?side2 A17.out).mono ?_
         (case side1=>exact qcs HR51_0.out HB.out)
         (case side2=>exact HC51_0.out)
         rintro e w' ⟨rfl,⟨nd,rfl⟩⟩
         refine ⟨_,rfl,?_⟩;refine hK.out _ _ ⟨(blk_cell BK50.out 0).trans rfl,(blk_cell BK50.out 1).trans rfl,((HB.out.cell (World.block_lt_of_cell? w _ hw51_0)).trans hw51_0)⟩ (fun hHeld=>?_);clear hK K;refine nM 36 ?_;refine pT 8 37 HT_.out ?_;refine done_ (done_of HT_.out kR) ?_
         try go_wp2
         (try (rw [drewN_self w28];generalize hq_:World.drewN w28 _ = w28;have n0_:Aside0 (w28.heap[gb46]? = some (.cells #[.int .i64 a0_0,.slice A0_1 l0_1.length c0_1] 24 (0,0))):=⟨by rw [← hq_];exact (bk1 BK46.out)⟩;have n1_:Aside0 (w28.heap[gb50]? = some (.cells #[.int .i64 ((rd_impl_Committee l1 x24_2).f0),.slice A49_1 ((rd_impl_Committee l1 x24_2).f1).length c510_1] 24 (0,0))):=⟨by rw [← hq_];exact (bk1 BK50.out)⟩;have n2_:Aside0 (Below w.heap.size w w28):=⟨by rw [← hq_];exact bw⟩;clear BK46 BK50 HB hq_;have BK46:=n0_;have BK50:=n1_;have HB:=n2_;clear n0_ n1_ n2_))
         replace BK46:=aM (blk_drew BK46.out);replace BK50:=aM (blk_drew BK50.out);replace HB:=aM (below_drew1 HB.out);have p56:0 ≤ (x24_2:Int):=of_decide_eq_true ab;have q56:x24_2 < (l2.length:Int):=of_decide_eq_true ab;obtain ⟨ad56,A56_0,c514_0,e56,hx56_0,hl56_0,hi56_0⟩:=at_LI HR2.out x24_2 p56 q56;have hw56_0:=hx56_0;obtain rfl:ad51 = ad56:=(by injection e56);replace hx56_0:=(HB.out.cell (World.block_lt_of_cell? w _ hx56_0)).trans hx56_0;have HR56_0:=aM hi56_0;have HC56_0:=aM hl56_0;clear hi56_0 hl56_0;replace p56:=eq_true p56;replace q56:=eq_true q56;refine start_ (n:=10) (S:=fun w'=>w'.cell? ⟨gb50,0,none⟩ = some (.int .i64 ((rd_impl_Committee l1 x24_2).f0)) ∧ w'.cell? ⟨gb50,1,none⟩ = some (.slice A49_1 ((rd_impl_Committee l1 x24_2).f1).length c510_1) ∧ w'.cell? (ad51.add (x24_2).toNat) = some (.slice A56_0 (rd_LI l2 x24_2).length c514_0)) (ds:=[]) (mA 10 0) kR rfl rfl ⟨(blk_cell BK50.out 0).trans rfl,(blk_cell BK50.out 1).trans rfl,((HB.out.cell (World.block_lt_of_cell? w _ hw56_0)).trans hw56_0)⟩ (fun hHeld=>?_);refine with_tabW spec_WinsCouncil.tab9 spec_WinsCouncil.bits9 (fun HT_ HW_=>?_)
         generalize w28.drew = w29 at BK46 BK50 HB HR56_0 hx56_0 hHeld ⊢
         refine pT 1 39 HT_.out ?_;refine pT 2 40 HT_.out ?_;refine pT 3 41 HT_.out ?_;refine pT 7 45 HT_.out ?_;refine pK 0 38 HT_.out HW_.out hHeld ?_;refine pK 4 42 HT_.out HW_.out hHeld ?_;refine pK 8 46 HT_.out HW_.out hHeld ?_;refine oN 5 (some 43) HT_.out fun K hK=>?_
         refine gC Tryz.func55 #[.slice A56_0 (rd_LI l2 x24_2).length c514_0] ?_
         with_reducible refine (spec_voBits.calls k2 _ _ (rd_LI l2 x24_2) t57 _ ?side1 ?side2 A19.out).mono ?_
         (case side1=>exact qcs HR56_0.out HB.out)
         (case side2=>exact HC56_0.out)
         rintro e w' ⟨rfl,⟨nd,rfl⟩⟩
         refine ⟨_,rfl,?_⟩;refine hK.out _ _ ⟨(blk_cell BK50.out 0).trans rfl,(blk_cell BK50.out 1).trans rfl,((HB.out.cell (World.block_lt_of_cell? w _ hw56_0)).trans hw56_0)⟩ (fun hHeld=>?_);clear hK K;refine nM 43 ?_;refine oN 6 (some 44) HT_.out fun K hK=>?_
         refine gC Tryz.func54 #[.agg #[.int .i64 ((rd_impl_Committee l1 x24_2).f0),.slice A49_1 ((rd_impl_Committee l1 x24_2).f1).length c510_1],.int .i64 t57] ?_
         with_reducible refine (spec_voWeight.calls k2 ((rd_impl_Committee l1 x24_2).f0) _ _ ((rd_impl_Committee l1 x24_2).f1) t57 t58 _ ?side1 ?side2 A20.out).mono ?_
         (case side1=>exact qc (Kd.C_below HR49_1.out bw))
         (case side2=>exact HC49_1.out)
         rintro e w30 ⟨rfl,hb⟩
         refine ⟨_,rfl,?_⟩;replace BK46:=aM (bB BK46.out hb);replace BK50:=aM (bB BK50.out hb);replace HB:=aM (below_step bw hb);(try clear hb)
         refine hK.out _ _ ⟨(blk_cell BK50.out 0).trans rfl,(blk_cell BK50.out 1).trans rfl,((HB.out.cell (World.block_lt_of_cell? w _ hw56_0)).trans hw56_0)⟩ (fun hHeld=>?_);clear hK K;refine nM 44 ?_;refine pT 9 47 HT_.out ?_;refine done_ (done_of HT_.out kR) ?_
         try go_wp2
         go_roundg k2
         case measure=>have:=HJ3.out;have:=HK2.out;omega
         case rel=>exact ⟨(Go.bits .or .i64 x8_2 (ji23)),(wrap64 (x24_2 + 1)),(by first|rfl|(simp;done)|(simp only [← hji23] <;> (first|rfl|simp))|(simp [*];done)),qrs,H',⟨by have:=HJ3.out;have:=HK2.out;omega⟩,⟨bk1 BK46.out⟩,⟨by exact bw⟩⟩
        ·rw [if_neg c21] at H;have c21b0:decide (((rd_impl_Committee l1 x24_2).f0) ≤ t58) = false:=decide_eq_false c21;clear c21;have H':=aM H;clear H;have p49:0 ≤ (x24_2:Int):=of_decide_eq_true ab;have q49:x24_2 < (l1.length:Int):=of_decide_eq_true ab;obtain ⟨ad49,A49_1,c510_1,e49,hx49_0,hx49_1,hl49_1,hi49_1⟩:=at_impl_Committee HR1.out x24_2 p49 q49;cases e49
         replace hx49_0:=(HB.out.cell (World.block_lt_of_cell? w _ hx49_0)).trans hx49_0;replace hx49_1:=(HB.out.cell (World.block_lt_of_cell? w _ hx49_1)).trans hx49_1;have HR49_1:=aM hi49_1;have HC49_1:=aM hl49_1;clear hi49_1 hl49_1;replace p49:=eq_true p49;replace q49:=eq_true q49
         try go_wp2_with (first|((with_reducible refine gate_dst (N:=10) rfl ?_);(try (refine gate_guard (by rfl) ?_;dsimp only));refine bE 10 #[.int .i64 0,.slice none 0 0] 24 ?_;intro gb50 hg w31 hbox hb;have BK50:=aM (hbox);have GW50:=aM (gS hg);have GE50:=aM (gS hg);replace HB:=aM (below_step bw hb);have NB46_50:=aM (nL BK46.out hg);have NB50_46:=aM (nR BK46.out hg);replace BK46:=aM (bB BK46.out hb);clear hb hbox hg;have hnb32:=NB50_46.out;have hnc32:=NB46_50.out;have hcz33_0:=cz BK50.out 0;have hcz33_1:=cz BK50.out 1;have hfz33_0:=blk_frozen BK50.out 0;have hfz33_1:=blk_frozen BK50.out 1))
         generalize hW_:((w31.setCell ⟨gb50,0,none⟩ (.int .i64 ((rd_impl_Committee l1 x24_2).f0))).setCell ⟨gb50,1,none⟩ (.slice A49_1 ((rd_impl_Committee l1 x24_2).f1).length c510_1)) = w34
         replace BK46:=aM (sF2 hW_ BK46.out NB46_50.out);replace BK50:=aM (sP2 hW_ BK50.out);replace HB:=aM (sB2 hW_ HB.out);clear hW_;replace BK46:=aM (blk_drew BK46.out);replace BK50:=aM (blk_drew BK50.out);replace HB:=aM (below_drew1 HB.out);have p51:0 ≤ (x24_2:Int):=of_decide_eq_true ab;have q51:x24_2 < (l2.length:Int):=of_decide_eq_true ab;obtain ⟨ad51,A51_0,c512_0,e51,hx51_0,hl51_0,hi51_0⟩:=at_LI HR2.out x24_2 p51 q51;have hw51_0:=hx51_0;cases e51
         replace hx51_0:=(HB.out.cell (World.block_lt_of_cell? w _ hx51_0)).trans hx51_0;have HR51_0:=aM hi51_0;have HC51_0:=aM hl51_0;clear hi51_0 hl51_0;replace p51:=eq_true p51;replace q51:=eq_true q51;refine start_ (n:=9) (S:=fun w'=>w'.cell? ⟨gb50,0,none⟩ = some (.int .i64 ((rd_impl_Committee l1 x24_2).f0)) ∧ w'.cell? ⟨gb50,1,none⟩ = some (.slice A49_1 ((rd_impl_Committee l1 x24_2).f1).length c510_1) ∧ w'.cell? (ad51.add (x24_2).toNat) = some (.slice A51_0 (rd_LI l2 x24_2).length c512_0)) (ds:=[]) (mA 9 0) kR rfl rfl ⟨(blk_cell BK50.out 0).trans rfl,(blk_cell BK50.out 1).trans rfl,((HB.out.cell (World.block_lt_of_cell? w _ hw51_0)).trans hw51_0)⟩ (fun hHeld=>?_);refine with_tabW spec_WinsCouncil.tab7 spec_WinsCouncil.bits7 (fun HT_ HW_=>?_)
         generalize w34.drew = w35 at BK46 BK50 HB HR51_0 hx51_0 hHeld ⊢
         refine pT 0 29 HT_.out ?_;refine pT 3 32 HT_.out ?_;refine pT 4 33 HT_.out ?_;refine pT 5 34 HT_.out ?_;refine pK 1 30 HT_.out HW_.out hHeld ?_;refine pT 2 31 HT_.out ?_;refine pK 6 35 HT_.out HW_.out hHeld ?_;refine oN 7 (some 36) HT_.out fun K hK=>?_
         refine gC Tryz.func53 #[.int .i64 (((rd_impl_Committee l1 x24_2).f1).length:Int),.slice A51_0 (rd_LI l2 x24_2).length c512_0] ?_
         with_reducible refine (spec_voSet.calls k2 (((rd_impl_Committee l1 x24_2).f1).length:Int) _ _ (rd_LI l2 x24_2) true _ ?side1 ?side2 A17.out).mono ?_
         (case side1=>exact qcs HR51_0.out HB.out)
         (case side2=>exact HC51_0.out)
         rintro e w' ⟨rfl,⟨nd,rfl⟩⟩
         refine ⟨_,rfl,?_⟩;refine hK.out _ _ ⟨(blk_cell BK50.out 0).trans rfl,(blk_cell BK50.out 1).trans rfl,((HB.out.cell (World.block_lt_of_cell? w _ hw51_0)).trans hw51_0)⟩ (fun hHeld=>?_);clear hK K;refine nM 36 ?_;refine pT 8 37 HT_.out ?_;refine done_ (done_of HT_.out kR) ?_
         try go_wp2
         (try (rw [drewN_self w35];generalize hq_:World.drewN w35 _ = w35;have n0_:Aside0 (w35.heap[gb46]? = some (.cells #[.int .i64 a0_0,.slice A0_1 l0_1.length c0_1] 24 (0,0))):=⟨by rw [← hq_];exact (bk1 BK46.out)⟩;have n1_:Aside0 (w35.heap[gb50]? = some (.cells #[.int .i64 ((rd_impl_Committee l1 x24_2).f0),.slice A49_1 ((rd_impl_Committee l1 x24_2).f1).length c510_1] 24 (0,0))):=⟨by rw [← hq_];exact (bk1 BK50.out)⟩;have n2_:Aside0 (Below w.heap.size w w35):=⟨by rw [← hq_];exact bw⟩;clear BK46 BK50 HB hq_;have BK46:=n0_;have BK50:=n1_;have HB:=n2_;clear n0_ n1_ n2_))
         replace BK46:=aM (blk_drew BK46.out);replace BK50:=aM (blk_drew BK50.out);replace HB:=aM (below_drew1 HB.out);have p56:0 ≤ (x24_2:Int):=of_decide_eq_true ab;have q56:x24_2 < (l2.length:Int):=of_decide_eq_true ab;obtain ⟨ad56,A56_0,c514_0,e56,hx56_0,hl56_0,hi56_0⟩:=at_LI HR2.out x24_2 p56 q56;have hw56_0:=hx56_0;obtain rfl:ad51 = ad56:=(by injection e56);replace hx56_0:=(HB.out.cell (World.block_lt_of_cell? w _ hx56_0)).trans hx56_0;have HR56_0:=aM hi56_0;have HC56_0:=aM hl56_0;clear hi56_0 hl56_0;replace p56:=eq_true p56;replace q56:=eq_true q56;refine start_ (n:=10) (S:=fun w'=>w'.cell? ⟨gb50,0,none⟩ = some (.int .i64 ((rd_impl_Committee l1 x24_2).f0)) ∧ w'.cell? ⟨gb50,1,none⟩ = some (.slice A49_1 ((rd_impl_Committee l1 x24_2).f1).length c510_1) ∧ w'.cell? (ad51.add (x24_2).toNat) = some (.slice A56_0 (rd_LI l2 x24_2).length c514_0)) (ds:=[]) (mA 10 0) kR rfl rfl ⟨(blk_cell BK50.out 0).trans rfl,(blk_cell BK50.out 1).trans rfl,((HB.out.cell (World.block_lt_of_cell? w _ hw56_0)).trans hw56_0)⟩ (fun hHeld=>?_);refine with_tabW spec_WinsCouncil.tab9 spec_WinsCouncil.bits9 (fun HT_ HW_=>?_)
         generalize w35.drew = w36 at BK46 BK50 HB HR56_0 hx56_0 hHeld ⊢
         refine pT 1 39 HT_.out ?_;refine pT 2 40 HT_.out ?_;refine pT 3 41 HT_.out ?_;refine pT 7 45 HT_.out ?_;refine pK 0 38 HT_.out HW_.out hHeld ?_;refine pK 4 42 HT_.out HW_.out hHeld ?_;refine pK 8 46 HT_.out HW_.out hHeld ?_;refine oN 5 (some 43) HT_.out fun K hK=>?_
         refine gC Tryz.func55 #[.slice A56_0 (rd_LI l2 x24_2).length c514_0] ?_
         with_reducible refine (spec_voBits.calls k2 _ _ (rd_LI l2 x24_2) t57 _ ?side1 ?side2 A19.out).mono ?_
         (case side1=>exact qcs HR56_0.out HB.out)
         (case side2=>exact HC56_0.out)
         rintro e w' ⟨rfl,⟨nd,rfl⟩⟩
         refine ⟨_,rfl,?_⟩;refine hK.out _ _ ⟨(blk_cell BK50.out 0).trans rfl,(blk_cell BK50.out 1).trans rfl,((HB.out.cell (World.block_lt_of_cell? w _ hw56_0)).trans hw56_0)⟩ (fun hHeld=>?_);clear hK K;refine nM 43 ?_;refine oN 6 (some 44) HT_.out fun K hK=>?_
         refine gC Tryz.func54 #[.agg #[.int .i64 ((rd_impl_Committee l1 x24_2).f0),.slice A49_1 ((rd_impl_Committee l1 x24_2).f1).length c510_1],.int .i64 t57] ?_
         with_reducible refine (spec_voWeight.calls k2 ((rd_impl_Committee l1 x24_2).f0) _ _ ((rd_impl_Committee l1 x24_2).f1) t57 t58 _ ?side1 ?side2 A20.out).mono ?_
         (case side1=>exact qc (Kd.C_below HR49_1.out bw))
         (case side2=>exact HC49_1.out)
         rintro e w37 ⟨rfl,hb⟩
         refine ⟨_,rfl,?_⟩;replace BK46:=aM (bB BK46.out hb);replace BK50:=aM (bB BK50.out hb);replace HB:=aM (below_step bw hb);(try clear hb)
         refine hK.out _ _ ⟨(blk_cell BK50.out 0).trans rfl,(blk_cell BK50.out 1).trans rfl,((HB.out.cell (World.block_lt_of_cell? w _ hw56_0)).trans hw56_0)⟩ (fun hHeld=>?_);clear hK K;refine nM 44 ?_;refine pT 9 47 HT_.out ?_;refine done_ (done_of HT_.out kR) ?_
         try go_wp2
         go_roundg k2
         case measure=>have:=HJ3.out;have:=HK2.out;omega
         case rel=>exact ⟨(x8_2),(wrap64 (x24_2 + 1)),qrs,qrs,H',⟨by have:=HJ3.out;have:=HK2.out;omega⟩,⟨bk1 BK46.out⟩,⟨by exact bw⟩⟩
       ·replace c18:=Bool.eq_false_iff.mpr c18;subst c18;rw [if_neg (show ¬ (false = true) by decide)] at H;simp only [Option.some.injEq,Prod.mk.injEq] at H;obtain ⟨rfl,rfl⟩:=H;have p49:0 ≤ (x24_2:Int):=of_decide_eq_true ab;have q49:x24_2 < (l1.length:Int):=of_decide_eq_true ab;obtain ⟨ad49,A49_1,c510_1,e49,hx49_0,hx49_1,hl49_1,hi49_1⟩:=at_impl_Committee HR1.out x24_2 p49 q49;cases e49
        replace hx49_0:=(HB.out.cell (World.block_lt_of_cell? w _ hx49_0)).trans hx49_0;replace hx49_1:=(HB.out.cell (World.block_lt_of_cell? w _ hx49_1)).trans hx49_1;have HR49_1:=aM hi49_1;have HC49_1:=aM hl49_1;clear hi49_1 hl49_1;replace p49:=eq_true p49;replace q49:=eq_true q49
        try go_wp2_with (first|((with_reducible refine gate_dst (N:=10) rfl ?_);(try (refine gate_guard (by rfl) ?_;dsimp only));refine bE 10 #[.int .i64 0,.slice none 0 0] 24 ?_;intro gb50 hg w38 hbox hb;have BK50:=aM (hbox);have GW50:=aM (gS hg);have GE50:=aM (gS hg);replace HB:=aM (below_step bw hb);have NB46_50:=aM (nL BK46.out hg);have NB50_46:=aM (nR BK46.out hg);replace BK46:=aM (bB BK46.out hb);clear hb hbox hg;have hnb39:=NB50_46.out;have hnc39:=NB46_50.out;have hcz40_0:=cz BK50.out 0;have hcz40_1:=cz BK50.out 1;have hfz40_0:=blk_frozen BK50.out 0;have hfz40_1:=blk_frozen BK50.out 1))
        generalize hW_:((w38.setCell ⟨gb50,0,none⟩ (.int .i64 ((rd_impl_Committee l1 x24_2).f0))).setCell ⟨gb50,1,none⟩ (.slice A49_1 ((rd_impl_Committee l1 x24_2).f1).length c510_1)) = w41
        replace BK46:=aM (sF2 hW_ BK46.out NB46_50.out);replace BK50:=aM (sP2 hW_ BK50.out);replace HB:=aM (sB2 hW_ HB.out);clear hW_;replace BK46:=aM (blk_drew BK46.out);replace BK50:=aM (blk_drew BK50.out);replace HB:=aM (below_drew1 HB.out);have p51:0 ≤ (x24_2:Int):=of_decide_eq_true ab;have q51:x24_2 < (l2.length:Int):=of_decide_eq_true ab;obtain ⟨ad51,A51_0,c512_0,e51,hx51_0,hl51_0,hi51_0⟩:=at_LI HR2.out x24_2 p51 q51;have hw51_0:=hx51_0;cases e51
        replace hx51_0:=(HB.out.cell (World.block_lt_of_cell? w _ hx51_0)).trans hx51_0;have HR51_0:=aM hi51_0;have HC51_0:=aM hl51_0;clear hi51_0 hl51_0;replace p51:=eq_true p51;replace q51:=eq_true q51;refine start_ (n:=9) (S:=fun w'=>w'.cell? ⟨gb50,0,none⟩ = some (.int .i64 ((rd_impl_Committee l1 x24_2).f0)) ∧ w'.cell? ⟨gb50,1,none⟩ = some (.slice A49_1 ((rd_impl_Committee l1 x24_2).f1).length c510_1) ∧ w'.cell? (ad51.add (x24_2).toNat) = some (.slice A51_0 (rd_LI l2 x24_2).length c512_0)) (ds:=[]) (mA 9 0) kR rfl rfl ⟨(blk_cell BK50.out 0).trans rfl,(blk_cell BK50.out 1).trans rfl,((HB.out.cell (World.block_lt_of_cell? w _ hw51_0)).trans hw51_0)⟩ (fun hHeld=>?_);refine with_tabW spec_WinsCouncil.tab7 spec_WinsCouncil.bits7 (fun HT_ HW_=>?_)
        generalize w41.drew = w42 at BK46 BK50 HB HR51_0 hx51_0 hHeld ⊢
        refine pT 0 29 HT_.out ?_;refine pT 3 32 HT_.out ?_;refine pT 4 33 HT_.out ?_;refine pT 5 34 HT_.out ?_;refine pK 1 30 HT_.out HW_.out hHeld ?_;refine pT 2 31 HT_.out ?_;refine pK 6 35 HT_.out HW_.out hHeld ?_;refine oN 7 (some 36) HT_.out fun K hK=>?_
        refine gC Tryz.func53 #[.int .i64 (((rd_impl_Committee l1 x24_2).f1).length:Int),.slice A51_0 (rd_LI l2 x24_2).length c512_0] ?_
        with_reducible refine (spec_voSet.calls k2 (((rd_impl_Committee l1 x24_2).f1).length:Int) _ _ (rd_LI l2 x24_2) false _ ?side1 ?side2 A17.out).mono ?_
        (case side1=>exact qcs HR51_0.out HB.out)
        (case side2=>exact HC51_0.out)
        rintro e w' ⟨rfl,⟨nd,rfl⟩⟩
        refine ⟨_,rfl,?_⟩;refine hK.out _ _ ⟨(blk_cell BK50.out 0).trans rfl,(blk_cell BK50.out 1).trans rfl,((HB.out.cell (World.block_lt_of_cell? w _ hw51_0)).trans hw51_0)⟩ (fun hHeld=>?_);clear hK K;refine nM 36 ?_;refine pT 8 37 HT_.out ?_;refine done_ (done_of HT_.out kR) ?_
        try go_wp2
        go_ret2
        exact ⟨eE,by exact bw⟩
      ·rw [if_neg c13] at H;have c13b0:=decide_eq_false c13;clear c13;replace H:=oB H;obtain ⟨t48,A43,H⟩:=H;(try dsimp only at H)
       simp only [Option.some.injEq,Prod.mk.injEq] at H;obtain ⟨rfl,rfl⟩:=H
       try go_wp2
       replace BK46:=aM (blk_drew BK46.out);replace HB:=aM (below_drew1 HB.out);refine start_ (n:=8) (S:=fun w'=>w'.cell? ⟨gb46,0,none⟩ = some (.int .i64 a0_0) ∧ w'.cell? ⟨gb46,1,none⟩ = some (.slice A0_1 l0_1.length c0_1)) (ds:=[]) (mA 8 0) kR rfl rfl ⟨(blk_cell BK46.out 0).trans rfl,(blk_cell BK46.out 1).trans rfl⟩ (fun hHeld=>?_);refine with_tabW spec_WinsCouncil.tab12 spec_WinsCouncil.bits12 (fun HT_ HW_=>?_)
       generalize wr.drew = w44 at BK46 HB hHeld ⊢
       refine pT 1 54 HT_.out ?_;refine pT 3 56 HT_.out ?_;refine pK 0 53 HT_.out HW_.out hHeld ?_;refine pK 4 57 HT_.out HW_.out hHeld ?_;refine oN 2 (some 55) HT_.out fun K hK=>?_
       refine gC Tryz.func54 #[.agg #[.int .i64 a0_0,.slice A0_1 l0_1.length c0_1],.int .i64 x8_2] ?_
       with_reducible refine (spec_voWeight.calls k2 a0_0 _ _ l0_1 x8_2 t48 _ ?side1 ?side2 A43.out).mono ?_
       (case side1=>exact qcs HR0_1.out HB.out)
       (case side2=>exact HC0_1.out)
       rintro e w45 ⟨rfl,hb⟩
       refine ⟨_,rfl,?_⟩;replace BK46:=aM (bB BK46.out hb);replace HB:=aM (below_step bw hb);(try clear hb)
       refine hK.out _ _ ⟨(blk_cell BK46.out 0).trans rfl,(blk_cell BK46.out 1).trans rfl⟩ (fun hHeld=>?_);clear hK K;refine nM 55 ?_;refine pT 5 58 HT_.out ?_;refine pT 6 6 HT_.out ?_;refine pT 7 7 HT_.out ?_;refine done_ (done_of HT_.out kR) ?_
       try go_wp2
       go_ret2
       exact ⟨eE,by exact bw⟩


/-! ### spec_chInners: function 56 -/
def spec_chInners.f (k:Nat) (l0:List (S_impl_Committee)):Option (Bool):=(spec_l1In.f (l0.length:Int) 1 9).bind fun t2=>(if t2 = true then ((spec_chMembers.f k l0).bind fun t3=>(some (decide (t3 > 0)))) else (some false))
set_option maxHeartbeats 8000000 in
set_option maxRecDepth 100000 in
theorem spec_chInners.calls (k:Nat) (A0:Option Addr) (c0:Nat) (l0:List (S_impl_Committee)) (r:Bool) (w:World) (hr0:Kd.C k_impl_Committee w A0 l0.length l0) (hc0:l0.length ≤ c0) (h:spec_chInners.f k l0 = some r) :
  Calls Tryz.prog 56 #[.slice A0 l0.length c0] w fun e w'=>e = .returned (.bool r) ∧ Below w.heap.size w w':=by
 have HR0:=aM hr0;have HC0:=aM hc0;clear hr0 hc0;have HB:=aM (Below.refl w.heap.size w);have H:((spec_l1In.f (l0.length:Int) 1 9).bind fun t6=>(if t6 = true then ((spec_chMembers.f k l0).bind fun t7=>(some (decide (t7 > 0)))) else (some false))) = some r:=h;clear h;replace H:=oB H;obtain ⟨t6,A2,H⟩:=H;(try dsimp only at H)
 by_cases c3:t6 = true
 ·subst c3;rw [if_pos rfl] at H;replace H:=oB H;obtain ⟨t7,A4,H⟩:=H;(try dsimp only at H)
  obtain rfl:=Option.some.inj H;go_enter Tryz.func56,Tryz.ntmps56;go_wp2_with (first|((with_reducible refine gate_callee (f:=41) rfl ?_);refine gL 5 Tryz.func41 #[.int .i64 (l0.length:Int),.int .i64 1,.int .i64 9] ?_;(with_reducible refine (spec_l1In.calls (l0.length:Int) 1 9 true _ A2.out).mono ?_);rintro e w' ⟨rfl,⟨nd,rfl⟩⟩;refine ⟨_,rfl,?_⟩)|(go_at_call 32;(with_reducible refine (spec_chMembers.calls k _ _ l0 t7 _ ?side1 ?side2 A4.out).mono ?_);(case side1=>exact qc HR0.out);(case side2=>exact HC0.out);rintro e w5 ⟨rfl,hb⟩;replace HB:=aM (below_step bw hb);(try clear hb)))
  go_ret
  exact ⟨eE,by exact bw⟩
 ·replace c3:=Bool.eq_false_iff.mpr c3;subst c3;rw [if_neg (show ¬ (false = true) by decide)] at H;obtain rfl:=Option.some.inj H;go_enter Tryz.func56,Tryz.ntmps56;go_wp2_with (first|((with_reducible refine gate_callee (f:=41) rfl ?_);refine gL 5 Tryz.func41 #[.int .i64 (l0.length:Int),.int .i64 1,.int .i64 9] ?_;(with_reducible refine (spec_l1In.calls (l0.length:Int) 1 9 false _ A2.out).mono ?_);rintro e w' ⟨rfl,⟨nd,rfl⟩⟩;refine ⟨_,rfl,?_⟩))
  go_ret
  exact ⟨eE,by exact bw⟩


/-! ### spec_PlaceInCouncil: function 24 -/
mutual
def spec_PlaceInCouncil.j0:Nat → List (S_impl_Committee) → Int → Bool → Option (Int × Int × Bool)
 | 0,_,_,_=>none
 | k + 1,x0,x1,x18=>if x18 = true then (some (0,0,false)) else (spec_PlaceInCouncil.l0 k x0 x1 0)
def spec_PlaceInCouncil.l0:Nat → List (S_impl_Committee) → Int → Int → Option (Int × Int × Bool)
 | 0,_,_,_=>none
 | k + 1,x0,x1,x7=>if 0 ≤ x7 then (if x7 < (x0.length:Int) then (if x1 ≥ (((rd_impl_Committee x0 x7).f1).length:Int) then (spec_PlaceInCouncil.l0 k x0 (wrap64 (x1 - (((rd_impl_Committee x0 x7).f1).length:Int))) (wrap64 (x7 + 1))) else (some (x7,x1,true))) else (none)) else (none)
end
def spec_PlaceInCouncil.f (k:Nat) (l0:List (S_impl_Committee)) (a1:Int):Option (Int × Int × Bool):=(spec_chInners.f k l0).bind fun t2=>(if t2 = true then ((spec_chMembers.f k l0).bind fun t3=>((spec_l1In.f a1 0 (wrap64 (t3 - 1))).bind fun t4=>(spec_PlaceInCouncil.j0 k l0 a1 (!t4)))) else (spec_PlaceInCouncil.j0 k l0 a1 true))
set_option maxHeartbeats 8000000 in
set_option maxRecDepth 100000 in
theorem spec_PlaceInCouncil.calls (k:Nat) (A0:Option Addr) (c0:Nat) (l0:List (S_impl_Committee)) (a1:Int) (r1:Int) (r2:Int) (r3:Bool) (w:World) (hr0:Kd.C k_impl_Committee w A0 l0.length l0) (hc0:l0.length ≤ c0) (h:spec_PlaceInCouncil.f k l0 a1 = some (r1,r2,r3)) :
  Calls Tryz.prog 24 #[.slice A0 l0.length c0,.int .i64 a1] w fun e w'=>e = .returned (.tuple #[.int .i64 r1,.int .i64 r2,.bool r3]) ∧ Below w.heap.size w w':=by
 have HR0:=aM hr0;have HC0:=aM hc0;clear hr0 hc0;have HB:=aM (Below.refl w.heap.size w);have H:((spec_chInners.f k l0).bind fun t15=>(if t15 = true then ((spec_chMembers.f k l0).bind fun t16=>((spec_l1In.f a1 0 (wrap64 (t16 - 1))).bind fun t17=>(spec_PlaceInCouncil.j0 k l0 a1 (!t17)))) else (spec_PlaceInCouncil.j0 k l0 a1 true))) = some (r1,r2,r3):=h;clear h;have HC3:=aM H;clear H;go_enter Tryz.func24,Tryz.ntmps24;go_upto_region 1 with (fail)
 go_cut [18] (fun v18 wc=>∃ (kq:Nat) (x18_2:Bool),v18 = .bool x18_2 ∧ Aside0 (spec_PlaceInCouncil.j0 kq l0 a1 x18_2 = some (r1,r2,r3)) ∧ Aside0 (kq ≤ k) ∧ Aside0 (Below w.heap.size w wc))
 case first =>
  have H:=HC3.out;clear HC3;replace H:=oB H;obtain ⟨t15,A4,H⟩:=H;(try dsimp only at H)
  by_cases c5:t15 = true
  ·subst c5;rw [if_pos rfl] at H;replace H:=oB H;obtain ⟨t16,A6,H⟩:=H;(try dsimp only at H)
   replace H:=oB H;obtain ⟨t17,A7,H⟩:=H;(try dsimp only at H)
   have H':=aM H;clear H;go_wp2_with (first|((with_reducible refine gate_callee (f:=56) rfl ?_);refine gL 9 Tryz.func56 #[.slice A0 l0.length c0] ?_;(with_reducible refine (spec_chInners.calls k _ _ l0 true _ ?side1 ?side2 A4.out).mono ?_);(case side1=>exact qcs HR0.out HB.out);(case side2=>exact HC0.out);rintro e w8 ⟨rfl,hb⟩;refine ⟨_,rfl,?_⟩;replace HB:=aM (below_step bw hb);(try clear hb))|(go_at_call 32;(with_reducible refine (spec_chMembers.calls k _ _ l0 t16 _ ?side1 ?side2 A6.out).mono ?_);(case side1=>exact qcs HR0.out HB.out);(case side2=>exact HC0.out);rintro e w9 ⟨rfl,hb⟩;replace HB:=aM (below_step bw hb);(try clear hb))|(go_at_call 41;(with_reducible refine (spec_l1In.calls a1 0 (wrap64 (t16 - 1)) t17 _ A7.out).mono ?_);rintro e w' ⟨rfl,⟨nd,rfl⟩⟩))
   go_meet
   case rel=>exact ⟨_,(!t17),qrs,H',⟨by first|omega|exact Nat.le_refl _⟩,⟨by exact bw⟩⟩
  ·replace c5:=Bool.eq_false_iff.mpr c5;subst c5;rw [if_neg (show ¬ (false = true) by decide)] at H;have H':=aM H;clear H;go_wp2_with (first|((with_reducible refine gate_callee (f:=56) rfl ?_);refine gL 9 Tryz.func56 #[.slice A0 l0.length c0] ?_;(with_reducible refine (spec_chInners.calls k _ _ l0 false _ ?side1 ?side2 A4.out).mono ?_);(case side1=>exact qcs HR0.out HB.out);(case side2=>exact HC0.out);rintro e w10 ⟨rfl,hb⟩;refine ⟨_,rfl,?_⟩;replace HB:=aM (below_step bw hb);(try clear hb)))
   go_meet
   case rel=>exact ⟨_,(true),qrs,H',⟨by first|omega|exact Nat.le_refl _⟩,⟨by exact bw⟩⟩
 case rest =>
  clear HC3;(try clear c5)
  obtain ⟨kq,x18_2,rfl,HA,HJ2,HB⟩:=hcut
  cases kq with
  | zero=>exact absurd HA.out (by simp [spec_PlaceInCouncil.j0])
  | succ kj2 =>
   have H:=HA.out;clear HA;simp only [spec_PlaceInCouncil.j0] at H;by_cases c11:x18_2 = true
   ·subst c11;rw [if_pos rfl] at H;simp only [Option.some.injEq,Prod.mk.injEq] at H;obtain ⟨rfl,rfl,rfl⟩:=H;go_wp2
    go_ret3
    exact ⟨eE,by exact bw⟩
   ·replace c11:=Bool.eq_false_iff.mpr c11;subst c11;rw [if_neg (show ¬ (false = true) by decide)] at H;have H':=aM H;clear H;go_wp2
    go_loopg [1,7] kj2 (fun kq v1 v7 w'=>∃ (x1_2:Int) (x7_2:Int),v1 = .int .i64 x1_2 ∧ v7 = .int .i64 x7_2 ∧ Aside0 (spec_PlaceInCouncil.l0 kq l0 x1_2 x7_2 = some (r1,r2,r3)) ∧ Aside0 (kq ≤ kj2) ∧ Aside0 (Below w.heap.size w w'))
    case atStart=>exact ⟨(a1),(0),qrs,qrs,H',⟨Nat.le_refl _⟩,⟨by exact bw⟩⟩
    case round =>
     clear H';(try clear c11)
     obtain ⟨x1_2,x7_2,rfl,rfl,HA,HK2,HB⟩:=hrel
     cases gk with
     | zero=>exact absurd HA.out (by simp [spec_PlaceInCouncil.l0])
     | succ k2 =>
      have H:=HA.out;clear HA;simp only [spec_PlaceInCouncil.l0] at H;replace H:=iN H;obtain ⟨c12,H⟩:=H;have c12b0:decide (0 ≤ x7_2) = true:=decide_eq_true c12;clear c12;replace H:=iN H;obtain ⟨c13,H⟩:=H;have c13b0:decide (x7_2 < (l0.length:Int)) = true:=decide_eq_true c13;clear c13;by_cases c14:x1_2 ≥ (((rd_impl_Committee l0 x7_2).f1).length:Int)
      ·rw [if_pos c14] at H;have c14b0:decide ((((rd_impl_Committee l0 x7_2).f1).length:Int) ≤ x1_2) = true:=decide_eq_true c14;clear c14;have H':=aM H;clear H;have p19:0 ≤ (x7_2:Int):=of_decide_eq_true ab;have q19:x7_2 < (l0.length:Int):=of_decide_eq_true ab;obtain ⟨ad19,A19_1,c522_1,e19,hx19_0,hx19_1,hl19_1,hi19_1⟩:=at_impl_Committee HR0.out x7_2 p19 q19;cases e19
       replace hx19_0:=(HB.out.cell (World.block_lt_of_cell? w _ hx19_0)).trans hx19_0;replace hx19_1:=(HB.out.cell (World.block_lt_of_cell? w _ hx19_1)).trans hx19_1;have HR19_1:=aM hi19_1;have HC19_1:=aM hl19_1;clear hi19_1 hl19_1;replace p19:=eq_true p19;replace q19:=eq_true q19;have p20:0 ≤ (x7_2:Int):=of_decide_eq_true ab;have q20:x7_2 < (l0.length:Int):=of_decide_eq_true ab;obtain ⟨ad20,A20_1,c523_1,e20,hx20_0,hx20_1,hl20_1,hi20_1⟩:=at_impl_Committee HR0.out x7_2 p20 q20;obtain rfl:ad19 = ad20:=(by injection e20);replace hx20_0:=(HB.out.cell (World.block_lt_of_cell? w _ hx20_0)).trans hx20_0;replace hx20_1:=(HB.out.cell (World.block_lt_of_cell? w _ hx20_1)).trans hx20_1;have HR20_1:=aM hi20_1;have HC20_1:=aM hl20_1;clear hi20_1 hl20_1;replace p20:=eq_true p20;replace q20:=eq_true q20;have ea_:=Option.some.inj (hx19_1.symm.trans hx20_1);injection ea_ with ea_ en_ ec_
       subst ea_;subst ec_;clear en_;go_wp2
       go_roundg k2
       case measure=>have:=HJ2.out;have:=HK2.out;omega
       case rel=>exact ⟨(wrap64 (x1_2 - (((rd_impl_Committee l0 x7_2).f1).length:Int))),(wrap64 (x7_2 + 1)),qrs,qrs,H',⟨by have:=HJ2.out;have:=HK2.out;omega⟩,⟨by exact bw⟩⟩
      ·rw [if_neg c14] at H;have c14b0:decide ((((rd_impl_Committee l0 x7_2).f1).length:Int) ≤ x1_2) = false:=decide_eq_false c14;clear c14;simp only [Option.some.injEq,Prod.mk.injEq] at H;obtain ⟨rfl,rfl,rfl⟩:=H;have p19:0 ≤ (x7_2:Int):=of_decide_eq_true ab;have q19:x7_2 < (l0.length:Int):=of_decide_eq_true ab;obtain ⟨ad19,A19_1,c522_1,e19,hx19_0,hx19_1,hl19_1,hi19_1⟩:=at_impl_Committee HR0.out x7_2 p19 q19;cases e19
       replace hx19_0:=(HB.out.cell (World.block_lt_of_cell? w _ hx19_0)).trans hx19_0;replace hx19_1:=(HB.out.cell (World.block_lt_of_cell? w _ hx19_1)).trans hx19_1;have HR19_1:=aM hi19_1;have HC19_1:=aM hl19_1;clear hi19_1 hl19_1;replace p19:=eq_true p19;replace q19:=eq_true q19;go_wp2
       go_ret3
       exact ⟨eE,by exact bw⟩


/-! ### spec_voWins: function 57 -/
def spec_voWins.l0:Nat → List Bool → Int → Int → List Int → Option (List Bool)
 | 0,_,_,_,_=>none
 | k + 1,x3,x4,x5,x6=>(spec_voAll.f (x6.length:Int)).bind fun t1=>(if x4 ≤ t1 then ((spec_voWeight.f k x5 x6 x4).bind fun t2=>(if x3.length < 140737488355328 then (spec_voWins.l0 k (x3 ++ [decide (t2 ≥ x5)]) (wrap64 (x4 + 1)) x5 x6) else (none))) else (some x3))
def spec_voWins.f (k:Nat) (a0_0:Int) (l0_1:List Int):Option (List Bool):=spec_voWins.l0 k ([]:List Bool) 0 a0_0 l0_1
def spec_voWins.T5:Bool × List (List Nat × List Nat):=(true,[([],[]),([],[]),([],[]),([1,2],[1,2]),([],[]),([4],[4]),([3,5],[3,5]),([6],[6]),([0,7,3],[0,7]),([8,8,0,1,2,3,4,5,6,7,8],[0,8])])
def spec_voWins.B5:List Nat:=[0,0,0,6,0,16,62,126,255,511]
theorem spec_voWins.tab5:rtab .any (opsOf Tryz.f57 5) = spec_voWins.T5:=by kernel_rfl
theorem spec_voWins.bits5:waitsOk spec_voWins.T5.2 spec_voWins.B5 = true:=by kernel_rfl
set_option maxHeartbeats 8000000 in
set_option maxRecDepth 100000 in
theorem spec_voWins.calls (k:Nat) (a0_0:Int) (A0_1:Option Addr) (c0_1:Nat) (l0_1:List Int) (r:List Bool) (w:World) (hr0_1:Kd.C (Kd.int .i64) w A0_1 l0_1.length l0_1) (hc0_1:l0_1.length ≤ c0_1) (h:spec_voWins.f k a0_0 l0_1 = some r) :
  Calls Tryz.prog 57 #[.agg #[.int .i64 a0_0,.slice A0_1 l0_1.length c0_1]] w fun e w'=>∃ v0_:Value,e = .returned (v0_) ∧ Kd.R Kd.bool 4 w' w.heap.size (fun _=>True) v0_ r ∧ Below w.heap.size w w':=by
 have hu24:=Tryz.underlying24;have HR0_1:=aM hr0_1;have HC0_1:=aM hc0_1;clear hr0_1 hc0_1;have HB:=aM (Below.refl w.heap.size w);have H:(spec_voWins.l0 k ([]:List Bool) 0 a0_0 l0_1) = some r:=h;clear h;have H':=aM H;clear H;go_enter Tryz.func57,Tryz.ntmps57;go_wp2_with (first|((with_reducible refine gate_dst (N:=1) rfl ?_);refine bE 1 #[.int .i64 a0_0,.slice A0_1 l0_1.length c0_1] 24 ?_;intro gb12 hg w2 hbox hb;have BK12:=aM (hbox);have GW12:=aM (gS hg);have GE12:=aM (gS hg);replace HB:=aM (below_step bw hb);clear hb hbox hg))
 go_loopg [3,4] k (fun kq v3 v4 w'=>∃ (x3_1:List Bool) (x4_1:Int),v4 = .int .i64 x4_1 ∧ Aside0 (spec_voWins.l0 kq x3_1 x4_1 a0_0 l0_1 = some r) ∧ Aside0 (kq ≤ k) ∧ Aside0 (Kd.R Kd.bool 4 w' w.heap.size (fun _=>True) v3 x3_1) ∧ Aside0 (w'.heap[gb12]? = some (.cells #[.int .i64 a0_0,(.slice A0_1 l0_1.length c0_1)] 24 (0,0))) ∧ Aside0 (Below w.heap.size w w'))
 case atStart=>exact ⟨(([]:List Bool)),(0),qrs,H',⟨Nat.le_refl _⟩,⟨by first|exact Kd.R_nil _ _ _ _ _|exact Kd.N_nil _ _ _ _ _|exact Kd.V_nil _ _ _ _ _|exact Kd.Q_nil _ _ _ _ _|exact Kd.S_nil _ _ _ _ _⟩,⟨bk1 BK12.out⟩,⟨by exact bw⟩⟩
 case round =>
  clear H'
  try clear p2
  obtain ⟨x3_1,x4_1,rfl,HA,HK1,HO_3,BK12,HB⟩:=hrel
  cases gk with
  | zero=>exact absurd HA.out (by simp [spec_voWins.l0])
  | succ k1 =>
   have H:=HA.out;clear HA;simp only [spec_voWins.l0] at H;replace H:=oB H;obtain ⟨t13,A3,H⟩:=H;(try dsimp only at H)
   by_cases c4:x4_1 ≤ t13
   ·rw [if_pos c4] at H;have c4b0:=decide_eq_true c4;clear c4;replace H:=oB H;obtain ⟨t14,A5,H⟩:=H;(try dsimp only at H)
    replace H:=iN H;obtain ⟨c6,H⟩:=H;have LMc6:=aM c6;clear c6;obtain ⟨y15,hy15⟩:∃ y_:List Bool,y_ = (x3_1 ++ [decide (t14 ≥ a0_0)]):=⟨_,rfl⟩;replace H:(spec_voWins.l0 k1 y15 (wrap64 (x4_1 + 1)) a0_0 l0_1) = some r:=yR hy15 H;have Ny15:=aM hy15;clear hy15;have H':=aM H;clear H;have hcz7_0:=cz BK12.out 0;have hcz7_1:=cz BK12.out 1;have hfz7_0:=blk_frozen BK12.out 0;have hfz7_1:=blk_frozen BK12.out 1
    try go_wp2_with (first|((with_reducible refine gate_callee (f:=64) rfl ?_);refine gL 9 Tryz.func64 #[.int .i64 (l0_1.length:Int)] ?_;(with_reducible refine (spec_voAll.calls (l0_1.length:Int) t13 _ A3.out).mono ?_);rintro e w' ⟨rfl,⟨nd,rfl⟩⟩;refine ⟨_,rfl,?_⟩))
    (try (rw [drewN_self wr];generalize hq_:World.drewN wr _ = wr;have n0_:Aside0 (Kd.R Kd.bool 4 wr w.heap.size (fun _=>True) u3 x3_1):=⟨by rw [← hq_];exact (qra HO_3.out)⟩;have n1_:Aside0 (wr.heap[gb12]? = some (.cells #[.int .i64 a0_0,.slice A0_1 l0_1.length c0_1] 24 (0,0))):=⟨by rw [← hq_];exact (bk1 BK12.out)⟩;have n2_:Aside0 (Below w.heap.size w wr):=⟨by rw [← hq_];exact bw⟩;clear HO_3 BK12 HB hq_;have HO_3:=n0_;have BK12:=n1_;have HB:=n2_;clear n0_ n1_ n2_))
    replace HO_3:=aM (Kd.R_drew HO_3.out);replace BK12:=aM (blk_drew BK12.out);replace HB:=aM (below_drew1 HB.out);refine start_ (n:=10) (S:=fun w'=>w'.cell? ⟨gb12,0,none⟩ = some (.int .i64 a0_0) ∧ w'.cell? ⟨gb12,1,none⟩ = some (.slice A0_1 l0_1.length c0_1)) (ds:=[]) (mA 10 0) kR rfl rfl ⟨(blk_cell BK12.out 0).trans rfl,(blk_cell BK12.out 1).trans rfl⟩ (fun hHeld=>?_);refine with_tabW spec_voWins.tab5 spec_voWins.bits5 (fun HT_ HW_=>?_)
    generalize wr.drew = w8 at HO_3 BK12 HB hHeld ⊢
    refine pT 0 13 HT_.out ?_;refine pT 2 15 HT_.out ?_;refine pT 4 17 HT_.out ?_;refine pK 1 14 HT_.out HW_.out hHeld ?_;refine pK 5 18 HT_.out HW_.out hHeld ?_;refine oN 3 (some 16) HT_.out fun K hK=>?_
    refine gC Tryz.func54 #[.agg #[.int .i64 a0_0,.slice A0_1 l0_1.length c0_1],.int .i64 x4_1] ?_
    with_reducible refine (spec_voWeight.calls k1 a0_0 _ _ l0_1 x4_1 t14 _ ?side1 ?side2 A5.out).mono ?_
    (case side1=>exact qcs HR0_1.out HB.out)
    (case side2=>exact HC0_1.out)
    rintro e w9 ⟨rfl,hb⟩
    refine ⟨_,rfl,?_⟩;replace HO_3:=aM (Kd.R_below (qra HO_3.out) hb);replace BK12:=aM (bB BK12.out hb);replace HB:=aM (below_step bw hb);(try clear hb)
    refine hK.out _ _ ⟨(blk_cell BK12.out 0).trans rfl,(blk_cell BK12.out 1).trans rfl⟩ (fun hHeld=>?_);clear hK K;refine nM 16 ?_;refine pT 6 19 HT_.out ?_;refine oN 7 (some 20) HT_.out fun K hK=>?_
    refine value_ (w1:=?_) (v:=?_) (by rfl) rfl ?_ ?_;rotate_left 2
    ·go_simp
     constructor
     ·rfl
     ·rfl
    refine hK.out _ _ ⟨(blk_cell (blk_alloc BK12.out _) 0).trans rfl,(blk_cell (blk_alloc BK12.out _) 1).trans rfl⟩ (fun hHeld=>?_);clear hK K;refine nM 20 ?_;refine oN 8 (some 21) HT_.out fun K hK=>?_
    refine Kd.R_append_step Kd.bool (w0:=w) w.heap.size (by rfl) (.tmp 13) (.tmp 20) 57 4 (.bool false) 1 rfl Tryz.underlying57 info4 rfl (by decide) (by omega) u3 x3_1 (decide (t14 ≥ a0_0)) [.bool (decide (t14 ≥ a0_0))] (fun _=>True) (fun _=>False) rfl rfl ?aP (fun _ hk=>hk.elim) ?aF ?aO ?aB ?aS ?aL ?_;(case aP=>exact rfl)
    (case aB=>exact bw)
    (case aF=>exact (fun _ _=>trivial))
    (case aO=>exact (qra HO_3.out))
    (case aS=>exact (below_size bw))
    (case aL=>have:=LMc6.out;omega)
    intro v16 w10 ho hb hg hat;rw [← Ny15.out] at ho;replace BK12:=aM (blk_grown (g:=gb12) (o:=.cells #[.int .i64 a0_0,.slice A0_1 l0_1.length c0_1] 24 (0,0)) (bk1 BK12.out) hg (Kd.R_ne HO_3.out BK12.out (by decide)));replace HB:=aM (hb);have HO17:=aM (ho);clear HO_3;clear ho hb hg hat;refine hK.out _ _ ⟨(blk_cell BK12.out 0).trans rfl,(blk_cell BK12.out 1).trans rfl⟩ (fun hHeld=>?_);clear hK K;refine nM 21 ?_;refine pT 9 3 HT_.out ?_;refine done_ (done_of HT_.out kR) ?_
    try go_wp2
    go_roundg k1
    case measure=>have:=HK1.out;omega
    case rel=>exact ⟨(y15),(wrap64 (x4_1 + 1)),qrs,H',⟨by have:=HK1.out;omega⟩,⟨qra HO17.out⟩,⟨bk1 BK12.out⟩,⟨by exact bw⟩⟩
   ·rw [if_neg c4] at H;have c4b0:=decide_eq_false c4;clear c4;obtain rfl:=Option.some.inj H;have hcz11_0:=cz BK12.out 0;have hcz11_1:=cz BK12.out 1;have hfz11_0:=blk_frozen BK12.out 0;have hfz11_1:=blk_frozen BK12.out 1;go_wp2_with (first|((with_reducible refine gate_callee (f:=64) rfl ?_);refine gL 9 Tryz.func64 #[.int .i64 (l0_1.length:Int)] ?_;(with_reducible refine (spec_voAll.calls (l0_1.length:Int) t13 _ A3.out).mono ?_);rintro e w' ⟨rfl,⟨nd,rfl⟩⟩;refine ⟨_,rfl,?_⟩))
    go_ret
    exact ⟨_,eE,by (with_reducible repeat (first|apply Kd.R_alloc|apply Kd.R_drewN|apply Kd.R_drew));exact HO_3.out,by exact bw⟩


/-! ### spec_InnerChances: function 25 -/
mutual
def spec_InnerChances.l0:Nat → List (S_impl_Share) → List (S_impl_Committee) → Int → Int → Option ((List (S_impl_Share)) × Bool)
 | 0,_,_,_,_=>none
 | k + 1,x4,x14,x15,x16=>if x16 < x15 then (if 0 ≤ x16 then (if x16 < (x14.length:Int) then ((spec_voWins.f k ((rd_impl_Committee x14 x16).f0) ((rd_impl_Committee x14 x16).f1)).bind fun t2=>(spec_InnerChances.l1 k x4 0 t2 x14 x15 x16 t2 (t2.length:Int) 0)) else (none)) else (none)) else (some (x4,true))
def spec_InnerChances.l1:Nat → List (S_impl_Share) → Int → List Bool → List (S_impl_Committee) → Int → Int → List Bool → Int → Int → Option ((List (S_impl_Share)) × Bool)
 | 0,_,_,_,_,_,_,_,_,_=>none
 | k + 1,x4,x7,x8,x14,x15,x16,x22,x23,x24=>if x24 < x23 then (if 0 ≤ x24 then (if x24 < (x22.length:Int) then (if rdOf false x22 x24 = true then (spec_InnerChances.l1 k x4 (wrap64 (x7 + 1)) x8 x14 x15 x16 x22 x23 (wrap64 (x24 + 1))) else (spec_InnerChances.l1 k x4 x7 x8 x14 x15 x16 x22 x23 (wrap64 (x24 + 1)))) else (none)) else (none)) else ((spec_pwShare.f k x7 (x8.length:Int)).bind fun bt3=>(if x4.length < 8796093022208 then (spec_InnerChances.l0 k (x4 ++ [(⟨bt3.1,bt3.2⟩:S_impl_Share)]) x14 x15 (wrap64 (x16 + 1))) else (none)))
end
def spec_InnerChances.f (k:Nat) (l0:List (S_impl_Committee)):Option ((List (S_impl_Share)) × Bool):=(spec_chInners.f k l0).bind fun t1=>(if t1 = true then (spec_InnerChances.l0 k ([]:List (S_impl_Share)) l0 (l0.length:Int) 0) else (some (([]:List (S_impl_Share)),false)))
set_option maxHeartbeats 8000000 in
set_option maxRecDepth 100000 in
theorem spec_InnerChances.calls (k:Nat) (A0:Option Addr) (c0:Nat) (l0:List (S_impl_Committee)) (r1:List (S_impl_Share)) (r2:Bool) (w:World) (hr0:Kd.C k_impl_Committee w A0 l0.length l0) (hc0:l0.length ≤ c0) (h:spec_InnerChances.f k l0 = some (r1,r2)) :
  Calls Tryz.prog 25 #[.slice A0 l0.length c0] w fun e w'=>∃ v0_:Value,e = .returned (.tuple #[v0_,.bool r2]) ∧ Kd.R k_impl_Share 44 w' w.heap.size (fun _=>True) v0_ r1 ∧ Below w.heap.size w w':=by
 have hu24:=Tryz.underlying24;have HR0:=aM hr0;have HC0:=aM hc0;clear hr0 hc0;have HB:=aM (Below.refl w.heap.size w);have H:((spec_chInners.f k l0).bind fun t23=>(if t23 = true then (spec_InnerChances.l0 k ([]:List (S_impl_Share)) l0 (l0.length:Int) 0) else (some (([]:List (S_impl_Share)),false)))) = some (r1,r2):=h;clear h;replace H:=oB H;obtain ⟨t23,A2,H⟩:=H;(try dsimp only at H)
 by_cases c3:t23 = true
 ·subst c3;rw [if_pos rfl] at H;have H':=aM H;clear H;go_enter Tryz.func25,Tryz.ntmps25;go_wp2_with (first|((with_reducible refine gate_callee (f:=56) rfl ?_);refine gL 12 Tryz.func56 #[.slice A0 l0.length c0] ?_;(with_reducible refine (spec_chInners.calls k _ _ l0 true _ ?side1 ?side2 A2.out).mono ?_);(case side1=>exact qc HR0.out);(case side2=>exact HC0.out);rintro e w4 ⟨rfl,hb⟩;refine ⟨_,rfl,?_⟩;replace HB:=aM (below_step bw hb);(try clear hb)))
  go_loopg [4,16] k (fun kq v4 v16 w'=>∃ (x4_1:List (S_impl_Share)) (x16_1:Int),v16 = .int .i64 x16_1 ∧ Aside0 (spec_InnerChances.l0 kq x4_1 l0 (l0.length:Int) x16_1 = some (r1,r2)) ∧ Aside0 (kq ≤ k) ∧ Aside0 (Kd.R k_impl_Share 44 w' w.heap.size (fun _=>True) v4 x4_1) ∧ Aside0 (Below w.heap.size w w'))
  case atStart=>exact ⟨(([]:List (S_impl_Share))),(0),qrs,H',⟨Nat.le_refl _⟩,⟨by first|exact Kd.R_nil _ _ _ _ _|exact Kd.N_nil _ _ _ _ _|exact Kd.V_nil _ _ _ _ _|exact Kd.Q_nil _ _ _ _ _|exact Kd.S_nil _ _ _ _ _⟩,⟨by exact bw⟩⟩
  case round =>
   clear H';(try clear c3)
   obtain ⟨x4_1,x16_1,rfl,HA,HK1,HO_4,HB⟩:=hrel
   cases gk with
   | zero=>exact absurd HA.out (by simp [spec_InnerChances.l0])
   | succ k1 =>
    have H:=HA.out;clear HA;simp only [spec_InnerChances.l0] at H;by_cases c5:x16_1 < (l0.length:Int)
    ·rw [if_pos c5] at H;have c5b0:=decide_eq_true c5;clear c5;replace H:=iN H;obtain ⟨c6,H⟩:=H;have c6b0:decide (0 ≤ x16_1) = true:=decide_eq_true c6;clear c6;replace H:=iN H;obtain ⟨c7,H⟩:=H;have c7b0:decide (x16_1 < (l0.length:Int)) = true:=decide_eq_true c7;clear c7;replace H:=oB H;obtain ⟨t28,A8,H⟩:=H;(try dsimp only at H)
     have H':=aM H;clear H;have p26:0 ≤ (x16_1:Int):=of_decide_eq_true ab;have q26:x16_1 < (l0.length:Int):=of_decide_eq_true ab;obtain ⟨ad26,A26_1,c531_1,e26,hx26_0,hx26_1,hl26_1,hi26_1⟩:=at_impl_Committee HR0.out x16_1 p26 q26;cases e26
     replace hx26_0:=(HB.out.cell (World.block_lt_of_cell? w _ hx26_0)).trans hx26_0;replace hx26_1:=(HB.out.cell (World.block_lt_of_cell? w _ hx26_1)).trans hx26_1;have HR26_1:=aM hi26_1;have HC26_1:=aM hl26_1;clear hi26_1 hl26_1;replace p26:=eq_true p26;replace q26:=eq_true q26;go_wp2_with (first|((with_reducible refine gate_dst (N:=6) rfl ?_);refine bE 6 #[.int .i64 0,.slice none 0 0] 24 ?_;intro gb27 hg w9 hbox hb;replace HO_4:=aM (Kd.R_below (qra HO_4.out) hb);have BK27:=aM (hbox);have GW27:=aM (gS hg);have GE27:=aM (gS hg);replace HB:=aM (below_step bw hb);clear hb hbox hg;have hcz10_0:=cz BK27.out 0;have hcz10_1:=cz BK27.out 1;have hfz10_0:=blk_frozen BK27.out 0;have hfz10_1:=blk_frozen BK27.out 1)|((with_reducible refine gate_callee (f:=57) rfl ?_);refine gL 21 Tryz.func57 #[.agg #[.int .i64 ((rd_impl_Committee l0 x16_1).f0),.slice A26_1 ((rd_impl_Committee l0 x16_1).f1).length c531_1]] ?_;(with_reducible refine (spec_voWins.calls k1 ((rd_impl_Committee l0 x16_1).f0) _ _ ((rd_impl_Committee l0 x16_1).f1) t28 _ ?side1 ?side2 A8.out).mono ?_);(case side1=>exact Kd.C_below HR26_1.out bw);(case side2=>exact HC26_1.out);rintro e w11 ⟨v29,rfl,ho0,hb⟩;refine ⟨_,rfl,?_⟩;replace HO_4:=aM (Kd.R_below (by (with_reducible repeat (first|apply Kd.R_alloc|apply Kd.R_drewN|apply Kd.R_drew));exact (Kd.R_mono (Kd.R_far (p:=⟨gb27,1,none⟩) (Kd.R_far (p:=⟨gb27,0,none⟩) (Kd.R_types HO_4.out BK27.out (by decide)) (fun _ hk=>hk.2) (.int .i64 ((rd_impl_Committee l0 x16_1).f0))) (fun _ hk=>hk.2) (.slice A26_1 ((rd_impl_Committee l0 x16_1).f1).length c531_1)) (fun _ h_=>h_.1))) hb);have HO30:=aM (Kd.R_lower ho0 (below_size bw));replace BK27:=aM (blk_below (g:=gb27) (o:=.cells #[.int .i64 ((rd_impl_Committee l0 x16_1).f0),.slice A26_1 ((rd_impl_Committee l0 x16_1).f1).length c531_1] 24 (0,0)) (by (with_reducible repeat (first|refine blk_drewN ?_ _|refine blk_drew ?_|refine blk_alloc ?_ _));refine blk_put (cs:=#[.int .i64 ((rd_impl_Committee l0 x16_1).f0),.slice none 0 0]) ?_ 1 _ rfl;(with_reducible repeat (first|refine blk_drewN ?_ _|refine blk_drew ?_|refine blk_alloc ?_ _));refine blk_put (cs:=#[.int .i64 0,.slice none 0 0]) ?_ 0 _ rfl;(with_reducible repeat (first|refine blk_drewN ?_ _|refine blk_drew ?_|refine blk_alloc ?_ _));exact BK27.out) hb);replace HB:=aM (below_step bw hb);(try clear hb);(try clear hk);(try clear ho0);obtain ⟨Ao12,co12,eo12⟩:=Kd.R_slice HO30.out;subst eo12))
     go_loopg [7,24] k1 (fun kq v7 v24 w'=>∃ (x7_2:Int) (x24_2:Int),v7 = .int .i64 x7_2 ∧ v24 = .int .i64 x24_2 ∧ Aside0 (spec_InnerChances.l1 kq x4_1 x7_2 t28 l0 (l0.length:Int) x16_1 t28 (t28.length:Int) x24_2 = some (r1,r2)) ∧ Aside0 (kq ≤ k1) ∧ Aside0 (Kd.R k_impl_Share 44 w' w.heap.size (fun _=>True) u4 x4_1) ∧ Aside0 (Kd.R Kd.bool 4 w' w.heap.size (fun _=>True) (.slice Ao12 t28.length co12) t28) ∧ Aside0 (Kd.R Kd.bool 4 w' w.heap.size (fun _=>True) (.slice Ao12 t28.length co12) t28) ∧ Aside0 (w'.heap[gb27]? = some (.cells #[.int .i64 ((rd_impl_Committee l0 x16_1).f0),(.slice A26_1 ((rd_impl_Committee l0 x16_1).f1).length c531_1)] 24 (0,0))) ∧ Aside0 (Below w.heap.size w w'))
     case atStart=>exact ⟨(0),(0),qrs,qrs,H',⟨Nat.le_refl _⟩,⟨qra HO_4.out⟩,⟨qra HO30.out⟩,⟨qra HO30.out⟩,⟨bk1 BK27.out⟩,⟨by exact bw⟩⟩
     case round =>
      clear H';(try clear c5);(try clear c5b0);(try clear c6);(try clear c6b0);(try clear c7);(try clear c7b0);(try clear hcz10_0);(try clear hcz10_1);(try clear hfz10_0);(try clear hfz10_1);(try clear hx26_0);(try clear hx26_1);(try clear p26);(try clear q26)
      obtain ⟨x7_2,x24_2,rfl,rfl,HA,HK2,HO_4,HO_8,HO_22,BK27,HB⟩:=hrel
      cases gk with
      | zero=>exact absurd HA.out (by simp [spec_InnerChances.l1])
      | succ k2 =>
       have H:=HA.out;clear HA;simp only [spec_InnerChances.l1] at H;by_cases c13:x24_2 < (t28.length:Int)
       ·rw [if_pos c13] at H;have c13b0:=decide_eq_true c13;clear c13;replace H:=iN H;obtain ⟨c14,H⟩:=H;have c14b0:decide (0 ≤ x24_2) = true:=decide_eq_true c14;clear c14;replace H:=iN H;obtain ⟨c15,H⟩:=H;have c15b0:decide (x24_2 < (t28.length:Int)) = true:=decide_eq_true c15;clear c15;obtain ⟨bq16,hbq16⟩:∃ b_:Bool,b_ = (rdOf false t28 x24_2):=⟨_,rfl⟩;rw [← hbq16] at H;have Nbq16:=aM hbq16;clear hbq16;by_cases c17:bq16 = true
        ·subst c17;rw [if_pos rfl] at H;have H':=aM H;clear H;have p32:0 ≤ (x24_2:Int):=of_decide_eq_true ab;have q32:x24_2 < (t28.length:Int):=of_decide_eq_true ab;obtain ⟨ad32,e32,hx32_0⟩:=Kd.at_bool (Kd.R_reads' HO_22.out).2.2 x24_2 p32 q32;(try rw [← Nbq16.out] at hx32_0)
         cases e32
         replace p32:=eq_true p32;replace q32:=eq_true q32;go_wp2
         go_roundg k2
         case measure=>have:=HK1.out;have:=HK2.out;omega
         case rel=>exact ⟨(wrap64 (x7_2 + 1)),(wrap64 (x24_2 + 1)),qrs,qrs,H',⟨by have:=HK1.out;have:=HK2.out;omega⟩,⟨qra HO_4.out⟩,⟨qra HO_8.out⟩,⟨qra HO_22.out⟩,⟨bk1 BK27.out⟩,⟨by exact bw⟩⟩
        ·replace c17:=Bool.eq_false_iff.mpr c17;subst c17;rw [if_neg (show ¬ (false = true) by decide)] at H;have H':=aM H;clear H;have p32:0 ≤ (x24_2:Int):=of_decide_eq_true ab;have q32:x24_2 < (t28.length:Int):=of_decide_eq_true ab;obtain ⟨ad32,e32,hx32_0⟩:=Kd.at_bool (Kd.R_reads' HO_22.out).2.2 x24_2 p32 q32;(try rw [← Nbq16.out] at hx32_0)
         cases e32
         replace p32:=eq_true p32;replace q32:=eq_true q32;go_wp2
         go_roundg k2
         case measure=>have:=HK1.out;have:=HK2.out;omega
         case rel=>exact ⟨(x7_2),(wrap64 (x24_2 + 1)),qrs,qrs,H',⟨by have:=HK1.out;have:=HK2.out;omega⟩,⟨qra HO_4.out⟩,⟨qra HO_8.out⟩,⟨qra HO_22.out⟩,⟨bk1 BK27.out⟩,⟨by exact bw⟩⟩
       ·rw [if_neg c13] at H;have c13b0:=decide_eq_false c13;clear c13;replace H:=oB H;obtain ⟨⟨t33,t34⟩,A18,H⟩:=H;(try dsimp only at H)
        replace H:=iN H;obtain ⟨c19,H⟩:=H;have LMc19:=aM c19;clear c19;obtain ⟨y35,hy35⟩:∃ y_:List (S_impl_Share),y_ = (x4_1 ++ [(⟨t33,t34⟩:S_impl_Share)]):=⟨_,rfl⟩;replace H:(spec_InnerChances.l0 k2 y35 l0 (l0.length:Int) (wrap64 (x16_1 + 1))) = some (r1,r2):=yR hy35 H;have Ny35:=aM hy35;clear hy35;have H':=aM H;clear H;go_wp2_with (first|((with_reducible refine gate_callee (f:=37) rfl ?_);refine gL 36 Tryz.func37 #[.int .i64 x7_2,.int .i64 (t28.length:Int)] ?_;(with_reducible refine (spec_pwShare.calls k2 x7_2 (t28.length:Int) t33 t34 _ A18.out).mono ?_);rintro e w20 ⟨rfl,hb⟩;refine ⟨_,rfl,?_⟩;replace HO_4:=aM (Kd.R_below (qra HO_4.out) hb);replace HO_8:=aM (Kd.R_below (qra HO_8.out) hb);replace HO_22:=aM (Kd.R_below (qra HO_22.out) hb);replace BK27:=aM (bB BK27.out hb);replace HB:=aM (below_step bw hb);(try clear hb))|((with_reducible refine gate_builtin (b:=.append) (xs:=#[.tmp 32,.tmp 37]) rfl ?_);at_builtin;refine Kd.R_append k_impl_Share (w0:=w) w.heap.size rfl (.tmp 32) (.tmp 37) 31 44 (.agg #[(.int .i64 0),(.int .i64 0)]) 16 rfl Tryz.underlying31 info44 rfl (by decide) (by omega) u4 x4_1 (⟨t33,t34⟩:S_impl_Share) [.int .i64 t33,.int .i64 t34] (fun _=>True) (fun _=>False) rfl rfl ?aP (fun _ hk=>hk.elim) ?aF ?aO ?aB ?aS ?aL ?_;(case aP=>exact k_impl_Share_mkM _ _ _ (⟨t33,t34⟩:S_impl_Share));(case aB=>exact bw);(case aF=>exact (fun _ _=>trivial));(case aO=>exact (qra HO_4.out));(case aS=>exact (below_size bw));(case aL=>have:=LMc19.out;omega);intro v36 w21 ho hb hg hat;rw [← Ny35.out] at ho;replace HO_8:=aM (Kd.R_over' (qra HO_8.out) (Kd.R_typed (qra HO_4.out)) (by decide) hg);replace HO_22:=aM (Kd.R_over' (qra HO_22.out) (Kd.R_typed (qra HO_4.out)) (by decide) hg);replace BK27:=aM (blk_grown (g:=gb27) (o:=.cells #[.int .i64 ((rd_impl_Committee l0 x16_1).f0),.slice A26_1 ((rd_impl_Committee l0 x16_1).f1).length c531_1] 24 (0,0)) (bk1 BK27.out) hg (Kd.R_ne HO_4.out BK27.out (by decide)));replace HB:=aM (hb);have HO38:=aM (ho);clear HO_4;clear ho hb hg hat))
        go_roundg k2
        case measure=>have:=HK1.out;have:=HK2.out;omega
        case rel=>exact ⟨(y35),(wrap64 (x16_1 + 1)),qrs,H',⟨by have:=HK1.out;have:=HK2.out;omega⟩,⟨qra HO38.out⟩,⟨by exact bw⟩⟩
    ·rw [if_neg c5] at H;have c5b0:=decide_eq_false c5;clear c5;simp only [Option.some.injEq,Prod.mk.injEq] at H;obtain ⟨rfl,rfl⟩:=H;go_wp2
     go_ret2
     exact ⟨_,eE,by (with_reducible repeat (first|apply Kd.R_alloc|apply Kd.R_drewN|apply Kd.R_drew));exact HO_4.out,by exact bw⟩
 ·replace c3:=Bool.eq_false_iff.mpr c3;subst c3;rw [if_neg (show ¬ (false = true) by decide)] at H;simp only [Option.some.injEq,Prod.mk.injEq] at H;obtain ⟨rfl,rfl⟩:=H;go_enter Tryz.func25,Tryz.ntmps25;go_wp2_with (first|((with_reducible refine gate_callee (f:=56) rfl ?_);refine gL 12 Tryz.func56 #[.slice A0 l0.length c0] ?_;(with_reducible refine (spec_chInners.calls k _ _ l0 false _ ?side1 ?side2 A2.out).mono ?_);(case side1=>exact qc HR0.out);(case side2=>exact HC0.out);rintro e w22 ⟨rfl,hb⟩;refine ⟨_,rfl,?_⟩;replace HB:=aM (below_step bw hb);(try clear hb);(try clear hk)))
  go_ret2
  exact ⟨_,eE,by first|exact Kd.R_nil _ _ _ _ _|exact Kd.N_nil _ _ _ _ _|exact Kd.V_nil _ _ _ _ _|exact Kd.Q_nil _ _ _ _ _|exact Kd.S_nil _ _ _ _ _,by exact bw⟩


/-! ### impl_WinsGame: function 26 -/
def impl_WinsGame.j0:Nat → List Int → Bool → Int → List (List Int) → Option (Bool × Bool)
 | 0,_,_,_,_=>none
 | k + 1,x1,x15,x4,x5=>if x15 = true then (some (false,false)) else ((impl_Game_votes.f k x4 x5).bind fun bt2=>((impl_maskOf.f k x1).bind fun t3=>(if 0 ≤ t3 then (if t3 < (bt2.2.length:Int) then (some (rdOf false bt2.2 t3,true)) else (none)) else (none))))
def impl_WinsGame.f (k:Nat) (a0_0:Int) (l0_1:List (List Int)) (l1:List Int):Option (Bool × Bool):=(impl_IsGame.f k a0_0 l0_1).bind fun t2=>(if t2 = true then ((impl_isSet.f k l1 a0_0).bind fun t3=>(impl_WinsGame.j0 k l1 (!t3) a0_0 l0_1)) else (impl_WinsGame.j0 k l1 true a0_0 l0_1))
set_option maxHeartbeats 8000000 in
set_option maxRecDepth 100000 in
theorem impl_WinsGame.calls (k:Nat) (a0_0:Int) (A0_1:Option Addr) (c0_1:Nat) (l0_1:List (List Int)) (A1:Option Addr) (c1:Nat) (l1:List Int) (r1:Bool) (r2:Bool) (w:World) (hr0_1:Kd.C (Kd.slice 3 (Kd.int .i64)) w A0_1 l0_1.length l0_1) (hc0_1:l0_1.length ≤ c0_1) (hr1:Kd.C (Kd.int .i64) w A1 l1.length l1) (hc1:l1.length ≤ c1) (h:impl_WinsGame.f k a0_0 l0_1 l1 = some (r1,r2)) :
  Calls Tryz.prog 26 #[.agg #[.int .i64 a0_0,.slice A0_1 l0_1.length c0_1],.slice A1 l1.length c1] w fun e w'=>e = .returned (.tuple #[.bool r1,.bool r2]) ∧ Below w.heap.size w w':=by
 have hfd59_1:∀ (z0_ z1_:Value) (w:World),(Instr.field 59 (.agg #[z0_,z1_]) 1).run Tryz.prog w = .ok z1_ w:=fun z0_ z1_ w=>by kernel_rfl
 have hu28:=Tryz.underlying28;have hu59:=Tryz.underlying59;have HR0_1:=aM hr0_1;have HC0_1:=aM hc0_1;clear hr0_1 hc0_1;have HR1:=aM hr1;have HC1:=aM hc1;clear hr1 hc1;have HB:=aM (Below.refl w.heap.size w);have H:((impl_IsGame.f k a0_0 l0_1).bind fun t23=>(if t23 = true then ((impl_isSet.f k l1 a0_0).bind fun t24=>(impl_WinsGame.j0 k l1 (!t24) a0_0 l0_1)) else (impl_WinsGame.j0 k l1 true a0_0 l0_1))) = some (r1,r2):=h;clear h;have HC3:=aM H;clear H;go_enter Tryz.func26,Tryz.ntmps26;go_upto_region 1 with (first|((with_reducible refine gate_dst (N:=2) rfl ?_);refine bE 2 #[.int .i64 a0_0,.slice A0_1 l0_1.length c0_1] 28 ?_;intro gb22 hg w4 hbox hb;have BK22:=aM (hbox);have GW22:=aM (gS hg);have GE22:=aM (gS hg);replace HB:=aM (below_step bw hb);clear hb hbox hg))
 (try simp only [Act.put,sA,sZ,sS])
 go_cut [15] (fun v15 wc=>∃ (kq:Nat) (x15_2:Bool),v15 = .bool x15_2 ∧ Aside0 (impl_WinsGame.j0 kq l1 x15_2 a0_0 l0_1 = some (r1,r2)) ∧ Aside0 (kq ≤ k) ∧ Aside0 (wc.heap[gb22]? = some (.cells #[.int .i64 a0_0,(.slice A0_1 l0_1.length c0_1)] 28 (0,0))) ∧ Aside0 (Below w.heap.size w wc))
 case first =>
  have H:=HC3.out;clear HC3;replace H:=oB H;obtain ⟨t23,A5,H⟩:=H;(try dsimp only at H)
  by_cases c6:t23 = true
  ·subst c6;rw [if_pos rfl] at H;replace H:=oB H;obtain ⟨t24,A7,H⟩:=H;(try dsimp only at H)
   have H':=aM H;clear H;have hcz8_0:=cz BK22.out 0;have hcz8_1:=cz BK22.out 1;have hfz8_0:=blk_frozen BK22.out 0;have hfz8_1:=blk_frozen BK22.out 1;go_wp2_with (first|((with_reducible refine gate_callee (f:=16) rfl ?_);refine gL 7 Tryz.func16 #[.agg #[.int .i64 a0_0,.slice A0_1 l0_1.length c0_1]] ?_;(with_reducible refine (impl_IsGame.calls k a0_0 _ _ l0_1 true _ ?side1 ?side2 A5.out).mono ?_);(case side1=>exact qcs HR0_1.out HB.out);(case side2=>exact HC0_1.out);rintro e w9 ⟨rfl,hb⟩;refine ⟨_,rfl,?_⟩;replace BK22:=aM (bB BK22.out hb);replace HB:=aM (below_step bw hb);(try clear hb);have hcz10_0:=cz BK22.out 0;have hcz10_1:=cz BK22.out 1;have hfz10_0:=blk_frozen BK22.out 0;have hfz10_1:=blk_frozen BK22.out 1)|(go_at_call 51;(with_reducible refine (impl_isSet.calls k _ _ l1 a0_0 t24 _ ?side1 ?side2 A7.out).mono ?_);(case side1=>exact qcs HR1.out HB.out);(case side2=>exact HC1.out);rintro e w11 ⟨rfl,hb⟩;replace BK22:=aM (bB BK22.out hb);replace HB:=aM (below_step bw hb);(try clear hb)))
   go_meet
   case rel=>exact ⟨_,(!t24),qrs,H',⟨by first|omega|exact Nat.le_refl _⟩,⟨bk1 BK22.out⟩,⟨by exact bw⟩⟩
  ·replace c6:=Bool.eq_false_iff.mpr c6;subst c6;rw [if_neg (show ¬ (false = true) by decide)] at H;have H':=aM H;clear H;have hcz12_0:=cz BK22.out 0;have hcz12_1:=cz BK22.out 1;have hfz12_0:=blk_frozen BK22.out 0;have hfz12_1:=blk_frozen BK22.out 1;go_wp2_with (first|((with_reducible refine gate_callee (f:=16) rfl ?_);refine gL 7 Tryz.func16 #[.agg #[.int .i64 a0_0,.slice A0_1 l0_1.length c0_1]] ?_;(with_reducible refine (impl_IsGame.calls k a0_0 _ _ l0_1 false _ ?side1 ?side2 A5.out).mono ?_);(case side1=>exact qcs HR0_1.out HB.out);(case side2=>exact HC0_1.out);rintro e w13 ⟨rfl,hb⟩;refine ⟨_,rfl,?_⟩;replace BK22:=aM (bB BK22.out hb);replace HB:=aM (below_step bw hb);(try clear hb)))
   go_meet
   case rel=>exact ⟨_,(true),qrs,H',⟨by first|omega|exact Nat.le_refl _⟩,⟨bk1 BK22.out⟩,⟨by exact bw⟩⟩
 case rest =>
  clear HC3;(try clear c1);(try clear c6);(try clear hcz10_0);(try clear hcz10_1);(try clear hcz12_0);(try clear hcz12_1);(try clear hcz8_0);(try clear hcz8_1);(try clear hfz10_0);(try clear hfz10_1);(try clear hfz12_0);(try clear hfz12_1);(try clear hfz8_0);(try clear hfz8_1)
  obtain ⟨kq,x15_2,rfl,HA,HJ2,BK22,HB⟩:=hcut
  cases kq with
  | zero=>exact absurd HA.out (by simp [impl_WinsGame.j0])
  | succ kj2 =>
   have H:=HA.out;clear HA;simp only [impl_WinsGame.j0] at H;by_cases c14:x15_2 = true
   ·subst c14;rw [if_pos rfl] at H;simp only [Option.some.injEq,Prod.mk.injEq] at H;obtain ⟨rfl,rfl⟩:=H;go_wp2
    go_ret2
    exact ⟨eE,by exact bw⟩
   ·replace c14:=Bool.eq_false_iff.mpr c14;subst c14;rw [if_neg (show ¬ (false = true) by decide)] at H;replace H:=oB H;obtain ⟨⟨t25,t27⟩,A15,H⟩:=H;(try dsimp only at H)
    replace H:=oB H;obtain ⟨t31,A16,H⟩:=H;(try dsimp only at H)
    replace H:=iN H;obtain ⟨c17,H⟩:=H;have c17b0:decide (0 ≤ t31) = true:=decide_eq_true c17;clear c17;replace H:=iN H;obtain ⟨c18,H⟩:=H;have c18b0:decide (t31 < (t27.length:Int)) = true:=decide_eq_true c18;clear c18;simp only [Option.some.injEq,Prod.mk.injEq] at H;obtain ⟨rfl,rfl⟩:=H;have hcz19_0:=cz BK22.out 0;have hcz19_1:=cz BK22.out 1;have hfz19_0:=blk_frozen BK22.out 0;have hfz19_1:=blk_frozen BK22.out 1;go_wp2_with (first|((with_reducible refine gate_callee (f:=42) rfl ?_);refine gL 17 Tryz.func42 #[.agg #[.int .i64 a0_0,.slice A0_1 l0_1.length c0_1]] ?_;(with_reducible refine (impl_Game_votes.calls kj2 a0_0 _ _ l0_1 t25 t27 _ ?side1 ?side2 A15.out).mono ?_);(case side1=>exact qcs HR0_1.out HB.out);(case side2=>exact HC0_1.out);rintro e w20 ⟨v29,rfl,ho0,hb⟩;refine ⟨_,rfl,?_⟩;have HO30:=aM (Kd.R_lower ho0 (below_size bw));replace BK22:=aM (bB BK22.out hb);replace HB:=aM (below_step bw hb);(try clear hb);(try clear ho0))|((with_reducible refine gate_callee (f:=47) rfl ?_);refine gL 20 Tryz.func47 #[.slice A1 l1.length c1] ?_;(with_reducible refine (impl_maskOf.calls kj2 _ _ l1 t31 _ ?side1 ?side2 A16.out).mono ?_);(case side1=>exact qcs HR1.out HB.out);(case side2=>exact HC1.out);rintro e w' ⟨rfl,⟨nd,rfl⟩⟩;refine ⟨_,rfl,?_⟩;obtain ⟨Ao21,co21,eo21⟩:=Kd.R_slice HO30.out;subst eo21;have p32:0 ≤ (t31:Int):=of_decide_eq_true ab;have q32:t31 < (t27.length:Int):=of_decide_eq_true ab;obtain ⟨ad32,e32,hx32_0⟩:=Kd.at_bool (Kd.R_reads' HO30.out).2.2 t31 p32 q32;cases e32;replace p32:=eq_true p32;replace q32:=eq_true q32))
    go_ret2
    exact ⟨eE,by exact bw⟩

end Go.Proofs.YtidkafljeldokaaGreat.P
