/- Part 4 of the texts below the law FnQuarrelsToldOfAll. Printed by this session's driver over the kit's printer, but for the hand contracts and the plain laws. -/
import Derived.Test.YtflkfbjmlacgcaaGreatCFnQuarrelsToldOfAll1
import Derived.Test.YtflkfbjmlacgcaaGreatCFnQuarrelsToldOfAll2
import Derived.Test.YtflkfbjmlacgcaaGreatCFnQuarrelsToldOfAll3
set_option linter.unusedVariables false
set_option linter.unusedSimpArgs false
set_option maxHeartbeats 8000000
set_option maxRecDepth 100000
namespace Go.Proofs.YtflkfbjmlacgcaaGreat.P
open Go.RowKit Go.Proofs.YtflkfbjmlacgcaaGreatW.PrintWords Go.Proofs.YtflkfbjmlacgcaaGreatW.PrintLast Go.Proofs.YtflkfbjmlacgcaaGreatW.PrintMore
attribute [local go_sem] max2_int min2_int max_two min_two max_three min_three max_four min_four   -- for this text's walks alone
set_option linter.unusedVariables false
set_option linter.unusedSimpArgs false

mutual
def spec_QuotasOfPower.j0:Nat → Int → Bool → Int → List Int → Option (List Int × Bool)
 | 0,_,_,_,_=>none
 | k + 1,x1,x20,x4,x5=>if x20 = true then (some (([]:List Int),false)) else (spec_QuotasOfPower.l0 k x1 ([]:List Int) (-1) 1 x4 x5)
def spec_QuotasOfPower.l0:Nat → Int → List Int → Int → Int → Int → List Int → Option (List Int × Bool)
 | 0,_,_,_,_,_,_=>none
 | k + 1,x1,x6,x7,x8,x4,x5=>(spec_voSum.f k x5).bind fun t2=>(if x8 ≤ t2 then ((spec_unPivots.f k x8 x5 (([x1]:List Int))).bind fun bt3=>(if bt3.1 > x7 then (if ([]:List Int).length < 17592186044416 then (spec_QuotasOfPower.l0 k x1 (([]:List Int) ++ [x8]) bt3.1 (wrap64 (x8 + 1)) x4 x5) else (none)) else (if bt3.1 = x7 then (if x6.length < 17592186044416 then (spec_QuotasOfPower.l0 k x1 (x6 ++ [x8]) x7 (wrap64 (x8 + 1)) x4 x5) else (none)) else (spec_QuotasOfPower.l0 k x1 x6 x7 (wrap64 (x8 + 1)) x4 x5)))) else (some (x6,true)))
end
def spec_QuotasOfPower.f (k:Nat) (a0_0:Int) (l0_1:List Int) (a1:Int):Option (List Int × Bool):=(spec_pwMember.f k a0_0 l0_1 a1).bind fun t2=>(if t2 = true then ((spec_voSum.f k l0_1).bind fun t3=>(spec_QuotasOfPower.j0 k a1 (decide (t3 > 200)) a0_0 l0_1)) else (spec_QuotasOfPower.j0 k a1 true a0_0 l0_1))
theorem spec_QuotasOfPower.calls (k:Nat) (a0_0:Int) (A0_1:Option Addr) (c0_1:Nat) (l0_1:List Int) (a1:Int) (r1:List Int) (r2:Bool) (w:World) (hr0_1:Kd.C (Kd.int .i64) w A0_1 l0_1.length l0_1) (hc0_1:l0_1.length ≤ c0_1) (h:spec_QuotasOfPower.f k a0_0 l0_1 a1 = some (r1,r2)) :
  Calls Tryz.prog 20 #[.agg #[.int .i64 a0_0,.slice A0_1 l0_1.length c0_1],.int .i64 a1] w fun e w'=>∃ v0_:Value,e = .returned (.tuple #[v0_,.bool r2]) ∧ Kd.R (Kd.int .i64) 3 w' w.heap.size (fun _=>True) v0_ r1 ∧ Below w.heap.size w w':=by
 have hu24:=Tryz.underlying24;have HR0_1:=aM hr0_1;have HC0_1:=aM hc0_1;clear hr0_1 hc0_1;have HB:=aM (Below.refl w.heap.size w);have H:((spec_pwMember.f k a0_0 l0_1 a1).bind fun t40=>(if t40 = true then ((spec_voSum.f k l0_1).bind fun t41=>(spec_QuotasOfPower.j0 k a1 (decide (t41 > 200)) a0_0 l0_1)) else (spec_QuotasOfPower.j0 k a1 true a0_0 l0_1))) = some (r1,r2):=h;clear h;have HC3:=aM H;clear H;go_enter Tryz.func20,Tryz.ntmps20;go_upto_region 1 with (first|((with_reducible refine gate_dst (N:=2) rfl ?_);refine bE 2 #[.int .i64 a0_0,.slice A0_1 l0_1.length c0_1] 24 ?_;intro gb39 hg w4 hbox hb;have BK39:=aM (hbox);have GW39:=aM (gS hg);have GE39:=aM (gS hg);replace HB:=aM (below_step bw hb);clear hb hbox hg))
 (try simp only [Act.put,sA,sZ,sS])
 go_cut [20] (fun v20 wc=>∃ (kq:Nat) (x20_2:Bool),v20 = .bool x20_2 ∧ Aside0 (spec_QuotasOfPower.j0 kq a1 x20_2 a0_0 l0_1 = some (r1,r2)) ∧ Aside0 (kq ≤ k) ∧ Aside0 (wc.heap[gb39]? = some (.cells #[.int .i64 a0_0,(.slice A0_1 l0_1.length c0_1)] 24 (0,0))) ∧ Aside0 (Below w.heap.size w wc))
 case first =>
  have H:=HC3.out;clear HC3;replace H:=oB H;obtain ⟨t40,A5,H⟩:=H;(try dsimp only at H)
  by_cases c6:t40 = true
  ·subst c6;rw [if_pos rfl] at H;replace H:=oB H;obtain ⟨t41,A7,H⟩:=H;(try dsimp only at H)
   have H':=aM H;clear H;have hcz8_0:=cz BK39.out 0;have hcz8_1:=cz BK39.out 1;have hfz8_0:=blk_frozen BK39.out 0;have hfz8_1:=blk_frozen BK39.out 1;go_wp2_with (first|((with_reducible refine gate_callee (f:=43) rfl ?_);refine gL 13 Tryz.func43 #[.agg #[.int .i64 a0_0,.slice A0_1 l0_1.length c0_1],.int .i64 a1] ?_;(with_reducible refine (spec_pwMember.calls k a0_0 _ _ l0_1 a1 true _ ?side1 ?side2 A5.out).mono ?_);(case side1=>exact qcs HR0_1.out HB.out);(case side2=>exact HC0_1.out);rintro e w9 ⟨rfl,hb⟩;refine ⟨_,rfl,?_⟩;replace BK39:=aM (bB BK39.out hb);replace HB:=aM (below_step bw hb);(try clear hb);have hcz10_0:=cz BK39.out 0;have hcz10_1:=cz BK39.out 1;have hfz10_0:=blk_frozen BK39.out 0;have hfz10_1:=blk_frozen BK39.out 1)|(go_at_call 62;(with_reducible refine (spec_voSum.calls k _ _ l0_1 t41 _ ?side1 ?side2 A7.out).mono ?_);(case side1=>exact qcs HR0_1.out HB.out);(case side2=>exact HC0_1.out);rintro e w' ⟨rfl,⟨nd,rfl⟩⟩))
   go_meet
   case rel=>exact ⟨_,(decide (t41 > 200)),qrs,H',⟨by first|omega|exact Nat.le_refl _⟩,⟨bk1 BK39.out⟩,⟨by exact bw⟩⟩
  ·replace c6:=Bool.eq_false_iff.mpr c6;subst c6;rw [if_neg (show ¬ (false = true) by decide)] at H;have H':=aM H;clear H;have hcz11_0:=cz BK39.out 0;have hcz11_1:=cz BK39.out 1;have hfz11_0:=blk_frozen BK39.out 0;have hfz11_1:=blk_frozen BK39.out 1;go_wp2_with (first|((with_reducible refine gate_callee (f:=43) rfl ?_);refine gL 13 Tryz.func43 #[.agg #[.int .i64 a0_0,.slice A0_1 l0_1.length c0_1],.int .i64 a1] ?_;(with_reducible refine (spec_pwMember.calls k a0_0 _ _ l0_1 a1 false _ ?side1 ?side2 A5.out).mono ?_);(case side1=>exact qcs HR0_1.out HB.out);(case side2=>exact HC0_1.out);rintro e w12 ⟨rfl,hb⟩;refine ⟨_,rfl,?_⟩;replace BK39:=aM (bB BK39.out hb);replace HB:=aM (below_step bw hb);(try clear hb)))
   go_meet
   case rel=>exact ⟨_,(true),qrs,H',⟨by first|omega|exact Nat.le_refl _⟩,⟨bk1 BK39.out⟩,⟨by exact bw⟩⟩
 case rest =>
  clear HC3;(try clear c6);(try clear hcz10_0);(try clear hcz10_1);(try clear hcz11_0);(try clear hcz11_1);(try clear hcz8_0);(try clear hcz8_1);(try clear hfz10_0);(try clear hfz10_1);(try clear hfz11_0);(try clear hfz11_1);(try clear hfz8_0);(try clear hfz8_1)
  obtain ⟨kq,x20_2,rfl,HA,HJ2,BK39,HB⟩:=hcut
  cases kq with
  | zero=>exact absurd HA.out (by simp [spec_QuotasOfPower.j0])
  | succ kj2 =>
   have H:=HA.out;clear HA;simp only [spec_QuotasOfPower.j0] at H;by_cases c13:x20_2 = true
   ·subst c13;rw [if_pos rfl] at H;simp only [Option.some.injEq,Prod.mk.injEq] at H;obtain ⟨rfl,rfl⟩:=H;go_wp2
    go_ret2
    exact ⟨_,eE,by first|exact Kd.R_nil _ _ _ _ _|exact Kd.N_nil _ _ _ _ _|exact Kd.V_nil _ _ _ _ _|exact Kd.Q_nil _ _ _ _ _|exact Kd.S_nil _ _ _ _ _,by exact bw⟩
   ·replace c13:=Bool.eq_false_iff.mpr c13;subst c13;rw [if_neg (show ¬ (false = true) by decide)] at H;have H':=aM H;clear H;go_wp2
    go_loopg [6,7,8] kj2 (fun kq v6 v7 v8 w'=>∃ (x6_2:List Int) (x7_2:Int) (x8_2:Int),v7 = .int .i64 x7_2 ∧ v8 = .int .i64 x8_2 ∧ Aside0 (spec_QuotasOfPower.l0 kq a1 x6_2 x7_2 x8_2 a0_0 l0_1 = some (r1,r2)) ∧ Aside0 (kq ≤ kj2) ∧ Aside0 (Kd.R (Kd.int .i64) 3 w' w.heap.size (fun _=>True) v6 x6_2) ∧ Aside0 (w'.heap[gb39]? = some (.cells #[.int .i64 a0_0,(.slice A0_1 l0_1.length c0_1)] 24 (0,0))) ∧ Aside0 (Below w.heap.size w w'))
    case atStart=>exact ⟨(([]:List Int)),((-1)),(1),qrs,qrs,H',⟨Nat.le_refl _⟩,⟨by first|exact Kd.R_nil _ _ _ _ _|exact Kd.N_nil _ _ _ _ _|exact Kd.V_nil _ _ _ _ _|exact Kd.Q_nil _ _ _ _ _|exact Kd.S_nil _ _ _ _ _⟩,⟨bk1 BK39.out⟩,⟨by exact bw⟩⟩
    case round =>
     clear H';(try clear c13)
     obtain ⟨x6_2,x7_2,x8_2,rfl,rfl,HA,HK2,HO_6,BK39,HB⟩:=hrel
     cases gk with
     | zero=>exact absurd HA.out (by simp [spec_QuotasOfPower.l0])
     | succ k2 =>
      have H:=HA.out;clear HA;simp only [spec_QuotasOfPower.l0] at H;replace H:=oB H;obtain ⟨t42,A14,H⟩:=H;(try dsimp only at H)
      by_cases c15:x8_2 ≤ t42
      ·rw [if_pos c15] at H;have c15b0:=decide_eq_true c15;clear c15;obtain ⟨y44,hy44⟩:∃ y_:List Int,y_ = (([a1]:List Int)):=⟨_,rfl⟩;replace H:((spec_unPivots.f k2 x8_2 l0_1 y44).bind fun bt48=>(if bt48.1 > x7_2 then (if ([]:List Int).length < 17592186044416 then (spec_QuotasOfPower.l0 k2 a1 (([]:List Int) ++ [x8_2]) bt48.1 (wrap64 (x8_2 + 1)) a0_0 l0_1) else (none)) else (if bt48.1 = x7_2 then (if x6_2.length < 17592186044416 then (spec_QuotasOfPower.l0 k2 a1 (x6_2 ++ [x8_2]) x7_2 (wrap64 (x8_2 + 1)) a0_0 l0_1) else (none)) else (spec_QuotasOfPower.l0 k2 a1 x6_2 x7_2 (wrap64 (x8_2 + 1)) a0_0 l0_1)))) = some (r1,r2):=yR hy44 H;have Ny44:=aM hy44;clear hy44;replace H:=oB H;obtain ⟨⟨t48,t49⟩,A16,H⟩:=H;(try dsimp only at H)
       by_cases c17:t48 > x7_2
       ·rw [if_pos c17] at H;have c17b0:decide (x7_2 < t48) = true:=decide_eq_true c17;clear c17;replace H:=iN H;obtain ⟨c18,H⟩:=H;have LMc18:=aM c18;clear c18;obtain ⟨y50,hy50⟩:∃ y_:List Int,y_ = (([]:List Int) ++ [x8_2]):=⟨_,rfl⟩;replace H:(spec_QuotasOfPower.l0 k2 a1 y50 t48 (wrap64 (x8_2 + 1)) a0_0 l0_1) = some (r1,r2):=yR hy50 H;have Ny50:=aM hy50;clear hy50;have H':=aM H;clear H;have hcz19_0:=cz BK39.out 0;have hcz19_1:=cz BK39.out 1;have hfz19_0:=blk_frozen BK39.out 0;have hfz19_1:=blk_frozen BK39.out 1;go_wp2_with (first|((with_reducible refine gate_callee (f:=62) rfl ?_);refine gL 24 Tryz.func62 #[.slice A0_1 l0_1.length c0_1] ?_;(with_reducible refine (spec_voSum.calls k2 _ _ l0_1 t42 _ ?side1 ?side2 A14.out).mono ?_);(case side1=>exact qcs HR0_1.out HB.out);(case side2=>exact HC0_1.out);rintro e w' ⟨rfl,⟨nd,rfl⟩⟩;refine ⟨_,rfl,?_⟩)|((with_reducible refine gate_dst (N:=34) rfl ?_);refine Kd.R_lit (Kd.int .i64) _ 3 ?hg (N:=34) ?hd (xs:=([a1]:List Int)) (inner:=[.int .i64 a1]) (ok:=fun _=>True) (okp:=fun _=>True) ?hr ?hp (fun _ hk=>hk) trivial (Below.refl _ _) (Nat.le_refl _) (by simp) ?_;(case hd=>rfl);(case hg=>rfl);(case hr=>first|(go_simp;done)|(go_simp;rfl));(case hp=>exact (Reps.one (show Kd.M (Kd.int .i64) _ _ _ a1 [.int .i64 a1] from rfl) (Reps.none _ _)));intro v45 w20 ho21 hb hg_ hnew_;clear hg_ hnew_;(first|rw [← Ny44.out] at ho21|(simp only [Int.reduceToNat] at ho21;rw [← Ny44.out] at ho21));have HO46:=aM (Kd.R_lower (Kd.R_new' ho21 (Kd.R_lt (qra HO_6.out))) (below_size bw));replace HO_6:=aM (Kd.R_elder' (qra HO_6.out) (Kd.R_base ho21) hb);replace BK39:=aM (bB BK39.out hb);replace HB:=aM (below_step bw hb);clear hb ho21;obtain ⟨Ao22,co22,eo22⟩:=Kd.R_slice HO46.out;subst eo22)|((with_reducible refine gate_callee (f:=47) rfl ?_);refine gL 35 Tryz.func47 #[.agg #[.int .i64 x8_2,.slice A0_1 l0_1.length c0_1],.slice Ao22 y44.length co22] ?_;(with_reducible refine (spec_unPivots.calls k2 x8_2 _ _ l0_1 _ _ y44 t48 t49 _ ?side1 ?side2 ?side3 ?side4 A16.out).mono ?_);(case side1=>exact qcs HR0_1.out HB.out);(case side2=>exact HC0_1.out);(case side3=>exact qc (Kd.R_reads' HO46.out).2.2);(case side4=>exact (Kd.R_reads' HO46.out).2.1);rintro e w23 ⟨rfl,hb⟩;refine ⟨_,rfl,?_⟩;replace HO_6:=aM (Kd.R_below (qra HO_6.out) hb);replace HO46:=aM (Kd.R_below (qra HO46.out) hb);replace BK39:=aM (bB BK39.out hb);replace HB:=aM (below_step bw hb);(try clear hb);(try clear hk))|((with_reducible refine gate_builtin (b:=.append) (xs:=#[.tmp 45,.tmp 47]) rfl ?_);at_builtin;refine Kd.R_append (Kd.int .i64) (w0:=w) w.heap.size rfl (.tmp 45) (.tmp 47) 22 3 (.int .i64 0) 8 rfl Tryz.underlying22 info3 rfl (by decide) (by omega) (.slice none 0 0) ([]:List Int) x8_2 [.int .i64 x8_2] (fun k_=>some k_ ≠ (u6:Value).ownBlock ∧ some k_ ≠ (.slice Ao22 y44.length co22:Value).ownBlock) (fun _=>False) rfl rfl ?aP (fun _ hk=>hk.elim) ?aF ?aO ?aB ?aS ?aL ?_;(case aP=>exact rfl);(case aB=>exact bw);(case aF=>exact (fun k_ hk=>⟨Kd.fresh' (Kd.R_lt (qra HO_6.out)) k_ hk,Kd.fresh' (Kd.R_lt (qra HO46.out)) k_ hk⟩));(case aO=>exact ((Kd.R_nil _ _ _ _ (fun k_=>some k_ ≠ (u6:Value).ownBlock ∧ some k_ ≠ (.slice Ao22 y44.length co22:Value).ownBlock))));(case aS=>exact (below_size bw));(case aL=>have:=LMc18.out;omega);intro v51 w24 ho hb hg hat;rw [← Ny50.out] at ho;replace HO_6:=aM (Kd.R_after (Kd.R_apart_nil (qra HO_6.out)) hg hat);replace BK39:=aM (bH BK39.out hg (by simp [Value.ownBlock]));replace HO46:=aM (Kd.R_after (Kd.R_apart_nil (qra HO46.out)) hg hat);replace HB:=aM (hb);have HO52:=aM (ho);clear ho hb hg hat))
        go_roundg k2
        case measure=>have:=HJ2.out;have:=HK2.out;omega
        case rel=>exact ⟨(y50),(t48),(wrap64 (x8_2 + 1)),qrs,qrs,H',⟨by have:=HJ2.out;have:=HK2.out;omega⟩,⟨by (with_reducible repeat (first|apply Kd.R_alloc|apply Kd.R_drewN|apply Kd.R_drew));exact Kd.R_mono HO52.out (fun _ hk=>trivial)⟩,⟨bk1 BK39.out⟩,⟨by exact bw⟩⟩
       ·rw [if_neg c17] at H;have c17b0:decide (x7_2 < t48) = false:=decide_eq_false c17;clear c17;by_cases c25:t48 = x7_2
        ·rw [if_pos c25] at H;have c25b0:(t48 == x7_2) = true:=beq_iff_eq.mpr c25;have c25b1:(t48 != x7_2) = false:=bne_eq_false_iff_eq.mpr c25;clear c25;replace H:=iN H;obtain ⟨c26,H⟩:=H;have LMc26:=aM c26;clear c26;obtain ⟨y53,hy53⟩:∃ y_:List Int,y_ = (x6_2 ++ [x8_2]):=⟨_,rfl⟩;replace H:(spec_QuotasOfPower.l0 k2 a1 y53 x7_2 (wrap64 (x8_2 + 1)) a0_0 l0_1) = some (r1,r2):=yR hy53 H;have Ny53:=aM hy53;clear hy53;have H':=aM H;clear H;have hcz27_0:=cz BK39.out 0;have hcz27_1:=cz BK39.out 1;have hfz27_0:=blk_frozen BK39.out 0;have hfz27_1:=blk_frozen BK39.out 1;go_wp2_with (first|((with_reducible refine gate_callee (f:=62) rfl ?_);refine gL 24 Tryz.func62 #[.slice A0_1 l0_1.length c0_1] ?_;(with_reducible refine (spec_voSum.calls k2 _ _ l0_1 t42 _ ?side1 ?side2 A14.out).mono ?_);(case side1=>exact qcs HR0_1.out HB.out);(case side2=>exact HC0_1.out);rintro e w' ⟨rfl,⟨nd,rfl⟩⟩;refine ⟨_,rfl,?_⟩)|((with_reducible refine gate_dst (N:=34) rfl ?_);refine Kd.R_lit (Kd.int .i64) _ 3 ?hg (N:=34) ?hd (xs:=([a1]:List Int)) (inner:=[.int .i64 a1]) (ok:=fun _=>True) (okp:=fun _=>True) ?hr ?hp (fun _ hk=>hk) trivial (Below.refl _ _) (Nat.le_refl _) (by simp) ?_;(case hd=>rfl);(case hg=>rfl);(case hr=>first|(go_simp;done)|(go_simp;rfl));(case hp=>exact (Reps.one (show Kd.M (Kd.int .i64) _ _ _ a1 [.int .i64 a1] from rfl) (Reps.none _ _)));intro v45 w28 ho29 hb hg_ hnew_;clear hg_ hnew_;(first|rw [← Ny44.out] at ho29|(simp only [Int.reduceToNat] at ho29;rw [← Ny44.out] at ho29));have HO46:=aM (Kd.R_lower (Kd.R_new' ho29 (Kd.R_lt (qra HO_6.out))) (below_size bw));replace HO_6:=aM (Kd.R_elder' (qra HO_6.out) (Kd.R_base ho29) hb);replace BK39:=aM (bB BK39.out hb);replace HB:=aM (below_step bw hb);clear hb ho29;obtain ⟨Ao30,co30,eo30⟩:=Kd.R_slice HO46.out;subst eo30)|((with_reducible refine gate_callee (f:=47) rfl ?_);refine gL 35 Tryz.func47 #[.agg #[.int .i64 x8_2,.slice A0_1 l0_1.length c0_1],.slice Ao30 y44.length co30] ?_;(with_reducible refine (spec_unPivots.calls k2 x8_2 _ _ l0_1 _ _ y44 t48 t49 _ ?side1 ?side2 ?side3 ?side4 A16.out).mono ?_);(case side1=>exact qcs HR0_1.out HB.out);(case side2=>exact HC0_1.out);(case side3=>exact qc (Kd.R_reads' HO46.out).2.2);(case side4=>exact (Kd.R_reads' HO46.out).2.1);rintro e w31 ⟨rfl,hb⟩;refine ⟨_,rfl,?_⟩;replace HO_6:=aM (Kd.R_below (qra HO_6.out) hb);replace HO46:=aM (Kd.R_below (qra HO46.out) hb);replace BK39:=aM (bB BK39.out hb);replace HB:=aM (below_step bw hb);(try clear hb);(try clear hk))|((with_reducible refine gate_builtin (b:=.append) (xs:=#[.tmp 45,.tmp 47]) rfl ?_);at_builtin;refine Kd.R_append (Kd.int .i64) (w0:=w) w.heap.size rfl (.tmp 45) (.tmp 47) 22 3 (.int .i64 0) 8 rfl Tryz.underlying22 info3 rfl (by decide) (by omega) u6 x6_2 x8_2 [.int .i64 x8_2] (fun k_=>some k_ ≠ (.slice Ao30 y44.length co30:Value).ownBlock) (fun _=>False) rfl rfl ?aP (fun _ hk=>hk.elim) ?aF ?aO ?aB ?aS ?aL ?_;(case aP=>exact rfl);(case aB=>exact bw);(case aF=>exact (fun k_ hk=>Kd.fresh' (Kd.R_lt (qra HO46.out)) k_ hk));(case aO=>exact (by (with_reducible repeat (first|apply Kd.R_alloc|apply Kd.R_drewN|apply Kd.R_drew));exact Kd.R_mono HO_6.out (fun _ hk=>hk.2)));(case aS=>exact (below_size bw));(case aL=>have:=LMc26.out;omega);intro v54 w32 ho hb hg hat;rw [← Ny53.out] at ho;replace BK39:=aM (bH BK39.out hg (Kd.R_ne HO_6.out BK39.out (by decide)));replace HO46:=aM (Kd.R_after (ok:=(fun _=>True)) (qra HO46.out) hg hat);replace HB:=aM (hb);have HO55:=aM (ho);clear HO_6;clear ho hb hg hat))
         go_roundg k2
         case measure=>have:=HJ2.out;have:=HK2.out;omega
         case rel=>exact ⟨(y53),(x7_2),(wrap64 (x8_2 + 1)),qrs,qrs,H',⟨by have:=HJ2.out;have:=HK2.out;omega⟩,⟨by (with_reducible repeat (first|apply Kd.R_alloc|apply Kd.R_drewN|apply Kd.R_drew));exact Kd.R_mono HO55.out (fun _ hk=>trivial)⟩,⟨bk1 BK39.out⟩,⟨by exact bw⟩⟩
        ·rw [if_neg c25] at H;have c25b0:(t48 == x7_2) = false:=beq_eq_false_iff_ne.mpr c25;have c25b1:(t48 != x7_2) = true:=bne_iff_ne.mpr c25;have H':=aM H;clear H;have hcz33_0:=cz BK39.out 0;have hcz33_1:=cz BK39.out 1;have hfz33_0:=blk_frozen BK39.out 0;have hfz33_1:=blk_frozen BK39.out 1;go_wp2_with (first|((with_reducible refine gate_callee (f:=62) rfl ?_);refine gL 24 Tryz.func62 #[.slice A0_1 l0_1.length c0_1] ?_;(with_reducible refine (spec_voSum.calls k2 _ _ l0_1 t42 _ ?side1 ?side2 A14.out).mono ?_);(case side1=>exact qcs HR0_1.out HB.out);(case side2=>exact HC0_1.out);rintro e w' ⟨rfl,⟨nd,rfl⟩⟩;refine ⟨_,rfl,?_⟩)|((with_reducible refine gate_dst (N:=34) rfl ?_);refine Kd.R_lit (Kd.int .i64) _ 3 ?hg (N:=34) ?hd (xs:=([a1]:List Int)) (inner:=[.int .i64 a1]) (ok:=fun _=>True) (okp:=fun _=>True) ?hr ?hp (fun _ hk=>hk) trivial (Below.refl _ _) (Nat.le_refl _) (by simp) ?_;(case hd=>rfl);(case hg=>rfl);(case hr=>first|(go_simp;done)|(go_simp;rfl));(case hp=>exact (Reps.one (show Kd.M (Kd.int .i64) _ _ _ a1 [.int .i64 a1] from rfl) (Reps.none _ _)));intro v45 w34 ho35 hb hg_ hnew_;clear hg_ hnew_;(first|rw [← Ny44.out] at ho35|(simp only [Int.reduceToNat] at ho35;rw [← Ny44.out] at ho35));have HO46:=aM (Kd.R_lower (Kd.R_new' ho35 (Kd.R_lt (qra HO_6.out))) (below_size bw));replace HO_6:=aM (Kd.R_elder' (qra HO_6.out) (Kd.R_base ho35) hb);replace BK39:=aM (bB BK39.out hb);replace HB:=aM (below_step bw hb);clear hb ho35;obtain ⟨Ao36,co36,eo36⟩:=Kd.R_slice HO46.out;subst eo36)|((with_reducible refine gate_callee (f:=47) rfl ?_);refine gL 35 Tryz.func47 #[.agg #[.int .i64 x8_2,.slice A0_1 l0_1.length c0_1],.slice Ao36 y44.length co36] ?_;(with_reducible refine (spec_unPivots.calls k2 x8_2 _ _ l0_1 _ _ y44 t48 t49 _ ?side1 ?side2 ?side3 ?side4 A16.out).mono ?_);(case side1=>exact qcs HR0_1.out HB.out);(case side2=>exact HC0_1.out);(case side3=>exact qc (Kd.R_reads' HO46.out).2.2);(case side4=>exact (Kd.R_reads' HO46.out).2.1);rintro e w37 ⟨rfl,hb⟩;refine ⟨_,rfl,?_⟩;replace HO_6:=aM (Kd.R_below (qra HO_6.out) hb);replace HO46:=aM (Kd.R_below (qra HO46.out) hb);replace BK39:=aM (bB BK39.out hb);replace HB:=aM (below_step bw hb);(try clear hb);(try clear hk)))
         go_roundg k2
         case measure=>have:=HJ2.out;have:=HK2.out;omega
         case rel=>exact ⟨(x6_2),(x7_2),(wrap64 (x8_2 + 1)),qrs,qrs,H',⟨by have:=HJ2.out;have:=HK2.out;omega⟩,⟨by (with_reducible repeat (first|apply Kd.R_alloc|apply Kd.R_drewN|apply Kd.R_drew));exact Kd.R_mono HO_6.out (fun _ hk=>trivial)⟩,⟨bk1 BK39.out⟩,⟨by exact bw⟩⟩
      ·rw [if_neg c15] at H;have c15b0:=decide_eq_false c15;clear c15;simp only [Option.some.injEq,Prod.mk.injEq] at H;obtain ⟨rfl,rfl⟩:=H;have hcz38_0:=cz BK39.out 0;have hcz38_1:=cz BK39.out 1;have hfz38_0:=blk_frozen BK39.out 0;have hfz38_1:=blk_frozen BK39.out 1;go_wp2_with (first|((with_reducible refine gate_callee (f:=62) rfl ?_);refine gL 24 Tryz.func62 #[.slice A0_1 l0_1.length c0_1] ?_;(with_reducible refine (spec_voSum.calls k2 _ _ l0_1 t42 _ ?side1 ?side2 A14.out).mono ?_);(case side1=>exact qcs HR0_1.out HB.out);(case side2=>exact HC0_1.out);rintro e w' ⟨rfl,⟨nd,rfl⟩⟩;refine ⟨_,rfl,?_⟩))
       go_ret2
       exact ⟨_,eE,by (with_reducible repeat (first|apply Kd.R_alloc|apply Kd.R_drewN|apply Kd.R_drew));exact HO_6.out,by exact bw⟩


def laws_zRises.l0:Nat → List Int → Int → Option (Bool)
 | 0,_,_=>none
 | k + 1,x0,x3=>if x3 < (x0.length:Int) then (if 0 ≤ (wrap64 (x3 - 1)) then (if (wrap64 (x3 - 1)) < (x0.length:Int) then (if 0 ≤ x3 then (if (rd x0 (wrap64 (x3 - 1))) ≥ (rd x0 x3) then (some false) else (laws_zRises.l0 k x0 (wrap64 (x3 + 1)))) else (none)) else (none)) else (none)) else (some true)
def laws_zRises.f (k:Nat) (l0:List Int):Option (Bool):=laws_zRises.l0 k l0 1
theorem laws_zRises.calls (k:Nat) (A0:Option Addr) (c0:Nat) (l0:List Int) (r:Bool) (w:World) (hr0:Kd.C (Kd.int .i64) w A0 l0.length l0) (hc0:l0.length ≤ c0) (h:laws_zRises.f k l0 = some r) :
  Calls Tryz.prog 21 #[.slice A0 l0.length c0] w fun e w'=>e = .returned (.bool r) ∧ Drawn0 w w':=by
 have HR0:=aM hr0;have HC0:=aM hc0;clear hr0 hc0;have H:(laws_zRises.l0 k l0 1) = some r:=h;clear h;have H':=aM H;clear H;go_enter Tryz.func21,Tryz.ntmps21;go_wp2
 repeat (go_quiet (fail);try go_wp2)
 go_loopg [3] k (fun kq v3 w'=>∃ (x3_1:Int),v3 = .int .i64 x3_1 ∧ Aside0 (laws_zRises.l0 kq l0 x3_1 = some r) ∧ Aside0 (kq ≤ k) ∧ Drawn0 w w')
 case atStart=>exact ⟨(1),qrs,H',⟨Nat.le_refl _⟩,by repeat (first|exact Drawn0.refl _|apply Drawn0.step)⟩
 case round =>
  clear H';obtain ⟨x3_1,rfl,HA,HK1,⟨m1,rfl⟩⟩:=hrel
  cases gk with
  | zero=>exact absurd HA.out (by simp [laws_zRises.l0])
  | succ k1 =>
   have H:=HA.out;clear HA;simp only [laws_zRises.l0] at H;by_cases c2:x3_1 < (l0.length:Int)
   ·rw [if_pos c2] at H;have c2b0:=decide_eq_true c2;clear c2;obtain ⟨ji3,hji3⟩:∃ j_:Int,(wrap64 (x3_1 - 1)) = j_:=⟨_,rfl⟩;(first|rw [hji3] at H|simp only [hji3] at H)
    have hji3w:(IntKind.i64.wrap (x3_1 - 1)) = ji3:=(i64_w _).trans hji3;replace H:=iN H;obtain ⟨c4,H⟩:=H;have c4b0:decide (0 ≤ (ji3)) = true:=decide_eq_true c4;clear c4;replace H:=iN H;obtain ⟨c5,H⟩:=H;have c5b0:decide ((ji3) < (l0.length:Int)) = true:=decide_eq_true c5;clear c5;replace H:=iN H;obtain ⟨c6,H⟩:=H;have c6b0:decide (0 ≤ x3_1) = true:=decide_eq_true c6;clear c6;by_cases c7:(rd l0 (ji3)) ≥ (rd l0 x3_1)
    ·rw [if_pos c7] at H;have c7b0:decide ((rd l0 x3_1) ≤ (rd l0 (ji3))) = true:=decide_eq_true c7;clear c7;obtain rfl:=Option.some.inj H;have p8:0 ≤ ((ji3):Int):=of_decide_eq_true ab;have q8:(ji3) < (l0.length:Int):=of_decide_eq_true ab;obtain ⟨ad8,e8,hx8_0⟩:=Kd.at_int HR0.out (ji3) p8 q8;cases e8
     replace p8:=eq_true p8;replace q8:=eq_true q8;have p9:0 ≤ (x3_1:Int):=of_decide_eq_true ab;have q9:x3_1 < (l0.length:Int):=of_decide_eq_true ab;obtain ⟨ad9,e9,hx9_0⟩:=Kd.at_int HR0.out x3_1 p9 q9;obtain rfl:ad8 = ad9:=(by injection e9);replace p9:=eq_true p9;replace q9:=eq_true q9;go_wp2
     repeat (go_quiet (fail);try go_wp2)
     go_ret
     exact ⟨by first|rfl|(simp;done)|(simp only [← hji3] <;> (first|rfl|simp))|(simp [*];done),by repeat (first|exact Drawn0.refl _|apply Drawn0.step)⟩
    ·rw [if_neg c7] at H;have c7b0:decide ((rd l0 x3_1) ≤ (rd l0 (ji3))) = false:=decide_eq_false c7;clear c7;have H':=aM H;clear H;have p8:0 ≤ ((ji3):Int):=of_decide_eq_true ab;have q8:(ji3) < (l0.length:Int):=of_decide_eq_true ab;obtain ⟨ad8,e8,hx8_0⟩:=Kd.at_int HR0.out (ji3) p8 q8;cases e8
     replace p8:=eq_true p8;replace q8:=eq_true q8;have p9:0 ≤ (x3_1:Int):=of_decide_eq_true ab;have q9:x3_1 < (l0.length:Int):=of_decide_eq_true ab;obtain ⟨ad9,e9,hx9_0⟩:=Kd.at_int HR0.out x3_1 p9 q9;obtain rfl:ad8 = ad9:=(by injection e9);replace p9:=eq_true p9;replace q9:=eq_true q9;go_wp2
     repeat (go_quiet (fail);try go_wp2)
     go_roundg k1
     case measure=>have:=HK1.out;omega
     case rel=>exact ⟨(wrap64 (x3_1 + 1)),qrs,H',⟨by have:=HK1.out;omega⟩,by repeat (first|exact Drawn0.refl _|apply Drawn0.step)⟩
   ·rw [if_neg c2] at H;have c2b0:=decide_eq_false c2;clear c2;obtain rfl:=Option.some.inj H;go_wp2
    repeat (go_quiet (fail);try go_wp2)
    go_ret
    exact ⟨qrs,dR⟩


def impl_PivotCounts.f (k:Nat) (a0_0:Int) (l0_1:List Int):Option (List Int × Bool):=(impl_IsCommittee.f k a0_0 l0_1).bind fun t2=>(if t2 = true then ((impl_Committee_votes.f k a0_0 l0_1).bind fun bt3=>((impl_votes_pivots.f k bt3.1 bt3.2).bind fun t4=>(some (t4,true)))) else (some (([]:List Int),false)))
theorem impl_PivotCounts.calls (k:Nat) (a0_0:Int) (A0_1:Option Addr) (c0_1:Nat) (l0_1:List Int) (r1:List Int) (r2:Bool) (w:World) (hr0_1:Kd.C (Kd.int .i64) w A0_1 l0_1.length l0_1) (hc0_1:l0_1.length ≤ c0_1) (h:impl_PivotCounts.f k a0_0 l0_1 = some (r1,r2)) :
  Calls Tryz.prog 22 #[.agg #[.int .i64 a0_0,.slice A0_1 l0_1.length c0_1]] w fun e w'=>∃ v0_:Value,e = .returned (.tuple #[v0_,.bool r2]) ∧ Kd.R (Kd.int .i64) 3 w' w.heap.size (fun _=>True) v0_ r1 ∧ Below w.heap.size w w':=by
 have hu24:=Tryz.underlying24;have HR0_1:=aM hr0_1;have HC0_1:=aM hc0_1;clear hr0_1 hc0_1;have HB:=aM (Below.refl w.heap.size w);have H:((impl_IsCommittee.f k a0_0 l0_1).bind fun t17=>(if t17 = true then ((impl_Committee_votes.f k a0_0 l0_1).bind fun bt18=>((impl_votes_pivots.f k bt18.1 bt18.2).bind fun t23=>(some (t23,true)))) else (some (([]:List Int),false)))) = some (r1,r2):=h;clear h;replace H:=oB H;obtain ⟨t17,A2,H⟩:=H;(try dsimp only at H)
 by_cases c3:t17 = true
 ·subst c3;rw [if_pos rfl] at H;replace H:=oB H;obtain ⟨⟨t18,t19⟩,A4,H⟩:=H;(try dsimp only at H)
  replace H:=oB H;obtain ⟨t23,A5,H⟩:=H;(try dsimp only at H)
  simp only [Option.some.injEq,Prod.mk.injEq] at H;obtain ⟨rfl,rfl⟩:=H;go_enter Tryz.func22,Tryz.ntmps22;go_wp2_with (first|((with_reducible refine gate_dst (N:=1) rfl ?_);refine bE 1 #[.int .i64 a0_0,.slice A0_1 l0_1.length c0_1] 24 ?_;intro gb16 hg w6 hbox hb;have BK16:=aM (hbox);have GW16:=aM (gS hg);have GE16:=aM (gS hg);replace HB:=aM (below_step bw hb);clear hb hbox hg;have hcz7_0:=cz BK16.out 0;have hcz7_1:=cz BK16.out 1;have hfz7_0:=blk_frozen BK16.out 0;have hfz7_1:=blk_frozen BK16.out 1)|((with_reducible refine gate_callee (f:=34) rfl ?_);refine gL 5 Tryz.func34 #[.agg #[.int .i64 a0_0,.slice A0_1 l0_1.length c0_1]] ?_;(with_reducible refine (impl_IsCommittee.calls k a0_0 _ _ l0_1 true _ ?side1 ?side2 A2.out).mono ?_);(case side1=>exact qcs HR0_1.out HB.out);(case side2=>exact HC0_1.out);rintro e w8 ⟨rfl,hb⟩;refine ⟨_,rfl,?_⟩;replace BK16:=aM (bB BK16.out hb);replace HB:=aM (below_step bw hb);(try clear hb);have hcz9_0:=cz BK16.out 0;have hcz9_1:=cz BK16.out 1;have hfz9_0:=blk_frozen BK16.out 0;have hfz9_1:=blk_frozen BK16.out 1)|((with_reducible refine gate_callee (f:=30) rfl ?_);refine gL 8 Tryz.func30 #[.agg #[.int .i64 a0_0,.slice A0_1 l0_1.length c0_1]] ?_;(with_reducible refine (impl_Committee_votes.calls k a0_0 _ _ l0_1 t18 t19 _ ?side1 ?side2 A4.out).mono ?_);(case side1=>exact qcs HR0_1.out HB.out);(case side2=>exact HC0_1.out);rintro e w10 ⟨v20,rfl,ho0,hb⟩;refine ⟨_,rfl,?_⟩;have HO21:=aM (Kd.R_lower ho0 (below_size bw));replace BK16:=aM (bB BK16.out hb);replace HB:=aM (below_step bw hb);(try clear hb);(try clear ho0);obtain ⟨Ao11,co11,eo11⟩:=Kd.R_slice HO21.out;subst eo11)|((with_reducible refine gate_callee (f:=61) rfl ?_);refine gL 9 Tryz.func61 #[.agg #[.int .i64 t18,.slice Ao11 t19.length co11]] ?_;(with_reducible refine (impl_votes_pivots.calls k t18 _ _ t19 t23 _ ?side1 ?side2 A5.out).mono ?_);(case side1=>exact qc (Kd.R_reads' HO21.out).2.2);(case side2=>exact (Kd.R_reads' HO21.out).2.1);rintro e w12 ⟨v25,rfl,ho0,hb⟩;refine ⟨_,rfl,?_⟩;replace HO21:=aM (Kd.R_below (qra HO21.out) hb);have HO26:=aM (Kd.R_lower ho0 (below_size bw));replace BK16:=aM (bB BK16.out hb);replace HB:=aM (below_step bw hb);(try clear hb);(try clear ho0)))
  go_ret2
  exact ⟨_,eE,by (with_reducible repeat (first|apply Kd.R_alloc|apply Kd.R_drewN|apply Kd.R_drew));exact HO26.out,by exact bw⟩
 ·replace c3:=Bool.eq_false_iff.mpr c3;subst c3;rw [if_neg (show ¬ (false = true) by decide)] at H;simp only [Option.some.injEq,Prod.mk.injEq] at H;obtain ⟨rfl,rfl⟩:=H;go_enter Tryz.func22,Tryz.ntmps22;go_wp2_with (first|((with_reducible refine gate_dst (N:=1) rfl ?_);refine bE 1 #[.int .i64 a0_0,.slice A0_1 l0_1.length c0_1] 24 ?_;intro gb16 hg w13 hbox hb;have BK16:=aM (hbox);have GW16:=aM (gS hg);have GE16:=aM (gS hg);replace HB:=aM (below_step bw hb);clear hb hbox hg;have hcz14_0:=cz BK16.out 0;have hcz14_1:=cz BK16.out 1;have hfz14_0:=blk_frozen BK16.out 0;have hfz14_1:=blk_frozen BK16.out 1)|((with_reducible refine gate_callee (f:=34) rfl ?_);refine gL 5 Tryz.func34 #[.agg #[.int .i64 a0_0,.slice A0_1 l0_1.length c0_1]] ?_;(with_reducible refine (impl_IsCommittee.calls k a0_0 _ _ l0_1 false _ ?side1 ?side2 A2.out).mono ?_);(case side1=>exact qcs HR0_1.out HB.out);(case side2=>exact HC0_1.out);rintro e w15 ⟨rfl,hb⟩;refine ⟨_,rfl,?_⟩;replace BK16:=aM (bB BK16.out hb);replace HB:=aM (below_step bw hb);(try clear hb)))
  go_ret2
  exact ⟨_,eE,by first|exact Kd.R_nil _ _ _ _ _|exact Kd.N_nil _ _ _ _ _|exact Kd.V_nil _ _ _ _ _|exact Kd.Q_nil _ _ _ _ _|exact Kd.S_nil _ _ _ _ _,by exact bw⟩


mutual
def laws_FnQuarrelsToldOfAll.j2:Nat → Int → Int → List Int → Option (Bool)
 | 0,_,_,_=>none
 | k + 1,x4,x45,x46=>(impl_BestPartners.f k x45 x46 x4).bind fun bt14=>((spec_BestPartners.f k x45 x46 x4).bind fun bt16=>((impl_BestSplits.f k x45 x46 x4).bind fun bt17=>((spec_BestSplits.f k x45 x46 x4).bind fun bt18=>((impl_QuotasOfPower.f k x45 x46 x4).bind fun bt20=>((spec_QuotasOfPower.f k x45 x46 x4).bind fun bt21=>(if (bt14.2 != bt16.2) = true then (some false) else ((laws_zSame.f k bt14.1 bt16.1).bind fun t22=>(if t22 = true then (if (bt17.2 != bt18.2) = true then (some false) else ((laws_zSame.f k bt17.1 bt18.1).bind fun t25=>(if t25 = true then (if (bt20.2 != bt21.2) = true then (some false) else ((laws_zSame.f k bt20.1 bt21.1).bind fun t26=>(if t26 = true then (if bt14.2 = true then (if (bt14.1.length:Int) < 1 then (some false) else ((laws_zRises.f k bt14.1).bind fun t27=>(if t27 = true then ((laws_zHas.f k bt14.1 x4).bind fun t30=>(if t30 = true then (some false) else (if bt17.2 = true then (if (bt17.1.length:Int) < 1 then (some false) else ((laws_zRises.f k bt17.1).bind fun t31=>(if t31 = true then (if 0 ≤ (wrap64 ((bt17.1.length:Int) - 1)) then (if (wrap64 ((bt17.1.length:Int) - 1)) < (bt17.1.length:Int) then (if 0 ≤ x4 then (if x4 < (x46.length:Int) then (if 0 < (bt17.1.length:Int) then (if (rd bt17.1 (wrap64 ((bt17.1.length:Int) - 1))) = (wrap64 ((rd x46 x4) - (rd bt17.1 0))) then (laws_FnQuarrelsToldOfAll.j3 k x4 bt20.1 bt20.2 x45 x46) else (some false)) else (none)) else (none)) else (none)) else (none)) else (none)) else (some false)))) else (laws_FnQuarrelsToldOfAll.j3 k x4 bt20.1 bt20.2 x45 x46)))) else (some false)))) else (if bt17.2 = true then (if (bt17.1.length:Int) < 1 then (some false) else ((laws_zRises.f k bt17.1).bind fun t36=>(if t36 = true then (if 0 ≤ (wrap64 ((bt17.1.length:Int) - 1)) then (if (wrap64 ((bt17.1.length:Int) - 1)) < (bt17.1.length:Int) then (if 0 ≤ x4 then (if x4 < (x46.length:Int) then (if 0 < (bt17.1.length:Int) then (if (rd bt17.1 (wrap64 ((bt17.1.length:Int) - 1))) = (wrap64 ((rd x46 x4) - (rd bt17.1 0))) then (laws_FnQuarrelsToldOfAll.j4 k x4 bt20.1 bt20.2 x45 x46) else (some false)) else (none)) else (none)) else (none)) else (none)) else (none)) else (some false)))) else (laws_FnQuarrelsToldOfAll.j4 k x4 bt20.1 bt20.2 x45 x46))) else (some false)))) else (some false)))) else (some false)))))))))
def laws_FnQuarrelsToldOfAll.j3:Nat → Int → List Int → Bool → Int → List Int → Option (Bool)
 | 0,_,_,_,_,_=>none
 | k + 1,x4,x42,x43,x45,x46=>if x43 = true then (if (x42.length:Int) < 1 then (some false) else ((laws_zRises.f k x42).bind fun t32=>(if t32 = true then (if 0 < (x42.length:Int) then ((impl_PivotCounts.f k (rd x42 0) x46).bind fun bt33=>((impl_PivotCounts.f k x45 x46).bind fun bt34=>(if bt33.2 = true then (if bt34.2 = true then (if 0 ≤ x4 then (if x4 < (bt34.1.length:Int) then (if x4 < (bt33.1.length:Int) then (if (rd bt34.1 x4) > (rd bt33.1 x4) then (some false) else ((laws_zHas.f k x42 x45).bind fun t35=>(if (((rd bt34.1 x4) == (rd bt33.1 x4)) != t35) = true then (some false) else (some true)))) else (none)) else (none)) else (none)) else (some false)) else (some false)))) else (none)) else (some false)))) else (some true)
def laws_FnQuarrelsToldOfAll.j4:Nat → Int → List Int → Bool → Int → List Int → Option (Bool)
 | 0,_,_,_,_,_=>none
 | k + 1,x4,x42,x43,x45,x46=>if x43 = true then (if (x42.length:Int) < 1 then (some false) else ((laws_zRises.f k x42).bind fun t37=>(if t37 = true then (if 0 < (x42.length:Int) then ((impl_PivotCounts.f k (rd x42 0) x46).bind fun bt38=>((impl_PivotCounts.f k x45 x46).bind fun bt39=>(if bt38.2 = true then (if bt39.2 = true then (if 0 ≤ x4 then (if x4 < (bt39.1.length:Int) then (if x4 < (bt38.1.length:Int) then (if (rd bt39.1 x4) > (rd bt38.1 x4) then (some false) else ((laws_zHas.f k x42 x45).bind fun t40=>(if (((rd bt39.1 x4) == (rd bt38.1 x4)) != t40) = true then (some false) else (some true)))) else (none)) else (none)) else (none)) else (some false)) else (some false)))) else (none)) else (some false)))) else (some true)
def laws_FnQuarrelsToldOfAll.l0:Nat → Int → Int → Int → Int → List Int → List Int → Int → List Int → Int → Int → Int → List Int → Int → List Int → Option (Bool)
 | 0,_,_,_,_,_,_,_,_,_,_,_,_,_,_=>none
 | k + 1,x1,x2,x4,x11,x15,x19,x23,x24,x28,x29,x41,x44,x45,x46=>if 0 ≤ x23 then (if x29 < (shl .i64 1 x23) then (if 0 ≤ x1 then (if (Int.tmod (shr .i64 x29 x1) 2) = 1 then (if 0 ≤ x2 then (if (Int.tmod (shr .i64 x29 x2) 2) = 1 then (laws_FnQuarrelsToldOfAll.l0 k x1 x2 x4 x11 x15 x19 x23 x24 x28 (wrap64 (x29 + 1)) x41 x44 x45 x46) else ((laws_zSet.f k x29).bind fun t8=>((impl_IsWinning.f k x41 x44 t8).bind fun bt9=>(if bt9.2 = true then (if bt9.1 = true then (laws_FnQuarrelsToldOfAll.l0 k x1 x2 x4 x11 x15 x19 x23 x24 (wrap64 (x28 + 1)) (wrap64 (x29 + 1)) x41 x44 x45 x46) else (laws_FnQuarrelsToldOfAll.l0 k x1 x2 x4 x11 x15 x19 x23 x24 x28 (wrap64 (x29 + 1)) x41 x44 x45 x46)) else (some false))))) else (none)) else ((laws_zSet.f k x29).bind fun t10=>((impl_IsWinning.f k x41 x44 t10).bind fun bt12=>(if bt12.2 = true then (if bt12.1 = true then (laws_FnQuarrelsToldOfAll.l0 k x1 x2 x4 x11 x15 x19 x23 x24 (wrap64 (x28 + 1)) (wrap64 (x29 + 1)) x41 x44 x45 x46) else (laws_FnQuarrelsToldOfAll.l0 k x1 x2 x4 x11 x15 x19 x23 x24 x28 (wrap64 (x29 + 1)) x41 x44 x45 x46)) else (some false))))) else (none)) else (if x28 = x11 then (laws_FnQuarrelsToldOfAll.l1 k x1 x2 x4 x19 x24 x15 (x15.length:Int) 0 x45 x46) else (some false))) else (none)
def laws_FnQuarrelsToldOfAll.l1:Nat → Int → Int → Int → List Int → List Int → List Int → Int → Int → Int → List Int → Option (Bool)
 | 0,_,_,_,_,_,_,_,_,_,_=>none
 | k + 1,x1,x2,x4,x19,x24,x5,x6,x7,x45,x46=>if x7 < x6 then (if 0 ≤ x7 then (if x7 < (x5.length:Int) then (if x7 < (x24.length:Int) then ((laws_zHas.f k x19 x7).bind fun t13=>(if ((decide ((rd x5 x7) > (rd x24 x7))) != t13) = true then (some false) else (if x7 = x1 then (if (rd x5 x7) > (rd x24 x7) then (some false) else (laws_FnQuarrelsToldOfAll.l1 k x1 x2 x4 x19 x24 x5 x6 (wrap64 (x7 + 1)) x45 x46)) else (if x7 = x2 then (if (rd x5 x7) > (rd x24 x7) then (some false) else (laws_FnQuarrelsToldOfAll.l1 k x1 x2 x4 x19 x24 x5 x6 (wrap64 (x7 + 1)) x45 x46)) else (laws_FnQuarrelsToldOfAll.l1 k x1 x2 x4 x19 x24 x5 x6 (wrap64 (x7 + 1)) x45 x46))))) else (none)) else (none)) else (none)) else (laws_FnQuarrelsToldOfAll.j2 k x4 x45 x46)
end
def laws_FnQuarrelsToldOfAll.f (k:Nat) (a0_0:Int) (l0_1:List Int) (a1:Int) (a2:Int) (a3_0:Int) (l3_1:List Int) (a4:Int):Option (Bool):=(impl_CountQuarrelWins.f k a0_0 l0_1 a1 a2).bind fun bt5=>((spec_CountQuarrelWins.f k a0_0 l0_1 a1 a2).bind fun bt6=>((impl_QuarrelSwings.f k a0_0 l0_1 a1 a2).bind fun bt7=>((spec_QuarrelSwings.f k a0_0 l0_1 a1 a2).bind fun bt8=>((impl_QuarrelHelps.f k a0_0 l0_1 a1 a2).bind fun bt9=>((spec_QuarrelHelps.f k a0_0 l0_1 a1 a2).bind fun bt10=>(if (bt5.2 != bt6.2) = true then (some false) else (if bt5.1 = bt6.1 then (if (bt7.2 != bt8.2) = true then (some false) else ((laws_zSame.f k bt7.1 bt8.1).bind fun t11=>(if t11 = true then (if (bt9.2 != bt10.2) = true then (some false) else ((laws_zSame.f k bt9.1 bt10.1).bind fun t12=>(if t12 = true then (if (bt7.2 != bt5.2) = true then (some false) else (if (bt9.2 != bt5.2) = true then (some false) else (if bt5.2 = true then ((impl_SwingsOf.f k a0_0 l0_1).bind fun bt13=>((impl_CountQuarrelWins.f k a0_0 l0_1 a2 a1).bind fun bt14=>(if bt13.2 = true then (if bt14.2 = true then (if bt14.1 = bt5.1 then (if (bt7.1.length:Int) = (l0_1.length:Int) then (laws_FnQuarrelsToldOfAll.l0 k a1 a2 a4 bt5.1 bt7.1 bt9.1 (l0_1.length:Int) bt13.1 0 0 a0_0 l0_1 a3_0 l3_1) else (some false)) else (some false)) else (some false)) else (some false)))) else (laws_FnQuarrelsToldOfAll.j2 k a4 a3_0 l3_1)))) else (some false)))) else (some false)))) else (some false))))))))
def laws_FnQuarrelsToldOfAll.T20:Bool × List (List Nat × List Nat):=(true,[([],[]),([],[]),([1],[1]),([0,2,2],[0,2]),([3],[3]),([4],[4]),([4],[4]),([5,3,0,1,2,3,4,5],[5]),([6,7,0,1,2,3,4,5,6,7],[6])])
def laws_FnQuarrelsToldOfAll.B20:List Nat:=[0,0,2,7,15,31,31,63,255]
theorem laws_FnQuarrelsToldOfAll.tab20:rtab .any (opsOf Tryz.f3 20) = laws_FnQuarrelsToldOfAll.T20:=by kernel_rfl
theorem laws_FnQuarrelsToldOfAll.bits20:waitsOk laws_FnQuarrelsToldOfAll.T20.2 laws_FnQuarrelsToldOfAll.B20 = true:=by kernel_rfl
def laws_FnQuarrelsToldOfAll.T30:Bool × List (List Nat × List Nat):=(true,[([],[]),([],[]),([],[]),([1,2],[1,2]),([3],[3]),([0,4],[0,4]),([],[]),([],[]),([6,7],[6,7]),([5,8],[5,8]),([9,8],[9]),([10],[10]),([10],[10]),([11,12,10],[10,11,12]),([13,10,10],[10,13]),([14],[14]),([14],[14]),([15,16,14],[14,15,16]),([14,17,10],[10,14,17]),([18,14,10],[10,18]),([19],[19]),([19],[19]),([19],[19]),([21,22,19],[19,21,22]),([23,19],[19,23]),([20,24,19],[19,20,24]),([19,25,10],[10,19,25]),([10,26],[10,26])])
def laws_FnQuarrelsToldOfAll.B30:List Nat:=[0,0,0,6,14,31,0,0,192,511,1023,2047,2047,8191,16383,32767,32767,131071,262143,524287,1048575,1048575,1048575,7340031,15728639,33554431,67108863,134217727]
theorem laws_FnQuarrelsToldOfAll.tab30:rtab .any (opsOf Tryz.f3 30) = laws_FnQuarrelsToldOfAll.T30:=by kernel_rfl
theorem laws_FnQuarrelsToldOfAll.bits30:waitsOk laws_FnQuarrelsToldOfAll.T30.2 laws_FnQuarrelsToldOfAll.B30 = true:=by kernel_rfl
def laws_FnQuarrelsToldOfAll.T44:Bool × List (List Nat × List Nat):=(true,[([],[]),([0],[0]),([1],[1]),([2],[2]),([3],[3]),([4,3,3],[3,4]),([5,3],[3,5]),([3,6],[3,6]),([7,5],[7]),([8],[8]),([8],[8]),([10,8],[8,10]),([11,8],[8,11]),([9,12,8],[8,9,12]),([13,8],[8,13]),([8],[8]),([15,8],[8,15]),([8],[8]),([16,17,8],[8,16,17]),([18,8],[8,18]),([8],[8]),([20,8],[8,20]),([21,8],[8,21]),([19,22,8],[8,19,22]),([14,23,8],[8,14,23]),([8,24],[8,24])])
def laws_FnQuarrelsToldOfAll.B44:List Nat:=[0,1,3,7,15,31,63,127,255,511,511,1535,3583,8191,16383,511,33279,511,229887,492031,511,1049087,3146239,8356351,16777215,33554431]
theorem laws_FnQuarrelsToldOfAll.tab44:rtab .any (opsOf Tryz.f3 44) = laws_FnQuarrelsToldOfAll.T44:=by kernel_rfl
theorem laws_FnQuarrelsToldOfAll.bits44:waitsOk laws_FnQuarrelsToldOfAll.T44.2 laws_FnQuarrelsToldOfAll.B44 = true:=by kernel_rfl
def laws_FnQuarrelsToldOfAll.T49:Bool × List (List Nat × List Nat):=(true,[([],[]),([0],[0]),([1],[1]),([],[]),([3],[3]),([2,4],[2,4]),([5],[5]),([6],[6]),([7],[7]),([7],[7]),([8,6,0,1,2,3,4,5,6,7,8],[8]),([9,10,0,1,2,3,4,5,6,7,8,9,10],[9])])
def laws_FnQuarrelsToldOfAll.B49:List Nat:=[0,1,3,0,8,31,63,127,255,255,511,2047]
theorem laws_FnQuarrelsToldOfAll.tab49:rtab .any (opsOf Tryz.f3 49) = laws_FnQuarrelsToldOfAll.T49:=by kernel_rfl
theorem laws_FnQuarrelsToldOfAll.bits49:waitsOk laws_FnQuarrelsToldOfAll.T49.2 laws_FnQuarrelsToldOfAll.B49 = true:=by kernel_rfl
def laws_FnQuarrelsToldOfAll.T51:Bool × List (List Nat × List Nat):=(true,[([],[]),([0],[0]),([1],[1]),([2],[2]),([3,2],[2,3]),([2,4],[2,4]),([5,2],[5]),([6],[6]),([6],[6]),([7,8,6],[6,7,8]),([9,6],[6,9]),([6],[6]),([6],[6]),([11,12,6],[6,11,12]),([13,6],[6,13]),([10,14,6],[6,10,14]),([6,15],[6,15]),([16,6],[16]),([17],[17]),([17],[17]),([18,19,17],[17,18,19]),([20,17],[17,20]),([17],[17]),([17],[17]),([22,23,17],[17,22,23]),([24,17],[17,24]),([21,25,17],[17,21,25]),([17],[17]),([17],[17]),([28,17],[17,28]),([27,29,17,17],[17,27,29]),([26,30,17],[17,26,30]),([17,31],[17,31])])
def laws_FnQuarrelsToldOfAll.B51:List Nat:=[0,1,3,7,15,31,63,127,127,511,1023,127,127,6271,14463,32767,65535,131071,262143,262143,1048575,2097151,262143,262143,12845055,29622271,67108863,262143,262143,268697599,939786239,2147483647,4294967295]
theorem laws_FnQuarrelsToldOfAll.tab51:rtab .any (opsOf Tryz.f3 51) = laws_FnQuarrelsToldOfAll.T51:=by kernel_rfl
theorem laws_FnQuarrelsToldOfAll.bits51:waitsOk laws_FnQuarrelsToldOfAll.T51.2 laws_FnQuarrelsToldOfAll.B51 = true:=by kernel_rfl
theorem wait_ {p:Prop} (h:∀ q:Prop,(p → q) → q):p:=h p id
section
variable {α:Type} {d:Kd α} {e base g n:Nat} {W W1 w0:World} {ok:Nat → Prop} {v:Value} {xs:List α} {o:Obj}
theorem hqR (hq:W.drewN n = W1) (h:d.R e W base ok v xs):d.R e W1 base ok v xs:=hq ▸ Kd.R_drewN h n
theorem hqS (hq:W.drewN n = W1) (h:Kd.S d e W base ok v xs):Kd.S d e W1 base ok v xs:=hq ▸ Kd.S_drewN h n
theorem hqN (hq:W.drewN n = W1) (h:Kd.N d e W base ok v xs):Kd.N d e W1 base ok v xs:=hq ▸ Kd.N_drewN h n
theorem hqB (hq:W.drewN n = W1) (h:W.heap[g]? = some o):W1.heap[g]? = some o:=hq ▸ blk_drewN h n
theorem hqH (hq:W.drewN n = W1) (h:Below base w0 W):Below base w0 W1:=hq ▸ pw_below_drewN h n
end
def patch:List Nat → (Nat → Value) → Nat → List Value → List Value
 | [],_,_,l=>l
 | _ :: _,_,_,[]=>[]
 | 0 :: m,f,k,x :: l=>x :: patch m f k l
 | (_ + 1) :: m,f,k,_ :: l=>f k :: patch m f (k + 1) l
def picks:List Nat → List Value → List Value
 | [],_=>[]
 | _ :: _,[]=>[]
 | 0 :: m,_ :: l=>picks m l
 | (_ + 1) :: m,x :: l=>x :: picks m l
theorem cutP {P:Program} {s:Code} {K:Act → World → Prop} {Q':Exit → Act → World → Prop} {L:List Value} {df} {w:World} (m:List Nat) (R:World → Prop)
  (rest:∀ f wc,R wc → K ⟨(patch m f 0 L).toArray,df⟩ wc)
  (first:∀ J K':Act → World → Prop,(∀ f wc,R wc → J ⟨(patch m f 0 L).toArray,df⟩ wc) → (∀ a' w',Met J a' w' → K' a' w') → s.wp P (Exit.then K' Q') ⟨L.toArray,df⟩ w):s.wp P (Exit.then K Q') ⟨L.toArray,df⟩ w:=by
 refine wp_cut (fun a' w'=>∃ f,R w' ∧ a' = ⟨(patch m f 0 L).toArray,df⟩) ?_ ?_
 ·rintro a' w' ⟨f,h,rfl⟩
  exact rest f w' h
 ·intro J K' hJ hK;exact first J K' (fun f wc h=>hJ _ _ ⟨f,h,rfl⟩) hK
theorem meetP {J:Act → World → Prop} {m:List Nat} {L L':List Value} {df} {R:World → Prop} {w':World} (hJ:∀ f wc,R wc → J ⟨(patch m f 0 L).toArray,df⟩ wc) (h:R w')
  (e:patch m (fun k=>(picks m L').getD k (.bool false)) 0 L = L':=by as_aux_lemma=>kernel_rfl):J ⟨L'.toArray,df⟩ w':=by
 have h1:=hJ (fun k=>(picks m L').getD k (.bool false)) _ h;rw [e] at h1;exact h1
theorem laws_FnQuarrelsToldOfAll.calls (k:Nat) (a0_0:Int) (A0_1:Option Addr) (c0_1:Nat) (l0_1:List Int) (a1:Int) (a2:Int) (a3_0:Int) (A3_1:Option Addr) (c3_1:Nat) (l3_1:List Int) (a4:Int) (r:Bool) (w:World) (hr0_1:Kd.C (Kd.int .i64) w A0_1 l0_1.length l0_1) (hc0_1:l0_1.length ≤ c0_1) (hr3_1:Kd.C (Kd.int .i64) w A3_1 l3_1.length l3_1) (hc3_1:l3_1.length ≤ c3_1) (hr_:Aside0 (r = true)) (h:laws_FnQuarrelsToldOfAll.f k a0_0 l0_1 a1 a2 a3_0 l3_1 a4 = some r) :
  Calls Tryz.prog 3 #[.agg #[.int .i64 a0_0,.slice A0_1 l0_1.length c0_1],.int .i64 a1,.int .i64 a2,.agg #[.int .i64 a3_0,.slice A3_1 l3_1.length c3_1],.int .i64 a4] w fun e w'=>e = .returned (.bool r) ∧ Below w.heap.size w w':=by
 have hu24:=Tryz.underlying24;have HR0_1:=aM hr0_1;have HC0_1:=aM hc0_1;clear hr0_1 hc0_1;have HR3_1:=aM hr3_1;have HC3_1:=aM hc3_1;clear hr3_1 hc3_1;have HB:=aM (Below.refl w.heap.size w);have H:((impl_CountQuarrelWins.f k a0_0 l0_1 a1 a2).bind fun bt237=>((spec_CountQuarrelWins.f k a0_0 l0_1 a1 a2).bind fun bt239=>((impl_QuarrelSwings.f k a0_0 l0_1 a1 a2).bind fun bt241=>((spec_QuarrelSwings.f k a0_0 l0_1 a1 a2).bind fun bt245=>((impl_QuarrelHelps.f k a0_0 l0_1 a1 a2).bind fun bt249=>((spec_QuarrelHelps.f k a0_0 l0_1 a1 a2).bind fun bt253=>(if (bt237.2 != bt239.2) = true then (some false) else (if bt237.1 = bt239.1 then (if (bt241.2 != bt245.2) = true then (some false) else ((laws_zSame.f k bt241.1 bt245.1).bind fun t257=>(if t257 = true then (if (bt249.2 != bt253.2) = true then (some false) else ((laws_zSame.f k bt249.1 bt253.1).bind fun t258=>(if t258 = true then (if (bt241.2 != bt237.2) = true then (some false) else (if (bt249.2 != bt237.2) = true then (some false) else (if bt237.2 = true then ((impl_SwingsOf.f k a0_0 l0_1).bind fun bt259=>((impl_CountQuarrelWins.f k a0_0 l0_1 a2 a1).bind fun bt263=>(if bt259.2 = true then (if bt263.2 = true then (if bt263.1 = bt237.1 then (if (bt241.1.length:Int) = (l0_1.length:Int) then (laws_FnQuarrelsToldOfAll.l0 k a1 a2 a4 bt237.1 bt241.1 bt249.1 (l0_1.length:Int) bt259.1 0 0 a0_0 l0_1 a3_0 l3_1) else (some false)) else (some false)) else (some false)) else (some false)))) else (laws_FnQuarrelsToldOfAll.j2 k a4 a3_0 l3_1)))) else (some false)))) else (some false)))) else (some false))))))))) = some r:=h;clear h;as_aux_lemma =>
 replace H:=oB H;obtain ⟨⟨t237,t238⟩,A6,H⟩:=H;(try dsimp only at H)
 replace H:=oB H;obtain ⟨⟨t239,t240⟩,A7,H⟩:=H;(try dsimp only at H)
 as_aux_lemma =>
 replace H:=oB H;obtain ⟨⟨t241,t244⟩,A8,H⟩:=H;(try dsimp only at H)
 replace H:=oB H;obtain ⟨⟨t245,t248⟩,A9,H⟩:=H;(try dsimp only at H)
 as_aux_lemma =>
 replace H:=oB H;obtain ⟨⟨t249,t252⟩,A10,H⟩:=H;(try dsimp only at H)
 replace H:=oB H;obtain ⟨⟨t253,t256⟩,A11,H⟩:=H;(try dsimp only at H)
 as_aux_lemma =>
 replace H:=dM H hr_.out;obtain ⟨c12,H⟩:=H;have c12b0:(t238 != t240) = false:=by simpa using c12
 (try (have c12b1:decide (t238 = t240) = true:=by simpa using c12))
 (try (have c12b2:(t238 == t240) = true:=by simpa using c12))
 clear c12;as_aux_lemma =>
 replace H:=dN H hr_.out;obtain ⟨c13,H⟩:=H;have c13b0:(t237 == t239) = true:=beq_iff_eq.mpr c13;have c13b1:(t237 != t239) = false:=bne_eq_false_iff_eq.mpr c13;clear c13;as_aux_lemma =>
 replace H:=dM H hr_.out;obtain ⟨c14,H⟩:=H;have c14b0:(t244 != t248) = false:=by simpa using c14
 (try (have c14b1:decide (t244 = t248) = true:=by simpa using c14))
 (try (have c14b2:(t244 == t248) = true:=by simpa using c14))
 clear c14;as_aux_lemma =>
 replace H:=oB H;obtain ⟨t257,A15,H⟩:=H;(try dsimp only at H)
 replace H:=dN H hr_.out;obtain ⟨c16,H⟩:=H;subst c16;as_aux_lemma =>
 replace H:=dM H hr_.out;obtain ⟨c17,H⟩:=H;have c17b0:(t252 != t256) = false:=by simpa using c17
 (try (have c17b1:decide (t252 = t256) = true:=by simpa using c17))
 (try (have c17b2:(t252 == t256) = true:=by simpa using c17))
 clear c17;as_aux_lemma =>
 replace H:=oB H;obtain ⟨t258,A18,H⟩:=H;(try dsimp only at H)
 replace H:=dN H hr_.out;obtain ⟨c19,H⟩:=H;subst c19;as_aux_lemma =>
 replace H:=dM H hr_.out;obtain ⟨c20,H⟩:=H;have c20b0:(t244 != t238) = false:=by simpa using c20
 (try (have c20b1:decide (t244 = t238) = true:=by simpa using c20))
 (try (have c20b2:(t244 == t238) = true:=by simpa using c20))
 clear c20;as_aux_lemma =>
 replace H:=dM H hr_.out;obtain ⟨c21,H⟩:=H;have c21b0:(t252 != t238) = false:=by simpa using c21
 (try (have c21b1:decide (t252 = t238) = true:=by simpa using c21))
 (try (have c21b2:(t252 == t238) = true:=by simpa using c21))
 clear c21;have HC22:=aM H;clear H;as_aux_lemma =>
 go_enter Tryz.func3,Tryz.ntmps3;go_wp2_with (first|((with_reducible refine gate_dst (N:=5) rfl ?_);(try (refine gate_guard (by rfl) ?_;dsimp only));refine bE 5 #[.int .i64 a0_0,.slice A0_1 l0_1.length c0_1] 24 ?_;intro gb235 hg w23 hbox hb;have BK235:=aM (hbox);have GW235:=aM (gS hg);have GE235:=aM (gS hg);replace HB:=aM (below_step bw hb);clear hb hbox hg)|((with_reducible refine gate_dst (N:=8) rfl ?_);refine wait_ ?_))
 intro q_ hq_;refine hq_ ?_;clear hq_ q_;as_aux_lemma =>
 go_wp2_with (first|((with_reducible refine gate_dst (N:=8) rfl ?_);(try (refine gate_guard (by rfl) ?_;dsimp only));refine bE 8 #[.int .i64 a3_0,.slice A3_1 l3_1.length c3_1] 24 ?_;intro gb236 hg w24 hbox hb;have BK236:=aM (hbox);have GW236:=aM (gS hg);have GE236:=aM (gS hg);replace HB:=aM (below_step bw hb);have NB235_236:=aM (nL BK235.out hg);have NB236_235:=aM (nR BK235.out hg);replace BK235:=aM (bB BK235.out hb);clear hb hbox hg;have hnb25:=NB235_236.out;have hnc25:=NB236_235.out;have hcz26_0:=cz BK235.out 0;have hcz26_1:=cz BK235.out 1;have hfz26_0:=blk_frozen BK235.out 0;have hfz26_1:=blk_frozen BK235.out 1)|((with_reducible refine gate_callee (f:=4) rfl ?_);refine wait_ ?_))
 intro q_ hq_;refine hq_ ?_;clear hq_ q_;as_aux_lemma =>
 go_wp2_with (first|((with_reducible refine gate_callee (f:=4) rfl ?_);refine gL 54 Tryz.func4 #[.agg #[.int .i64 a0_0,.slice A0_1 l0_1.length c0_1],.int .i64 a1,.int .i64 a2] ?_;(with_reducible refine (impl_CountQuarrelWins.calls k a0_0 _ _ l0_1 a1 a2 t237 t238 _ ?side1 ?side2 A6.out).mono ?_);(case side1=>exact qcs HR0_1.out HB.out);(case side2=>exact HC0_1.out);rintro e w27 ⟨rfl,hb⟩;refine ⟨_,rfl,?_⟩;replace BK235:=aM (bB BK235.out hb);replace BK236:=aM (bB BK236.out hb);replace HB:=aM (below_step bw hb);(try clear hb);have hcz28_0:=cz BK235.out 0;have hcz28_1:=cz BK235.out 1;have hfz28_0:=blk_frozen BK235.out 0;have hfz28_1:=blk_frozen BK235.out 1)|((with_reducible refine gate_callee (f:=5) rfl ?_);refine wait_ ?_))
 intro q_ hq_;refine hq_ ?_;clear hq_ q_;as_aux_lemma =>
 go_wp2_with (first|((with_reducible refine gate_callee (f:=5) rfl ?_);refine gL 61 Tryz.func5 #[.agg #[.int .i64 a0_0,.slice A0_1 l0_1.length c0_1],.int .i64 a1,.int .i64 a2] ?_;(with_reducible refine (spec_CountQuarrelWins.calls k a0_0 _ _ l0_1 a1 a2 t239 t240 _ ?side1 ?side2 A7.out).mono ?_);(case side1=>exact qcs HR0_1.out HB.out);(case side2=>exact HC0_1.out);rintro e w29 ⟨rfl,hb⟩;refine ⟨_,rfl,?_⟩;replace BK235:=aM (bB BK235.out hb);replace BK236:=aM (bB BK236.out hb);replace HB:=aM (below_step bw hb);(try clear hb);have hcz30_0:=cz BK235.out 0;have hcz30_1:=cz BK235.out 1;have hfz30_0:=blk_frozen BK235.out 0;have hfz30_1:=blk_frozen BK235.out 1)|((with_reducible refine gate_callee (f:=6) rfl ?_);refine wait_ ?_))
 intro q_ hq_;refine hq_ ?_;clear hq_ q_;as_aux_lemma =>
 go_wp2_with (first|((with_reducible refine gate_callee (f:=6) rfl ?_);refine gL 68 Tryz.func6 #[.agg #[.int .i64 a0_0,.slice A0_1 l0_1.length c0_1],.int .i64 a1,.int .i64 a2] ?_;(with_reducible refine (impl_QuarrelSwings.calls k a0_0 _ _ l0_1 a1 a2 t241 t244 _ ?side1 ?side2 A8.out).mono ?_);(case side1=>exact qcs HR0_1.out HB.out);(case side2=>exact HC0_1.out);rintro e w31 ⟨v242,rfl,ho0,hb⟩;refine ⟨_,rfl,?_⟩;have HO243:=aM (Kd.R_lower ho0 (below_size bw));replace BK235:=aM (bB BK235.out hb);replace BK236:=aM (bB BK236.out hb);replace HB:=aM (below_step bw hb);(try clear hb);(try clear ho0);have hcz32_0:=cz BK235.out 0;have hcz32_1:=cz BK235.out 1;have hfz32_0:=blk_frozen BK235.out 0;have hfz32_1:=blk_frozen BK235.out 1)|((with_reducible refine gate_callee (f:=7) rfl ?_);refine wait_ ?_))
 intro q_ hq_;refine hq_ ?_;clear hq_ q_;as_aux_lemma =>
 go_wp2_with (first|((with_reducible refine gate_callee (f:=7) rfl ?_);refine gL 75 Tryz.func7 #[.agg #[.int .i64 a0_0,.slice A0_1 l0_1.length c0_1],.int .i64 a1,.int .i64 a2] ?_;(with_reducible refine (spec_QuarrelSwings.calls k a0_0 _ _ l0_1 a1 a2 t245 t248 _ ?side1 ?side2 A9.out).mono ?_);(case side1=>exact qcs HR0_1.out HB.out);(case side2=>exact HC0_1.out);rintro e w33 ⟨v246,rfl,ho0,hb⟩;refine ⟨_,rfl,?_⟩;have HO247:=aM (Kd.R_lower (Kd.R_new' ho0 (Kd.R_lt (qra HO243.out))) (below_size bw));replace HO243:=aM (Kd.R_elder' (qra HO243.out) (Kd.R_base ho0) hb);replace BK235:=aM (bB BK235.out hb);replace BK236:=aM (bB BK236.out hb);replace HB:=aM (below_step bw hb);(try clear hb);(try clear ho0);have hcz34_0:=cz BK235.out 0;have hcz34_1:=cz BK235.out 1;have hfz34_0:=blk_frozen BK235.out 0;have hfz34_1:=blk_frozen BK235.out 1)|((with_reducible refine gate_callee (f:=8) rfl ?_);refine wait_ ?_))
 intro q_ hq_;refine hq_ ?_;clear hq_ q_;as_aux_lemma =>
 go_wp2_with (first|((with_reducible refine gate_callee (f:=8) rfl ?_);refine gL 82 Tryz.func8 #[.agg #[.int .i64 a0_0,.slice A0_1 l0_1.length c0_1],.int .i64 a1,.int .i64 a2] ?_;(with_reducible refine (impl_QuarrelHelps.calls k a0_0 _ _ l0_1 a1 a2 t249 t252 _ ?side1 ?side2 A10.out).mono ?_);(case side1=>exact qcs HR0_1.out HB.out);(case side2=>exact HC0_1.out);rintro e w35 ⟨v250,rfl,ho0,hb⟩;refine ⟨_,rfl,?_⟩;have HO251:=aM (Kd.R_lower (Kd.R_new' (Kd.R_new' ho0 (Kd.R_lt (qra HO243.out))) (Kd.R_lt (qra HO247.out))) (below_size bw));replace HO243:=aM (Kd.R_elder' (qra HO243.out) (Kd.R_base ho0) hb);replace HO247:=aM (Kd.R_elder' (qra HO247.out) (Kd.R_base ho0) hb);replace BK235:=aM (bB BK235.out hb);replace BK236:=aM (bB BK236.out hb);replace HB:=aM (below_step bw hb);(try clear hb);(try clear ho0);have hcz36_0:=cz BK235.out 0;have hcz36_1:=cz BK235.out 1;have hfz36_0:=blk_frozen BK235.out 0;have hfz36_1:=blk_frozen BK235.out 1)|((with_reducible refine gate_callee (f:=9) rfl ?_);refine wait_ ?_))
 intro q_ hq_;refine hq_ ?_;clear hq_ q_;as_aux_lemma =>
 go_wp2_with (first|((with_reducible refine gate_callee (f:=9) rfl ?_);refine gL 89 Tryz.func9 #[.agg #[.int .i64 a0_0,.slice A0_1 l0_1.length c0_1],.int .i64 a1,.int .i64 a2] ?_;(with_reducible refine (spec_QuarrelHelps.calls k a0_0 _ _ l0_1 a1 a2 t253 t256 _ ?side1 ?side2 A11.out).mono ?_);(case side1=>exact qcs HR0_1.out HB.out);(case side2=>exact HC0_1.out);rintro e w37 ⟨v254,rfl,ho0,hb⟩;refine ⟨_,rfl,?_⟩;have HO255:=aM (Kd.R_lower (Kd.R_new' (Kd.R_new' (Kd.R_new' ho0 (Kd.R_lt (qra HO243.out))) (Kd.R_lt (qra HO247.out))) (Kd.R_lt (qra HO251.out))) (below_size bw));replace HO243:=aM (Kd.R_elder' (qra HO243.out) (Kd.R_base ho0) hb);replace HO247:=aM (Kd.R_elder' (qra HO247.out) (Kd.R_base ho0) hb);replace HO251:=aM (Kd.R_elder' (qra HO251.out) (Kd.R_base ho0) hb);replace BK235:=aM (bB BK235.out hb);replace BK236:=aM (bB BK236.out hb);replace HB:=aM (below_step bw hb);(try clear hb);(try clear ho0);obtain ⟨Ao38,co38,eo38⟩:=Kd.R_slice HO243.out;subst eo38;obtain ⟨Ao39,co39,eo39⟩:=Kd.R_slice HO247.out;subst eo39)|(go_at_call 10;refine wait_ ?_))
 intro q_ hq_;refine hq_ ?_;clear hq_ q_;as_aux_lemma =>
 go_upto_if 132 with (first|(go_at_call 10;(with_reducible refine (laws_zSame.calls k _ _ t241 _ _ t245 true _ ?side1 ?side2 ?side3 ?side4 A15.out).mono ?_);(case side1=>exact qc (Kd.R_reads' HO243.out).2.2);(case side2=>exact (Kd.R_reads' HO243.out).2.1);(case side3=>exact qc (Kd.R_reads' HO247.out).2.2);(case side4=>exact (Kd.R_reads' HO247.out).2.1);rintro e w' ⟨rfl,⟨nd,rfl⟩⟩;obtain ⟨Ao40,co40,eo40⟩:=Kd.R_slice HO251.out;subst eo40;obtain ⟨Ao41,co41,eo41⟩:=Kd.R_slice HO255.out;subst eo41)|(go_at_call 10;(with_reducible refine (laws_zSame.calls k _ _ t249 _ _ t253 true _ ?side1 ?side2 ?side3 ?side4 A18.out).mono ?_);(case side1=>exact qc (Kd.R_reads' HO251.out).2.2);(case side2=>exact (Kd.R_reads' HO251.out).2.1);(case side3=>exact qc (Kd.R_reads' HO255.out).2.2);(case side4=>exact (Kd.R_reads' HO255.out).2.1);rintro e w' ⟨rfl,⟨nd,rfl⟩⟩))
 (try simp only [Act.put,sA,sZ,sS])
 refine cutP [0,0,0,0,0,0,0,0,0,0,1,0,0,0,0,0,0,0,0,0,0,0,0,1,1,1,1,1,1,1,1,1,1,1,0,0,0,0,0,0,0,0,0,0,0,0,0,0,0,0,0,0,0,0,0,0,0,0,0,0,0,0,0,0,0,0,0,0,0,0,0,0,0,0,0,0,0,0,0,0,0,0,0,0,0,0,0,0,0,0,0,0,0,0,0,0,0,0,0,0,0,0,0,0,0,0,0,0,0,0,0,0,0,0,0,0,0,0,0,0,0,0,0,0,0,0,0,0,0,0,0,0,0,1,1,1,1,1,1,1,1,1,1,1,1,1,1,1,1,1,1,1,1,1,1,1,1,1,1,1,1,1,1,1,1,1,1,1,1,1,1,1,1,1,1,1,1,1,1,1,1,1,1,1,1,1,1,1,1,1,1,1,1,1,1,1,1,1,1,1,1,1,1,1,1,1,1,1,1,1,1,1,1,1,1,1,1,1,1,1,1,1,1,1,1,1,1,1,1,1,1,1,1,1] (fun wc=>∃ (kq:Nat),Aside0 (laws_FnQuarrelsToldOfAll.j2 kq a4 a3_0 l3_1 = some r) ∧ Aside0 (kq ≤ k) ∧ Aside0 (wc.heap[gb235]? = some (.cells #[.int .i64 a0_0,(.slice A0_1 l0_1.length c0_1)] 24 (0,0))) ∧ Aside0 (wc.heap[gb236]? = some (.cells #[.int .i64 a3_0,(.slice A3_1 l3_1.length c3_1)] 24 (0,0))) ∧ Aside0 (Below w.heap.size w wc)) ?rest ?first
 case first =>
  intro _ _ hJ_ _;have H:=HC22.out;clear HC22;as_aux_lemma =>
  by_cases c42:t238 = true
  ·subst c42;rw [if_pos rfl] at H;as_aux_lemma =>
   replace H:=oB H;obtain ⟨⟨t259,t262⟩,A43,H⟩:=H;(try dsimp only at H)
   replace H:=oB H;obtain ⟨⟨t263,t264⟩,A44,H⟩:=H;(try dsimp only at H)
   as_aux_lemma =>
   replace H:=dN H hr_.out;obtain ⟨c45,H⟩:=H;subst c45;replace H:=dN H hr_.out;obtain ⟨c46,H⟩:=H;subst c46;as_aux_lemma =>
   replace H:=dN H hr_.out;obtain ⟨c47,H⟩:=H;have c47b0:(t263 == t237) = true:=beq_iff_eq.mpr c47;have c47b1:(t263 != t237) = false:=bne_eq_false_iff_eq.mpr c47;clear c47;(first|rw [c47b0]|(simp only [i64_w,i32_w];rw [c47b0])|skip)
   as_aux_lemma =>
   replace H:=dN H hr_.out;obtain ⟨c48,H⟩:=H;have c48b0:((t241.length:Int) == (l0_1.length:Int)) = true:=beq_iff_eq.mpr c48;have c48b1:((t241.length:Int) != (l0_1.length:Int)) = false:=bne_eq_false_iff_eq.mpr c48;have c48b2:(t241.length == l0_1.length) = true:=by first|simpa using c48|(simp at c48 ⊢;omega)
   clear c48;have H':=aM H;clear H;have hnb49:=NB235_236.out;have hnc49:=NB236_235.out;have hcz50_0:=cz BK235.out 0;have hcz50_1:=cz BK235.out 1;have hfz50_0:=blk_frozen BK235.out 0;have hfz50_1:=blk_frozen BK235.out 1;as_aux_lemma =>
   go_wp2_with (first|((with_reducible refine gate_callee (f:=11) rfl ?_);refine gL 138 Tryz.func11 #[.agg #[.int .i64 a0_0,.slice A0_1 l0_1.length c0_1]] ?_;(with_reducible refine (impl_SwingsOf.calls k a0_0 _ _ l0_1 t259 true _ ?side1 ?side2 A43.out).mono ?_);(case side1=>exact qcs HR0_1.out HB.out);(case side2=>exact HC0_1.out);rintro e w51 ⟨v260,rfl,ho0,hb⟩;refine ⟨_,rfl,?_⟩;have HO261:=aM (Kd.R_lower (Kd.R_new' (Kd.R_new' (Kd.R_new' (Kd.R_new' ho0 (Kd.R_lt (qra HO243.out))) (Kd.R_lt (qra HO247.out))) (Kd.R_lt (qra HO251.out))) (Kd.R_lt (qra HO255.out))) (below_size bw));replace HO243:=aM (Kd.R_elder' (qra HO243.out) (Kd.R_base ho0) hb);replace HO247:=aM (Kd.R_elder' (qra HO247.out) (Kd.R_base ho0) hb);replace HO251:=aM (Kd.R_elder' (qra HO251.out) (Kd.R_base ho0) hb);replace HO255:=aM (Kd.R_elder' (qra HO255.out) (Kd.R_base ho0) hb);replace BK235:=aM (bB BK235.out hb);replace BK236:=aM (bB BK236.out hb);replace HB:=aM (below_step bw hb);(try clear hb);(try clear ho0);have hcz52_0:=cz BK235.out 0;have hcz52_1:=cz BK235.out 1;have hfz52_0:=blk_frozen BK235.out 0;have hfz52_1:=blk_frozen BK235.out 1)|((with_reducible refine gate_callee (f:=4) rfl ?_);refine wait_ ?_))
   intro q_ hq_;refine hq_ ?_;clear hq_ q_;as_aux_lemma =>
   try go_wp2_with (first|((with_reducible refine gate_callee (f:=4) rfl ?_);refine gL 145 Tryz.func4 #[.agg #[.int .i64 a0_0,.slice A0_1 l0_1.length c0_1],.int .i64 a2,.int .i64 a1] ?_;(with_reducible refine (impl_CountQuarrelWins.calls k a0_0 _ _ l0_1 a2 a1 t263 true _ ?side1 ?side2 A44.out).mono ?_);(case side1=>exact qcs HR0_1.out HB.out);(case side2=>exact HC0_1.out);rintro e w53 ⟨rfl,hb⟩;refine ⟨_,rfl,?_⟩;replace HO243:=aM (Kd.R_below (qra HO243.out) hb);replace HO247:=aM (Kd.R_below (qra HO247.out) hb);replace HO251:=aM (Kd.R_below (qra HO251.out) hb);replace HO255:=aM (Kd.R_below (qra HO255.out) hb);replace HO261:=aM (Kd.R_below (qra HO261.out) hb);replace BK235:=aM (bB BK235.out hb);replace BK236:=aM (bB BK236.out hb);replace HB:=aM (below_step bw hb);(try clear hb)))
   go_loopg [28,29] k (fun kq v28 v29 w'=>∃ (x28_1:Int) (x29_1:Int),v28 = .int .i64 x28_1 ∧ v29 = .int .i64 x29_1 ∧ Aside0 (laws_FnQuarrelsToldOfAll.l0 kq a1 a2 a4 t237 t241 t249 (l0_1.length:Int) t259 x28_1 x29_1 a0_0 l0_1 a3_0 l3_1 = some r) ∧ Aside0 (kq ≤ k) ∧ Aside0 (Kd.R (Kd.int .i64) 3 w' w.heap.size (fun k_=>some k_ ≠ ((.slice Ao40 t249.length co40):Value).ownBlock ∧ some k_ ≠ (v260:Value).ownBlock) (.slice Ao38 t241.length co38) t241) ∧ Aside0 (Kd.R (Kd.int .i64) 3 w' w.heap.size (fun k_=>some k_ ≠ ((.slice Ao38 t241.length co38):Value).ownBlock ∧ some k_ ≠ (v260:Value).ownBlock) (.slice Ao40 t249.length co40) t249) ∧ Aside0 (Kd.R (Kd.int .i64) 3 w' w.heap.size (fun k_=>some k_ ≠ ((.slice Ao38 t241.length co38):Value).ownBlock ∧ some k_ ≠ ((.slice Ao40 t249.length co40):Value).ownBlock) v260 t259) ∧ Aside0 (w'.heap[gb235]? = some (.cells #[.int .i64 a0_0,(.slice A0_1 l0_1.length c0_1)] 24 (0,0))) ∧ Aside0 (w'.heap[gb236]? = some (.cells #[.int .i64 a3_0,(.slice A3_1 l3_1.length c3_1)] 24 (0,0))) ∧ Aside0 (Below w.heap.size w w'))
   case atStart=>exact ⟨(0),(0),qrs,qrs,H',⟨Nat.le_refl _⟩,⟨by (with_reducible repeat (first|apply Kd.R_alloc|apply Kd.R_drewN|apply Kd.R_drew));exact Kd.R_mono HO243.out (fun _ hk=>cj hk)⟩,⟨by (with_reducible repeat (first|apply Kd.R_alloc|apply Kd.R_drewN|apply Kd.R_drew));exact Kd.R_mono HO251.out (fun _ hk=>cj hk)⟩,⟨by (with_reducible repeat (first|apply Kd.R_alloc|apply Kd.R_drewN|apply Kd.R_drew));exact Kd.R_mono HO261.out (fun _ hk=>cj hk)⟩,⟨bk1 BK235.out⟩,⟨bk1 BK236.out⟩,⟨by exact bw⟩⟩
   case round =>
    clear H';(try clear c12);(try clear c12b0);(try clear c12b1);(try clear c12b2);(try clear c13);(try clear c13b0);(try clear c13b1);(try clear c14);(try clear c14b0);(try clear c14b1);(try clear c14b2);(try clear c16);(try clear c17);(try clear c17b0);(try clear c17b1);(try clear c17b2);(try clear c19);(try clear c20);(try clear c20b0);(try clear c20b1);(try clear c20b2);(try clear c21);(try clear c21b0);(try clear c21b1);(try clear c21b2);(try clear c42);(try clear c45);(try clear c46);(try clear c47);(try clear c47b0);(try clear c47b1);(try clear c48);(try clear c48b0);(try clear c48b1);(try clear c48b2);(try clear hcz26_0);(try clear hcz26_1);(try clear hcz28_0);(try clear hcz28_1);(try clear hcz30_0);(try clear hcz30_1);(try clear hcz32_0);(try clear hcz32_1);(try clear hcz34_0);(try clear hcz34_1);(try clear hcz36_0);(try clear hcz36_1);(try clear hcz50_0);(try clear hcz50_1);(try clear hcz52_0);(try clear hcz52_1);(try clear hfz26_0);(try clear hfz26_1);(try clear hfz28_0);(try clear hfz28_1);(try clear hfz30_0);(try clear hfz30_1);(try clear hfz32_0);(try clear hfz32_1);(try clear hfz34_0);(try clear hfz34_1);(try clear hfz36_0);(try clear hfz36_1);(try clear hfz50_0);(try clear hfz50_1);(try clear hfz52_0);(try clear hfz52_1)
    obtain ⟨x28_1,x29_1,rfl,rfl,HA,HK1,HO_15,HO_19,HO_24,BK235,BK236,HB⟩:=hrel
    cases gk with
    | zero=>exact absurd HA.out (by simp [laws_FnQuarrelsToldOfAll.l0])
    | succ k1 =>
     have H:=HA.out;clear HA;simp only [laws_FnQuarrelsToldOfAll.l0] at H;as_aux_lemma =>
     replace H:=iN H;obtain ⟨c54,H⟩:=H;have c54b0:=eq_true c54;have c54b1:decide (0 ≤ (l0_1.length:Int)) = true:=decide_eq_true c54;clear c54;obtain ⟨ji55,hji55⟩:∃ j_:Int,(shl .i64 1 (l0_1.length:Int)) = j_:=⟨_,rfl⟩;(first|rw [hji55] at H|simp only [hji55] at H)
     have hji55_:(IntKind.i64.wrap (1 * 2 ^ min (l0_1.length:Int).toNat 64)) = ji55:=hji55;have hji55z:(l0_1.length:Int) ≤ 64 → (IntKind.i64.wrap (1 * 2 ^ (l0_1.length:Int).toNat)) = ji55:=shl_small hji55;have hji55p:(IntKind.i64.wrap (1 * 2 ^ min l0_1.length 64)) = ji55:=hji55_;have hji55q:(l0_1.length:Int) ≤ 64 → (IntKind.i64.wrap (1 * 2 ^ l0_1.length)) = ji55:=hji55z;have hji55r:(IntKind.i64.wrap (2 ^ min l0_1.length 64)) = ji55:=by have h_:=hji55p;rw [Int.one_mul] at h_;exact h_
     have hji55s:(l0_1.length:Int) ≤ 64 → (IntKind.i64.wrap (2 ^ l0_1.length)) = ji55:=fun hle_=>by have h_:=hji55q hle_;rw [Int.one_mul] at h_;exact h_
     have hji55u:(IntKind.i64.wrap (2 ^ min (l0_1.length:Int).toNat 64)) = ji55:=by have h_:=hji55_;rw [Int.one_mul] at h_;exact h_
     have hji55v:(l0_1.length:Int) ≤ 64 → (IntKind.i64.wrap (2 ^ (l0_1.length:Int).toNat)) = ji55:=fun hle_=>by have h_:=hji55z hle_;rw [Int.one_mul] at h_;exact h_
     have hji55y:(wrap64 (1 * 2 ^ min (l0_1.length:Int).toNat 64)) = ji55:=(i64_w _).symm.trans hji55_;have hji55x:(l0_1.length:Int) ≤ 64 → (wrap64 (1 * 2 ^ (l0_1.length:Int).toNat)) = ji55:=fun h_=>(i64_w _).symm.trans (hji55z h_)
     as_aux_lemma =>
     by_cases c56:x29_1 < (ji55)
     ·rw [if_pos c56] at H;have c56b0:=decide_eq_true c56;clear c56;replace H:=iN H;obtain ⟨c57,H⟩:=H;have c57b0:=eq_true c57;have c57b1:decide (0 ≤ a1) = true:=decide_eq_true c57;clear c57;obtain ⟨ji58,hji58⟩:∃ j_:Int,(shr .i64 x29_1 a1) = j_:=⟨_,rfl⟩;(first|rw [hji58] at H|simp only [hji58] at H)
      have hji58_:(x29_1 / 2 ^ min a1.toNat 64) = ji58:=hji58;have hji58z:a1 ≤ 64 → (x29_1 / 2 ^ a1.toNat) = ji58:=shr_small hji58;as_aux_lemma =>
      by_cases c59:(Int.tmod (ji58) 2) = 1
      ·rw [if_pos c59] at H;have c59b0:((Int.tmod (ji58) 2) == 1) = true:=beq_iff_eq.mpr c59;have c59b1:((Int.tmod (ji58) 2) != 1) = false:=bne_eq_false_iff_eq.mpr c59;clear c59;replace H:=iN H;obtain ⟨c60,H⟩:=H;have c60b0:=eq_true c60;have c60b1:decide (0 ≤ a2) = true:=decide_eq_true c60;clear c60;obtain ⟨ji61,hji61⟩:∃ j_:Int,(shr .i64 x29_1 a2) = j_:=⟨_,rfl⟩;(first|rw [hji61] at H|simp only [hji61] at H)
       have hji61_:(x29_1 / 2 ^ min a2.toNat 64) = ji61:=hji61;have hji61z:a2 ≤ 64 → (x29_1 / 2 ^ a2.toNat) = ji61:=shr_small hji61;as_aux_lemma =>
       by_cases c62:(Int.tmod (ji61) 2) = 1
       ·rw [if_pos c62] at H;have c62b0:((Int.tmod (ji61) 2) == 1) = true:=beq_iff_eq.mpr c62;have c62b1:((Int.tmod (ji61) 2) != 1) = false:=bne_eq_false_iff_eq.mpr c62;clear c62;have H':=aM H;clear H;go_wp2
        go_roundg k1
        case measure=>have:=HK1.out;omega
        case rel=>exact ⟨(x28_1),(wrap64 (x29_1 + 1)),qrs,qrs,H',⟨by have:=HK1.out;omega⟩,⟨qra HO_15.out⟩,⟨qra HO_19.out⟩,⟨qra HO_24.out⟩,⟨bk1 BK235.out⟩,⟨bk1 BK236.out⟩,⟨by exact bw⟩⟩
       ·rw [if_neg c62] at H;have c62b0:((Int.tmod (ji61) 2) == 1) = false:=beq_eq_false_iff_ne.mpr c62;have c62b1:((Int.tmod (ji61) 2) != 1) = true:=bne_iff_ne.mpr c62;as_aux_lemma =>
        replace H:=oB H;obtain ⟨t265,A63,H⟩:=H;(try dsimp only at H)
        replace H:=oB H;obtain ⟨⟨t268,t269⟩,A64,H⟩:=H;(try dsimp only at H)
        as_aux_lemma =>
        replace H:=dN H hr_.out;obtain ⟨c65,H⟩:=H;subst c65;by_cases c66:t268 = true
        ·subst c66;rw [if_pos rfl] at H;have H':=aM H;clear H
         try go_wp2
         as_aux_lemma =>
         replace HO_15:=aM (Kd.R_drew HO_15.out);replace HO_19:=aM (Kd.R_drew HO_19.out);replace HO_24:=aM (Kd.R_drew HO_24.out);replace BK235:=aM (blk_drew BK235.out);replace BK236:=aM (blk_drew BK236.out);replace HB:=aM (below_drew1 HB.out);refine start_ (n:=9) (S:=fun w'=>w'.cell? ⟨gb235,0,none⟩ = some (.int .i64 a0_0) ∧ w'.cell? ⟨gb235,1,none⟩ = some (.slice A0_1 l0_1.length c0_1)) (ds:=[]) (mA 9 0) kR rfl rfl ⟨(blk_cell BK235.out 0).trans rfl,(blk_cell BK235.out 1).trans rfl⟩ (fun hHeld=>?_);refine with_tabW laws_FnQuarrelsToldOfAll.tab20 laws_FnQuarrelsToldOfAll.bits20 (fun HT_ HW_=>?_)
         generalize wr.drew = w67 at HO_15 HO_19 HO_24 BK235 BK236 HB hHeld ⊢
         refine pT 1 185 HT_.out ?_;refine pK 0 184 HT_.out HW_.out hHeld ?_;as_aux_lemma =>
         refine oN 2 (some 186) HT_.out fun K hK=>?_
         refine gC Tryz.func13 #[.int .i64 x29_1] ?_
         with_reducible refine (laws_zSet.calls k1 x29_1 t265 _ A63.out).mono ?_
         rintro e w68 ⟨v266,rfl,ho0,hb⟩
         refine ⟨_,rfl,?_⟩;have HO267:=aM (Kd.R_lower (Kd.R_new' (Kd.R_new' (Kd.R_new' ho0 (Kd.R_lt (qra HO_15.out))) (Kd.R_lt (qra HO_19.out))) (Kd.R_lt (qra HO_24.out))) (below_size bw));replace HO_15:=aM (Kd.R_elder' (qra HO_15.out) (Kd.R_base ho0) hb);replace HO_19:=aM (Kd.R_elder' (qra HO_19.out) (Kd.R_base ho0) hb);replace HO_24:=aM (Kd.R_elder' (qra HO_24.out) (Kd.R_base ho0) hb);replace BK235:=aM (bB BK235.out hb);replace BK236:=aM (bB BK236.out hb);replace HB:=aM (below_step bw hb);(try clear hb)
         (try clear hk)
         (try clear ho0)
         obtain ⟨Ao69,co69,eo69⟩:=Kd.R_slice HO267.out;(first|subst eo69|(injection eo69 with f1_ f2_ f3_;have f4_:=f1_.symm;have f5_:=f3_.symm;clear f1_ f2_ f3_;subst f4_;subst f5_))
         refine hK.out _ _ ⟨(blk_cell BK235.out 0).trans rfl,(blk_cell BK235.out 1).trans rfl⟩ (fun hHeld=>?_);clear hK K;refine nM 186 ?_;as_aux_lemma =>
         refine oN 3 (some 187) HT_.out fun K hK=>?_
         refine gC Tryz.func12 #[.agg #[.int .i64 a0_0,.slice A0_1 l0_1.length c0_1],.slice Ao69 t265.length co69] ?_
         with_reducible refine (impl_IsWinning.calls k1 a0_0 _ _ l0_1 _ _ t265 true true _ ?side1 ?side2 ?side3 ?side4 A64.out).mono ?_
         (case side1=>exact qcs HR0_1.out HB.out)
         (case side2=>exact HC0_1.out)
         (case side3=>exact qc (Kd.R_reads' HO267.out).2.2)
         (case side4=>exact (Kd.R_reads' HO267.out).2.1)
         rintro e w70 ⟨rfl,hb⟩
         refine ⟨_,rfl,?_⟩;replace HO_15:=aM (Kd.R_below (qra HO_15.out) hb);replace HO_19:=aM (Kd.R_below (qra HO_19.out) hb);replace HO_24:=aM (Kd.R_below (qra HO_24.out) hb);replace HO267:=aM (Kd.R_below (qra HO267.out) hb);replace BK235:=aM (bB BK235.out hb);replace BK236:=aM (bB BK236.out hb);replace HB:=aM (below_step bw hb);(try clear hb)
         refine hK.out _ _ ⟨(blk_cell BK235.out 0).trans rfl,(blk_cell BK235.out 1).trans rfl⟩ (fun hHeld=>?_);clear hK K;refine nM 187 ?_;refine pT 4 183 HT_.out ?_;refine pT 5 188 HT_.out ?_;refine pT 6 189 HT_.out ?_;refine pT 7 30 HT_.out ?_;refine pT 8 31 HT_.out ?_;refine done_ (done_of HT_.out kR) ?_
         try go_wp2
         go_roundg k1
         case measure=>have:=HK1.out;omega
         case rel=>exact ⟨(wrap64 (x28_1 + 1)),(wrap64 (x29_1 + 1)),qrs,qrs,H',⟨by have:=HK1.out;omega⟩,⟨by (with_reducible repeat (first|apply Kd.R_alloc|apply Kd.R_drewN|apply Kd.R_drew));exact Kd.R_mono HO_15.out (fun _ hk=>cj hk)⟩,⟨by (with_reducible repeat (first|apply Kd.R_alloc|apply Kd.R_drewN|apply Kd.R_drew));exact Kd.R_mono HO_19.out (fun _ hk=>cj hk)⟩,⟨by (with_reducible repeat (first|apply Kd.R_alloc|apply Kd.R_drewN|apply Kd.R_drew));exact Kd.R_mono HO_24.out (fun _ hk=>cj hk)⟩,⟨bk1 BK235.out⟩,⟨bk1 BK236.out⟩,⟨by exact bw⟩⟩
        ·replace c66:=Bool.eq_false_iff.mpr c66;subst c66;rw [if_neg (show ¬ (false = true) by decide)] at H;have H':=aM H;clear H
         try go_wp2
         as_aux_lemma =>
         replace HO_15:=aM (Kd.R_drew HO_15.out);replace HO_19:=aM (Kd.R_drew HO_19.out);replace HO_24:=aM (Kd.R_drew HO_24.out);replace BK235:=aM (blk_drew BK235.out);replace BK236:=aM (blk_drew BK236.out);replace HB:=aM (below_drew1 HB.out);refine start_ (n:=9) (S:=fun w'=>w'.cell? ⟨gb235,0,none⟩ = some (.int .i64 a0_0) ∧ w'.cell? ⟨gb235,1,none⟩ = some (.slice A0_1 l0_1.length c0_1)) (ds:=[]) (mA 9 0) kR rfl rfl ⟨(blk_cell BK235.out 0).trans rfl,(blk_cell BK235.out 1).trans rfl⟩ (fun hHeld=>?_);refine with_tabW laws_FnQuarrelsToldOfAll.tab20 laws_FnQuarrelsToldOfAll.bits20 (fun HT_ HW_=>?_)
         generalize wr.drew = w71 at HO_15 HO_19 HO_24 BK235 BK236 HB hHeld ⊢
         refine pT 1 185 HT_.out ?_;refine pK 0 184 HT_.out HW_.out hHeld ?_;as_aux_lemma =>
         refine oN 2 (some 186) HT_.out fun K hK=>?_
         refine gC Tryz.func13 #[.int .i64 x29_1] ?_
         with_reducible refine (laws_zSet.calls k1 x29_1 t265 _ A63.out).mono ?_
         rintro e w72 ⟨v266,rfl,ho0,hb⟩
         refine ⟨_,rfl,?_⟩;have HO267:=aM (Kd.R_lower (Kd.R_new' (Kd.R_new' (Kd.R_new' ho0 (Kd.R_lt (qra HO_15.out))) (Kd.R_lt (qra HO_19.out))) (Kd.R_lt (qra HO_24.out))) (below_size bw));replace HO_15:=aM (Kd.R_elder' (qra HO_15.out) (Kd.R_base ho0) hb);replace HO_19:=aM (Kd.R_elder' (qra HO_19.out) (Kd.R_base ho0) hb);replace HO_24:=aM (Kd.R_elder' (qra HO_24.out) (Kd.R_base ho0) hb);replace BK235:=aM (bB BK235.out hb);replace BK236:=aM (bB BK236.out hb);replace HB:=aM (below_step bw hb);(try clear hb)
         (try clear hk)
         (try clear ho0)
         obtain ⟨Ao73,co73,eo73⟩:=Kd.R_slice HO267.out;(first|subst eo73|(injection eo73 with f1_ f2_ f3_;have f4_:=f1_.symm;have f5_:=f3_.symm;clear f1_ f2_ f3_;subst f4_;subst f5_))
         refine hK.out _ _ ⟨(blk_cell BK235.out 0).trans rfl,(blk_cell BK235.out 1).trans rfl⟩ (fun hHeld=>?_);clear hK K;refine nM 186 ?_;as_aux_lemma =>
         refine oN 3 (some 187) HT_.out fun K hK=>?_
         refine gC Tryz.func12 #[.agg #[.int .i64 a0_0,.slice A0_1 l0_1.length c0_1],.slice Ao73 t265.length co73] ?_
         with_reducible refine (impl_IsWinning.calls k1 a0_0 _ _ l0_1 _ _ t265 false true _ ?side1 ?side2 ?side3 ?side4 A64.out).mono ?_
         (case side1=>exact qcs HR0_1.out HB.out)
         (case side2=>exact HC0_1.out)
         (case side3=>exact qc (Kd.R_reads' HO267.out).2.2)
         (case side4=>exact (Kd.R_reads' HO267.out).2.1)
         rintro e w74 ⟨rfl,hb⟩
         refine ⟨_,rfl,?_⟩;replace HO_15:=aM (Kd.R_below (qra HO_15.out) hb);replace HO_19:=aM (Kd.R_below (qra HO_19.out) hb);replace HO_24:=aM (Kd.R_below (qra HO_24.out) hb);replace HO267:=aM (Kd.R_below (qra HO267.out) hb);replace BK235:=aM (bB BK235.out hb);replace BK236:=aM (bB BK236.out hb);replace HB:=aM (below_step bw hb);(try clear hb)
         refine hK.out _ _ ⟨(blk_cell BK235.out 0).trans rfl,(blk_cell BK235.out 1).trans rfl⟩ (fun hHeld=>?_);clear hK K;refine nM 187 ?_;refine pT 4 183 HT_.out ?_;refine pT 5 188 HT_.out ?_;refine pT 6 189 HT_.out ?_;refine pT 7 30 HT_.out ?_;refine pT 8 31 HT_.out ?_;refine done_ (done_of HT_.out kR) ?_
         try go_wp2
         go_roundg k1
         case measure=>have:=HK1.out;omega
         case rel=>exact ⟨(x28_1),(wrap64 (x29_1 + 1)),qrs,qrs,H',⟨by have:=HK1.out;omega⟩,⟨by (with_reducible repeat (first|apply Kd.R_alloc|apply Kd.R_drewN|apply Kd.R_drew));exact Kd.R_mono HO_15.out (fun _ hk=>cj hk)⟩,⟨by (with_reducible repeat (first|apply Kd.R_alloc|apply Kd.R_drewN|apply Kd.R_drew));exact Kd.R_mono HO_19.out (fun _ hk=>cj hk)⟩,⟨by (with_reducible repeat (first|apply Kd.R_alloc|apply Kd.R_drewN|apply Kd.R_drew));exact Kd.R_mono HO_24.out (fun _ hk=>cj hk)⟩,⟨bk1 BK235.out⟩,⟨bk1 BK236.out⟩,⟨by exact bw⟩⟩
      ·rw [if_neg c59] at H;have c59b0:((Int.tmod (ji58) 2) == 1) = false:=beq_eq_false_iff_ne.mpr c59;have c59b1:((Int.tmod (ji58) 2) != 1) = true:=bne_iff_ne.mpr c59;as_aux_lemma =>
       replace H:=oB H;obtain ⟨t270,A75,H⟩:=H;(try dsimp only at H)
       replace H:=oB H;obtain ⟨⟨t273,t274⟩,A76,H⟩:=H;(try dsimp only at H)
       as_aux_lemma =>
       replace H:=dN H hr_.out;obtain ⟨c77,H⟩:=H;subst c77;by_cases c78:t273 = true
       ·subst c78;rw [if_pos rfl] at H;have H':=aM H;clear H
        try go_wp2
        as_aux_lemma =>
        replace HO_15:=aM (Kd.R_drew HO_15.out);replace HO_19:=aM (Kd.R_drew HO_19.out);replace HO_24:=aM (Kd.R_drew HO_24.out);replace BK235:=aM (blk_drew BK235.out);replace BK236:=aM (blk_drew BK236.out);replace HB:=aM (below_drew1 HB.out);refine start_ (n:=9) (S:=fun w'=>w'.cell? ⟨gb235,0,none⟩ = some (.int .i64 a0_0) ∧ w'.cell? ⟨gb235,1,none⟩ = some (.slice A0_1 l0_1.length c0_1)) (ds:=[]) (mA 9 0) kR rfl rfl ⟨(blk_cell BK235.out 0).trans rfl,(blk_cell BK235.out 1).trans rfl⟩ (fun hHeld=>?_);refine with_tabW laws_FnQuarrelsToldOfAll.tab20 laws_FnQuarrelsToldOfAll.bits20 (fun HT_ HW_=>?_)
        generalize wr.drew = w79 at HO_15 HO_19 HO_24 BK235 BK236 HB hHeld ⊢
        refine pT 1 185 HT_.out ?_;refine pK 0 184 HT_.out HW_.out hHeld ?_;as_aux_lemma =>
        refine oN 2 (some 186) HT_.out fun K hK=>?_
        refine gC Tryz.func13 #[.int .i64 x29_1] ?_
        with_reducible refine (laws_zSet.calls k1 x29_1 t270 _ A75.out).mono ?_
        rintro e w80 ⟨v271,rfl,ho0,hb⟩
        refine ⟨_,rfl,?_⟩;have HO272:=aM (Kd.R_lower (Kd.R_new' (Kd.R_new' (Kd.R_new' ho0 (Kd.R_lt (qra HO_15.out))) (Kd.R_lt (qra HO_19.out))) (Kd.R_lt (qra HO_24.out))) (below_size bw));replace HO_15:=aM (Kd.R_elder' (qra HO_15.out) (Kd.R_base ho0) hb);replace HO_19:=aM (Kd.R_elder' (qra HO_19.out) (Kd.R_base ho0) hb);replace HO_24:=aM (Kd.R_elder' (qra HO_24.out) (Kd.R_base ho0) hb);replace BK235:=aM (bB BK235.out hb);replace BK236:=aM (bB BK236.out hb);replace HB:=aM (below_step bw hb);(try clear hb)
        (try clear hk)
        (try clear ho0)
        obtain ⟨Ao81,co81,eo81⟩:=Kd.R_slice HO272.out;(first|subst eo81|(injection eo81 with f1_ f2_ f3_;have f4_:=f1_.symm;have f5_:=f3_.symm;clear f1_ f2_ f3_;subst f4_;subst f5_))
        refine hK.out _ _ ⟨(blk_cell BK235.out 0).trans rfl,(blk_cell BK235.out 1).trans rfl⟩ (fun hHeld=>?_);clear hK K;refine nM 186 ?_;as_aux_lemma =>
        refine oN 3 (some 187) HT_.out fun K hK=>?_
        refine gC Tryz.func12 #[.agg #[.int .i64 a0_0,.slice A0_1 l0_1.length c0_1],.slice Ao81 t270.length co81] ?_
        with_reducible refine (impl_IsWinning.calls k1 a0_0 _ _ l0_1 _ _ t270 true true _ ?side1 ?side2 ?side3 ?side4 A76.out).mono ?_
        (case side1=>exact qcs HR0_1.out HB.out)
        (case side2=>exact HC0_1.out)
        (case side3=>exact qc (Kd.R_reads' HO272.out).2.2)
        (case side4=>exact (Kd.R_reads' HO272.out).2.1)
        rintro e w82 ⟨rfl,hb⟩
        refine ⟨_,rfl,?_⟩;replace HO_15:=aM (Kd.R_below (qra HO_15.out) hb);replace HO_19:=aM (Kd.R_below (qra HO_19.out) hb);replace HO_24:=aM (Kd.R_below (qra HO_24.out) hb);replace HO272:=aM (Kd.R_below (qra HO272.out) hb);replace BK235:=aM (bB BK235.out hb);replace BK236:=aM (bB BK236.out hb);replace HB:=aM (below_step bw hb);(try clear hb)
        refine hK.out _ _ ⟨(blk_cell BK235.out 0).trans rfl,(blk_cell BK235.out 1).trans rfl⟩ (fun hHeld=>?_);clear hK K;refine nM 187 ?_;refine pT 4 183 HT_.out ?_;refine pT 5 188 HT_.out ?_;refine pT 6 189 HT_.out ?_;refine pT 7 30 HT_.out ?_;refine pT 8 31 HT_.out ?_;refine done_ (done_of HT_.out kR) ?_
        try go_wp2
        go_roundg k1
        case measure=>have:=HK1.out;omega
        case rel=>exact ⟨(wrap64 (x28_1 + 1)),(wrap64 (x29_1 + 1)),qrs,qrs,H',⟨by have:=HK1.out;omega⟩,⟨by (with_reducible repeat (first|apply Kd.R_alloc|apply Kd.R_drewN|apply Kd.R_drew));exact Kd.R_mono HO_15.out (fun _ hk=>cj hk)⟩,⟨by (with_reducible repeat (first|apply Kd.R_alloc|apply Kd.R_drewN|apply Kd.R_drew));exact Kd.R_mono HO_19.out (fun _ hk=>cj hk)⟩,⟨by (with_reducible repeat (first|apply Kd.R_alloc|apply Kd.R_drewN|apply Kd.R_drew));exact Kd.R_mono HO_24.out (fun _ hk=>cj hk)⟩,⟨bk1 BK235.out⟩,⟨bk1 BK236.out⟩,⟨by exact bw⟩⟩
       ·replace c78:=Bool.eq_false_iff.mpr c78;subst c78;rw [if_neg (show ¬ (false = true) by decide)] at H;have H':=aM H;clear H
        try go_wp2
        as_aux_lemma =>
        replace HO_15:=aM (Kd.R_drew HO_15.out);replace HO_19:=aM (Kd.R_drew HO_19.out);replace HO_24:=aM (Kd.R_drew HO_24.out);replace BK235:=aM (blk_drew BK235.out);replace BK236:=aM (blk_drew BK236.out);replace HB:=aM (below_drew1 HB.out);refine start_ (n:=9) (S:=fun w'=>w'.cell? ⟨gb235,0,none⟩ = some (.int .i64 a0_0) ∧ w'.cell? ⟨gb235,1,none⟩ = some (.slice A0_1 l0_1.length c0_1)) (ds:=[]) (mA 9 0) kR rfl rfl ⟨(blk_cell BK235.out 0).trans rfl,(blk_cell BK235.out 1).trans rfl⟩ (fun hHeld=>?_);refine with_tabW laws_FnQuarrelsToldOfAll.tab20 laws_FnQuarrelsToldOfAll.bits20 (fun HT_ HW_=>?_)
        generalize wr.drew = w83 at HO_15 HO_19 HO_24 BK235 BK236 HB hHeld ⊢
        refine pT 1 185 HT_.out ?_;refine pK 0 184 HT_.out HW_.out hHeld ?_;as_aux_lemma =>
        refine oN 2 (some 186) HT_.out fun K hK=>?_
        refine gC Tryz.func13 #[.int .i64 x29_1] ?_
        with_reducible refine (laws_zSet.calls k1 x29_1 t270 _ A75.out).mono ?_
        rintro e w84 ⟨v271,rfl,ho0,hb⟩
        refine ⟨_,rfl,?_⟩;have HO272:=aM (Kd.R_lower (Kd.R_new' (Kd.R_new' (Kd.R_new' ho0 (Kd.R_lt (qra HO_15.out))) (Kd.R_lt (qra HO_19.out))) (Kd.R_lt (qra HO_24.out))) (below_size bw));replace HO_15:=aM (Kd.R_elder' (qra HO_15.out) (Kd.R_base ho0) hb);replace HO_19:=aM (Kd.R_elder' (qra HO_19.out) (Kd.R_base ho0) hb);replace HO_24:=aM (Kd.R_elder' (qra HO_24.out) (Kd.R_base ho0) hb);replace BK235:=aM (bB BK235.out hb);replace BK236:=aM (bB BK236.out hb);replace HB:=aM (below_step bw hb);(try clear hb)
        (try clear hk)
        (try clear ho0)
        obtain ⟨Ao85,co85,eo85⟩:=Kd.R_slice HO272.out;(first|subst eo85|(injection eo85 with f1_ f2_ f3_;have f4_:=f1_.symm;have f5_:=f3_.symm;clear f1_ f2_ f3_;subst f4_;subst f5_))
        refine hK.out _ _ ⟨(blk_cell BK235.out 0).trans rfl,(blk_cell BK235.out 1).trans rfl⟩ (fun hHeld=>?_);clear hK K;refine nM 186 ?_;as_aux_lemma =>
        refine oN 3 (some 187) HT_.out fun K hK=>?_
        refine gC Tryz.func12 #[.agg #[.int .i64 a0_0,.slice A0_1 l0_1.length c0_1],.slice Ao85 t270.length co85] ?_
        with_reducible refine (impl_IsWinning.calls k1 a0_0 _ _ l0_1 _ _ t270 false true _ ?side1 ?side2 ?side3 ?side4 A76.out).mono ?_
        (case side1=>exact qcs HR0_1.out HB.out)
        (case side2=>exact HC0_1.out)
        (case side3=>exact qc (Kd.R_reads' HO272.out).2.2)
        (case side4=>exact (Kd.R_reads' HO272.out).2.1)
        rintro e w86 ⟨rfl,hb⟩
        refine ⟨_,rfl,?_⟩;replace HO_15:=aM (Kd.R_below (qra HO_15.out) hb);replace HO_19:=aM (Kd.R_below (qra HO_19.out) hb);replace HO_24:=aM (Kd.R_below (qra HO_24.out) hb);replace HO272:=aM (Kd.R_below (qra HO272.out) hb);replace BK235:=aM (bB BK235.out hb);replace BK236:=aM (bB BK236.out hb);replace HB:=aM (below_step bw hb);(try clear hb)
        refine hK.out _ _ ⟨(blk_cell BK235.out 0).trans rfl,(blk_cell BK235.out 1).trans rfl⟩ (fun hHeld=>?_);clear hK K;refine nM 187 ?_;refine pT 4 183 HT_.out ?_;refine pT 5 188 HT_.out ?_;refine pT 6 189 HT_.out ?_;refine pT 7 30 HT_.out ?_;refine pT 8 31 HT_.out ?_;refine done_ (done_of HT_.out kR) ?_
        try go_wp2
        go_roundg k1
        case measure=>have:=HK1.out;omega
        case rel=>exact ⟨(x28_1),(wrap64 (x29_1 + 1)),qrs,qrs,H',⟨by have:=HK1.out;omega⟩,⟨by (with_reducible repeat (first|apply Kd.R_alloc|apply Kd.R_drewN|apply Kd.R_drew));exact Kd.R_mono HO_15.out (fun _ hk=>cj hk)⟩,⟨by (with_reducible repeat (first|apply Kd.R_alloc|apply Kd.R_drewN|apply Kd.R_drew));exact Kd.R_mono HO_19.out (fun _ hk=>cj hk)⟩,⟨by (with_reducible repeat (first|apply Kd.R_alloc|apply Kd.R_drewN|apply Kd.R_drew));exact Kd.R_mono HO_24.out (fun _ hk=>cj hk)⟩,⟨bk1 BK235.out⟩,⟨bk1 BK236.out⟩,⟨by exact bw⟩⟩
     ·rw [if_neg c56] at H;have c56b0:=decide_eq_false c56;clear c56;as_aux_lemma =>
      replace H:=dN H hr_.out;obtain ⟨c87,H⟩:=H;have c87b0:(x28_1 == t237) = true:=beq_iff_eq.mpr c87;have c87b1:(x28_1 != t237) = false:=bne_eq_false_iff_eq.mpr c87;clear c87;have H':=aM H;clear H;go_wp2
      as_aux_lemma =>
      go_loopg [200] k1 (fun kq v200 w'=>∃ (x200_2:Int),v200 = .int .i64 x200_2 ∧ Aside0 (laws_FnQuarrelsToldOfAll.l1 kq a1 a2 a4 t249 t259 t241 (t241.length:Int) x200_2 a3_0 l3_1 = some r) ∧ Aside0 (kq ≤ k1) ∧ Aside0 (Kd.R (Kd.int .i64) 3 w' w.heap.size (fun k_=>some k_ ≠ (v260:Value).ownBlock ∧ some k_ ≠ ((.slice Ao38 t241.length co38):Value).ownBlock) (.slice Ao40 t249.length co40) t249) ∧ Aside0 (Kd.R (Kd.int .i64) 3 w' w.heap.size (fun k_=>some k_ ≠ ((.slice Ao40 t249.length co40):Value).ownBlock ∧ some k_ ≠ ((.slice Ao38 t241.length co38):Value).ownBlock) v260 t259) ∧ Aside0 (Kd.R (Kd.int .i64) 3 w' w.heap.size (fun k_=>some k_ ≠ ((.slice Ao40 t249.length co40):Value).ownBlock ∧ some k_ ≠ (v260:Value).ownBlock) (.slice Ao38 t241.length co38) t241) ∧ Aside0 (w'.heap[gb235]? = some (.cells #[.int .i64 a0_0,(.slice A0_1 l0_1.length c0_1)] 24 (0,0))) ∧ Aside0 (w'.heap[gb236]? = some (.cells #[.int .i64 a3_0,(.slice A3_1 l3_1.length c3_1)] 24 (0,0))) ∧ Aside0 (Below w.heap.size w w'))
      case atStart=>exact ⟨(0),qrs,H',⟨Nat.le_refl _⟩,⟨by (with_reducible repeat (first|apply Kd.R_alloc|apply Kd.R_drewN|apply Kd.R_drew));exact Kd.R_mono HO_19.out (fun _ hk=>cj hk)⟩,⟨by (with_reducible repeat (first|apply Kd.R_alloc|apply Kd.R_drewN|apply Kd.R_drew));exact Kd.R_mono HO_24.out (fun _ hk=>cj hk)⟩,⟨qra HO_15.out⟩,⟨bk1 BK235.out⟩,⟨bk1 BK236.out⟩,⟨by exact bw⟩⟩
      case round =>
       clear H';(try clear c56);(try clear c56b0);(try clear c59);(try clear c59b0);(try clear c59b1);(try clear c66);(try clear c77);(try clear c78);(try clear c87);(try clear c87b0);(try clear c87b1)
       obtain ⟨x200_2,rfl,HA,HK2,HO_19,HO_24,HO_198,BK235,BK236,HB⟩:=hrel
       cases gk with
       | zero=>exact absurd HA.out (by simp [laws_FnQuarrelsToldOfAll.l1])
       | succ k2 =>
        have H:=HA.out;clear HA;simp only [laws_FnQuarrelsToldOfAll.l1] at H;as_aux_lemma =>
        by_cases c88:x200_2 < (t241.length:Int)
        ·rw [if_pos c88] at H;have c88b0:=decide_eq_true c88;clear c88;replace H:=iN H;obtain ⟨c89,H⟩:=H;have c89b0:decide (0 ≤ x200_2) = true:=decide_eq_true c89;clear c89;as_aux_lemma =>
         replace H:=iN H;obtain ⟨c90,H⟩:=H;have c90b0:decide (x200_2 < (t241.length:Int)) = true:=decide_eq_true c90;clear c90;replace H:=iN H;obtain ⟨c91,H⟩:=H;have c91b0:decide (x200_2 < (t259.length:Int)) = true:=decide_eq_true c91;clear c91;as_aux_lemma =>
         replace H:=oB H;obtain ⟨t277,A92,H⟩:=H;(try dsimp only at H)
         replace H:=dM H hr_.out;obtain ⟨c93,H⟩:=H;have c93b0:((decide ((rd t241 x200_2) > (rd t259 x200_2))) != t277) = false:=by simpa using c93
         (try (have c93b1:decide ((decide ((rd t241 x200_2) > (rd t259 x200_2))) = t277) = true:=by simpa using c93))
         (try (have c93b2:((decide ((rd t241 x200_2) > (rd t259 x200_2))) == t277) = true:=by simpa using c93))
         clear c93;as_aux_lemma =>
         by_cases c94:x200_2 = a1
         ·rw [if_pos c94] at H;have c94b0:(x200_2 == a1) = true:=beq_iff_eq.mpr c94;have c94b1:(x200_2 != a1) = false:=bne_eq_false_iff_eq.mpr c94;clear c94;replace H:=dM H hr_.out;obtain ⟨c95,H⟩:=H;have c95b0:decide ((rd t259 x200_2) < (rd t241 x200_2)) = false:=decide_eq_false c95;(try (have c9k_:=c93b0;simp [gt_iff_lt,c95b0] at c9k_))
          clear c95;have H':=aM H;clear H;have p275:0 ≤ (x200_2:Int):=of_decide_eq_true ab;have q275:x200_2 < (t241.length:Int):=of_decide_eq_true ab;obtain ⟨ad275,e275,hx275_0⟩:=Kd.at_int (Kd.R_reads' HO_198.out).2.2 x200_2 p275 q275;cases e275
          replace p275:=eq_true p275;replace q275:=eq_true q275
          try go_wp2
          as_aux_lemma =>
          replace HO_19:=aM (Kd.R_drew HO_19.out);replace HO_24:=aM (Kd.R_drew HO_24.out);replace HO_198:=aM (Kd.R_drew HO_198.out);replace BK235:=aM (blk_drew BK235.out);replace BK236:=aM (blk_drew BK236.out);replace HB:=aM (below_drew1 HB.out);obtain ⟨Ao97,co97,eo97⟩:=Kd.R_slice HO_24.out;(first|subst eo97|(injection eo97 with f1_ f2_ f3_;have f4_:=f1_.symm;have f5_:=f3_.symm;clear f1_ f2_ f3_;subst f4_;subst f5_))
          have p276:0 ≤ (x200_2:Int):=of_decide_eq_true ab;have q276:x200_2 < (t259.length:Int):=of_decide_eq_true ab;obtain ⟨ad276,e276,hx276_0⟩:=Kd.at_int (Kd.R_reads' HO_24.out).2.2 x200_2 p276 q276;cases e276
          replace p276:=eq_true p276;replace q276:=eq_true q276;have p278:0 ≤ (x200_2:Int):=of_decide_eq_true ab;have q278:x200_2 < (t259.length:Int):=of_decide_eq_true ab;obtain ⟨ad278,e278,hx278_0⟩:=Kd.at_int (Kd.R_reads' HO_24.out).2.2 x200_2 p278 q278;obtain rfl:ad276 = ad278:=(by injection e278);replace p278:=eq_true p278;replace q278:=eq_true q278;refine start_ (n:=28) (S:=fun w'=>w'.cell? (ad276.add (x200_2).toNat) = some (.int .i64 (rd t259 x200_2)) ∧ w'.cell? (ad276.add (x200_2).toNat) = some (.int .i64 (rd t259 x200_2))) (ds:=[]) (mA 28 0) kR rfl rfl ⟨hx276_0,hx278_0⟩ (fun hHeld=>?_);refine with_tabW laws_FnQuarrelsToldOfAll.tab30 laws_FnQuarrelsToldOfAll.bits30 (fun HT_ HW_=>?_)
          generalize wr.drew = w96 at HO_19 HO_24 HO_198 BK235 BK236 HB hx276_0 hx278_0 hHeld ⊢
          refine pT 0 205 HT_.out ?_;refine pT 1 206 HT_.out ?_;refine pT 2 207 HT_.out ?_;refine pT 3 208 HT_.out ?_;refine pT 6 211 HT_.out ?_;refine pT 7 212 HT_.out ?_;refine pK 4 209 HT_.out HW_.out hHeld ?_;refine pT 5 210 HT_.out ?_;as_aux_lemma =>
          refine oN 8 (some 213) HT_.out fun K hK=>?_
          refine gC Tryz.func14 #[.slice Ao40 t249.length co40,.int .i64 x200_2] ?_
          with_reducible refine (laws_zHas.calls k2 _ _ t249 x200_2 t277 _ ?side1 ?side2 A92.out).mono ?_
          (case side1=>exact qc (Kd.R_reads' HO_19.out).2.2)
          (case side2=>exact (Kd.R_reads' HO_19.out).2.1)
          rintro e w' ⟨rfl,⟨nd,rfl⟩⟩
          refine ⟨_,rfl,?_⟩;refine hK.out _ _ ⟨hHeld.1,hHeld.2⟩ (fun hHeld=>?_);clear hK K;refine nM 213 ?_;refine pT 9 214 HT_.out ?_;refine pT 10 215 HT_.out ?_;refine pT 11 216 HT_.out ?_;refine pT 12 217 HT_.out ?_;refine pT 13 218 HT_.out ?_;refine pT 14 219 HT_.out ?_;refine pU 15 220 HT_.out ?_;refine pU 16 221 HT_.out ?_;refine pU 17 222 HT_.out ?_;refine pT 18 223 HT_.out ?_;refine pT 19 224 HT_.out ?_;refine pT 20 225 HT_.out ?_;refine pT 21 226 HT_.out ?_;refine pT 22 227 HT_.out ?_;refine pT 23 228 HT_.out ?_;refine pK 24 229 HT_.out HW_.out hHeld ?_;refine pT 25 230 HT_.out ?_;refine pT 26 231 HT_.out ?_;refine pT 27 232 HT_.out ?_;refine done_ (done_of HT_.out kR) ?_
          try go_wp2
          go_roundg k2
          case measure=>have:=HK1.out;have:=HK2.out;omega
          case rel=>exact ⟨(wrap64 (x200_2 + 1)),qrs,H',⟨by have:=HK1.out;have:=HK2.out;omega⟩,⟨qra HO_19.out⟩,⟨qra HO_24.out⟩,⟨qra HO_198.out⟩,⟨bk1 BK235.out⟩,⟨bk1 BK236.out⟩,⟨by exact bw⟩⟩
         ·rw [if_neg c94] at H;have c94b0:(x200_2 == a1) = false:=beq_eq_false_iff_ne.mpr c94;have c94b1:(x200_2 != a1) = true:=bne_iff_ne.mpr c94;as_aux_lemma =>
          by_cases c98:x200_2 = a2
          ·rw [if_pos c98] at H;have c98b0:(x200_2 == a2) = true:=beq_iff_eq.mpr c98;have c98b1:(x200_2 != a2) = false:=bne_eq_false_iff_eq.mpr c98;clear c98;replace H:=dM H hr_.out;obtain ⟨c99,H⟩:=H;have c99b0:decide ((rd t259 x200_2) < (rd t241 x200_2)) = false:=decide_eq_false c99;(try (have c9k_:=c93b0;simp [gt_iff_lt,c99b0] at c9k_))
           clear c99;have H':=aM H;clear H;have p275:0 ≤ (x200_2:Int):=of_decide_eq_true ab;have q275:x200_2 < (t241.length:Int):=of_decide_eq_true ab;obtain ⟨ad275,e275,hx275_0⟩:=Kd.at_int (Kd.R_reads' HO_198.out).2.2 x200_2 p275 q275;cases e275
           replace p275:=eq_true p275;replace q275:=eq_true q275
           try go_wp2
           as_aux_lemma =>
           replace HO_19:=aM (Kd.R_drew HO_19.out);replace HO_24:=aM (Kd.R_drew HO_24.out);replace HO_198:=aM (Kd.R_drew HO_198.out);replace BK235:=aM (blk_drew BK235.out);replace BK236:=aM (blk_drew BK236.out);replace HB:=aM (below_drew1 HB.out);obtain ⟨Ao101,co101,eo101⟩:=Kd.R_slice HO_24.out;(first|subst eo101|(injection eo101 with f1_ f2_ f3_;have f4_:=f1_.symm;have f5_:=f3_.symm;clear f1_ f2_ f3_;subst f4_;subst f5_))
           have p276:0 ≤ (x200_2:Int):=of_decide_eq_true ab;have q276:x200_2 < (t259.length:Int):=of_decide_eq_true ab;obtain ⟨ad276,e276,hx276_0⟩:=Kd.at_int (Kd.R_reads' HO_24.out).2.2 x200_2 p276 q276;cases e276
           replace p276:=eq_true p276;replace q276:=eq_true q276;have p279:0 ≤ (x200_2:Int):=of_decide_eq_true ab;have q279:x200_2 < (t259.length:Int):=of_decide_eq_true ab;obtain ⟨ad279,e279,hx279_0⟩:=Kd.at_int (Kd.R_reads' HO_24.out).2.2 x200_2 p279 q279;obtain rfl:ad276 = ad279:=(by injection e279);replace p279:=eq_true p279;replace q279:=eq_true q279;refine start_ (n:=28) (S:=fun w'=>w'.cell? (ad276.add (x200_2).toNat) = some (.int .i64 (rd t259 x200_2)) ∧ w'.cell? (ad276.add (x200_2).toNat) = some (.int .i64 (rd t259 x200_2))) (ds:=[]) (mA 28 0) kR rfl rfl ⟨hx276_0,hx279_0⟩ (fun hHeld=>?_);refine with_tabW laws_FnQuarrelsToldOfAll.tab30 laws_FnQuarrelsToldOfAll.bits30 (fun HT_ HW_=>?_)
           generalize wr.drew = w100 at HO_19 HO_24 HO_198 BK235 BK236 HB hx276_0 hx279_0 hHeld ⊢
           refine pT 0 205 HT_.out ?_;refine pT 1 206 HT_.out ?_;refine pT 2 207 HT_.out ?_;refine pT 3 208 HT_.out ?_;refine pT 6 211 HT_.out ?_;refine pT 7 212 HT_.out ?_;refine pK 4 209 HT_.out HW_.out hHeld ?_;refine pT 5 210 HT_.out ?_;as_aux_lemma =>
           refine oN 8 (some 213) HT_.out fun K hK=>?_
           refine gC Tryz.func14 #[.slice Ao40 t249.length co40,.int .i64 x200_2] ?_
           with_reducible refine (laws_zHas.calls k2 _ _ t249 x200_2 t277 _ ?side1 ?side2 A92.out).mono ?_
           (case side1=>exact qc (Kd.R_reads' HO_19.out).2.2)
           (case side2=>exact (Kd.R_reads' HO_19.out).2.1)
           rintro e w' ⟨rfl,⟨nd,rfl⟩⟩
           refine ⟨_,rfl,?_⟩;refine hK.out _ _ ⟨hHeld.1,hHeld.2⟩ (fun hHeld=>?_);clear hK K;refine nM 213 ?_;refine pT 9 214 HT_.out ?_;refine pT 10 215 HT_.out ?_;refine pT 11 216 HT_.out ?_;refine pT 12 217 HT_.out ?_;refine pT 13 218 HT_.out ?_;refine pT 14 219 HT_.out ?_;refine pT 15 220 HT_.out ?_;refine pT 16 221 HT_.out ?_;refine pT 17 222 HT_.out ?_;refine pT 18 223 HT_.out ?_;refine pT 19 224 HT_.out ?_;refine pT 20 225 HT_.out ?_;refine pT 21 226 HT_.out ?_;refine pT 22 227 HT_.out ?_;refine pT 23 228 HT_.out ?_;refine pK 24 229 HT_.out HW_.out hHeld ?_;refine pT 25 230 HT_.out ?_;refine pT 26 231 HT_.out ?_;refine pT 27 232 HT_.out ?_;refine done_ (done_of HT_.out kR) ?_
           try go_wp2
           go_roundg k2
           case measure=>have:=HK1.out;have:=HK2.out;omega
           case rel=>exact ⟨(wrap64 (x200_2 + 1)),qrs,H',⟨by have:=HK1.out;have:=HK2.out;omega⟩,⟨qra HO_19.out⟩,⟨qra HO_24.out⟩,⟨qra HO_198.out⟩,⟨bk1 BK235.out⟩,⟨bk1 BK236.out⟩,⟨by exact bw⟩⟩
          ·rw [if_neg c98] at H;have c98b0:(x200_2 == a2) = false:=beq_eq_false_iff_ne.mpr c98;have c98b1:(x200_2 != a2) = true:=bne_iff_ne.mpr c98;have H':=aM H;clear H;have p275:0 ≤ (x200_2:Int):=of_decide_eq_true ab;have q275:x200_2 < (t241.length:Int):=of_decide_eq_true ab;obtain ⟨ad275,e275,hx275_0⟩:=Kd.at_int (Kd.R_reads' HO_198.out).2.2 x200_2 p275 q275;cases e275
           replace p275:=eq_true p275;replace q275:=eq_true q275
           try go_wp2
           as_aux_lemma =>
           replace HO_19:=aM (Kd.R_drew HO_19.out);replace HO_24:=aM (Kd.R_drew HO_24.out);replace HO_198:=aM (Kd.R_drew HO_198.out);replace BK235:=aM (blk_drew BK235.out);replace BK236:=aM (blk_drew BK236.out);replace HB:=aM (below_drew1 HB.out);obtain ⟨Ao103,co103,eo103⟩:=Kd.R_slice HO_24.out;(first|subst eo103|(injection eo103 with f1_ f2_ f3_;have f4_:=f1_.symm;have f5_:=f3_.symm;clear f1_ f2_ f3_;subst f4_;subst f5_))
           have p276:0 ≤ (x200_2:Int):=of_decide_eq_true ab;have q276:x200_2 < (t259.length:Int):=of_decide_eq_true ab;obtain ⟨ad276,e276,hx276_0⟩:=Kd.at_int (Kd.R_reads' HO_24.out).2.2 x200_2 p276 q276;cases e276
           replace p276:=eq_true p276;replace q276:=eq_true q276;refine start_ (n:=28) (S:=fun w'=>w'.cell? (ad276.add (x200_2).toNat) = some (.int .i64 (rd t259 x200_2))) (ds:=[]) (mA 28 0) kR rfl rfl (hx276_0) (fun hHeld=>?_);refine with_tabW laws_FnQuarrelsToldOfAll.tab30 laws_FnQuarrelsToldOfAll.bits30 (fun HT_ HW_=>?_)
           generalize wr.drew = w102 at HO_19 HO_24 HO_198 BK235 BK236 HB hx276_0 hHeld ⊢
           refine pT 0 205 HT_.out ?_;refine pT 1 206 HT_.out ?_;refine pT 2 207 HT_.out ?_;refine pT 3 208 HT_.out ?_;refine pT 6 211 HT_.out ?_;refine pT 7 212 HT_.out ?_;refine pK 4 209 HT_.out HW_.out hHeld ?_;refine pT 5 210 HT_.out ?_;as_aux_lemma =>
           refine oN 8 (some 213) HT_.out fun K hK=>?_
           refine gC Tryz.func14 #[.slice Ao40 t249.length co40,.int .i64 x200_2] ?_
           with_reducible refine (laws_zHas.calls k2 _ _ t249 x200_2 t277 _ ?side1 ?side2 A92.out).mono ?_
           (case side1=>exact qc (Kd.R_reads' HO_19.out).2.2)
           (case side2=>exact (Kd.R_reads' HO_19.out).2.1)
           rintro e w' ⟨rfl,⟨nd,rfl⟩⟩
           refine ⟨_,rfl,?_⟩;refine hK.out _ _ (hHeld) (fun hHeld=>?_);clear hK K;refine nM 213 ?_;refine pT 9 214 HT_.out ?_;refine pT 10 215 HT_.out ?_;refine pT 11 216 HT_.out ?_;refine pT 12 217 HT_.out ?_;refine pT 13 218 HT_.out ?_;refine pT 14 219 HT_.out ?_;refine pT 15 220 HT_.out ?_;refine pT 16 221 HT_.out ?_;refine pT 17 222 HT_.out ?_;refine pT 18 223 HT_.out ?_;refine pT 19 224 HT_.out ?_;refine pU 20 225 HT_.out ?_;refine pU 21 226 HT_.out ?_;refine pU 22 227 HT_.out ?_;refine pU 23 228 HT_.out ?_;refine pU 24 229 HT_.out ?_;refine pU 25 230 HT_.out ?_;refine pT 26 231 HT_.out ?_;refine pT 27 232 HT_.out ?_;refine done_ (done_of HT_.out kR) ?_
           try go_wp2
           go_roundg k2
           case measure=>have:=HK1.out;have:=HK2.out;omega
           case rel=>exact ⟨(wrap64 (x200_2 + 1)),qrs,H',⟨by have:=HK1.out;have:=HK2.out;omega⟩,⟨qra HO_19.out⟩,⟨qra HO_24.out⟩,⟨qra HO_198.out⟩,⟨bk1 BK235.out⟩,⟨bk1 BK236.out⟩,⟨by exact bw⟩⟩
        ·rw [if_neg c88] at H;have c88b0:=decide_eq_false c88;clear c88;have H':=aM H;clear H;go_wp2
         refine Met.intro ?_;refine meetP hJ_ ?rel
         case rel=>exact ⟨_,H',⟨by have:=HK1.out;have:=HK2.out;first|omega|exact Nat.le_refl _⟩,⟨bk1 BK235.out⟩,⟨bk1 BK236.out⟩,⟨by exact bw⟩⟩
  ·replace c42:=Bool.eq_false_iff.mpr c42;subst c42;rw [if_neg (show ¬ (false = true) by decide)] at H;have H':=aM H;clear H;go_wp2
   refine Met.intro ?_;refine meetP hJ_ ?rel
   case rel=>exact ⟨_,H',⟨by first|omega|exact Nat.le_refl _⟩,⟨bk1 BK235.out⟩,⟨bk1 BK236.out⟩,⟨by exact bw⟩⟩
 case rest =>
  intro f_ wc hcut;simp only [patch,Nat.reduceAdd];clear HC22;(try clear c42);(try clear c88);(try clear c88b0);(try clear c94);(try clear c94b0);(try clear c94b1);(try clear c98);(try clear c98b0);(try clear c98b1);(try clear c99);(try clear c99b0);(try clear hx275_0);(try clear hx276_0);(try clear hx279_0);(try clear p275);(try clear p276);(try clear p279);(try clear q275);(try clear q276);(try clear q279)
  obtain ⟨kq,HA,HJ21,BK235,BK236,HB⟩:=hcut
  cases kq with
  | zero=>exact absurd HA.out (by simp [laws_FnQuarrelsToldOfAll.j2])
  | succ kj21 =>
   have H:=HA.out;clear HA;simp only [laws_FnQuarrelsToldOfAll.j2] at H;as_aux_lemma =>
   replace H:=oB H;obtain ⟨⟨t280,t283⟩,A104,H⟩:=H;(try dsimp only at H)
   replace H:=oB H;obtain ⟨⟨t284,t287⟩,A105,H⟩:=H;(try dsimp only at H)
   as_aux_lemma =>
   replace H:=oB H;obtain ⟨⟨t288,t291⟩,A106,H⟩:=H;(try dsimp only at H)
   replace H:=oB H;obtain ⟨⟨t292,t295⟩,A107,H⟩:=H;(try dsimp only at H)
   as_aux_lemma =>
   replace H:=oB H;obtain ⟨⟨t296,t299⟩,A108,H⟩:=H;(try dsimp only at H)
   replace H:=oB H;obtain ⟨⟨t300,t303⟩,A109,H⟩:=H;(try dsimp only at H)
   as_aux_lemma =>
   replace H:=dM H hr_.out;obtain ⟨c110,H⟩:=H;have c110b0:(t283 != t287) = false:=by simpa using c110
   (try (have c110b1:decide (t283 = t287) = true:=by simpa using c110))
   (try (have c110b2:(t283 == t287) = true:=by simpa using c110))
   clear c110;as_aux_lemma =>
   replace H:=oB H;obtain ⟨t304,A111,H⟩:=H;(try dsimp only at H)
   replace H:=dN H hr_.out;obtain ⟨c112,H⟩:=H;subst c112;as_aux_lemma =>
   replace H:=dM H hr_.out;obtain ⟨c113,H⟩:=H;have c113b0:(t291 != t295) = false:=by simpa using c113
   (try (have c113b1:decide (t291 = t295) = true:=by simpa using c113))
   (try (have c113b2:(t291 == t295) = true:=by simpa using c113))
   clear c113;as_aux_lemma =>
   replace H:=oB H;obtain ⟨t305,A114,H⟩:=H;(try dsimp only at H)
   replace H:=dN H hr_.out;obtain ⟨c115,H⟩:=H;subst c115;as_aux_lemma =>
   replace H:=dM H hr_.out;obtain ⟨c116,H⟩:=H;have c116b0:(t299 != t303) = false:=by simpa using c116
   (try (have c116b1:decide (t299 = t303) = true:=by simpa using c116))
   (try (have c116b2:(t299 == t303) = true:=by simpa using c116))
   clear c116;as_aux_lemma =>
   replace H:=oB H;obtain ⟨t306,A117,H⟩:=H;(try dsimp only at H)
   replace H:=dN H hr_.out;obtain ⟨c118,H⟩:=H;subst c118;as_aux_lemma =>
   by_cases c119:t283 = true
   ·subst c119;rw [if_pos rfl] at H;as_aux_lemma =>
    replace H:=dM H hr_.out;obtain ⟨c120,H⟩:=H;have c120b0:decide ((t280.length:Int) < 1) = false:=decide_eq_false c120;have c120b1:decide (t280.length < 1) = false:=decide_eq_false (by omega);clear c120;as_aux_lemma =>
    replace H:=oB H;obtain ⟨t307,A121,H⟩:=H;(try dsimp only at H)
    replace H:=dN H hr_.out;obtain ⟨c122,H⟩:=H;subst c122;as_aux_lemma =>
    replace H:=oB H;obtain ⟨t308,A123,H⟩:=H;(try dsimp only at H)
    replace H:=dM H hr_.out;obtain ⟨c124,H⟩:=H;replace c124:=Bool.eq_false_iff.mpr c124;subst c124;have HC125:=aM H;clear H;have hnb126:=NB236_235.out;have hnc126:=NB235_236.out;have hcz127_0:=cz BK236.out 0;have hcz127_1:=cz BK236.out 1;have hfz127_0:=blk_frozen BK236.out 0;have hfz127_1:=blk_frozen BK236.out 1;go_wp2_with (first|((with_reducible refine gate_callee (f:=15) rfl ?_);refine gL 237 Tryz.func15 #[.agg #[.int .i64 a3_0,.slice A3_1 l3_1.length c3_1],.int .i64 a4] ?_;(with_reducible refine (impl_BestPartners.calls kj21 a3_0 _ _ l3_1 a4 t280 true _ ?side1 ?side2 A104.out).mono ?_);(case side1=>exact qcs HR3_1.out HB.out);(case side2=>exact HC3_1.out);rintro e w128 ⟨v281,rfl,ho0,hb⟩;refine ⟨_,rfl,?_⟩;have HO282:=aM (Kd.R_lower ho0 (below_size bw));replace BK235:=aM (bB BK235.out hb);replace BK236:=aM (bB BK236.out hb);replace HB:=aM (below_step bw hb);(try clear hb);(try clear hk);(try clear ho0);have hcz129_0:=cz BK236.out 0;have hcz129_1:=cz BK236.out 1;have hfz129_0:=blk_frozen BK236.out 0;have hfz129_1:=blk_frozen BK236.out 1)|((with_reducible refine gate_callee (f:=16) rfl ?_);refine wait_ ?_))
    intro q_ hq_;refine hq_ ?_;clear hq_ q_;as_aux_lemma =>
    go_wp2_with (first|((with_reducible refine gate_callee (f:=16) rfl ?_);refine gL 243 Tryz.func16 #[.agg #[.int .i64 a3_0,.slice A3_1 l3_1.length c3_1],.int .i64 a4] ?_;(with_reducible refine (spec_BestPartners.calls kj21 a3_0 _ _ l3_1 a4 t284 t287 _ ?side1 ?side2 A105.out).mono ?_);(case side1=>exact qcs HR3_1.out HB.out);(case side2=>exact HC3_1.out);rintro e w130 ⟨v285,rfl,ho0,hb⟩;refine ⟨_,rfl,?_⟩;have HO286:=aM (Kd.R_lower (Kd.R_new' ho0 (Kd.R_lt (qra HO282.out))) (below_size bw));replace HO282:=aM (Kd.R_elder' (qra HO282.out) (Kd.R_base ho0) hb);replace BK235:=aM (bB BK235.out hb);replace BK236:=aM (bB BK236.out hb);replace HB:=aM (below_step bw hb);(try clear hb);(try clear ho0);have hcz131_0:=cz BK236.out 0;have hcz131_1:=cz BK236.out 1;have hfz131_0:=blk_frozen BK236.out 0;have hfz131_1:=blk_frozen BK236.out 1)|((with_reducible refine gate_callee (f:=17) rfl ?_);refine wait_ ?_))
    intro q_ hq_;refine hq_ ?_;clear hq_ q_;as_aux_lemma =>
    go_wp2_with (first|((with_reducible refine gate_callee (f:=17) rfl ?_);refine gL 249 Tryz.func17 #[.agg #[.int .i64 a3_0,.slice A3_1 l3_1.length c3_1],.int .i64 a4] ?_;(with_reducible refine (impl_BestSplits.calls kj21 a3_0 _ _ l3_1 a4 t288 t291 _ ?side1 ?side2 A106.out).mono ?_);(case side1=>exact qcs HR3_1.out HB.out);(case side2=>exact HC3_1.out);rintro e w132 ⟨v289,rfl,ho0,hb⟩;refine ⟨_,rfl,?_⟩;have HO290:=aM (Kd.R_lower (Kd.R_new' (Kd.R_new' ho0 (Kd.R_lt (qra HO282.out))) (Kd.R_lt (qra HO286.out))) (below_size bw));replace HO282:=aM (Kd.R_elder' (qra HO282.out) (Kd.R_base ho0) hb);replace HO286:=aM (Kd.R_elder' (qra HO286.out) (Kd.R_base ho0) hb);replace BK235:=aM (bB BK235.out hb);replace BK236:=aM (bB BK236.out hb);replace HB:=aM (below_step bw hb);(try clear hb);(try clear ho0);have hcz133_0:=cz BK236.out 0;have hcz133_1:=cz BK236.out 1;have hfz133_0:=blk_frozen BK236.out 0;have hfz133_1:=blk_frozen BK236.out 1)|((with_reducible refine gate_callee (f:=18) rfl ?_);refine wait_ ?_))
    intro q_ hq_;refine hq_ ?_;clear hq_ q_;as_aux_lemma =>
    go_wp2_with (first|((with_reducible refine gate_callee (f:=18) rfl ?_);refine gL 255 Tryz.func18 #[.agg #[.int .i64 a3_0,.slice A3_1 l3_1.length c3_1],.int .i64 a4] ?_;(with_reducible refine (spec_BestSplits.calls kj21 a3_0 _ _ l3_1 a4 t292 t295 _ ?side1 ?side2 A107.out).mono ?_);(case side1=>exact qcs HR3_1.out HB.out);(case side2=>exact HC3_1.out);rintro e w134 ⟨v293,rfl,ho0,hb⟩;refine ⟨_,rfl,?_⟩;have HO294:=aM (Kd.R_lower (Kd.R_new' (Kd.R_new' (Kd.R_new' ho0 (Kd.R_lt (qra HO282.out))) (Kd.R_lt (qra HO286.out))) (Kd.R_lt (qra HO290.out))) (below_size bw));replace HO282:=aM (Kd.R_elder' (qra HO282.out) (Kd.R_base ho0) hb);replace HO286:=aM (Kd.R_elder' (qra HO286.out) (Kd.R_base ho0) hb);replace HO290:=aM (Kd.R_elder' (qra HO290.out) (Kd.R_base ho0) hb);replace BK235:=aM (bB BK235.out hb);replace BK236:=aM (bB BK236.out hb);replace HB:=aM (below_step bw hb);(try clear hb);(try clear ho0);have hcz135_0:=cz BK236.out 0;have hcz135_1:=cz BK236.out 1;have hfz135_0:=blk_frozen BK236.out 0;have hfz135_1:=blk_frozen BK236.out 1)|((with_reducible refine gate_callee (f:=19) rfl ?_);refine wait_ ?_))
    intro q_ hq_;refine hq_ ?_;clear hq_ q_;as_aux_lemma =>
    go_wp2_with (first|((with_reducible refine gate_callee (f:=19) rfl ?_);refine gL 261 Tryz.func19 #[.agg #[.int .i64 a3_0,.slice A3_1 l3_1.length c3_1],.int .i64 a4] ?_;(with_reducible refine (impl_QuotasOfPower.calls kj21 a3_0 _ _ l3_1 a4 t296 t299 _ ?side1 ?side2 A108.out).mono ?_);(case side1=>exact qcs HR3_1.out HB.out);(case side2=>exact HC3_1.out);rintro e w136 ⟨v297,rfl,ho0,hb⟩;refine ⟨_,rfl,?_⟩;have HO298:=aM (Kd.R_lower (Kd.R_new' (Kd.R_new' (Kd.R_new' (Kd.R_new' ho0 (Kd.R_lt (qra HO282.out))) (Kd.R_lt (qra HO286.out))) (Kd.R_lt (qra HO290.out))) (Kd.R_lt (qra HO294.out))) (below_size bw));replace HO282:=aM (Kd.R_elder' (qra HO282.out) (Kd.R_base ho0) hb);replace HO286:=aM (Kd.R_elder' (qra HO286.out) (Kd.R_base ho0) hb);replace HO290:=aM (Kd.R_elder' (qra HO290.out) (Kd.R_base ho0) hb);replace HO294:=aM (Kd.R_elder' (qra HO294.out) (Kd.R_base ho0) hb);replace BK235:=aM (bB BK235.out hb);replace BK236:=aM (bB BK236.out hb);replace HB:=aM (below_step bw hb);(try clear hb);(try clear ho0);have hcz137_0:=cz BK236.out 0;have hcz137_1:=cz BK236.out 1;have hfz137_0:=blk_frozen BK236.out 0;have hfz137_1:=blk_frozen BK236.out 1)|((with_reducible refine gate_callee (f:=20) rfl ?_);refine wait_ ?_))
    intro q_ hq_;refine hq_ ?_;clear hq_ q_;as_aux_lemma =>
    go_wp2_with (first|((with_reducible refine gate_callee (f:=20) rfl ?_);refine gL 267 Tryz.func20 #[.agg #[.int .i64 a3_0,.slice A3_1 l3_1.length c3_1],.int .i64 a4] ?_;(with_reducible refine (spec_QuotasOfPower.calls kj21 a3_0 _ _ l3_1 a4 t300 t303 _ ?side1 ?side2 A109.out).mono ?_);(case side1=>exact qcs HR3_1.out HB.out);(case side2=>exact HC3_1.out);rintro e w138 ⟨v301,rfl,ho0,hb⟩;refine ⟨_,rfl,?_⟩;have HO302:=aM (Kd.R_lower (Kd.R_new' (Kd.R_new' (Kd.R_new' (Kd.R_new' (Kd.R_new' ho0 (Kd.R_lt (qra HO282.out))) (Kd.R_lt (qra HO286.out))) (Kd.R_lt (qra HO290.out))) (Kd.R_lt (qra HO294.out))) (Kd.R_lt (qra HO298.out))) (below_size bw));replace HO282:=aM (Kd.R_elder' (qra HO282.out) (Kd.R_base ho0) hb);replace HO286:=aM (Kd.R_elder' (qra HO286.out) (Kd.R_base ho0) hb);replace HO290:=aM (Kd.R_elder' (qra HO290.out) (Kd.R_base ho0) hb);replace HO294:=aM (Kd.R_elder' (qra HO294.out) (Kd.R_base ho0) hb);replace HO298:=aM (Kd.R_elder' (qra HO298.out) (Kd.R_base ho0) hb);replace BK235:=aM (bB BK235.out hb);replace BK236:=aM (bB BK236.out hb);replace HB:=aM (below_step bw hb);(try clear hb);(try clear ho0);obtain ⟨Ao139,co139,eo139⟩:=Kd.R_slice HO282.out;subst eo139;obtain ⟨Ao140,co140,eo140⟩:=Kd.R_slice HO286.out;subst eo140)|(go_at_call 10;refine wait_ ?_))
    intro q_ hq_;refine hq_ ?_;clear hq_ q_;as_aux_lemma =>
    go_wp2_with (first|(go_at_call 10;(with_reducible refine (laws_zSame.calls kj21 _ _ t280 _ _ t284 true _ ?side1 ?side2 ?side3 ?side4 A111.out).mono ?_);(case side1=>exact qc (Kd.R_reads' HO282.out).2.2);(case side2=>exact (Kd.R_reads' HO282.out).2.1);(case side3=>exact qc (Kd.R_reads' HO286.out).2.2);(case side4=>exact (Kd.R_reads' HO286.out).2.1);rintro e w' ⟨rfl,⟨nd,rfl⟩⟩;obtain ⟨Ao141,co141,eo141⟩:=Kd.R_slice HO290.out;subst eo141;obtain ⟨Ao142,co142,eo142⟩:=Kd.R_slice HO294.out;subst eo142)|(go_at_call 10;refine wait_ ?_))
    intro q_ hq_;refine hq_ ?_;clear hq_ q_;as_aux_lemma =>
    go_wp2_with (first|(go_at_call 10;(with_reducible refine (laws_zSame.calls kj21 _ _ t288 _ _ t292 true _ ?side1 ?side2 ?side3 ?side4 A114.out).mono ?_);(case side1=>exact qc (Kd.R_reads' HO290.out).2.2);(case side2=>exact (Kd.R_reads' HO290.out).2.1);(case side3=>exact qc (Kd.R_reads' HO294.out).2.2);(case side4=>exact (Kd.R_reads' HO294.out).2.1);rintro e w' ⟨rfl,⟨nd,rfl⟩⟩;obtain ⟨Ao143,co143,eo143⟩:=Kd.R_slice HO298.out;subst eo143;obtain ⟨Ao144,co144,eo144⟩:=Kd.R_slice HO302.out;subst eo144)|(go_at_call 10;(with_reducible refine (laws_zSame.calls kj21 _ _ t296 _ _ t300 true _ ?side1 ?side2 ?side3 ?side4 A117.out).mono ?_);(case side1=>exact qc (Kd.R_reads' HO298.out).2.2);(case side2=>exact (Kd.R_reads' HO298.out).2.1);(case side3=>exact qc (Kd.R_reads' HO302.out).2.2);(case side4=>exact (Kd.R_reads' HO302.out).2.1);rintro e w' ⟨rfl,⟨nd,rfl⟩⟩)|(go_at_call 21;refine wait_ ?_))
    intro q_ hq_;refine hq_ ?_;clear hq_ q_;as_aux_lemma =>
    go_upto_if 317 with (first|(go_at_call 21;(with_reducible refine (laws_zRises.calls kj21 _ _ t280 true _ ?side1 ?side2 A121.out).mono ?_);(case side1=>exact qc (Kd.R_reads' HO282.out).2.2);(case side2=>exact (Kd.R_reads' HO282.out).2.1);rintro e w' ⟨rfl,⟨nd,rfl⟩⟩)|(go_at_call 14;(with_reducible refine (laws_zHas.calls kj21 _ _ t280 a4 false _ ?side1 ?side2 A123.out).mono ?_);(case side1=>exact qc (Kd.R_reads' HO282.out).2.2);(case side2=>exact (Kd.R_reads' HO282.out).2.1);rintro e w' ⟨rfl,⟨nd,rfl⟩⟩))
    (try simp only [Act.put,sA,sZ,sS])
    refine cutP [0,0,0,0,0,0,0,0,0,0,1,0,0,0,0,0,0,0,0,0,0,0,0,0,0,0,0,0,0,0,0,0,0,0,0,0,0,0,0,0,0,0,0,0,0,0,0,0,0,0,0,0,0,0,0,0,0,0,0,0,0,0,0,0,0,0,0,0,0,0,0,0,0,0,0,0,0,0,0,0,0,0,0,0,0,0,0,0,0,0,0,0,0,0,0,0,0,0,0,0,0,0,0,0,0,0,0,0,0,0,0,0,0,0,0,0,0,0,0,0,0,0,0,0,0,0,0,0,0,0,0,0,0,0,0,0,0,0,0,0,0,0,0,0,0,0,0,0,0,0,0,0,0,0,0,0,0,0,0,0,0,0,0,0,0,0,0,0,0,0,0,0,0,0,0,0,0,0,0,0,0,0,0,0,0,0,0,0,0,0,0,0,0,0,0,0,0,0,0,0,0,0,0,0,0,0,0,0,0,0,0,0,0,0,0,0,0,0,0,0,0,0,0,0,0,0,0,0,0,0,0,0,0,0,0,0,0,0,0,0,0,0,0,0,0,0,0,0,0,0,0,0,0,0,0,0,0,0,0,0,0,0,0,0,0,0,0,0,0,0,0,0,0,0,0,0,0,0,0,0,0,0,0,0,0,0,0,0,0,0,0,0,0,0,0,0,0,0,0,0,0,0,0,0,0,0,0,0,0,0,0,0,0,0,0,0,0,0,1,1,1,1,1,1,1,1,1,1,1,1,1,1,1,1,1,1,1,1,1,1,1,1,1,1] (fun wc=>∃ (kq:Nat),Aside0 (laws_FnQuarrelsToldOfAll.j3 kq a4 t296 t299 a3_0 l3_1 = some r) ∧ Aside0 (kq ≤ kj21) ∧ Aside0 (Kd.R (Kd.int .i64) 3 wc w.heap.size (fun _=>True) (.slice Ao143 t296.length co143) t296) ∧ Aside0 (wc.heap[gb235]? = some (.cells #[.int .i64 a0_0,(.slice A0_1 l0_1.length c0_1)] 24 (0,0))) ∧ Aside0 (wc.heap[gb236]? = some (.cells #[.int .i64 a3_0,(.slice A3_1 l3_1.length c3_1)] 24 (0,0))) ∧ Aside0 (Below w.heap.size w wc)) ?rest ?first
    case first =>
     intro _ _ hJ_ _;have H:=HC125.out;clear HC125;as_aux_lemma =>
     by_cases c145:t291 = true
     ·subst c145;rw [if_pos rfl] at H;as_aux_lemma =>
      replace H:=dM H hr_.out;obtain ⟨c146,H⟩:=H;have c146b0:decide ((t288.length:Int) < 1) = false:=decide_eq_false c146;have c146b1:decide (t288.length < 1) = false:=decide_eq_false (by omega);clear c146;(first|rw [c146b0]|(simp only [i64_w,i32_w];rw [c146b0])|skip)
      as_aux_lemma =>
      replace H:=oB H;obtain ⟨t309,A147,H⟩:=H;(try dsimp only at H)
      replace H:=dN H hr_.out;obtain ⟨c148,H⟩:=H;subst c148;obtain ⟨ji149,hji149⟩:∃ j_:Int,(wrap64 ((t288.length:Int) - 1)) = j_:=⟨_,rfl⟩;(first|rw [hji149] at H|simp only [hji149] at H)
      (try rw [hji149] at A147)
      have hji149w:(IntKind.i64.wrap ((t288.length:Int) - 1)) = ji149:=(i64_w _).trans hji149;as_aux_lemma =>
      replace H:=iN H;obtain ⟨c150,H⟩:=H;have c150b0:decide (0 ≤ (ji149)) = true:=decide_eq_true c150;clear c150;replace H:=iN H;obtain ⟨c151,H⟩:=H;have c151b0:decide ((ji149) < (t288.length:Int)) = true:=decide_eq_true c151;clear c151;as_aux_lemma =>
      replace H:=iN H;obtain ⟨c152,H⟩:=H;have c152b0:decide (0 ≤ a4) = true:=decide_eq_true c152;clear c152;replace H:=iN H;obtain ⟨c153,H⟩:=H;have c153b0:decide (a4 < (l3_1.length:Int)) = true:=decide_eq_true c153;clear c153;as_aux_lemma =>
      replace H:=iN H;obtain ⟨c154,H⟩:=H;have c154b0:decide (0 < (t288.length:Int)) = true:=decide_eq_true c154;have c154b1:decide (0 < t288.length) = true:=decide_eq_true (by omega);clear c154;as_aux_lemma =>
      replace H:=dN H hr_.out;obtain ⟨c155,H⟩:=H;have c155b0:((rd t288 (ji149)) == (wrap64 ((rd l3_1 a4) - (rd t288 0)))) = true:=beq_iff_eq.mpr c155;have c155b1:((rd t288 (ji149)) != (wrap64 ((rd l3_1 a4) - (rd t288 0)))) = false:=bne_eq_false_iff_eq.mpr c155;clear c155;have H':=aM H;clear H
      try go_wp2
      (try (rw [drewN_self w138];generalize hq_:World.drewN w138 _ = w138;replace HO282:=aM (hqR hq_ HO282.out);replace HO286:=aM (hqR hq_ HO286.out);replace HO290:=aM (hqR hq_ HO290.out);replace HO294:=aM (hqR hq_ HO294.out);replace HO298:=aM (hqR hq_ HO298.out);replace HO302:=aM (hqR hq_ HO302.out);replace BK235:=aM (hqB hq_ BK235.out);replace BK236:=aM (hqB hq_ BK236.out);replace HB:=aM (hqH hq_ HB.out);clear hq_))
      as_aux_lemma =>
      replace HO282:=aM (Kd.R_drew HO282.out);replace HO286:=aM (Kd.R_drew HO286.out);replace HO290:=aM (Kd.R_drew HO290.out);replace HO294:=aM (Kd.R_drew HO294.out);replace HO298:=aM (Kd.R_drew HO298.out);replace HO302:=aM (Kd.R_drew HO302.out);replace BK235:=aM (blk_drew BK235.out);replace BK236:=aM (blk_drew BK236.out);replace HB:=aM (below_drew1 HB.out);have p310:0 ≤ ((ji149):Int):=of_decide_eq_true ab;have q310:(ji149) < (t288.length:Int):=of_decide_eq_true ab;obtain ⟨ad310,e310,hx310_0⟩:=Kd.at_int (Kd.R_reads' HO290.out).2.2 (ji149) p310 q310;cases e310
      replace p310:=eq_true p310;replace q310:=eq_true q310;have p311:0 ≤ (a4:Int):=of_decide_eq_true ab;have q311:a4 < (l3_1.length:Int):=of_decide_eq_true ab;obtain ⟨ad311,e311,hx311_0⟩:=Kd.at_int HR3_1.out a4 p311 q311;have hw311_0:=hx311_0;cases e311
      replace hx311_0:=(HB.out.cell (World.block_lt_of_cell? w _ hx311_0)).trans hx311_0;replace p311:=eq_true p311;replace q311:=eq_true q311;have p312:0 ≤ (0:Int):=(by omega);have q312:0 < (t288.length:Int):=of_decide_eq_true ab;obtain ⟨ad312,e312,hx312_0⟩:=Kd.at_int (Kd.R_reads' HO290.out).2.2 0 p312 q312;obtain rfl:ad310 = ad312:=(by injection e312);have qi754:(0 < t288.length) = True:=eq_true (by omega);(try rw [show ((0:Int)).toNat = 0 from rfl] at hx312_0)
      (try rw [Addr.add_zero'] at hx312_0)
      replace p312:=eq_true p312;replace q312:=eq_true q312;refine start_ (n:=26) (S:=fun w'=>w'.cell? ⟨gb236,0,none⟩ = some (.int .i64 a3_0) ∧ w'.cell? ⟨gb236,1,none⟩ = some (.slice (some ad311) l3_1.length c3_1) ∧ w'.cell? (ad310.add ((ji149)).toNat) = some (.int .i64 (rd t288 (ji149))) ∧ w'.cell? (ad311.add (a4).toNat) = some (.int .i64 (rd l3_1 a4)) ∧ w'.cell? ad310 = some (.int .i64 (rd t288 0))) (ds:=[]) (mA 26 0) kR rfl rfl ⟨(blk_cell BK236.out 0).trans rfl,(blk_cell BK236.out 1).trans rfl,hx310_0,((HB.out.cell (World.block_lt_of_cell? w _ hw311_0)).trans hw311_0),hx312_0⟩ (fun hHeld=>?_);refine with_tabW laws_FnQuarrelsToldOfAll.tab44 laws_FnQuarrelsToldOfAll.bits44 (fun HT_ HW_=>?_)
      generalize w138.drew = w156 at HO282 HO286 HO290 HO294 HO298 HO302 BK235 BK236 HB hx310_0 hx311_0 hx312_0 hHeld ⊢
      refine pT 0 318 HT_.out ?_;refine pT 1 319 HT_.out ?_;refine pT 2 320 HT_.out ?_;refine pT 3 321 HT_.out ?_;refine pT 4 322 HT_.out ?_;as_aux_lemma =>
      refine oN 5 (some 323) HT_.out fun K hK=>?_
      refine gC Tryz.func21 #[.slice (some ad310) t288.length co141] ?_
      with_reducible refine (laws_zRises.calls kj21 _ _ t288 true _ ?side1 ?side2 A147.out).mono ?_
      (case side1=>exact qc (Kd.R_reads' HO290.out).2.2)
      (case side2=>exact (Kd.R_reads' HO290.out).2.1)
      rintro e w' ⟨rfl,⟨nd,rfl⟩⟩
      refine ⟨_,rfl,?_⟩;refine hK.out _ _ ⟨(blk_cell BK236.out 0).trans rfl,(blk_cell BK236.out 1).trans rfl,hHeld.2.2.1,((HB.out.cell (World.block_lt_of_cell? w _ hw311_0)).trans hw311_0),hHeld.2.2.2.2⟩ (fun hHeld=>?_);clear hK K;refine nM 323 ?_;refine pT 6 324 HT_.out ?_;refine pT 7 325 HT_.out ?_;refine pT 8 326 HT_.out ?_;refine pT 9 327 HT_.out ?_;refine pT 10 328 HT_.out ?_;refine pT 11 329 HT_.out ?_;refine pT 12 330 HT_.out ?_;refine pT 13 331 HT_.out ?_;refine pT 15 333 HT_.out ?_;refine pT 17 335 HT_.out ?_;refine pT 20 338 HT_.out ?_;refine pT 21 339 HT_.out ?_;refine pK 14 332 HT_.out HW_.out hHeld ?_;refine pK 16 334 HT_.out HW_.out hHeld ?_;refine pT 18 336 HT_.out ?_;refine pK 19 337 HT_.out HW_.out hHeld ?_;refine pK 22 340 HT_.out HW_.out hHeld ?_;refine pT 23 341 HT_.out ?_;refine pT 24 342 HT_.out ?_;refine pT 25 343 HT_.out ?_;refine done_ (done_of HT_.out kR) ?_
      try go_wp2
      refine Met.intro ?_;refine meetP hJ_ ?rel
      case rel=>exact ⟨_,H',⟨by have:=HJ21.out;first|omega|exact Nat.le_refl _⟩,⟨by (with_reducible repeat (first|apply Kd.R_alloc|apply Kd.R_drewN|apply Kd.R_drew));exact Kd.R_mono HO298.out (fun _ hk=>trivial)⟩,⟨bk1 BK235.out⟩,⟨bk1 BK236.out⟩,⟨by exact bw⟩⟩
     ·replace c145:=Bool.eq_false_iff.mpr c145;subst c145;rw [if_neg (show ¬ (false = true) by decide)] at H;have H':=aM H;clear H;go_wp2
      refine Met.intro ?_;refine meetP hJ_ ?rel
      case rel=>exact ⟨_,H',⟨by have:=HJ21.out;first|omega|exact Nat.le_refl _⟩,⟨by (with_reducible repeat (first|apply Kd.R_alloc|apply Kd.R_drewN|apply Kd.R_drew));exact Kd.R_mono HO298.out (fun _ hk=>trivial)⟩,⟨bk1 BK235.out⟩,⟨bk1 BK236.out⟩,⟨by exact bw⟩⟩
    case rest =>
     intro f_ wc hcut;simp only [patch,Nat.reduceAdd];clear HC125;(try clear c110);(try clear c110b0);(try clear c110b1);(try clear c110b2);(try clear c112);(try clear c113);(try clear c113b0);(try clear c113b1);(try clear c113b2);(try clear c115);(try clear c116);(try clear c116b0);(try clear c116b1);(try clear c116b2);(try clear c118);(try clear c119);(try clear c120);(try clear c120b0);(try clear c120b1);(try clear c122);(try clear c124);(try clear c145);(try clear c146);(try clear c146b0);(try clear c146b1);(try clear c148);(try clear c150);(try clear c150b0);(try clear c151);(try clear c151b0);(try clear c152);(try clear c152b0);(try clear c153);(try clear c153b0);(try clear c154);(try clear c154b0);(try clear c154b1);(try clear c155);(try clear c155b0);(try clear c155b1);(try clear hcz127_0);(try clear hcz127_1);(try clear hcz129_0);(try clear hcz129_1);(try clear hcz131_0);(try clear hcz131_1);(try clear hcz133_0);(try clear hcz133_1);(try clear hcz135_0);(try clear hcz135_1);(try clear hcz137_0);(try clear hcz137_1);(try clear hfz127_0);(try clear hfz127_1);(try clear hfz129_0);(try clear hfz129_1);(try clear hfz131_0);(try clear hfz131_1);(try clear hfz133_0);(try clear hfz133_1);(try clear hfz135_0);(try clear hfz135_1);(try clear hfz137_0);(try clear hfz137_1);(try clear hx310_0);(try clear hx311_0);(try clear hx312_0);(try clear p310);(try clear p311);(try clear p312);(try clear q310);(try clear q311);(try clear q312)
     obtain ⟨kq,HA,HJ124,HO_42,BK235,BK236,HB⟩:=hcut
     cases kq with
     | zero=>exact absurd HA.out (by simp [laws_FnQuarrelsToldOfAll.j3])
     | succ kj124 =>
      have H:=HA.out;clear HA;simp only [laws_FnQuarrelsToldOfAll.j3] at H;as_aux_lemma =>
      by_cases c157:t299 = true
      ·subst c157;rw [if_pos rfl] at H;as_aux_lemma =>
       replace H:=dM H hr_.out;obtain ⟨c158,H⟩:=H;have c158b0:decide ((t296.length:Int) < 1) = false:=decide_eq_false c158;have c158b1:decide (t296.length < 1) = false:=decide_eq_false (by omega);clear c158;as_aux_lemma =>
       replace H:=oB H;obtain ⟨t313,A159,H⟩:=H;(try dsimp only at H)
       replace H:=dN H hr_.out;obtain ⟨c160,H⟩:=H;subst c160;as_aux_lemma =>
       replace H:=iN H;obtain ⟨c161,H⟩:=H;have c161b0:decide (0 < (t296.length:Int)) = true:=decide_eq_true c161;have c161b1:decide (0 < t296.length) = true:=decide_eq_true (by omega);clear c161;as_aux_lemma =>
       replace H:=oB H;obtain ⟨⟨t315,t318⟩,A162,H⟩:=H;(try dsimp only at H)
       replace H:=oB H;obtain ⟨⟨t319,t322⟩,A163,H⟩:=H;(try dsimp only at H)
       as_aux_lemma =>
       replace H:=dN H hr_.out;obtain ⟨c164,H⟩:=H;subst c164;replace H:=dN H hr_.out;obtain ⟨c165,H⟩:=H;subst c165;as_aux_lemma =>
       replace H:=iN H;obtain ⟨c166,H⟩:=H;have c166b0:decide (0 ≤ a4) = true:=decide_eq_true c166;clear c166;replace H:=iN H;obtain ⟨c167,H⟩:=H;have c167b0:decide (a4 < (t319.length:Int)) = true:=decide_eq_true c167;clear c167;as_aux_lemma =>
       replace H:=iN H;obtain ⟨c168,H⟩:=H;have c168b0:decide (a4 < (t315.length:Int)) = true:=decide_eq_true c168;clear c168;replace H:=dM H hr_.out;obtain ⟨c169,H⟩:=H;have c169b0:decide ((rd t315 a4) < (rd t319 a4)) = false:=decide_eq_false c169;(try (have c9k_:=c93b0;simp [gt_iff_lt,c169b0] at c9k_))
       clear c169;as_aux_lemma =>
       replace H:=oB H;obtain ⟨t327,A170,H⟩:=H;(try dsimp only at H)
       replace H:=dM H hr_.out;obtain ⟨c171,H⟩:=H;have c171b0:(((rd t319 a4) == (rd t315 a4)) != t327) = false:=by simpa using c171
       (try (have c171b1:decide (((rd t319 a4) == (rd t315 a4)) = t327) = true:=by simpa using c171))
       (try (have c171b2:(((rd t319 a4) == (rd t315 a4)) == t327) = true:=by simpa using c171))
       clear c171;obtain rfl:=Option.some.inj H;as_aux_lemma =>
       try go_wp2_with (first|(go_at_call 21;(with_reducible refine (laws_zRises.calls kj124 _ _ t296 true _ ?side1 ?side2 A159.out).mono ?_);(case side1=>exact qc (Kd.R_reads' HO_42.out).2.2);(case side2=>exact (Kd.R_reads' HO_42.out).2.1);rintro e w' ⟨rfl,⟨nd,rfl⟩⟩))
       (try (rw [drewN_self wc];generalize hq_:World.drewN wc _ = wc;have n0_:Aside0 (Kd.R (Kd.int .i64) 3 wc w.heap.size (fun _=>True) (.slice Ao143 t296.length co143) t296):=⟨by rw [← hq_];exact (qra HO_42.out)⟩;have n1_:Aside0 (wc.heap[gb235]? = some (.cells #[.int .i64 a0_0,.slice A0_1 l0_1.length c0_1] 24 (0,0))):=⟨by rw [← hq_];exact (bk1 BK235.out)⟩;have n2_:Aside0 (wc.heap[gb236]? = some (.cells #[.int .i64 a3_0,.slice A3_1 l3_1.length c3_1] 24 (0,0))):=⟨by rw [← hq_];exact (bk1 BK236.out)⟩;have n3_:Aside0 (Below w.heap.size w wc):=⟨by rw [← hq_];exact bw⟩;clear HO_42 BK235 BK236 HB hq_;have HO_42:=n0_;have BK235:=n1_;have BK236:=n2_;have HB:=n3_;clear n0_ n1_ n2_ n3_))
       replace HO_42:=aM (Kd.R_drew HO_42.out);replace BK235:=aM (blk_drew BK235.out);replace BK236:=aM (blk_drew BK236.out);replace HB:=aM (below_drew1 HB.out);have p314:0 ≤ (0:Int):=(by omega);have q314:0 < (t296.length:Int):=of_decide_eq_true ab;obtain ⟨ad314,e314,hx314_0⟩:=Kd.at_int (Kd.R_reads' HO_42.out).2.2 0 p314 q314;cases e314
       have qi756:(0 < t296.length) = True:=eq_true (by omega);(try rw [show ((0:Int)).toNat = 0 from rfl] at hx314_0)
       (try rw [Addr.add_zero'] at hx314_0)
       replace p314:=eq_true p314;replace q314:=eq_true q314;refine start_ (n:=12) (S:=fun w'=>w'.cell? ⟨gb236,0,none⟩ = some (.int .i64 a3_0) ∧ w'.cell? ⟨gb236,1,none⟩ = some (.slice A3_1 l3_1.length c3_1) ∧ w'.cell? ad314 = some (.int .i64 (rd t296 0))) (ds:=[]) (mA 12 0) kR rfl rfl ⟨(blk_cell BK236.out 0).trans rfl,(blk_cell BK236.out 1).trans rfl,hx314_0⟩ (fun hHeld=>?_);refine with_tabW laws_FnQuarrelsToldOfAll.tab49 laws_FnQuarrelsToldOfAll.bits49 (fun HT_ HW_=>?_)
       generalize wc.drew = w172 at HO_42 BK235 BK236 HB hx314_0 hHeld ⊢
       refine pT 0 354 HT_.out ?_;refine pT 1 355 HT_.out ?_;refine pT 3 357 HT_.out ?_;refine pK 2 356 HT_.out HW_.out hHeld ?_;refine pK 4 358 HT_.out HW_.out hHeld ?_;refine pT 5 359 HT_.out ?_;as_aux_lemma =>
       refine oN 6 (some 360) HT_.out fun K hK=>?_
       refine gC Tryz.func22 #[.agg #[.int .i64 (rd t296 0),.slice A3_1 l3_1.length c3_1]] ?_
       with_reducible refine (impl_PivotCounts.calls kj124 (rd t296 0) _ _ l3_1 t315 true _ ?side1 ?side2 A162.out).mono ?_
       (case side1=>exact qcs HR3_1.out HB.out)
       (case side2=>exact HC3_1.out)
       rintro e w173 ⟨v316,rfl,ho0,hb⟩
       have HS2_:=(hb.cell (World.block_lt_of_cell? _ _ (hHeld.2.2))).trans (hHeld.2.2);refine ⟨_,rfl,?_⟩;have HO317:=aM (Kd.R_lower (Kd.R_new' ho0 (Kd.R_lt (qra HO_42.out))) (below_size bw));replace HO_42:=aM (Kd.R_elder' (qra HO_42.out) (Kd.R_base ho0) hb);replace BK235:=aM (bB BK235.out hb);replace BK236:=aM (bB BK236.out hb);replace HB:=aM (below_step bw hb);(try clear hb)
       (try clear hk)
       (try clear ho0)
       refine hK.out _ _ ⟨(blk_cell BK236.out 0).trans rfl,(blk_cell BK236.out 1).trans rfl,HS2_⟩ (fun hHeld=>?_);clear hK K;refine nM 360 ?_;refine pT 7 353 HT_.out ?_;refine pT 8 361 HT_.out ?_;refine pT 9 362 HT_.out ?_;refine pT 10 46 HT_.out ?_;refine pT 11 47 HT_.out ?_;refine done_ (done_of HT_.out kR) ?_;have hnb174:=NB236_235.out;have hnc174:=NB235_236.out;have hcz175_0:=cz BK236.out 0;have hcz175_1:=cz BK236.out 1;have hfz175_0:=blk_frozen BK236.out 0;have hfz175_1:=blk_frozen BK236.out 1;as_aux_lemma =>
       try go_wp2_with (first|((with_reducible refine gate_callee (f:=22) rfl ?_);refine gL 365 Tryz.func22 #[.agg #[.int .i64 a3_0,.slice A3_1 l3_1.length c3_1]] ?_;(with_reducible refine (impl_PivotCounts.calls kj124 a3_0 _ _ l3_1 t319 true _ ?side1 ?side2 A163.out).mono ?_);(case side1=>exact qcs HR3_1.out HB.out);(case side2=>exact HC3_1.out);rintro e w176 ⟨v320,rfl,ho0,hb⟩;refine ⟨_,rfl,?_⟩;have HO321:=aM (Kd.R_lower (Kd.R_new' (Kd.R_new' ho0 (Kd.R_lt (qra HO_42.out))) (Kd.R_lt (qra HO317.out))) (below_size bw));replace HO_42:=aM (Kd.R_elder' (qra HO_42.out) (Kd.R_base ho0) hb);replace HO317:=aM (Kd.R_elder' (qra HO317.out) (Kd.R_base ho0) hb);replace BK235:=aM (bB BK235.out hb);replace BK236:=aM (bB BK236.out hb);replace HB:=aM (below_step bw hb);(try clear hb);(try clear ho0)))
       replace HO_42:=aM (Kd.R_drew HO_42.out);replace HO317:=aM (Kd.R_drew HO317.out);replace HO321:=aM (Kd.R_drew HO321.out);replace BK235:=aM (blk_drew BK235.out);replace BK236:=aM (blk_drew BK236.out);replace HB:=aM (below_drew1 HB.out);obtain ⟨Ao178,co178,eo178⟩:=Kd.R_slice HO321.out;(first|subst eo178|(injection eo178 with f1_ f2_ f3_;have f4_:=f1_.symm;have f5_:=f3_.symm;clear f1_ f2_ f3_;subst f4_;subst f5_))
       have p323:0 ≤ (a4:Int):=of_decide_eq_true ab;have q323:a4 < (t319.length:Int):=of_decide_eq_true ab;obtain ⟨ad323,e323,hx323_0⟩:=Kd.at_int (Kd.R_reads' HO321.out).2.2 a4 p323 q323;cases e323
       replace p323:=eq_true p323;replace q323:=eq_true q323;obtain ⟨Ao179,co179,eo179⟩:=Kd.R_slice HO317.out;(first|subst eo179|(injection eo179 with f1_ f2_ f3_;have f4_:=f1_.symm;have f5_:=f3_.symm;clear f1_ f2_ f3_;subst f4_;subst f5_))
       have p324:0 ≤ (a4:Int):=of_decide_eq_true ab;have q324:a4 < (t315.length:Int):=of_decide_eq_true ab;obtain ⟨ad324,e324,hx324_0⟩:=Kd.at_int (Kd.R_reads' HO317.out).2.2 a4 p324 q324;cases e324
       replace p324:=eq_true p324;replace q324:=eq_true q324;have p325:0 ≤ (a4:Int):=of_decide_eq_true ab;have q325:a4 < (t319.length:Int):=of_decide_eq_true ab;obtain ⟨ad325,e325,hx325_0⟩:=Kd.at_int (Kd.R_reads' HO321.out).2.2 a4 p325 q325;obtain rfl:ad323 = ad325:=(by injection e325);replace p325:=eq_true p325;replace q325:=eq_true q325;have p326:0 ≤ (a4:Int):=of_decide_eq_true ab;have q326:a4 < (t315.length:Int):=of_decide_eq_true ab;obtain ⟨ad326,e326,hx326_0⟩:=Kd.at_int (Kd.R_reads' HO317.out).2.2 a4 p326 q326;obtain rfl:ad324 = ad326:=(by injection e326);replace p326:=eq_true p326;replace q326:=eq_true q326;refine start_ (n:=33) (S:=fun w'=>w'.cell? ⟨gb236,0,none⟩ = some (.int .i64 a3_0) ∧ w'.cell? ⟨gb236,1,none⟩ = some (.slice A3_1 l3_1.length c3_1) ∧ w'.cell? (ad323.add (a4).toNat) = some (.int .i64 (rd t319 a4)) ∧ w'.cell? (ad324.add (a4).toNat) = some (.int .i64 (rd t315 a4)) ∧ w'.cell? (ad323.add (a4).toNat) = some (.int .i64 (rd t319 a4)) ∧ w'.cell? (ad324.add (a4).toNat) = some (.int .i64 (rd t315 a4))) (ds:=[]) (mA 33 0) kR rfl rfl ⟨(blk_cell BK236.out 0).trans rfl,(blk_cell BK236.out 1).trans rfl,hx323_0,hx324_0,hx325_0,hx326_0⟩ (fun hHeld=>?_);refine with_tabW laws_FnQuarrelsToldOfAll.tab51 laws_FnQuarrelsToldOfAll.bits51 (fun HT_ HW_=>?_)
       generalize w176.drew = w177 at HO_42 HO317 HO321 BK235 BK236 HB hx323_0 hx324_0 hx325_0 hx326_0 hHeld ⊢
       refine pT 0 368 HT_.out ?_;refine pT 1 369 HT_.out ?_;refine pT 2 370 HT_.out ?_;refine pT 3 371 HT_.out ?_;refine pT 4 372 HT_.out ?_;refine pT 5 373 HT_.out ?_;refine pT 6 374 HT_.out ?_;refine pT 7 375 HT_.out ?_;refine pT 8 376 HT_.out ?_;refine pT 9 377 HT_.out ?_;refine pT 11 379 HT_.out ?_;refine pT 12 380 HT_.out ?_;refine pT 13 381 HT_.out ?_;refine pK 10 378 HT_.out HW_.out hHeld ?_;refine pK 14 382 HT_.out HW_.out hHeld ?_;refine pT 15 383 HT_.out ?_;refine pT 16 384 HT_.out ?_;refine pT 17 385 HT_.out ?_;refine pT 18 386 HT_.out ?_;refine pT 19 387 HT_.out ?_;refine pT 20 388 HT_.out ?_;refine pT 22 390 HT_.out ?_;refine pT 23 391 HT_.out ?_;refine pT 24 392 HT_.out ?_;refine pT 27 395 HT_.out ?_;refine pT 28 396 HT_.out ?_;refine pK 21 389 HT_.out HW_.out hHeld ?_;refine pK 25 393 HT_.out HW_.out hHeld ?_;refine pT 26 394 HT_.out ?_;refine pK 29 397 HT_.out HW_.out hHeld ?_;as_aux_lemma =>
       refine oN 30 (some 398) HT_.out fun K hK=>?_
       refine gC Tryz.func14 #[.slice (some ad314) t296.length co143,.int .i64 a3_0] ?_
       with_reducible refine (laws_zHas.calls kj124 _ _ t296 a3_0 t327 _ ?side1 ?side2 A170.out).mono ?_
       (case side1=>exact qc (Kd.R_reads' HO_42.out).2.2)
       (case side2=>exact (Kd.R_reads' HO_42.out).2.1)
       rintro e w' ⟨rfl,⟨nd,rfl⟩⟩
       refine ⟨_,rfl,?_⟩;refine hK.out _ _ ⟨(blk_cell BK236.out 0).trans rfl,(blk_cell BK236.out 1).trans rfl,hHeld.2.2.1,hHeld.2.2.2.1,hHeld.2.2.2.2.1,hHeld.2.2.2.2.2⟩ (fun hHeld=>?_);clear hK K;refine nM 398 ?_;refine pT 31 399 HT_.out ?_;refine pT 32 400 HT_.out ?_;refine done_ (done_of HT_.out kR) ?_
       try go_wp2
       go_ret
       exact ⟨eE,by exact bw⟩
      ·replace c157:=Bool.eq_false_iff.mpr c157;subst c157;rw [if_neg (show ¬ (false = true) by decide)] at H;obtain rfl:=Option.some.inj H;go_wp2
       go_ret
       exact ⟨eE,by exact bw⟩
   ·replace c119:=Bool.eq_false_iff.mpr c119;subst c119;rw [if_neg (show ¬ (false = true) by decide)] at H;have HC180:=aM H;clear H;have hnb181:=NB236_235.out;have hnc181:=NB235_236.out;have hcz182_0:=cz BK236.out 0;have hcz182_1:=cz BK236.out 1;have hfz182_0:=blk_frozen BK236.out 0;have hfz182_1:=blk_frozen BK236.out 1;go_wp2_with (first|((with_reducible refine gate_callee (f:=15) rfl ?_);refine gL 237 Tryz.func15 #[.agg #[.int .i64 a3_0,.slice A3_1 l3_1.length c3_1],.int .i64 a4] ?_;(with_reducible refine (impl_BestPartners.calls kj21 a3_0 _ _ l3_1 a4 t280 false _ ?side1 ?side2 A104.out).mono ?_);(case side1=>exact qcs HR3_1.out HB.out);(case side2=>exact HC3_1.out);rintro e w183 ⟨v281,rfl,ho0,hb⟩;refine ⟨_,rfl,?_⟩;have HO282:=aM (Kd.R_lower ho0 (below_size bw));replace BK235:=aM (bB BK235.out hb);replace BK236:=aM (bB BK236.out hb);replace HB:=aM (below_step bw hb);(try clear hb);(try clear ho0);have hcz184_0:=cz BK236.out 0;have hcz184_1:=cz BK236.out 1;have hfz184_0:=blk_frozen BK236.out 0;have hfz184_1:=blk_frozen BK236.out 1)|((with_reducible refine gate_callee (f:=16) rfl ?_);refine wait_ ?_))
    intro q_ hq_;refine hq_ ?_;clear hq_ q_;as_aux_lemma =>
    go_wp2_with (first|((with_reducible refine gate_callee (f:=16) rfl ?_);refine gL 243 Tryz.func16 #[.agg #[.int .i64 a3_0,.slice A3_1 l3_1.length c3_1],.int .i64 a4] ?_;(with_reducible refine (spec_BestPartners.calls kj21 a3_0 _ _ l3_1 a4 t284 t287 _ ?side1 ?side2 A105.out).mono ?_);(case side1=>exact qcs HR3_1.out HB.out);(case side2=>exact HC3_1.out);rintro e w185 ⟨v285,rfl,ho0,hb⟩;refine ⟨_,rfl,?_⟩;have HO286:=aM (Kd.R_lower (Kd.R_new' ho0 (Kd.R_lt (qra HO282.out))) (below_size bw));replace HO282:=aM (Kd.R_elder' (qra HO282.out) (Kd.R_base ho0) hb);replace BK235:=aM (bB BK235.out hb);replace BK236:=aM (bB BK236.out hb);replace HB:=aM (below_step bw hb);(try clear hb);(try clear ho0);have hcz186_0:=cz BK236.out 0;have hcz186_1:=cz BK236.out 1;have hfz186_0:=blk_frozen BK236.out 0;have hfz186_1:=blk_frozen BK236.out 1)|((with_reducible refine gate_callee (f:=17) rfl ?_);refine wait_ ?_))
    intro q_ hq_;refine hq_ ?_;clear hq_ q_;as_aux_lemma =>
    go_wp2_with (first|((with_reducible refine gate_callee (f:=17) rfl ?_);refine gL 249 Tryz.func17 #[.agg #[.int .i64 a3_0,.slice A3_1 l3_1.length c3_1],.int .i64 a4] ?_;(with_reducible refine (impl_BestSplits.calls kj21 a3_0 _ _ l3_1 a4 t288 t291 _ ?side1 ?side2 A106.out).mono ?_);(case side1=>exact qcs HR3_1.out HB.out);(case side2=>exact HC3_1.out);rintro e w187 ⟨v289,rfl,ho0,hb⟩;refine ⟨_,rfl,?_⟩;have HO290:=aM (Kd.R_lower (Kd.R_new' (Kd.R_new' ho0 (Kd.R_lt (qra HO282.out))) (Kd.R_lt (qra HO286.out))) (below_size bw));replace HO282:=aM (Kd.R_elder' (qra HO282.out) (Kd.R_base ho0) hb);replace HO286:=aM (Kd.R_elder' (qra HO286.out) (Kd.R_base ho0) hb);replace BK235:=aM (bB BK235.out hb);replace BK236:=aM (bB BK236.out hb);replace HB:=aM (below_step bw hb);(try clear hb);(try clear ho0);have hcz188_0:=cz BK236.out 0;have hcz188_1:=cz BK236.out 1;have hfz188_0:=blk_frozen BK236.out 0;have hfz188_1:=blk_frozen BK236.out 1)|((with_reducible refine gate_callee (f:=18) rfl ?_);refine wait_ ?_))
    intro q_ hq_;refine hq_ ?_;clear hq_ q_;as_aux_lemma =>
    go_wp2_with (first|((with_reducible refine gate_callee (f:=18) rfl ?_);refine gL 255 Tryz.func18 #[.agg #[.int .i64 a3_0,.slice A3_1 l3_1.length c3_1],.int .i64 a4] ?_;(with_reducible refine (spec_BestSplits.calls kj21 a3_0 _ _ l3_1 a4 t292 t295 _ ?side1 ?side2 A107.out).mono ?_);(case side1=>exact qcs HR3_1.out HB.out);(case side2=>exact HC3_1.out);rintro e w189 ⟨v293,rfl,ho0,hb⟩;refine ⟨_,rfl,?_⟩;have HO294:=aM (Kd.R_lower (Kd.R_new' (Kd.R_new' (Kd.R_new' ho0 (Kd.R_lt (qra HO282.out))) (Kd.R_lt (qra HO286.out))) (Kd.R_lt (qra HO290.out))) (below_size bw));replace HO282:=aM (Kd.R_elder' (qra HO282.out) (Kd.R_base ho0) hb);replace HO286:=aM (Kd.R_elder' (qra HO286.out) (Kd.R_base ho0) hb);replace HO290:=aM (Kd.R_elder' (qra HO290.out) (Kd.R_base ho0) hb);replace BK235:=aM (bB BK235.out hb);replace BK236:=aM (bB BK236.out hb);replace HB:=aM (below_step bw hb);(try clear hb);(try clear ho0);have hcz190_0:=cz BK236.out 0;have hcz190_1:=cz BK236.out 1;have hfz190_0:=blk_frozen BK236.out 0;have hfz190_1:=blk_frozen BK236.out 1)|((with_reducible refine gate_callee (f:=19) rfl ?_);refine wait_ ?_))
    intro q_ hq_;refine hq_ ?_;clear hq_ q_;as_aux_lemma =>
    go_wp2_with (first|((with_reducible refine gate_callee (f:=19) rfl ?_);refine gL 261 Tryz.func19 #[.agg #[.int .i64 a3_0,.slice A3_1 l3_1.length c3_1],.int .i64 a4] ?_;(with_reducible refine (impl_QuotasOfPower.calls kj21 a3_0 _ _ l3_1 a4 t296 t299 _ ?side1 ?side2 A108.out).mono ?_);(case side1=>exact qcs HR3_1.out HB.out);(case side2=>exact HC3_1.out);rintro e w191 ⟨v297,rfl,ho0,hb⟩;refine ⟨_,rfl,?_⟩;have HO298:=aM (Kd.R_lower (Kd.R_new' (Kd.R_new' (Kd.R_new' (Kd.R_new' ho0 (Kd.R_lt (qra HO282.out))) (Kd.R_lt (qra HO286.out))) (Kd.R_lt (qra HO290.out))) (Kd.R_lt (qra HO294.out))) (below_size bw));replace HO282:=aM (Kd.R_elder' (qra HO282.out) (Kd.R_base ho0) hb);replace HO286:=aM (Kd.R_elder' (qra HO286.out) (Kd.R_base ho0) hb);replace HO290:=aM (Kd.R_elder' (qra HO290.out) (Kd.R_base ho0) hb);replace HO294:=aM (Kd.R_elder' (qra HO294.out) (Kd.R_base ho0) hb);replace BK235:=aM (bB BK235.out hb);replace BK236:=aM (bB BK236.out hb);replace HB:=aM (below_step bw hb);(try clear hb);(try clear ho0);have hcz192_0:=cz BK236.out 0;have hcz192_1:=cz BK236.out 1;have hfz192_0:=blk_frozen BK236.out 0;have hfz192_1:=blk_frozen BK236.out 1)|((with_reducible refine gate_callee (f:=20) rfl ?_);refine wait_ ?_))
    intro q_ hq_;refine hq_ ?_;clear hq_ q_;as_aux_lemma =>
    go_wp2_with (first|((with_reducible refine gate_callee (f:=20) rfl ?_);refine gL 267 Tryz.func20 #[.agg #[.int .i64 a3_0,.slice A3_1 l3_1.length c3_1],.int .i64 a4] ?_;(with_reducible refine (spec_QuotasOfPower.calls kj21 a3_0 _ _ l3_1 a4 t300 t303 _ ?side1 ?side2 A109.out).mono ?_);(case side1=>exact qcs HR3_1.out HB.out);(case side2=>exact HC3_1.out);rintro e w193 ⟨v301,rfl,ho0,hb⟩;refine ⟨_,rfl,?_⟩;have HO302:=aM (Kd.R_lower (Kd.R_new' (Kd.R_new' (Kd.R_new' (Kd.R_new' (Kd.R_new' ho0 (Kd.R_lt (qra HO282.out))) (Kd.R_lt (qra HO286.out))) (Kd.R_lt (qra HO290.out))) (Kd.R_lt (qra HO294.out))) (Kd.R_lt (qra HO298.out))) (below_size bw));replace HO282:=aM (Kd.R_elder' (qra HO282.out) (Kd.R_base ho0) hb);replace HO286:=aM (Kd.R_elder' (qra HO286.out) (Kd.R_base ho0) hb);replace HO290:=aM (Kd.R_elder' (qra HO290.out) (Kd.R_base ho0) hb);replace HO294:=aM (Kd.R_elder' (qra HO294.out) (Kd.R_base ho0) hb);replace HO298:=aM (Kd.R_elder' (qra HO298.out) (Kd.R_base ho0) hb);replace BK235:=aM (bB BK235.out hb);replace BK236:=aM (bB BK236.out hb);replace HB:=aM (below_step bw hb);(try clear hb);(try clear ho0);obtain ⟨Ao194,co194,eo194⟩:=Kd.R_slice HO282.out;subst eo194;obtain ⟨Ao195,co195,eo195⟩:=Kd.R_slice HO286.out;subst eo195)|(go_at_call 10;refine wait_ ?_))
    intro q_ hq_;refine hq_ ?_;clear hq_ q_;as_aux_lemma =>
    go_wp2_with (first|(go_at_call 10;(with_reducible refine (laws_zSame.calls kj21 _ _ t280 _ _ t284 true _ ?side1 ?side2 ?side3 ?side4 A111.out).mono ?_);(case side1=>exact qc (Kd.R_reads' HO282.out).2.2);(case side2=>exact (Kd.R_reads' HO282.out).2.1);(case side3=>exact qc (Kd.R_reads' HO286.out).2.2);(case side4=>exact (Kd.R_reads' HO286.out).2.1);rintro e w' ⟨rfl,⟨nd,rfl⟩⟩;obtain ⟨Ao196,co196,eo196⟩:=Kd.R_slice HO290.out;subst eo196;obtain ⟨Ao197,co197,eo197⟩:=Kd.R_slice HO294.out;subst eo197)|(go_at_call 10;refine wait_ ?_))
    intro q_ hq_;refine hq_ ?_;clear hq_ q_;as_aux_lemma =>
    go_upto_if 317 with (first|(go_at_call 10;(with_reducible refine (laws_zSame.calls kj21 _ _ t288 _ _ t292 true _ ?side1 ?side2 ?side3 ?side4 A114.out).mono ?_);(case side1=>exact qc (Kd.R_reads' HO290.out).2.2);(case side2=>exact (Kd.R_reads' HO290.out).2.1);(case side3=>exact qc (Kd.R_reads' HO294.out).2.2);(case side4=>exact (Kd.R_reads' HO294.out).2.1);rintro e w' ⟨rfl,⟨nd,rfl⟩⟩;obtain ⟨Ao198,co198,eo198⟩:=Kd.R_slice HO298.out;subst eo198;obtain ⟨Ao199,co199,eo199⟩:=Kd.R_slice HO302.out;subst eo199)|(go_at_call 10;(with_reducible refine (laws_zSame.calls kj21 _ _ t296 _ _ t300 true _ ?side1 ?side2 ?side3 ?side4 A117.out).mono ?_);(case side1=>exact qc (Kd.R_reads' HO298.out).2.2);(case side2=>exact (Kd.R_reads' HO298.out).2.1);(case side3=>exact qc (Kd.R_reads' HO302.out).2.2);(case side4=>exact (Kd.R_reads' HO302.out).2.1);rintro e w' ⟨rfl,⟨nd,rfl⟩⟩))
    (try simp only [Act.put,sA,sZ,sS])
    refine cutP [0,0,0,0,0,0,0,0,0,0,1,0,0,0,0,0,0,0,0,0,0,0,0,0,0,0,0,0,0,0,0,0,0,0,0,0,0,0,0,0,0,0,0,0,0,0,0,0,0,0,0,0,0,0,0,0,0,0,0,0,0,0,0,0,0,0,0,0,0,0,0,0,0,0,0,0,0,0,0,0,0,0,0,0,0,0,0,0,0,0,0,0,0,0,0,0,0,0,0,0,0,0,0,0,0,0,0,0,0,0,0,0,0,0,0,0,0,0,0,0,0,0,0,0,0,0,0,0,0,0,0,0,0,0,0,0,0,0,0,0,0,0,0,0,0,0,0,0,0,0,0,0,0,0,0,0,0,0,0,0,0,0,0,0,0,0,0,0,0,0,0,0,0,0,0,0,0,0,0,0,0,0,0,0,0,0,0,0,0,0,0,0,0,0,0,0,0,0,0,0,0,0,0,0,0,0,0,0,0,0,0,0,0,0,0,0,0,0,0,0,0,0,0,0,0,0,0,0,0,0,0,0,0,0,0,0,0,0,0,0,0,0,0,0,0,0,0,0,0,0,0,0,0,0,0,0,0,0,0,0,0,0,0,0,0,0,0,0,0,0,0,0,0,0,0,0,0,0,0,0,0,0,0,0,0,0,0,0,0,0,0,0,0,0,0,0,0,0,0,0,0,0,0,0,0,0,0,0,0,0,0,0,0,0,0,0,0,0,1,1,1,1,1,1,1,1,1,1,1,1,1,1,1,1,1,1,1,1,1,1,1,1,1,1] (fun wc=>∃ (kq:Nat),Aside0 (laws_FnQuarrelsToldOfAll.j4 kq a4 t296 t299 a3_0 l3_1 = some r) ∧ Aside0 (kq ≤ kj21) ∧ Aside0 (Kd.R (Kd.int .i64) 3 wc w.heap.size (fun _=>True) (.slice Ao198 t296.length co198) t296) ∧ Aside0 (wc.heap[gb235]? = some (.cells #[.int .i64 a0_0,(.slice A0_1 l0_1.length c0_1)] 24 (0,0))) ∧ Aside0 (wc.heap[gb236]? = some (.cells #[.int .i64 a3_0,(.slice A3_1 l3_1.length c3_1)] 24 (0,0))) ∧ Aside0 (Below w.heap.size w wc)) ?rest ?first
    case first =>
     intro _ _ hJ_ _;have H:=HC180.out;clear HC180;as_aux_lemma =>
     by_cases c200:t291 = true
     ·subst c200;rw [if_pos rfl] at H;as_aux_lemma =>
      replace H:=dM H hr_.out;obtain ⟨c201,H⟩:=H;have c201b0:decide ((t288.length:Int) < 1) = false:=decide_eq_false c201;have c201b1:decide (t288.length < 1) = false:=decide_eq_false (by omega);clear c201;(first|rw [c201b0]|(simp only [i64_w,i32_w];rw [c201b0])|skip)
      as_aux_lemma =>
      replace H:=oB H;obtain ⟨t328,A202,H⟩:=H;(try dsimp only at H)
      replace H:=dN H hr_.out;obtain ⟨c203,H⟩:=H;subst c203;obtain ⟨ji204,hji204⟩:∃ j_:Int,(wrap64 ((t288.length:Int) - 1)) = j_:=⟨_,rfl⟩;(first|rw [hji204] at H|simp only [hji204] at H)
      (try rw [hji204] at A202)
      have hji204w:(IntKind.i64.wrap ((t288.length:Int) - 1)) = ji204:=(i64_w _).trans hji204;as_aux_lemma =>
      replace H:=iN H;obtain ⟨c205,H⟩:=H;have c205b0:decide (0 ≤ (ji204)) = true:=decide_eq_true c205;clear c205;replace H:=iN H;obtain ⟨c206,H⟩:=H;have c206b0:decide ((ji204) < (t288.length:Int)) = true:=decide_eq_true c206;clear c206;as_aux_lemma =>
      replace H:=iN H;obtain ⟨c207,H⟩:=H;have c207b0:decide (0 ≤ a4) = true:=decide_eq_true c207;clear c207;replace H:=iN H;obtain ⟨c208,H⟩:=H;have c208b0:decide (a4 < (l3_1.length:Int)) = true:=decide_eq_true c208;clear c208;as_aux_lemma =>
      replace H:=iN H;obtain ⟨c209,H⟩:=H;have c209b0:decide (0 < (t288.length:Int)) = true:=decide_eq_true c209;have c209b1:decide (0 < t288.length) = true:=decide_eq_true (by omega);clear c209;as_aux_lemma =>
      replace H:=dN H hr_.out;obtain ⟨c210,H⟩:=H;have c210b0:((rd t288 (ji204)) == (wrap64 ((rd l3_1 a4) - (rd t288 0)))) = true:=beq_iff_eq.mpr c210;have c210b1:((rd t288 (ji204)) != (wrap64 ((rd l3_1 a4) - (rd t288 0)))) = false:=bne_eq_false_iff_eq.mpr c210;clear c210;have H':=aM H;clear H
      try go_wp2
      (try (rw [drewN_self w193];generalize hq_:World.drewN w193 _ = w193;replace HO282:=aM (hqR hq_ HO282.out);replace HO286:=aM (hqR hq_ HO286.out);replace HO290:=aM (hqR hq_ HO290.out);replace HO294:=aM (hqR hq_ HO294.out);replace HO298:=aM (hqR hq_ HO298.out);replace HO302:=aM (hqR hq_ HO302.out);replace BK235:=aM (hqB hq_ BK235.out);replace BK236:=aM (hqB hq_ BK236.out);replace HB:=aM (hqH hq_ HB.out);clear hq_))
      as_aux_lemma =>
      replace HO282:=aM (Kd.R_drew HO282.out);replace HO286:=aM (Kd.R_drew HO286.out);replace HO290:=aM (Kd.R_drew HO290.out);replace HO294:=aM (Kd.R_drew HO294.out);replace HO298:=aM (Kd.R_drew HO298.out);replace HO302:=aM (Kd.R_drew HO302.out);replace BK235:=aM (blk_drew BK235.out);replace BK236:=aM (blk_drew BK236.out);replace HB:=aM (below_drew1 HB.out);have p329:0 ≤ ((ji204):Int):=of_decide_eq_true ab;have q329:(ji204) < (t288.length:Int):=of_decide_eq_true ab;obtain ⟨ad329,e329,hx329_0⟩:=Kd.at_int (Kd.R_reads' HO290.out).2.2 (ji204) p329 q329;cases e329
      replace p329:=eq_true p329;replace q329:=eq_true q329;have p330:0 ≤ (a4:Int):=of_decide_eq_true ab;have q330:a4 < (l3_1.length:Int):=of_decide_eq_true ab;obtain ⟨ad330,e330,hx330_0⟩:=Kd.at_int HR3_1.out a4 p330 q330;have hw330_0:=hx330_0;cases e330
      replace hx330_0:=(HB.out.cell (World.block_lt_of_cell? w _ hx330_0)).trans hx330_0;replace p330:=eq_true p330;replace q330:=eq_true q330;have p331:0 ≤ (0:Int):=(by omega);have q331:0 < (t288.length:Int):=of_decide_eq_true ab;obtain ⟨ad331,e331,hx331_0⟩:=Kd.at_int (Kd.R_reads' HO290.out).2.2 0 p331 q331;obtain rfl:ad329 = ad331:=(by injection e331);have qi773:(0 < t288.length) = True:=eq_true (by omega);(try rw [show ((0:Int)).toNat = 0 from rfl] at hx331_0)
      (try rw [Addr.add_zero'] at hx331_0)
      replace p331:=eq_true p331;replace q331:=eq_true q331;refine start_ (n:=26) (S:=fun w'=>w'.cell? ⟨gb236,0,none⟩ = some (.int .i64 a3_0) ∧ w'.cell? ⟨gb236,1,none⟩ = some (.slice (some ad330) l3_1.length c3_1) ∧ w'.cell? (ad329.add ((ji204)).toNat) = some (.int .i64 (rd t288 (ji204))) ∧ w'.cell? (ad330.add (a4).toNat) = some (.int .i64 (rd l3_1 a4)) ∧ w'.cell? ad329 = some (.int .i64 (rd t288 0))) (ds:=[]) (mA 26 0) kR rfl rfl ⟨(blk_cell BK236.out 0).trans rfl,(blk_cell BK236.out 1).trans rfl,hx329_0,((HB.out.cell (World.block_lt_of_cell? w _ hw330_0)).trans hw330_0),hx331_0⟩ (fun hHeld=>?_);refine with_tabW laws_FnQuarrelsToldOfAll.tab44 laws_FnQuarrelsToldOfAll.bits44 (fun HT_ HW_=>?_)
      generalize w193.drew = w211 at HO282 HO286 HO290 HO294 HO298 HO302 BK235 BK236 HB hx329_0 hx330_0 hx331_0 hHeld ⊢
      refine pT 0 318 HT_.out ?_;refine pT 1 319 HT_.out ?_;refine pT 2 320 HT_.out ?_;refine pT 3 321 HT_.out ?_;refine pT 4 322 HT_.out ?_;as_aux_lemma =>
      refine oN 5 (some 323) HT_.out fun K hK=>?_
      refine gC Tryz.func21 #[.slice (some ad329) t288.length co196] ?_
      with_reducible refine (laws_zRises.calls kj21 _ _ t288 true _ ?side1 ?side2 A202.out).mono ?_
      (case side1=>exact qc (Kd.R_reads' HO290.out).2.2)
      (case side2=>exact (Kd.R_reads' HO290.out).2.1)
      rintro e w' ⟨rfl,⟨nd,rfl⟩⟩
      refine ⟨_,rfl,?_⟩;refine hK.out _ _ ⟨(blk_cell BK236.out 0).trans rfl,(blk_cell BK236.out 1).trans rfl,hHeld.2.2.1,((HB.out.cell (World.block_lt_of_cell? w _ hw330_0)).trans hw330_0),hHeld.2.2.2.2⟩ (fun hHeld=>?_);clear hK K;refine nM 323 ?_;refine pT 6 324 HT_.out ?_;refine pT 7 325 HT_.out ?_;refine pT 8 326 HT_.out ?_;refine pT 9 327 HT_.out ?_;refine pT 10 328 HT_.out ?_;refine pT 11 329 HT_.out ?_;refine pT 12 330 HT_.out ?_;refine pT 13 331 HT_.out ?_;refine pT 15 333 HT_.out ?_;refine pT 17 335 HT_.out ?_;refine pT 20 338 HT_.out ?_;refine pT 21 339 HT_.out ?_;refine pK 14 332 HT_.out HW_.out hHeld ?_;refine pK 16 334 HT_.out HW_.out hHeld ?_;refine pT 18 336 HT_.out ?_;refine pK 19 337 HT_.out HW_.out hHeld ?_;refine pK 22 340 HT_.out HW_.out hHeld ?_;refine pT 23 341 HT_.out ?_;refine pT 24 342 HT_.out ?_;refine pT 25 343 HT_.out ?_;refine done_ (done_of HT_.out kR) ?_
      try go_wp2
      refine Met.intro ?_;refine meetP hJ_ ?rel
      case rel=>exact ⟨_,H',⟨by have:=HJ21.out;first|omega|exact Nat.le_refl _⟩,⟨by (with_reducible repeat (first|apply Kd.R_alloc|apply Kd.R_drewN|apply Kd.R_drew));exact Kd.R_mono HO298.out (fun _ hk=>trivial)⟩,⟨bk1 BK235.out⟩,⟨bk1 BK236.out⟩,⟨by exact bw⟩⟩
     ·replace c200:=Bool.eq_false_iff.mpr c200;subst c200;rw [if_neg (show ¬ (false = true) by decide)] at H;have H':=aM H;clear H;go_wp2
      refine Met.intro ?_;refine meetP hJ_ ?rel
      case rel=>exact ⟨_,H',⟨by have:=HJ21.out;first|omega|exact Nat.le_refl _⟩,⟨by (with_reducible repeat (first|apply Kd.R_alloc|apply Kd.R_drewN|apply Kd.R_drew));exact Kd.R_mono HO298.out (fun _ hk=>trivial)⟩,⟨bk1 BK235.out⟩,⟨bk1 BK236.out⟩,⟨by exact bw⟩⟩
    case rest =>
     intro f_ wc hcut;simp only [patch,Nat.reduceAdd];clear HC180;(try clear c119);(try clear c157);(try clear c200);(try clear c201);(try clear c201b0);(try clear c201b1);(try clear c203);(try clear c205);(try clear c205b0);(try clear c206);(try clear c206b0);(try clear c207);(try clear c207b0);(try clear c208);(try clear c208b0);(try clear c209);(try clear c209b0);(try clear c209b1);(try clear c210);(try clear c210b0);(try clear c210b1);(try clear hcz182_0);(try clear hcz182_1);(try clear hcz184_0);(try clear hcz184_1);(try clear hcz186_0);(try clear hcz186_1);(try clear hcz188_0);(try clear hcz188_1);(try clear hcz190_0);(try clear hcz190_1);(try clear hcz192_0);(try clear hcz192_1);(try clear hfz182_0);(try clear hfz182_1);(try clear hfz184_0);(try clear hfz184_1);(try clear hfz186_0);(try clear hfz186_1);(try clear hfz188_0);(try clear hfz188_1);(try clear hfz190_0);(try clear hfz190_1);(try clear hfz192_0);(try clear hfz192_1);(try clear hx329_0);(try clear hx330_0);(try clear hx331_0);(try clear p329);(try clear p330);(try clear p331);(try clear q329);(try clear q330);(try clear q331)
     obtain ⟨kq,HA,HJ179,HO_42,BK235,BK236,HB⟩:=hcut
     cases kq with
     | zero=>exact absurd HA.out (by simp [laws_FnQuarrelsToldOfAll.j4])
     | succ kj179 =>
      have H:=HA.out;clear HA;simp only [laws_FnQuarrelsToldOfAll.j4] at H;as_aux_lemma =>
      by_cases c212:t299 = true
      ·subst c212;rw [if_pos rfl] at H;as_aux_lemma =>
       replace H:=dM H hr_.out;obtain ⟨c213,H⟩:=H;have c213b0:decide ((t296.length:Int) < 1) = false:=decide_eq_false c213;have c213b1:decide (t296.length < 1) = false:=decide_eq_false (by omega);clear c213;as_aux_lemma =>
       replace H:=oB H;obtain ⟨t332,A214,H⟩:=H;(try dsimp only at H)
       replace H:=dN H hr_.out;obtain ⟨c215,H⟩:=H;subst c215;as_aux_lemma =>
       replace H:=iN H;obtain ⟨c216,H⟩:=H;have c216b0:decide (0 < (t296.length:Int)) = true:=decide_eq_true c216;have c216b1:decide (0 < t296.length) = true:=decide_eq_true (by omega);clear c216;as_aux_lemma =>
       replace H:=oB H;obtain ⟨⟨t334,t337⟩,A217,H⟩:=H;(try dsimp only at H)
       replace H:=oB H;obtain ⟨⟨t338,t341⟩,A218,H⟩:=H;(try dsimp only at H)
       as_aux_lemma =>
       replace H:=dN H hr_.out;obtain ⟨c219,H⟩:=H;subst c219;replace H:=dN H hr_.out;obtain ⟨c220,H⟩:=H;subst c220;as_aux_lemma =>
       replace H:=iN H;obtain ⟨c221,H⟩:=H;have c221b0:decide (0 ≤ a4) = true:=decide_eq_true c221;clear c221;replace H:=iN H;obtain ⟨c222,H⟩:=H;have c222b0:decide (a4 < (t338.length:Int)) = true:=decide_eq_true c222;clear c222;as_aux_lemma =>
       replace H:=iN H;obtain ⟨c223,H⟩:=H;have c223b0:decide (a4 < (t334.length:Int)) = true:=decide_eq_true c223;clear c223;replace H:=dM H hr_.out;obtain ⟨c224,H⟩:=H;have c224b0:decide ((rd t334 a4) < (rd t338 a4)) = false:=decide_eq_false c224;(try (have c9k_:=c93b0;simp [gt_iff_lt,c224b0] at c9k_))
       clear c224;as_aux_lemma =>
       replace H:=oB H;obtain ⟨t346,A225,H⟩:=H;(try dsimp only at H)
       replace H:=dM H hr_.out;obtain ⟨c226,H⟩:=H;have c226b0:(((rd t338 a4) == (rd t334 a4)) != t346) = false:=by simpa using c226
       (try (have c226b1:decide (((rd t338 a4) == (rd t334 a4)) = t346) = true:=by simpa using c226))
       (try (have c226b2:(((rd t338 a4) == (rd t334 a4)) == t346) = true:=by simpa using c226))
       clear c226;obtain rfl:=Option.some.inj H;as_aux_lemma =>
       try go_wp2_with (first|(go_at_call 21;(with_reducible refine (laws_zRises.calls kj179 _ _ t296 true _ ?side1 ?side2 A214.out).mono ?_);(case side1=>exact qc (Kd.R_reads' HO_42.out).2.2);(case side2=>exact (Kd.R_reads' HO_42.out).2.1);rintro e w' ⟨rfl,⟨nd,rfl⟩⟩))
       (try (rw [drewN_self wc];generalize hq_:World.drewN wc _ = wc;have n0_:Aside0 (Kd.R (Kd.int .i64) 3 wc w.heap.size (fun _=>True) (.slice Ao198 t296.length co198) t296):=⟨by rw [← hq_];exact (qra HO_42.out)⟩;have n1_:Aside0 (wc.heap[gb235]? = some (.cells #[.int .i64 a0_0,.slice A0_1 l0_1.length c0_1] 24 (0,0))):=⟨by rw [← hq_];exact (bk1 BK235.out)⟩;have n2_:Aside0 (wc.heap[gb236]? = some (.cells #[.int .i64 a3_0,.slice A3_1 l3_1.length c3_1] 24 (0,0))):=⟨by rw [← hq_];exact (bk1 BK236.out)⟩;have n3_:Aside0 (Below w.heap.size w wc):=⟨by rw [← hq_];exact bw⟩;clear HO_42 BK235 BK236 HB hq_;have HO_42:=n0_;have BK235:=n1_;have BK236:=n2_;have HB:=n3_;clear n0_ n1_ n2_ n3_))
       replace HO_42:=aM (Kd.R_drew HO_42.out);replace BK235:=aM (blk_drew BK235.out);replace BK236:=aM (blk_drew BK236.out);replace HB:=aM (below_drew1 HB.out);have p333:0 ≤ (0:Int):=(by omega);have q333:0 < (t296.length:Int):=of_decide_eq_true ab;obtain ⟨ad333,e333,hx333_0⟩:=Kd.at_int (Kd.R_reads' HO_42.out).2.2 0 p333 q333;cases e333
       have qi775:(0 < t296.length) = True:=eq_true (by omega);(try rw [show ((0:Int)).toNat = 0 from rfl] at hx333_0)
       (try rw [Addr.add_zero'] at hx333_0)
       replace p333:=eq_true p333;replace q333:=eq_true q333;refine start_ (n:=12) (S:=fun w'=>w'.cell? ⟨gb236,0,none⟩ = some (.int .i64 a3_0) ∧ w'.cell? ⟨gb236,1,none⟩ = some (.slice A3_1 l3_1.length c3_1) ∧ w'.cell? ad333 = some (.int .i64 (rd t296 0))) (ds:=[]) (mA 12 0) kR rfl rfl ⟨(blk_cell BK236.out 0).trans rfl,(blk_cell BK236.out 1).trans rfl,hx333_0⟩ (fun hHeld=>?_);refine with_tabW laws_FnQuarrelsToldOfAll.tab49 laws_FnQuarrelsToldOfAll.bits49 (fun HT_ HW_=>?_)
       generalize wc.drew = w227 at HO_42 BK235 BK236 HB hx333_0 hHeld ⊢
       refine pT 0 354 HT_.out ?_;refine pT 1 355 HT_.out ?_;refine pT 3 357 HT_.out ?_;refine pK 2 356 HT_.out HW_.out hHeld ?_;refine pK 4 358 HT_.out HW_.out hHeld ?_;refine pT 5 359 HT_.out ?_;as_aux_lemma =>
       refine oN 6 (some 360) HT_.out fun K hK=>?_
       refine gC Tryz.func22 #[.agg #[.int .i64 (rd t296 0),.slice A3_1 l3_1.length c3_1]] ?_
       with_reducible refine (impl_PivotCounts.calls kj179 (rd t296 0) _ _ l3_1 t334 true _ ?side1 ?side2 A217.out).mono ?_
       (case side1=>exact qcs HR3_1.out HB.out)
       (case side2=>exact HC3_1.out)
       rintro e w228 ⟨v335,rfl,ho0,hb⟩
       have HS2_:=(hb.cell (World.block_lt_of_cell? _ _ (hHeld.2.2))).trans (hHeld.2.2);refine ⟨_,rfl,?_⟩;have HO336:=aM (Kd.R_lower (Kd.R_new' ho0 (Kd.R_lt (qra HO_42.out))) (below_size bw));replace HO_42:=aM (Kd.R_elder' (qra HO_42.out) (Kd.R_base ho0) hb);replace BK235:=aM (bB BK235.out hb);replace BK236:=aM (bB BK236.out hb);replace HB:=aM (below_step bw hb);(try clear hb)
       (try clear hk)
       (try clear ho0)
       refine hK.out _ _ ⟨(blk_cell BK236.out 0).trans rfl,(blk_cell BK236.out 1).trans rfl,HS2_⟩ (fun hHeld=>?_);clear hK K;refine nM 360 ?_;refine pT 7 353 HT_.out ?_;refine pT 8 361 HT_.out ?_;refine pT 9 362 HT_.out ?_;refine pT 10 46 HT_.out ?_;refine pT 11 47 HT_.out ?_;refine done_ (done_of HT_.out kR) ?_;have hnb229:=NB236_235.out;have hnc229:=NB235_236.out;have hcz230_0:=cz BK236.out 0;have hcz230_1:=cz BK236.out 1;have hfz230_0:=blk_frozen BK236.out 0;have hfz230_1:=blk_frozen BK236.out 1;as_aux_lemma =>
       try go_wp2_with (first|((with_reducible refine gate_callee (f:=22) rfl ?_);refine gL 365 Tryz.func22 #[.agg #[.int .i64 a3_0,.slice A3_1 l3_1.length c3_1]] ?_;(with_reducible refine (impl_PivotCounts.calls kj179 a3_0 _ _ l3_1 t338 true _ ?side1 ?side2 A218.out).mono ?_);(case side1=>exact qcs HR3_1.out HB.out);(case side2=>exact HC3_1.out);rintro e w231 ⟨v339,rfl,ho0,hb⟩;refine ⟨_,rfl,?_⟩;have HO340:=aM (Kd.R_lower (Kd.R_new' (Kd.R_new' ho0 (Kd.R_lt (qra HO_42.out))) (Kd.R_lt (qra HO336.out))) (below_size bw));replace HO_42:=aM (Kd.R_elder' (qra HO_42.out) (Kd.R_base ho0) hb);replace HO336:=aM (Kd.R_elder' (qra HO336.out) (Kd.R_base ho0) hb);replace BK235:=aM (bB BK235.out hb);replace BK236:=aM (bB BK236.out hb);replace HB:=aM (below_step bw hb);(try clear hb);(try clear ho0)))
       replace HO_42:=aM (Kd.R_drew HO_42.out);replace HO336:=aM (Kd.R_drew HO336.out);replace HO340:=aM (Kd.R_drew HO340.out);replace BK235:=aM (blk_drew BK235.out);replace BK236:=aM (blk_drew BK236.out);replace HB:=aM (below_drew1 HB.out);obtain ⟨Ao233,co233,eo233⟩:=Kd.R_slice HO340.out;(first|subst eo233|(injection eo233 with f1_ f2_ f3_;have f4_:=f1_.symm;have f5_:=f3_.symm;clear f1_ f2_ f3_;subst f4_;subst f5_))
       have p342:0 ≤ (a4:Int):=of_decide_eq_true ab;have q342:a4 < (t338.length:Int):=of_decide_eq_true ab;obtain ⟨ad342,e342,hx342_0⟩:=Kd.at_int (Kd.R_reads' HO340.out).2.2 a4 p342 q342;cases e342
       replace p342:=eq_true p342;replace q342:=eq_true q342;obtain ⟨Ao234,co234,eo234⟩:=Kd.R_slice HO336.out;(first|subst eo234|(injection eo234 with f1_ f2_ f3_;have f4_:=f1_.symm;have f5_:=f3_.symm;clear f1_ f2_ f3_;subst f4_;subst f5_))
       have p343:0 ≤ (a4:Int):=of_decide_eq_true ab;have q343:a4 < (t334.length:Int):=of_decide_eq_true ab;obtain ⟨ad343,e343,hx343_0⟩:=Kd.at_int (Kd.R_reads' HO336.out).2.2 a4 p343 q343;cases e343
       replace p343:=eq_true p343;replace q343:=eq_true q343;have p344:0 ≤ (a4:Int):=of_decide_eq_true ab;have q344:a4 < (t338.length:Int):=of_decide_eq_true ab;obtain ⟨ad344,e344,hx344_0⟩:=Kd.at_int (Kd.R_reads' HO340.out).2.2 a4 p344 q344;obtain rfl:ad342 = ad344:=(by injection e344);replace p344:=eq_true p344;replace q344:=eq_true q344;have p345:0 ≤ (a4:Int):=of_decide_eq_true ab;have q345:a4 < (t334.length:Int):=of_decide_eq_true ab;obtain ⟨ad345,e345,hx345_0⟩:=Kd.at_int (Kd.R_reads' HO336.out).2.2 a4 p345 q345;obtain rfl:ad343 = ad345:=(by injection e345);replace p345:=eq_true p345;replace q345:=eq_true q345;refine start_ (n:=33) (S:=fun w'=>w'.cell? ⟨gb236,0,none⟩ = some (.int .i64 a3_0) ∧ w'.cell? ⟨gb236,1,none⟩ = some (.slice A3_1 l3_1.length c3_1) ∧ w'.cell? (ad342.add (a4).toNat) = some (.int .i64 (rd t338 a4)) ∧ w'.cell? (ad343.add (a4).toNat) = some (.int .i64 (rd t334 a4)) ∧ w'.cell? (ad342.add (a4).toNat) = some (.int .i64 (rd t338 a4)) ∧ w'.cell? (ad343.add (a4).toNat) = some (.int .i64 (rd t334 a4))) (ds:=[]) (mA 33 0) kR rfl rfl ⟨(blk_cell BK236.out 0).trans rfl,(blk_cell BK236.out 1).trans rfl,hx342_0,hx343_0,hx344_0,hx345_0⟩ (fun hHeld=>?_);refine with_tabW laws_FnQuarrelsToldOfAll.tab51 laws_FnQuarrelsToldOfAll.bits51 (fun HT_ HW_=>?_)
       generalize w231.drew = w232 at HO_42 HO336 HO340 BK235 BK236 HB hx342_0 hx343_0 hx344_0 hx345_0 hHeld ⊢
       refine pT 0 368 HT_.out ?_;refine pT 1 369 HT_.out ?_;refine pT 2 370 HT_.out ?_;refine pT 3 371 HT_.out ?_;refine pT 4 372 HT_.out ?_;refine pT 5 373 HT_.out ?_;refine pT 6 374 HT_.out ?_;refine pT 7 375 HT_.out ?_;refine pT 8 376 HT_.out ?_;refine pT 9 377 HT_.out ?_;refine pT 11 379 HT_.out ?_;refine pT 12 380 HT_.out ?_;refine pT 13 381 HT_.out ?_;refine pK 10 378 HT_.out HW_.out hHeld ?_;refine pK 14 382 HT_.out HW_.out hHeld ?_;refine pT 15 383 HT_.out ?_;refine pT 16 384 HT_.out ?_;refine pT 17 385 HT_.out ?_;refine pT 18 386 HT_.out ?_;refine pT 19 387 HT_.out ?_;refine pT 20 388 HT_.out ?_;refine pT 22 390 HT_.out ?_;refine pT 23 391 HT_.out ?_;refine pT 24 392 HT_.out ?_;refine pT 27 395 HT_.out ?_;refine pT 28 396 HT_.out ?_;refine pK 21 389 HT_.out HW_.out hHeld ?_;refine pK 25 393 HT_.out HW_.out hHeld ?_;refine pT 26 394 HT_.out ?_;refine pK 29 397 HT_.out HW_.out hHeld ?_;as_aux_lemma =>
       refine oN 30 (some 398) HT_.out fun K hK=>?_
       refine gC Tryz.func14 #[.slice (some ad333) t296.length co198,.int .i64 a3_0] ?_
       with_reducible refine (laws_zHas.calls kj179 _ _ t296 a3_0 t346 _ ?side1 ?side2 A225.out).mono ?_
       (case side1=>exact qc (Kd.R_reads' HO_42.out).2.2)
       (case side2=>exact (Kd.R_reads' HO_42.out).2.1)
       rintro e w' ⟨rfl,⟨nd,rfl⟩⟩
       refine ⟨_,rfl,?_⟩;refine hK.out _ _ ⟨(blk_cell BK236.out 0).trans rfl,(blk_cell BK236.out 1).trans rfl,hHeld.2.2.1,hHeld.2.2.2.1,hHeld.2.2.2.2.1,hHeld.2.2.2.2.2⟩ (fun hHeld=>?_);clear hK K;refine nM 398 ?_;refine pT 31 399 HT_.out ?_;refine pT 32 400 HT_.out ?_;refine done_ (done_of HT_.out kR) ?_
       try go_wp2
       go_ret
       exact ⟨eE,by exact bw⟩
      ·replace c212:=Bool.eq_false_iff.mpr c212;subst c212;rw [if_neg (show ¬ (false = true) by decide)] at H;obtain rfl:=Option.some.inj H;go_wp2
       go_ret
       exact ⟨eE,by exact bw⟩

end Go.Proofs.YtflkfbjmlacgcaaGreat.P
